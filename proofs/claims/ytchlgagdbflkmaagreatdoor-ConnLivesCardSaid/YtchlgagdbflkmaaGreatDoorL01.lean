/- Words and contracts on the way to the laws of this seat: each theorem says what a function of the program computes and which memory it leaves as it was; its conditions are its hypotheses. -/
import Derived.WalkKit
import Derived.WalkSpells
import Derived.WalkLawsBesides
import Derived.Deep.RegionLaw
import Derived.Deep.RegionHeld3
import Derived.Deep.AppendLies
import Derived.Deep.DeepFit
import Derived.Deep.QuietTactic
import Derived.BigQuiet
import Derived.Deep.LoopGhost
import Derived.Deep.DeepCutAuto
import Derived.Deep.CutBlock
import Derived.Deep.Draws
import Derived.Lib.SlBytesConst
import Derived.Deep.Slices
import Derived.ChangeArms
import Derived.Test.YtchlgagdbflkmaaGreatDoorRows
theorem Go.Z.{u}{α:Sort u}{a:α}:a=a:=rfl
theorem Go.Qd{p:Prop}(h:p:=by decide +kernel):p:=h
theorem Go.Qk{p:Prop}(h:p:=by kernel_rfl):p:=h
theorem Go.Qt{p:Prop}(h:p:=by first|with_reducible assumption|decide +kernel|exact Int.natCast_nonneg _|exact List.cons_ne_nil _ _):p:=h
theorem Go.Qb{p:Prop}(h:p:=by first|with_reducible assumption|exact Int.natCast_nonneg _|exact List.cons_ne_nil _ _|exact Nat.le_of_ble_eq_true rfl|exact(by decide)):p:=h
set_option linter.unusedVariables false
set_option linter.unusedSimpArgs false
section
open Go.RowKit
namespace Go.Pl

theorem QT {P:Program}(w:World)(t e:TypeId)(a:Option Addr)(n c:Nat)(h:P.underlying t=some (.slice e)) :
  (binOp .eql t (.slice a n c) (.slice none 0 0)).run P w=.ok (.bool a.isNone) w:=by
 have:=Lib.run_eql_slice_nil (P:=P) w t e a n c 0 0 h
 simpa using this
attribute [go_sem] QT

theorem hid {p:Prop}(h:p):Hid p:=h

structure Chg (S:Nat->Prop) (w w':World):Prop where
 os:w'.os=w.os
 tape:w'.tape=w.tape
 output:w'.output=w.output
 size:w.heap.size<=w'.heap.size
 block:∀ k,k<w.heap.size->¬ S k->w'.heap[k]?=w.heap[k]?

section
variable {w w':World} {g:Nat} {t:TypeId} {cs:Array Value}
end

structure Rep (α:Type) where
 n:Nat
 ok:World->(Nat->Prop)->List Value->α->Prop
 len:∀ {w S cs x},ok w S cs x->cs.length=n
 one:∀ {w S cs x},ok w S cs x->∀ u ∈ cs,u.oneCell'=true
 frame:∀ {w w' S cs x},(∀ k,S k->w'.heap[k]?=w.heap[k]?)->ok w S cs x->ok w' S cs x
 mono:∀ {w S S' cs x},(∀ k,S k->S' k)->ok w S cs x->ok w S' cs x
 lt:∀ {w S cs x},ok w S cs x->ok w (fun k=>S k/\k<w.heap.size) cs x

def Rep.i64:Rep Int where
 n:=1
 ok:=fun _ _ cs x=>cs=[.int .i64 x] /\ -9223372036854775808<=x/\x<=9223372036854775807
 len:=by rintro _ _ _ _ ⟨rfl,_⟩;rfl
 one:=by rintro _ _ _ _ ⟨rfl,_⟩ u hu;simp at hu;subst hu;rfl
 frame:=fun _ h=>h
 mono:=fun _ h=>h
 lt:=fun h=>h
def Rep.u64:Rep Nat where
 n:=1
 ok:=fun _ _ cs x=>cs=[.int .u64 (x:Int)]/\x<18446744073709551616
 len:=by rintro _ _ _ _ ⟨rfl,_⟩;rfl
 one:=by rintro _ _ _ _ ⟨rfl,_⟩ u hu;simp at hu;subst hu;rfl
 frame:=fun _ h=>h
 mono:=fun _ h=>h
 lt:=fun h=>h
def Rep.byte:Rep UInt8 where
 n:=1
 ok:=fun _ _ cs x=>cs=[.int .u8 (x.toNat:Int)]
 len:=by rintro _ _ _ _ rfl;rfl
 one:=by rintro _ _ _ _ rfl u hu;simp at hu;subst hu;rfl
 frame:=fun _ h=>h
 mono:=fun _ h=>h
 lt:=fun h=>h
def Rep.bool:Rep Bool where
 n:=1
 ok:=fun _ _ cs x=>cs=[.bool x]
 len:=by rintro _ _ _ _ rfl;rfl
 one:=by rintro _ _ _ _ rfl u hu;simp at hu;subst hu;rfl
 frame:=fun _ h=>h
 mono:=fun _ h=>h
 lt:=fun h=>h
def Rep.str:Rep (List UInt8) where
 n:=1
 ok:=fun _ _ cs x=>cs=[.string ⟨x.toArray⟩]/\x.length<=maxLen
 len:=by rintro _ _ _ _ ⟨rfl,_⟩;rfl
 one:=by rintro _ _ _ _ ⟨rfl,_⟩ u hu;simp at hu;subst hu;rfl
 frame:=fun _ h=>h
 mono:=fun _ h=>h
 lt:=fun h=>h
def Rep.prod {α β:Type}(R:Rep α)(R':Rep β):Rep (α × β) where
 n:=R.n+R'.n
 ok:=fun w S cs x=>∃ c1 c2,cs=c1++c2/\R.ok w S c1 x.1/\R'.ok w S c2 x.2
 len:=by rintro _ _ _ _ ⟨c1,c2,rfl,h1,h2⟩;simp[R.len h1,R'.len h2]
 one:=by
  rintro _ _ _ _ ⟨c1,c2,rfl,h1,h2⟩ u hu
  rcases List.mem_append.1 hu with h|h
  ·exact R.one h1 u h
  ·exact R'.one h2 u h
 frame:=by rintro _ _ _ _ _ hf ⟨c1,c2,rfl,h1,h2⟩;exact⟨c1,c2,rfl,R.frame hf h1,R'.frame hf h2⟩
 mono:=by rintro _ _ _ _ _ hf ⟨c1,c2,rfl,h1,h2⟩;exact⟨c1,c2,rfl,R.mono hf h1,R'.mono hf h2⟩
 lt:=by rintro _ _ _ _ ⟨c1,c2,rfl,h1,h2⟩;exact⟨c1,c2,rfl,R.lt h1,R'.lt h2⟩

def Run {α:Type}(R:Rep α)(w:World)(S:Nat->Prop):List Value->List α->Prop
 | cs,[]=>cs=[]
 | cs,x::l=>∃ c1 c2,cs=c1++c2/\R.ok w S c1 x/\Run R w S c2 l
section
variable {α:Type} {R:Rep α} {w w':World} {S S':Nat->Prop}
theorem Run.length {l:List α}:∀ {cs},Run R w S cs l->cs.length=l.length*R.n:=by
 induction l with
 | nil=>intro cs h;simp[Run]at h;simp[h]
 | cons x l ih=>
  rintro cs ⟨c1,c2,rfl,h1,h2⟩
  simp[R.len h1,ih h2,Nat.add_mul,Nat.add_comm]
theorem Run.frame (hf:∀ k,S k->w'.heap[k]?=w.heap[k]?){l:List α}:∀ {cs},Run R w S cs l->Run R w' S cs l:=by
 induction l with
 | nil=>intro cs h;exact h
 | cons x l ih=>rintro cs ⟨c1,c2,rfl,h1,h2⟩;exact⟨c1,c2,rfl,R.frame hf h1,ih h2⟩
theorem Run.mono (hf:∀ k,S k->S' k){l:List α}:∀ {cs},Run R w S cs l->Run R w S' cs l:=by
 induction l with
 | nil=>intro cs h;exact h
 | cons x l ih=>rintro cs ⟨c1,c2,rfl,h1,h2⟩;exact⟨c1,c2,rfl,R.mono hf h1,ih h2⟩
theorem Run.lt {l:List α}:∀ {cs},Run R w S cs l->Run R w (fun k=>S k/\k<w.heap.size) cs l:=by
 induction l with
 | nil=>intro cs h;exact h
 | cons x l ih=>rintro cs ⟨c1,c2,rfl,h1,h2⟩;exact⟨c1,c2,rfl,R.lt h1,ih h2⟩
theorem Run.append {l l':List α}:∀ {cs cs'},Run R w S cs l->Run R w S cs' l'->Run R w S (cs++cs') (l++l'):=by
 induction l with
 | nil=>intro cs cs' h h';simp[Run]at h;subst h;simpa using h'
 | cons x l ih=>rintro cs cs' ⟨c1,c2,rfl,h1,h2⟩ h';exact⟨c1,c2++cs',by simp,h1,ih h2 h'⟩
theorem Run.single {x:α}{cs:List Value}(h:R.ok w S cs x):Run R w S cs [x]:=⟨cs,[],by simp,h,rfl⟩
end

def Sl {α:Type}(R:Rep α)(w:World)(S:Nat->Prop)(v:Value)(l:List α):Prop:=
 ∃ A cap,v=.slice A l.length cap/\l.length<=cap/\cap<=maxLen /\
  ∃ cs,Run R w S cs l/\(l ≠ []->∃ g off,A=some ⟨g,off,none⟩/\S g/\∀ j,j<cs.length->w.cell? ⟨g,off+j,none⟩=cs[j]?)

section
variable {α:Type} {R:Rep α} {w w':World} {S S':Nat->Prop} {v:Value} {l:List α}
theorem Sl.frame (hf:∀ k,S k->w'.heap[k]?=w.heap[k]?)(h:Sl R w S v l):Sl R w' S v l:=by
 obtain⟨A,cap,hv,h1,h2,cs,hr,hh⟩:=h
 refine⟨A,cap,hv,h1,h2,cs,hr.frame hf,fun hn=>?_⟩
 obtain⟨g,off,hA,hS,hc⟩:=hh hn
 exact⟨g,off,hA,hS,fun j hj=>(World.cell?_of_block (hf g hS)).trans (hc j hj)⟩
theorem Sl.mono (hf:∀ k,S k->S' k)(h:Sl R w S v l):Sl R w S' v l:=by
 obtain⟨A,cap,hv,h1,h2,cs,hr,hh⟩:=h
 refine⟨A,cap,hv,h1,h2,cs,hr.mono hf,fun hn=>?_⟩
 obtain⟨g,off,hA,hS,hc⟩:=hh hn
 exact⟨g,off,hA,hf g hS,hc⟩
theorem Sl.lt (hR:0<R.n)(h:Sl R w S v l):Sl R w (fun k=>S k/\k<w.heap.size) v l:=by
 obtain⟨A,cap,hv,h1,h2,cs,hr,hh⟩:=h
 refine⟨A,cap,hv,h1,h2,cs,hr.lt,fun hn=>?_⟩
 obtain⟨g,off,hA,hS,hc⟩:=hh hn
 have hl:=hr.length
 have hpos:0<cs.length:=by rw[hl];exact Nat.mul_pos (List.length_pos_iff.2 hn) hR
 refine⟨g,off,hA,⟨hS,?_⟩,hc⟩
 exact World.block_lt_of_cell? w _ ((hc 0 hpos).trans (List.getElem?_eq_getElem hpos))
theorem Sl.nil (R:Rep α)(w:World)(S:Nat->Prop):Sl R w S (.slice none 0 0) []:=
 ⟨none,0,rfl,Nat.le_refl _,Nat.zero_le _,[],rfl,fun h=>absurd rfl h⟩
theorem Sl.one (h:Sl R w S v l):v.oneCell'=true:=by
 obtain⟨A,cap,rfl,_⟩:=h;rfl
end
def Rep.slice {α:Type}(R:Rep α)(hR:0<R.n):Rep (List α) where
 n:=1
 ok:=fun w S cs l=>∃ v,cs=[v]/\Sl R w S v l
 len:=by rintro _ _ _ _ ⟨v,rfl,h⟩;rfl
 one:=by rintro _ _ _ _ ⟨v,rfl,h⟩ u hu;simp at hu;subst hu;exact h.one
 frame:=by rintro _ _ _ _ _ hf ⟨v,rfl,h⟩;exact⟨v,rfl,h.frame hf⟩
 mono:=by rintro _ _ _ _ _ hf ⟨v,rfl,h⟩;exact⟨v,rfl,h.mono hf⟩
 lt:=by rintro _ _ _ _ ⟨v,rfl,h⟩;exact⟨v,rfl,h.lt hR⟩


structure Own {α:Type} (R:Rep α) (w:World) (base:Nat) (e:TypeId) (S:Nat->Prop) (v:Value) (l:List α):Prop where
 ex:∃ xs,w.ownsRow base e R.n v l.length xs/\Run R w S xs l
 apart:∀ g,v.ownBlock=some g->¬ S g
section
variable {α:Type} {R:Rep α} {w w':World} {S S':Nat->Prop} {v:Value} {l l':List α} {base:Nat} {e:TypeId}
end
section
variable {P:Program} {α:Type} {R:Rep α} {w w':World} {S S':Nat->Prop} {v:Value} {l l':List α} {base:Nat} {e:TypeId}
structure App {α:Type} (R:Rep α) (base:Nat) (e:TypeId) (S:Nat->Prop) (w:World) (v:Value) (l:List α) (v':Value) (w':World):Prop where
 own:Own R w' base e S v' l
 grown:w.grownBy w' v.ownBlock
 at_:∀ g,v'.ownBlock=some g->v.ownBlock=some g\/w.heap.size<=g

end

theorem IP {k:Nat}(h:k<256):(UInt8.ofNat k).toNat=k:=by
 rw[UInt8.toNat_ofNat'];omega

def bv (b:UInt8):Value:=.int .u8 (b.toNat:Int)
theorem Kv {w:World}{S:Nat->Prop}{l:List UInt8}:∀ {cs},Run Rep.byte w S cs l ↔ cs=l.map bv:=by
 induction l with
 | nil=>intro cs;simp[Run]
 | cons x l ih=>
  intro cs
  simp only[Run,List.map_cons]
  constructor
  ·rintro⟨c1,c2,rfl,rfl,h2⟩
   rw[ih.1 h2];rfl
  ·rintro rfl
   exact⟨[bv x],l.map bv,rfl,rfl,ih.2 rfl⟩
abbrev SlB (w:World)(S:Nat->Prop)(v:Value)(l:List UInt8):Prop:=Sl Rep.byte w S v l
theorem SlB.form {w:World}{S:Nat->Prop}{v:Value}{l:List UInt8}(h:SlB w S v l) :
  ∃ A cap,v=.slice A l.length cap/\l.length<=cap/\cap<=maxLen /\
   (l ≠ []->∃ g off,A=some ⟨g,off,none⟩/\S g/\∀ j (hj:j<l.length),w.cell? ⟨g,off+j,none⟩=some (.int .u8 (l[j].toNat:Int))):=by
 obtain⟨A,cap,hv,h1,h2,cs,hr,hh⟩:=h
 have:=Kv.1 hr
 subst this
 refine⟨A,cap,hv,h1,h2,fun hn=>?_⟩
 obtain⟨g,off,hA,hS,hc⟩:=hh hn
 exact⟨g,off,hA,hS,fun j hj=>by rw[hc j (by simpa using hj)];simp[bv,hj]⟩
theorem SlB.mk {w:World}{S:Nat->Prop}{A:Option Addr}{n cap:Nat}{l:List UInt8}(hn:n=l.length)(h1:l.length<=cap)(h2:cap<=maxLen)
  (h:l ≠ []->∃ g off,A=some ⟨g,off,none⟩/\S g/\∀ j (hj:j<l.length),w.cell? ⟨g,off+j,none⟩=some (.int .u8 (l[j].toNat:Int))):SlB w S (.slice A n cap) l:=by
 subst hn
 refine⟨A,cap,rfl,h1,h2,l.map bv,Kv.2 rfl,fun hn=>?_⟩
 obtain⟨g,off,hA,hS,hc⟩:=h hn
 exact⟨g,off,hA,hS,fun j hj=>by rw[hc j (by simpa using hj)];simp[bv,show j<l.length by simpa using hj]⟩
theorem G5 {P:Program}{w:World}{S:Nat->Prop}{v:Value}{l:List UInt8}(src dst e:TypeId)(hs:P.underlying src=some (.slice e))(he:P.underlying e=some (.int .u8))(hd:P.underlying dst=some .string)(h:SlB w S v l) :
  (convert src dst v).run P w=.ok (.string ⟨l.toArray⟩) w:=by
 obtain⟨A,cap,rfl,h1,h2,hh⟩:=h.form
 by_cases hn:l=[]
 ·subst hn
  cases A with
  | none=>exact run_convert_bytes_nil w src e hs he _ _ dst hd
  | some a=>exact run_convert_bytes_back w src dst e a cap [] hs he hd (fun j hj=>by simp at hj)
 ·obtain⟨g,off,rfl,_,hc⟩:=hh hn
  exact run_convert_bytes_back w src dst e ⟨g,off,none⟩ cap l hs he hd (fun j hj=>by
   rw[show(⟨g,off,none⟩:Addr).add j=⟨g,off+j,none⟩ from by unfold Addr.add;split<;>simp_all];exact hc j hj)
end Go.Pl
end
section
open Go.RowKit
namespace Go.Pl
def Uq {α:Type}(P:Program)(t:TypeId)(R:Rep α):Prop:=
 ∀(H:Type) (enc:TypeId × Value->H) (W:World) (spare:Nat->Bool) (held:Bool) (fuel:Nat) (cs:List Value) (y:DataW H × List MemPlace),
  DataW.trod enc P W 0 spare held fuel t cs=some y->∃ x,R.ok W (· < W.heap.size) cs x
variable {P:Program} {t:TypeId}
theorem Ur (ht:P.underlying t=some (.int .i64)):Uq P t Rep.i64:=by
 intro H enc W spare held fuel cs y h
 obtain⟨n,rfl,_,hw⟩:=DataW.trod_int ht h
 have hx : -9223372036854775808<=n/\n<=9223372036854775807:=by simpa[Lit.wf,IntKind.min,IntKind.max,IntKind.signed,IntKind.bits]using hw
 exact⟨n,rfl,hx⟩
theorem XC (ht:P.underlying t=some (.int .u64)):Uq P t Rep.u64:=by
 intro H enc W spare held fuel cs y h
 obtain⟨n,rfl,_,hw⟩:=DataW.trod_int ht h
 have hx:0<=n/\n<=18446744073709551615:=by simpa[Lit.wf,IntKind.min,IntKind.max,IntKind.signed,IntKind.bits]using hw
 refine⟨n.toNat,?_,by omega⟩
 rw[Int.toNat_of_nonneg hx.1]
theorem J2 (ht:P.underlying t=some (.int .u8)):Uq P t Rep.byte:=by
 intro H enc W spare held fuel cs y h
 obtain⟨n,rfl,_,hw⟩:=DataW.trod_int ht h
 have hx:0<=n/\n<=255:=by simpa[Lit.wf,IntKind.min,IntKind.max,IntKind.signed,IntKind.bits]using hw
 refine⟨UInt8.ofNat n.toNat,?_⟩
 show [Value.int .u8 n]=[.int .u8 ((UInt8.ofNat n.toNat).toNat:Int)]
 rw[IP (by omega),Int.toNat_of_nonneg hx.1]
theorem Qn {α:Type}{R:Rep α}{e:TypeId}(hR:0<R.n)(ht:P.underlying t=some (.slice e))(hc:P.cellsOf e=R.n)(he:Uq P e R):Uq P t (Rep.slice R hR):=by
 intro H enc W spare held fuel cs y h
 rcases Go.Deep.open_slice ht h with⟨rfl,_⟩ | ⟨a,len,cap,m,n,D,Pl,rfl,_,hl,hm,hmm,_,hi⟩
 ·exact⟨[],_,rfl,Sl.nil _ _ _⟩
 ·rw[hc]at hi
  have hlm:len<=m:=by rw[hmm];split<;>omega
  have key:∀ k,k<=len->∃(l:List α) (cs:List Value),l.length=k/\Run R W (· < W.heap.size) cs l/\∀ j,j<cs.length->W.cell? (a.add j)=cs[j]? := by
   intro k
   induction k with
   | zero=>intro _;exact⟨[],[],rfl,rfl,fun j hj=>by simp at hj⟩
   | succ k ih=>
    intro hk
    obtain⟨l,cs,hll,hr,hcc⟩:=ih (by omega)
    obtain⟨cs',hcs',ht'⟩:=hi k (by omega)
    obtain⟨x,hx⟩:=he H enc W spare held n cs' _ ht'
    obtain⟨_,hcl,hat⟩:=World.cells?_some hcs'
    refine⟨l++[x],cs++cs',by simp[hll],hr.append (Run.single hx),fun j hj=>?_⟩
    have hlen:=hr.length
    rw[hll]at hlen
    rcases Nat.lt_or_ge j cs.length with h1|h1
    ·rw[List.getElem?_append_left h1];exact hcc j h1
    ·rw[List.getElem?_append_right h1]
     have h2:j-cs.length<R.n:=by rw[List.length_append,hcl]at hj;omega
     have:=hat (j-cs.length) h2
     rw[Go.Deep.add_add]at this
     rw[<- this]
     congr 2
     omega
  obtain⟨l,cs,hll,hr,hcc⟩:=key len (Nat.le_refl _)
  subst hll
  refine⟨l,_,rfl,some a,cap,rfl,hl,hm,cs,hr,fun hne=>?_⟩
  have hlen:=hr.length
  have hpos:0<cs.length:=by rw[hlen];exact Nat.mul_pos (List.length_pos_iff.2 hne) hR
  obtain⟨b,off,spot⟩:=a
  have h0:=(hcc 0 hpos).trans (List.getElem?_eq_getElem hpos)
  have hspot:spot=none:=by simpa[Addr.add]using World.cell?_spot h0
  subst hspot
  refine⟨b,off,rfl,World.block_lt_of_cell? W _ (by simpa[Addr.add]using h0),fun j hj=>?_⟩
  rw[<- hcc j hj]
  congr 1
  unfold Addr.add;split<;>simp_all

theorem Uq.value {α:Type}{R:Rep α}(h:Uq P t R){H:Type}{enc:TypeId × Value->H}{W:World}{spare:Nat->Bool}{held:Bool}{v:Value}{d:DataW H}{p:List MemPlace}(hv:DataW.Trod enc P W 0 spare held t v d p) :
  ∃ x,R.ok W (· < W.heap.size) v.cells.toList x:=by
 obtain⟨fuel,hf⟩:=hv
 exact h H enc W spare held fuel _ _ hf
end Go.Pl
end
section
namespace Go.Av
mutual
def dcs:DataW Unit->List Value
 | .lit l=>[l.value]
 | .agg l=>G6 l
 | _=>[]
def G6:List (DataW Unit)->List Value
 | []=>[]
 | d::l=>dcs d++G6 l
end
def G7:List (Nat × List Value):=[(4,dcs Go.Proofs.YtchlgagdbflkmaaGreatDoor.Rows.laid_math_bits_deBruijn32tab),(5,dcs Go.Proofs.YtchlgagdbflkmaaGreatDoor.Rows.laid_math_bits_deBruijn64tab),(0,dcs Go.Proofs.YtchlgagdbflkmaaGreatDoor.Rows.laid_internal_strconv_uint64pow10),(7,dcs Go.Proofs.YtchlgagdbflkmaaGreatDoor.Rows.laid_unicode_utf8_acceptRanges),(6,dcs Go.Proofs.YtchlgagdbflkmaaGreatDoor.Rows.laid_unicode_utf8_first)]
def Il:List (Nat × TypeId):=[(3,379),(2,379)]
class Known where
 ks:List Nat
class Dfr where
 l:List Deferred
instance dfr0:Dfr:=⟨[]⟩
class KnownU8 [Known]:Prop where
 first:6 ∈ Known.ks
 accept:7 ∈ Known.ks
class KnownSc [Known]:Prop where
 range:3 ∈ Known.ks
 syn:2 ∈ Known.ks
class KnownFm [Known]:Prop where
 pow:0 ∈ Known.ks
 bru:5 ∈ Known.ks
 bru32:4 ∈ Known.ks
end Go.Av
end
section
open Go.RowKit Go.Pl
namespace Go.Av

inductive E where
 | bool (b:Bool)
 | int (k:IntKind) (n:Int)
 | str (s:List UInt8)
 | sl (l:List E)
 | agg (l:List E)
 | nilp
 deriving Inhabited
def E.cells:E->List E
 | .agg l=>l
 | e=>[e]
def flat (l:List E):List E:=l.flatMap E.cells
@[simp] theorem TT:flat []=[]:=rfl
@[simp] theorem Vf (e:E)(l:List E):flat (e::l)=e.cells++flat l:=rfl
@[simp] theorem JF (l l':List E):flat (l++l')=flat l++flat l':=by simp[flat]
abbrev E.byte (b:UInt8):E:=.int .u8 (b.toNat:Int)

inductive VE (w:World) (C:Nat->Nat->Prop):E->Value->Prop
 | bool (b:Bool):VE w C (.bool b) (.bool b)
 | int (k:IntKind) (n:Int):VE w C (.int k n) (.int k n)
 | str (s:List UInt8) (h:s.length<=maxLen):VE w C (.str s) (.string ⟨s.toArray⟩)
 | nilp:VE w C .nilp (.pointer none)
 | slE (A:Option Addr) (cap:Nat) (h:cap<=maxLen):VE w C (.sl []) (.slice A 0 cap)
 | slC (l:List E) (g off cap:Nat) (us:Nat->Value) (h1:l.length<=cap) (h2:cap<=maxLen)
   (hc:∀ j,j<(flat l).length->C g (off+j)) (hw:∀ j,j<(flat l).length->w.cell? ⟨g,off+j,none⟩=some (us j))
   (hv:∀(j:Nat) (e:E),(flat l)[j]?=some e->VE w C e (us j)):VE w C (.sl l) (.slice (some ⟨g,off,none⟩) l.length cap)

theorem VE.mono {w w':World}{C C':Nat->Nat->Prop}{e:E}{v:Value}(h:VE w C e v)(hC:∀ g o,C g o->C' g o)
  (hw:∀ g o,C g o->w'.cell? ⟨g,o,none⟩=w.cell? ⟨g,o,none⟩):VE w' C' e v:=by
 induction h with
 | bool b=>exact .bool b
 | int k n=>exact .int k n
 | str s h=>exact .str s h
 | nilp=>exact .nilp
 | slE A cap h=>exact .slE A cap h
 | slC l g off cap us h1 h2 hc hw' _ ih=>exact .slC l g off cap us h1 h2 (fun j hj=>hC _ _ (hc j hj)) (fun j hj=>(hw _ _ (hc j hj)).trans (hw' j hj)) ih
theorem VE.one {w:World}{C:Nat->Nat->Prop}{e:E}{v:Value}(h:VE w C e v):v.oneCell'=true:=by
 cases h<;>rfl
theorem VE.notAgg {w:World}{C:Nat->Nat->Prop}{l:List E}{v:Value}(h:VE w C (.agg l) v):False:=by cases h

inductive Tok where
 | ext
 | nil
 | own (i:Nat)
 | zero
 deriving Inhabited,DecidableEq
inductive D where
 | bool (b:Bool)
 | int (k:IntKind) (n:Int)
 | str (s:List UInt8)
 | sl (t:Tok) (l:List E)
 | nilp
 | ptr (b o:Nat)
 | eptr (cs:List E) (o:Nat)
 | gptr (k o:Nat)
 | bsl (b o n c:Nat)
 | agg (l:List D)
 | tup (l:List D)
 | fn (f:FuncId) (cap:List D)
 | nilf
 | iface (t:TypeId) (d:D)
 | nili
 | junk
 | row (z:Nat) (l:List E)
 | yl (l:Nat)
 | mix (l:List E) (ds:List D)
 deriving Inhabited
abbrev D.byte (b:UInt8):D:=.int .u8 (b.toNat:Int)

structure Fr where
 n:Nat
 sz:Nat
 e:TypeId
 deriving Inhabited
structure G where
 C:Nat->Nat->Prop
 ρ:List Nat
 τ:List (Option (Nat × Nat × Nat))

def Kw (g:G)(fr:List Fr)(t:Tok)(n:Nat)(v:Value):Prop:=
 match t with
 | .ext=>True
 | .nil=>v=.slice none 0 0
 | .zero=>∃ A:Option Addr,v=.slice A 0 0
 | .own i=>∃ f:Fr,fr[i]?=some f/\n<=f.n/\(f.n=n->(∃ A:Option Addr,v=.slice A 0 0/\g.τ[i]?=some none)\/∃ blk cap st,v=.slice (some ⟨blk,st,none⟩) n cap/\g.τ[i]?=some (some (blk,cap,st)))

inductive V (w:World) (g:G) (fr:List Fr):D->Value->Prop
 | bool (b:Bool):V w g fr (.bool b) (.bool b)
 | int (k:IntKind) (n:Int):V w g fr (.int k n) (.int k n)
 | str (s:List UInt8) (h:s.length<=maxLen):V w g fr (.str s) (.string ⟨s.toArray⟩)
 | sl (t:Tok) (l:List E) (v:Value) (h:VE w g.C (.sl l) v) (ht:Kw g fr t l.length v):V w g fr (.sl t l) v
 | nilp:V w g fr .nilp (.pointer none)
 | ptr (b o blk:Nat) (h:g.ρ[b]?=some blk):V w g fr (.ptr b o) (.pointer (some ⟨blk,o,none⟩))
 | eptr (cs:List E) (o blk off:Nat) (us:Nat->Value) (hc:∀ j,j<cs.length->g.C blk (off+j)) (hw:∀ j,j<cs.length->w.cell? ⟨blk,off+j,none⟩=some (us j))
   (hv:∀(j:Nat) (e:E),cs[j]?=some e->VE w g.C e (us j)):V w g fr (.eptr cs o) (.pointer (some ⟨blk,off+o,none⟩))
 | gptr (k o:Nat):V w g fr (.gptr k o) (.pointer (some ⟨k,o,none⟩))
 | bsl (b o n c blk cap:Nat) (h:g.ρ[b]?=some blk) (h1:n<=cap) (h2:cap<=maxLen) (h3:c=0\/c=cap):V w g fr (.bsl b o n c) (.slice (some ⟨blk,o,none⟩) n cap)
 | agg (l:List D) (vs:List Value) (hl:vs.length=l.length) (h:∀(j:Nat) (d:D) (v:Value),l[j]?=some d->vs[j]?=some v->V w g fr d v):V w g fr (.agg l) (.agg vs.toArray)
 | tup (l:List D) (vs:List Value) (hl:vs.length=l.length) (h:∀(j:Nat) (d:D) (v:Value),l[j]?=some d->vs[j]?=some v->V w g fr d v):V w g fr (.tup l) (.tuple vs.toArray)
 | fn (f:FuncId) (l:List D) (vs:List Value) (hl:vs.length=l.length) (h:∀(j:Nat) (d:D) (v:Value),l[j]?=some d->vs[j]?=some v->V w g fr d v):V w g fr (.fn f l) (.func (.func f) #[] vs.toArray)
 | nilf:V w g fr .nilf .nilFunc
 | iface (t:TypeId) (d:D) (v:Value) (h:V w g fr d v):V w g fr (.iface t d) (.iface t v)
 | nili:V w g fr .nili .nilIface
 | junk (v:Value):V w g fr .junk v
 | row (z:Nat) (l:List E) (v:Value):V w g fr (.row z l) v
 | yl (l:Nat):V w g fr (.yl l) (.func (.yield l) #[] #[])
 | mix (l:List E) (ds:List D) (v:Value) (vs:List Value) (hl:vs.length=ds.length) (h:∀(j:Nat) (d:D) (v:Value),ds[j]?=some d->vs[j]?=some v->V w g fr d v):V w g fr (.mix l ds) v

def D.ofE:E->D
 | .bool b=>.bool b
 | .int k n=>.int k n
 | .str s=>.str s
 | .sl l=>.sl .ext l
 | .agg l=>.agg (l.map fun | .bool b=>.bool b | .int k n=>.int k n | .str s=>.str s | .sl l=>.sl .ext l | .agg _=>.junk | .nilp=>.nilp)
 | .nilp=>.nilp
theorem V.ofE {w:World}{g:G}{fr:List Fr}{e:E}{v:Value}(h:VE w g.C e v):V w g fr (.ofE e) v:=by
 cases h with
 | bool b=>exact .bool b
 | int k n=>exact .int k n
 | str s h=>exact .str s h
 | nilp=>exact .nilp
 | slE A cap h=>exact .sl .ext [] _ (.slE A cap h) trivial
 | slC l g off cap us h1 h2 hc hw hv=>exact .sl .ext l _ (.slC l g off cap us h1 h2 hc hw hv) trivial
def D.toE1:D->Option E
 | .bool b=>some (.bool b)
 | .int k n=>some (.int k n)
 | .str s=>some (.str s)
 | .sl _ l=>some (.sl l)
 | .nilp=>some .nilp
 | _=>none
theorem V.toE1 {w:World}{g:G}{fr:List Fr}{d:D}{e:E}{v:Value}(h:V w g fr d v)(he:d.toE1=some e):VE w g.C e v:=by
 cases h<;>simp[D.toE1]at he<;>subst he
 ·exact .bool _
 ·exact .int _ _
 ·exact .str _ ‹_›
 ·assumption
 ·exact .nilp
def D.toEs:List D->Option (List E)
 | []=>some []
 | d::l=>match d.toE1,D.toEs l with
  | some e,some l'=>some (e::l')
  | _,_=>none
def D.toE:D->Option E
 | .agg l=>(D.toEs l).map .agg
 | d=>d.toE1

def VX (g:G)(fr:List Fr)(g':G)(fr':List Fr):Prop:=∀(i:Nat) (f:Fr),fr[i]?=some f->∃ f':Fr,fr'[i]?=some f'/\f.n<=f'.n/\(f'.n=f.n->g'.τ[i]?=g.τ[i]?)
theorem VX.refl (g:G)(fr:List Fr):VX g fr g fr:=fun _ f h=>⟨f,h,Nat.le_refl _,fun _=>rfl⟩
theorem VX.trans {g g1 g2:G}{fr fr1 fr2:List Fr}(h:VX g fr g1 fr1)(k:VX g1 fr1 g2 fr2):VX g fr g2 fr2:=fun i f hf=>by
 obtain⟨f1,h1,h2,h3⟩:=h i f hf
 obtain⟨f2,k1,k2,k3⟩:=k i f1 h1
 exact⟨f2,k1,Nat.le_trans h2 k2,fun e=>(k3 (by omega)).trans (h3 (by omega))⟩
theorem Kw.mono {g g':G}{fr fr':List Fr}{t:Tok}{n:Nat}{v:Value}(h:Kw g fr t n v)(ht:VX g fr g' fr'):Kw g' fr' t n v:=by
 cases t with
 | ext=>trivial
 | nil=>exact h
 | zero=>exact h
 | own i=>
  obtain⟨f,h1,h2,h3⟩:=h
  obtain⟨f',k1,k2,k3⟩:=ht i f h1
  refine⟨f',k1,Nat.le_trans h2 k2,fun e=>?_⟩
  rw[k3 (by omega)]
  exact h3 (by omega)

theorem V.mono {w w':World}{g g':G}{fr fr':List Fr}{d:D}{v:Value}(h:V w g fr d v)(hC:∀ b o,g.C b o->g'.C b o)
  (hw:∀ b o,g.C b o->w'.cell? ⟨b,o,none⟩=w.cell? ⟨b,o,none⟩) (hρ:∀(i b:Nat),g.ρ[i]?=some b->g'.ρ[i]?=some b)
  (ht:VX g fr g' fr'):V w' g' fr' d v:=by
 induction h with
 | bool b=>exact .bool b
 | int k n=>exact .int k n
 | str s h=>exact .str s h
 | sl t l v h hk=>exact .sl t l v (h.mono hC hw) (hk.mono ht)
 | nilp=>exact .nilp
 | ptr b o blk h=>exact .ptr b o blk (hρ _ _ h)
 | eptr cs o blk off us hc hw' hv=>exact .eptr cs o blk off us (fun j hj=>hC _ _ (hc j hj)) (fun j hj=>(hw _ _ (hc j hj)).trans (hw' j hj)) (fun j e he=>(hv j e he).mono hC hw)
 | gptr k o=>exact .gptr k o
 | bsl b o n c blk cap h h1 h2 h3=>exact .bsl b o n c blk cap (hρ _ _ h) h1 h2 h3
 | agg l vs hl _ ih=>exact .agg l vs hl ih
 | tup l vs hl _ ih=>exact .tup l vs hl ih
 | fn f l vs hl _ ih=>exact .fn f l vs hl ih
 | nilf=>exact .nilf
 | iface t d v _ ih=>exact .iface t d v ih
 | nili=>exact .nili
 | junk v=>exact .junk v
 | row z l v=>exact .row z l v
 | yl l=>exact .yl l
 | mix l ds v vs hl _ ih=>exact .mix l ds v vs hl ih

def D.ofC:E->D
 | .bool b=>.bool b
 | .int k n=>.int k n
 | .str s=>.str s
 | .sl l=>.sl .ext l
 | .agg _=>.sl .ext [.agg [.agg []]]
 | .nilp=>.nilp
def D.ex:List D->List D
 | []=>[]
 | d::r=>match r with
  | []=>match d with
   | .row _ l=>l.map .ofC
   | .mix l ds=>l.map .ofC++ds
   | d=>[d]
  | _::_=>d::r
def D.isRow:List D->Bool
 | []=>false
 | d::r=>match r with
  | []=>match d with
   | .row _ _=>true
   | .mix _ _=>true
   | _=>false
  | _::_=>false
theorem Qo:∀ {cs:List D},D.isRow cs=false->D.ex cs=cs
 | [],_=>rfl
 | [d],h=>by cases d<;>first|rfl|cases h
 | _::_::_,_=>rfl
theorem QU:∀ {cs:List D},D.isRow cs=true->(∃ z l,cs=[.row z l])\/∃ l ds,cs=[.mix l ds]
 | [],h=>by cases h
 | [d],h=>by cases d<;>first|exact .inl ⟨_,_,rfl⟩ | exact .inr ⟨_,_,rfl⟩ | cases h
 | _::_::_,h=>by cases h
def D.fits (cs:List D)(n:Nat):Prop:=cs.length<=n/\(D.ex cs).length<=n/\∀ z l,cs=[.row z l]->z=0\/n=z
theorem Kc {cs:List D}{n:Nat}(h:cs.length<=n)(hr:D.isRow cs=false):D.fits cs n:=⟨h,by rw[Qo hr];exact h,fun z l e=>by subst e;cases hr⟩
theorem G8 {cs:List D}{n:Nat}(h:n=cs.length)(hr:D.isRow cs=false):D.fits cs n:=Kc (by omega) hr
def M (g:G)(k:Nat):Prop:=k ∈ g.ρ\/∃ c,some (k,c) ∈ g.τ
structure TokAt (w:World) (g:G) (blk:Nat) (c:Nat × Nat) (f:Fr):Prop where
 row:∃ cur,w.heap[blk]?=some (.cells cur f.e (0,0))/\cur.size=c.2+c.1*f.sz
 le:f.n<=c.1
 max:c.1<=maxLen
 far:∀ o,c.2+f.n*f.sz<=o->¬ g.C blk o
def Gls [Known](C:Nat->Nat->Prop)(w:World):Prop:=(∀(k:Nat) (cs:List Value),k ∈ Known.ks/\(k,cs) ∈ G7->∀(j:Nat) (v:Value),cs[j]?=some v->C k j/\w.cell? ⟨k,j,none⟩=some v) /\
 ∀(k:Nat) (t:TypeId),k ∈ Known.ks/\(k,t) ∈ Il->C k 0/\∃ v,w.cell? ⟨k,0,none⟩=some (.iface t v)
structure Mem [Known](g:G) (bx:List (List D)) (fr:List Fr) (w:World):Prop where
 bl:g.ρ.length=bx.length
 bat:∀(i blk:Nat) (cs:List D),g.ρ[i]?=some blk->bx[i]?=some cs->∃ vs ty,w.heap[blk]?=some (.cells vs ty (0,0))/\D.fits cs vs.size /\
  (∀(j:Nat) (d:D) (v:Value),(D.ex cs)[j]?=some d->vs[j]?=some v->V w g fr d v)
 bC:∀ blk o,blk ∈ g.ρ->¬ g.C blk o
 bN:∀(i j b:Nat),g.ρ[i]?=some b->g.ρ[j]?=some b->i=j
 tl:g.τ.length=fr.length
 tat:∀(i blk:Nat) (c:Nat × Nat) (f:Fr),g.τ[i]?=some (some (blk,c))->fr[i]?=some f->TokAt w g blk c f
 tN:∀(i j b:Nat) (c c':Nat × Nat),g.τ[i]?=some (some (b,c))->g.τ[j]?=some (some (b,c'))->i=j
 tρ:∀ b c,some (b,c) ∈ g.τ->b ∉ g.ρ
 Clt:∀ b o,g.C b o->b<w.heap.size
 gl:Gls g.C w
theorem Mem.bat0 [Known]{g:G}{bx:List (List D)}{fr:List Fr}{w:World}(h:Mem g bx fr w)(i blk:Nat)(cs:List D)(h1:g.ρ[i]?=some blk)(h2:bx[i]?=some cs):∃ vs ty,w.heap[blk]?=some (.cells vs ty (0,0))/\cs.length<=vs.size /\
  (∀(j:Nat) (d:D) (v:Value),cs[j]?=some d->vs[j]?=some v->V w g fr d v):=by
 obtain⟨vs,ty,q1,q2,q3⟩:=h.bat i blk cs h1 h2
 refine⟨vs,ty,q1,q2.1,fun j d v hd hv=>?_⟩
 cases hr:D.isRow cs with
 | false=>rw[Qo hr]at q3;exact q3 j d v hd hv
 | true=>
  rcases QU hr with⟨z,l,rfl⟩ | ⟨l,ds,rfl⟩
  ·cases j with
   | zero=>simp at hd;subst hd;exact .row z l v
   | succ j=>simp at hd
  ·cases j with
   | zero=>
    simp at hd;subst hd
    have q2':(l.map D.ofC++ds).length<=vs.size:=q2.2.1
    rw[List.length_append,List.length_map]at q2'
    refine .mix l ds v ((vs.toList.drop l.length).take ds.length) (by simp;omega) fun j d u hd hu=>?_
    have hu':j<ds.length/\vs[l.length+j]?=some u:=by simpa[List.getElem?_take]using hu
    refine q3 (l.length+j) d u ?_ hu'.2
    show(l.map D.ofC++ds)[l.length+j]?=some d
    rw[List.getElem?_append_right (by simp),List.length_map,Nat.add_sub_cancel_left]
    exact hd
   | succ j=>simp at hd
structure Bs where
 g:G
 fr:List Fr
 w:World
structure Evo (b b':Bs):Prop where
 os:b'.w.os=b.w.os
 tape:b'.w.tape=b.w.tape
 output:b'.w.output=b.w.output
 size:b.w.heap.size<=b'.w.heap.size
 block:∀ k,k<b.w.heap.size->¬ M b.g k->b'.w.heap[k]?=b.w.heap[k]?
 C:∀ k o,b.g.C k o->b'.g.C k o
 cell:∀ k o,b.g.C k o->b'.w.cell? ⟨k,o,none⟩=b.w.cell? ⟨k,o,none⟩
 newC:∀ k o,b'.g.C k o->b.g.C k o\/b.w.heap.size<=k\/M b.g k
 ρp:∀(i k:Nat),b.g.ρ[i]?=some k->b'.g.ρ[i]?=some k
 ρn:∀ k,k ∈ b'.g.ρ->k ∈ b.g.ρ\/b.w.heap.size<=k
 τn:∀ k c,some (k,c) ∈ b'.g.τ->(∃ c',some (k,c') ∈ b.g.τ)\/b.w.heap.size<=k
 tok:VX b.g b.fr b'.g b'.fr
theorem Gls.evo [Known]{b b':Bs}(h:Gls b.g.C b.w)(e:Evo b b'):Gls b'.g.C b'.w:=
 ⟨fun k cs hk j v hv=>⟨e.C _ _ (h.1 k cs hk j v hv).1,(e.cell _ _ (h.1 k cs hk j v hv).1).trans (h.1 k cs hk j v hv).2⟩,
  fun k t hk=>⟨e.C _ _ (h.2 k t hk).1,(h.2 k t hk).2.imp fun v hv=>(e.cell _ _ (h.2 k t hk).1).trans hv⟩⟩
theorem Evo.own {b b':Bs}(h:Evo b b'){k:Nat}(hk:M b'.g k):M b.g k\/b.w.heap.size<=k:=by
 rcases hk with hk|⟨c,hk⟩
 ·exact(h.ρn k hk).imp .inl id
 ·exact(h.τn k c hk).imp .inr id
theorem Evo.refl (b:Bs):Evo b b:=⟨rfl,rfl,rfl,Nat.le_refl _,fun _ _ _=>rfl,fun _ _ h=>h,fun _ _ _=>rfl,fun _ _ h=>.inl h,fun _ _ h=>h,fun _ h=>.inl h,fun _ c h=>.inl ⟨c,h⟩,VX.refl _ _⟩
theorem Evo.trans {b b1 b2:Bs}(h:Evo b b1)(k:Evo b1 b2):Evo b b2 where
 os:=k.os.trans h.os
 tape:=k.tape.trans h.tape
 output:=k.output.trans h.output
 size:=Nat.le_trans h.size k.size
 block i hi hn:=(k.block i (Nat.lt_of_lt_of_le hi h.size) (fun hh=>(h.own hh).elim hn (fun h=>by omega))).trans (h.block i hi hn)
 C b o hh:=k.C b o (h.C b o hh)
 cell b o hh:=(k.cell b o (h.C b o hh)).trans (h.cell b o hh)
 newC b o hh:=by
  rcases k.newC b o hh with h1|h1|h1
  ·exact h.newC b o h1
  ·exact .inr (.inl (Nat.le_trans h.size h1))
  ·exact(h.own h1).elim (fun h=>.inr (.inr h)) (fun h=>.inr (.inl h))
 ρp i b hh:=k.ρp i b (h.ρp i b hh)
 ρn i hh:=(k.ρn i hh).elim (h.ρn i) (fun h1=>.inr (Nat.le_trans h.size h1))
 τn i c hh:=(k.τn i c hh).elim (fun⟨c',h1⟩=>h.τn i c' h1) (fun h1=>.inr (Nat.le_trans h.size h1))
 tok:=h.tok.trans k.tok
theorem V.evo {g g':G}{fr fr':List Fr}{w w':World}{d:D}{v:Value}(h:V w g fr d v)(e:Evo ⟨g,fr,w⟩ ⟨g',fr',w'⟩):V w' g' fr' d v:=h.mono e.C e.cell e.ρp e.tok

structure St where
 n:Nat
 tm:List (Nat × D)
 bx:List (List D)
 fr:List Fr
 e:Nat × Nat
def look:List (Nat × D)->Nat->D
 | [],_=>.junk
 | (k,d)::l,t=>match Nat.beq k t with
  | true=>d
  | false=>look l t
structure Inv [Known][Dfr](b:Bs) (S:St) (g:G) (a:Act) (w:World):Prop where
 size:a.tmps.size=S.n
 defers:a.defers=Dfr.l
 mem:Mem g S.bx S.fr w
 tm:∀ t,V w g S.fr (look S.tm t) (a.tmps.getD t undef)
 evo:Evo b ⟨g,S.fr,w⟩
 bd:b.g.ρ.length<=S.e.1/\b.fr.length<=S.e.2
inductive X where
 | norm
 | exit (id:Nat)
 | goto (l:Nat)
 | ret
 | pan (d:D)
def UP [Known][Dfr](b0:Bs)(Q:X->St->Prop):Exit->Act->World->Prop
 | .normal,a,w=>∃ S g,Inv b0 S g a w/\Q .norm S
 | .exit id,a,w=>∃ S g,Inv b0 S g a w/\Q (.exit id) S
 | .goto l,a,w=>∃ S g,Inv b0 S g a w/\Q (.goto l) S
 | .ret,a,w=>∃ S g,Inv b0 S g a w/\Q .ret S
 | .panic chain,a,w=>∃ S g v d,Inv b0 S g a w/\chain=[{ v,recovered:=false }]/\V w g S.fr d v/\Q (.pan d) S
 | .outgrown,_,_=>False
structure AW [Known][Dfr](P:Program) (c:Code) (S:St) (Q:X->St->Prop):Prop where
 run:∀ b0 g a w,Inv b0 S g a w->c.wp P (UP b0 Q) a w
structure AL [Known][Dfr](P:Program) (ops:Array Oper) (l:List Oper) (S:St) (Q:X->St->Prop):Prop where
 run:∀ b0 g a w,Inv b0 S g a w->wpList P ops (UP b0 Q) l a w
section
variable {P:Program} {Q:X->St->Prop} {S:St}
theorem Wz [Known][Dfr](h:Q .norm S):AW P .skip S Q:=⟨fun _ g _ _ hi=>wp_skip ⟨S,g,hi,h⟩⟩
theorem Wa [Known][Dfr]{l:Nat}(h:Q .norm S):AW P (.label l) S Q:=⟨fun _ g _ _ hi=>wp_label ⟨S,g,hi,h⟩⟩
theorem WU [Known][Dfr]{id:Nat}(h:Q (.exit id) S):AW P (.exit id) S Q:=⟨fun _ g _ _ hi=>wp_exit ⟨S,g,hi,h⟩⟩
theorem WV [Known][Dfr]{id:Nat}(h:Q (.goto id) S):AW P (.goto id) S Q:=⟨fun _ g _ _ hi=>wp_goto ⟨S,g,hi,h⟩⟩
theorem Vk [Known][Dfr](h:Q .ret S):AW P .ret S Q:=⟨fun _ g _ _ hi=>wp_ret ⟨S,g,hi,h⟩⟩
def X.then (K:St->Prop)(Q:X->St->Prop):X->St->Prop
 | .norm,S=>K S
 | x,S=>Q x S
theorem JU [Known][Dfr]{c:Code}{Q':X->St->Prop}(h:AW P c S Q)(hq:∀ x S,Q x S->Q' x S):AW P c S Q':=⟨fun b0 g a w hi=>wp_mono (h.run b0 g a w hi) fun e a w hc=>by
 cases e<;>simp only[UP]at hc ⊢
 ·obtain⟨S,g,h1,h2⟩:=hc;exact⟨S,g,h1,hq _ _ h2⟩
 ·obtain⟨S,g,h1,h2⟩:=hc;exact⟨S,g,h1,hq _ _ h2⟩
 ·obtain⟨S,g,h1,h2⟩:=hc;exact⟨S,g,h1,hq _ _ h2⟩
 ·obtain⟨S,g,h1,h2⟩:=hc;exact⟨S,g,h1,hq _ _ h2⟩
 ·obtain⟨S,g,v,d,h1,h2,h3,h4⟩:=hc;exact⟨S,g,v,d,h1,h2,h3,hq _ _ h4⟩⟩
theorem H5 [Known][Dfr]{x y:Code}(h:∀ K:St->Prop,(∀ S,AW P y S Q->K S)->AW P x S (X.then K Q)):AW P (.seq x y) S Q:=⟨fun b0 g a w hi=>wp_seq <| wp_mono ((h (fun S=>AW P y S Q) (fun _ h=>h)).run b0 g a w hi) fun e a w hc=>by
 cases e<;>simp only[UP,X.then,Exit.then]at hc ⊢
 ·obtain⟨S,g,h1,h2⟩:=hc;exact h2.run b0 g a w h1
 all_goals exact hc⟩
theorem Ke [Known][Dfr]{c:Operand}{x y:Code}{b:Bool}{t:Nat}(hc:c=.tmp t)(hd:look S.tm t=.bool b)(h1:b=true->AW P x S Q)(h2:b=false->AW P y S Q):AW P (.cond c x y) S Q:=⟨fun b0 g a w hi=>by
 subst hc
 have hv:=hi.tm t
 rw[hd]at hv
 have:a.eval (.tmp t)=.bool b:=by
  generalize he:a.tmps.getD t undef=u at hv
  show a.tmps.getD t undef=_
  rw[he];cases hv;rfl
 cases b with
 | true=>exact wp_cond_true this ((h1 rfl).run b0 g a w hi)
 | false=>exact wp_cond_false this ((h2 rfl).run b0 g a w hi)⟩
def X.inBlock (id:Nat)(Q:X->St->Prop):X->St->Prop
 | .exit i,S=>if i=id then Q .norm S else Q (.exit i) S
 | x,S=>Q x S
theorem Wh [Known][Dfr]{id:Nat}{c:Code}(h:AW P c S (X.inBlock id Q)):AW P (.block id c) S Q:=⟨fun b0 g a w hi=>wp_block <| wp_mono (h.run b0 g a w hi) fun e a w hc=>by
 cases e<;>simp only[UP,X.inBlock,Exit.inBlock]at hc ⊢
 case exit i=>
  by_cases hid:i=id
  ·simp only[hid,if_true]at hc ⊢;exact hc
  ·simp only[hid,if_false]at hc ⊢;exact hc
 all_goals exact hc⟩
theorem Yy [Known][Dfr]{id:Nat}{l:List Oper}(h:AL P l.toArray l S Q):AW P (.region id l.toArray false) S Q:=⟨fun b0 g a w hi=>wp_region_lit (h.run b0 g a w hi)⟩
end
end Go.Av
end
