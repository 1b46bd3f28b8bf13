/- The operations, each said of abstract states. -/
import Derived.Test.YtchlgagdbflkmaaGreatDoorL01
import Derived.Deep.MidRow
set_option linter.unusedSimpArgs false
set_option linter.unusedVariables false
section
open Go.RowKit Go.Pl
namespace Go.Av

def J3:Value->D
 | .bool b=>.bool b
 | .int k n=>.int k n
 | .string s=>if s.data.toList.length<=maxLen then .str s.data.toList else .junk
 | .pointer none=>.nilp
 | .slice none 0 0=>.sl .nil []
 | .nilFunc=>.nilf
 | .nilIface=>.nili
 | _=>.junk
def Oi:Value->D
 | .agg cs=>.agg (cs.toList.map J3)
 | v=>J3 v
theorem XD (w:World)(g:G)(fr:List Fr)(v:Value):V w g fr (J3 v) v:=by
 unfold J3
 split
 ·exact .bool _
 ·exact .int _ _
 ·split
  ·exact .str _ ‹_›
  ·exact .junk _
 ·exact .nilp
 ·exact .sl .nil [] _ (.slE _ _ (Nat.zero_le _)) rfl
 ·exact .nilf
 ·exact .nili
 ·exact .junk _
theorem Im (w:World)(g:G)(fr:List Fr)(v:Value):V w g fr (Oi v) v:=by
 unfold Oi
 split
 ·rename_i cs
  have:=V.agg (w:=w) (g:=g) (fr:=fr) (cs.toList.map J3) cs.toList (by simp) fun j d v hd hv=>by
   rw[List.getElem?_map,hv]at hd
   cases hd
   exact XD w g fr v
  simpa using this
 ·exact XD w g fr _
mutual
def nf:D->Option D
 | .bool b=>some (.bool b)
 | .int k n=>some (.int k n)
 | .str s=>some (.str s)
 | .sl t l=>some (.sl t l)
 | .nilp=>some .nilp
 | .ptr b o=>some (.ptr b o)
 | .eptr l o=>some (.eptr l o)
 | .gptr k o=>some (.gptr k o)
 | .bsl b o n c=>some (.bsl b o n c)
 | .agg l=>match nfs l with|some l'=>some (.agg l')|none=>none
 | .tup l=>match nfs l with|some l'=>some (.tup l')|none=>none
 | .fn f l=>match nfs l with|some l'=>some (.fn f l')|none=>none
 | .nilf=>some .nilf
 | .iface t d=>match nf d with|some d'=>some (.iface t d')|none=>none
 | .nili=>some .nili
 | .yl l=>some (.yl l)
 | .mix l ds=>match nfs ds with|some ds'=>some (.mix l ds')|none=>none
 | .junk=>some .junk
 | .row z l=>some (.row z l)
def nfs:List D->Option (List D)
 | []=>some []
 | d::l=>match nf d,nfs l with
  | some d',some l'=>some (d'::l')
  | _,_=>none
end
mutual
theorem YZ:∀ {d d':D},nf d=some d'->d=d'
 | .bool b,d',h=>by simpa[nf]using h
 | .int k n,d',h=>by simpa[nf]using h
 | .str s,d',h=>by simpa[nf]using h
 | .sl t l,d',h=>by simpa[nf]using h
 | .nilp,d',h=>by simpa[nf]using h
 | .ptr b o,d',h=>by simpa[nf]using h
 | .eptr l o,d',h=>by simpa[nf]using h
 | .gptr k o,d',h=>by simpa[nf]using h
 | .bsl b o n c,d',h=>by simpa[nf]using h
 | .agg l,d',h=>by
  cases hl:nfs l with
  | none=>simp[nf,hl]at h
  | some l'=>simp[nf,hl]at h;rw[<- h,Vl hl]
 | .tup l,d',h=>by
  cases hl:nfs l with
  | none=>simp[nf,hl]at h
  | some l'=>simp[nf,hl]at h;rw[<- h,Vl hl]
 | .fn f l,d',h=>by
  cases hl:nfs l with
  | none=>simp[nf,hl]at h
  | some l'=>simp[nf,hl]at h;rw[<- h,Vl hl]
 | .nilf,d',h=>by simpa[nf]using h
 | .iface t d,d',h=>by
  cases hl:nf d with
  | none=>simp[nf,hl]at h
  | some l'=>simp[nf,hl]at h;rw[<- h,YZ hl]
 | .nili,d',h=>by simpa[nf]using h
 | .yl _,d',h=>by simpa[nf]using h
 | .mix l ds,d',h=>by
  cases hl:nfs ds with
  | none=>simp[nf,hl]at h
  | some l'=>simp[nf,hl]at h;rw[<- h,Vl hl]
 | .junk,d',h=>by simpa[nf]using h
 | .row z l,d',h=>by simpa[nf]using h
theorem Vl:∀ {l l':List D},nfs l=some l'->l=l'
 | [],l',h=>by simpa[nfs]using h
 | d::l,l',h=>by
  cases hd:nf d with
  | none=>simp[nfs,hd]at h
  | some d'=>
   cases hl:nfs l with
   | none=>simp[nfs,hd,hl]at h
   | some l''=>simp[nfs,hd,hl]at h;rw[<- h,YZ hd,Vl hl]
end
def nfl {α:Type}:List α->Option (List α)
 | []=>some []
 | x::l=>match nfl l with|some l'=>some (x::l')|none=>none
theorem YO {α:Type}:∀ {l l':List α},nfl l=some l'->l=l'
 | [],l',h=>by simpa[nfl]using h
 | x::l,l',h=>by
  cases hl:nfl l with
  | none=>simp[nfl,hl]at h
  | some l''=>simp[nfl,hl]at h;rw[<- h,YO hl]
def ev (tm:List (Nat × D)):Operand->D
 | .tmp t=>look tm t
 | .const v=>Oi v
 | .func f=>.fn f []
 | .global k=>.gptr k 0
section
variable {P:Program} {Q:X->St->Prop} {S:St} {b0:Bs} {g:G} {w:World} {a:Act}
theorem Inv.ev [Known][Dfr](h:Inv b0 S g a w)(x:Operand):V w g S.fr (ev S.tm x) (a.eval x):=by
 cases x with
 | tmp t=>exact h.tm t
 | const v=>exact Im _ _ _ v
 | func f=>exact .fn f [] [] rfl (by simp)
 | global n=>exact .gptr _ 0
def St.put (S:St)(t:Nat)(d:D):St:=⟨S.n,(t,d)::S.tm,S.bx,S.fr,S.e⟩
theorem Inv.put [Known][Dfr]{t:Nat}{d:D}{v:Value}(h:Inv b0 S g a w)(ht:Nat.blt t S.n=true)(hv:V w g S.fr d v):Inv b0 ⟨S.n,(t,d)::S.tm,S.bx,S.fr,S.e⟩ g (a.put (some t) v) w:=by
 refine⟨by simp[Act.put,h.size],by simp[Act.put,h.defers],h.mem,fun t'=>?_,h.evo,h.bd⟩
 have hlt:t<a.tmps.size:=by rw[h.size];simpa[Nat.blt_eq]using ht
 by_cases e:t=t'
 ·subst e
  simp only[look,Nat.beq_refl]
  have:(a.put (some t) v).tmps.getD t undef=v:=by simp[Act.put,hlt]
  rw[this];exact hv
 ·have:(a.put (some t) v).tmps.getD t' undef=a.tmps.getD t' undef:=by
   simp[Act.put,Array.getD_getElem?,Array.getElem?_setIfInBounds_ne e]
  rw[this]
  have hb:Nat.beq t t'=false:=by
   cases hb:Nat.beq t t' with
   | false=>rfl
   | true=>exact absurd (Nat.eq_of_beq_eq_true hb) e
  simp only[look,hb]
  exact h.tm t'
theorem W6 [Known][Dfr]{ops:Array Oper}(h:Q .norm S):AL P ops [] S Q:=⟨fun _ g _ _ hi=>wpList_nil ⟨S,g,hi,h⟩⟩
end
section
variable {P:Program} {Q:X->St->Prop} {n:Nat} {ee:Nat × Nat} {tm:List (Nat × D)} {bx:List (List D)} {fr:List Fr} {b0:Bs} {g:G} {w:World} {a:Act}
theorem Z6 [Known][Dfr]{ops:Array Oper}{o:Op}{rest:List Oper}{t ty:Nat}{pos:String}{after:Array Edge}(d:D)(ht:Nat.blt t n=true)
  (h:∀ g a w,Inv ⟨g,fr,w⟩ ⟨n,tm,bx,fr,(g.ρ.length,fr.length)⟩ g a w->∃ v,(execOp a.eval ⟨some t,o,ty,pos,after,none⟩).run P w=.ok (.value v) w/\V w g fr d v)
  (k:AL P ops rest ⟨n,(t,d)::tm,bx,fr,ee⟩ Q):AL P ops (⟨some t,o,ty,pos,after,none⟩::rest) ⟨n,tm,bx,fr,ee⟩ Q:=⟨fun b0 g a w hi=>
 wpList_plain rfl fun K hK=>by
  obtain⟨v,hr,hv⟩:=h g a w ⟨hi.size,hi.defers,hi.mem,hi.tm,Evo.refl _,Nat.le_refl _,Nat.le_refl _⟩
  unfold Oper.wp
  rw[hr]
  exact hK _ _ (k.run b0 g _ w (hi.put ht hv))⟩
theorem WA [Known][Dfr]{ops:Array Oper}{x:Operand}{rest:List Oper}{t ty:Nat}{pos:String}{after:Array Edge}{d:D}(hx:nf (ev tm x)=some d)(ht:Nat.blt t n=true)
  (k:AL P ops rest ⟨n,(t,d)::tm,bx,fr,ee⟩ Q):AL P ops (⟨some t,.move x,ty,pos,after,none⟩::rest) ⟨n,tm,bx,fr,ee⟩ Q:=
 Z6 d ht (fun g a w hi=>⟨_,by simp[execOp],(YZ hx) ▸ hi.ev x⟩) k
theorem Yz [Known][Dfr]{ops:Array Oper}{x:Operand}{rest:List Oper}{t ty:Nat}{pos:String}{after:Array Edge}{d:D}(hx:nf (ev tm x)=some d)(ht:Nat.blt t n=true)
  (k:AL P ops rest ⟨n,(t,d)::tm,bx,fr,ee⟩ Q):AL P ops (⟨some t,.assign x,ty,pos,after,none⟩::rest) ⟨n,tm,bx,fr,ee⟩ Q:=
 Z6 d ht (fun g a w hi=>⟨_,by simp[execOp],(YZ hx) ▸ hi.ev x⟩) k

theorem V.int_inv {fr:List Fr}{k:IntKind}{n:Int}{v:Value}(h:V w g fr (.int k n) v):v=.int k n:=by cases h;rfl
theorem V.bool_inv {fr:List Fr}{b:Bool}{v:Value}(h:V w g fr (.bool b) v):v=.bool b:=by cases h;rfl
theorem V.str_inv {fr:List Fr}{s:List UInt8}{v:Value}(h:V w g fr (.str s) v):v=.string ⟨s.toArray⟩/\s.length<=maxLen:=by cases h;exact⟨rfl,‹_›⟩

def IQ (op:BinOp)(k:IntKind)(a b:Int):D:=
 match op with
 | .add=>.int k (k.wrap (a+b))
 | .sub=>.int k (k.wrap (a-b))
 | .mul=>.int k (k.wrap (a*b))
 | .and=>.int k (bits .and k a b)
 | .or=>.int k (bits .or k a b)
 | .xor=>.int k (bits .xor k a b)
 | .andNot=>.int k (bits .andNot k a b)
 | .eql=>.bool (a==b)
 | .neq=>.bool (a != b)
 | .lss=>.bool (decide (a<b))
 | .leq=>.bool (decide (a<=b))
 | .gtr=>.bool (decide (a>b))
 | .geq=>.bool (decide (a ≥ b))
 | _=>.junk
theorem Vm [Known][Dfr]{ops:Array Oper}{op:BinOp}{x y:Operand}{rest:List Oper}{t ty xt yt:Nat}{pos:String}{after:Array Edge}{k:IntKind}{m q:Int}{d:D}
  (hx:ev tm x=.int k m) (hy:ev tm y=.int k q) (ho:(match op with | .quo | .rem | .shl | .shr=>false|_=>true)=true) (hd:nf (IQ op k m q)=some d) (ht:Nat.blt t n=true)
  (kk:AL P ops rest ⟨n,(t,d)::tm,bx,fr,ee⟩ Q):AL P ops (⟨some t,.binOp op xt x y yt,ty,pos,after,none⟩::rest) ⟨n,tm,bx,fr,ee⟩ Q:=
 Z6 d ht (fun g a w hi=>by
  have h1:V w g fr (ev tm x) (a.eval x):=hi.ev x;rw[hx]at h1;have h1:=h1.int_inv
  have h2:V w g fr (ev tm y) (a.eval y):=hi.ev y;rw[hy]at h2;have h2:=h2.int_inv
  have hd:=YZ hd
  subst hd
  cases op<;>simp at ho<;>refine⟨_,by simp[execOp,h1,h2,eqGuard,binOp,Op.intArith,Op.intCmp,Sem.run_bind];rfl,?_⟩<;>first|exact .int _ _|exact .bool _) kk
theorem WB [Known][Dfr]{ops:Array Oper}{x y:Operand}{rest:List Oper}{t ty xt yt:Nat}{pos:String}{after:Array Edge}{k:IntKind}{m q:Int}
  (hx:ev tm x=.int k m) (hy:ev tm y=.int k q) (hn:q ≠ 0) (ht:Nat.blt t n=true)
  (kk:AL P ops rest ⟨n,(t,.int k (k.wrap (m.tdiv q)))::tm,bx,fr,ee⟩ Q):AL P ops (⟨some t,.binOp .quo xt x y yt,ty,pos,after,none⟩::rest) ⟨n,tm,bx,fr,ee⟩ Q:=
 Z6 _ ht (fun g a w hi=>by
  have h1:V w g fr (ev tm x) (a.eval x):=hi.ev x;rw[hx]at h1;have h1:=h1.int_inv
  have h2:V w g fr (ev tm y) (a.eval y):=hi.ev y;rw[hy]at h2;have h2:=h2.int_inv
  refine⟨.int k (k.wrap (m.tdiv q)),by simp[execOp,h1,h2,eqGuard,binOp,Op.intDiv,Sem.run_bind,hn],.int _ _⟩) kk
theorem YK [Known][Dfr]{ops:Array Oper}{x y:Operand}{rest:List Oper}{t ty xt yt:Nat}{pos:String}{after:Array Edge}{k:IntKind}{m q:Int}
  (hx:ev tm x=.int k m) (hy:ev tm y=.int k q) (hn:q ≠ 0) (ht:Nat.blt t n=true)
  (kk:AL P ops rest ⟨n,(t,.int k (m.tmod q))::tm,bx,fr,ee⟩ Q):AL P ops (⟨some t,.binOp .rem xt x y yt,ty,pos,after,none⟩::rest) ⟨n,tm,bx,fr,ee⟩ Q:=
 Z6 _ ht (fun g a w hi=>by
  have h1:V w g fr (ev tm x) (a.eval x):=hi.ev x;rw[hx]at h1;have h1:=h1.int_inv
  have h2:V w g fr (ev tm y) (a.eval y):=hi.ev y;rw[hy]at h2;have h2:=h2.int_inv
  refine⟨.int k (m.tmod q),by simp[execOp,h1,h2,eqGuard,binOp,Op.intDiv,Sem.run_bind,hn],.int _ _⟩) kk
theorem Y0 [Known][Dfr]{ops:Array Oper}{x y:Operand}{rest:List Oper}{t ty xt yt:Nat}{pos:String}{after:Array Edge}{k k':IntKind}{m q:Int}
  (hx:ev tm x=.int k m) (hy:ev tm y=.int k' q) (hn:0<=q) (ht:Nat.blt t n=true)
  (kk:AL P ops rest ⟨n,(t,.int k (k.wrap (m*2 ^ (min q.toNat k.bits))))::tm,bx,fr,ee⟩ Q):AL P ops (⟨some t,.binOp .shl xt x y yt,ty,pos,after,none⟩::rest) ⟨n,tm,bx,fr,ee⟩ Q:=
 Z6 _ ht (fun g a w hi=>by
  have h1:V w g fr (ev tm x) (a.eval x):=hi.ev x;rw[hx]at h1;have h1:=h1.int_inv
  have h2:V w g fr (ev tm y) (a.eval y):=hi.ev y;rw[hy]at h2;have h2:=h2.int_inv
  refine⟨.int k (k.wrap (m*2 ^ (min q.toNat k.bits))),by simp[execOp,h1,h2,eqGuard,binOp,Op.shift,Sem.run_bind,Int.not_lt.2 hn],.int _ _⟩) kk
theorem W7 [Known][Dfr]{ops:Array Oper}{x y:Operand}{rest:List Oper}{t ty xt yt:Nat}{pos:String}{after:Array Edge}{k k':IntKind}{m q:Int}
  (hx:ev tm x=.int k m) (hy:ev tm y=.int k' q) (hn:0<=q) (ht:Nat.blt t n=true)
  (kk:AL P ops rest ⟨n,(t,.int k (m.fdiv (2 ^ (min q.toNat k.bits))))::tm,bx,fr,ee⟩ Q):AL P ops (⟨some t,.binOp .shr xt x y yt,ty,pos,after,none⟩::rest) ⟨n,tm,bx,fr,ee⟩ Q:=
 Z6 _ ht (fun g a w hi=>by
  have h1:V w g fr (ev tm x) (a.eval x):=hi.ev x;rw[hx]at h1;have h1:=h1.int_inv
  have h2:V w g fr (ev tm y) (a.eval y):=hi.ev y;rw[hy]at h2;have h2:=h2.int_inv
  refine⟨.int k (m.fdiv (2 ^ (min q.toNat k.bits))),by simp[execOp,h1,h2,eqGuard,binOp,Op.shift,Sem.run_bind,Int.not_lt.2 hn],.int _ _⟩) kk
theorem Vn [Known][Dfr]{ops:Array Oper}{x:Operand}{rest:List Oper}{t ty xt:Nat}{pos:String}{after:Array Edge}{b:Bool}(hx:ev tm x=.bool b)(ht:Nat.blt t n=true)
  (kk:AL P ops rest ⟨n,(t,.bool (!b))::tm,bx,fr,ee⟩ Q):AL P ops (⟨some t,.unOp .not xt x,ty,pos,after,none⟩::rest) ⟨n,tm,bx,fr,ee⟩ Q:=
 Z6 _ ht (fun g a w hi=>by
  have h1:V w g fr (ev tm x) (a.eval x):=hi.ev x;rw[hx]at h1;have h1:=h1.bool_inv
  exact⟨.bool !b,by simp[execOp,h1,Op.unary],.bool _⟩) kk
theorem G9 [Known][Dfr]{ops:Array Oper}{x:Operand}{rest:List Oper}{t ty src dst:Nat}{pos:String}{after:Array Edge}{k k':IntKind}{q:Int}(hx:ev tm x=.int k q)
  (hs:(match P.underlying src with|some _=>true|none=>false)=true) (hd:(match P.underlying dst with|some (.int k)=>some k|_=>none)=some k') (ht:Nat.blt t n=true)
  (kk:AL P ops rest ⟨n,(t,.int k' (k'.wrap q))::tm,bx,fr,ee⟩ Q):AL P ops (⟨some t,.convert src dst x,ty,pos,after,none⟩::rest) ⟨n,tm,bx,fr,ee⟩ Q:=
 Z6 _ ht (fun g a w hi=>by
  have h1:V w g fr (ev tm x) (a.eval x):=hi.ev x;rw[hx]at h1;have h1:=h1.int_inv
  refine⟨.int k' (k'.wrap q),?_,.int _ _⟩
  cases hs':P.underlying src with
  | none=>simp[hs']at hs
  | some d=>
   cases hd':P.underlying dst with
   | none=>simp[hd']at hd
   | some d'=>
    cases d'<;>simp[hd']at hd
    subst hd
    simp[execOp,h1,convert,Sem.run_bind,run_underlying hs',run_underlying hd',Conv.intToInt]) kk
end
end Go.Av
end
section
open Go.RowKit Go.Pl
namespace Go.Av

mutual
def D.ren (f h:Nat->Option Nat):D->D
 | .bool b=>.bool b
 | .int k n=>.int k n
 | .str s=>.str s
 | .sl t l=>.sl (match t with | .own i=>(match h i with|some j=>.own j|none=>.ext)|t=>t) l
 | .nilp=>.nilp
 | .ptr b o=>match f b with|some b'=>.ptr b' o|none=>.junk
 | .eptr cs o=>.eptr cs o
 | .gptr k o=>.gptr k o
 | .bsl b o n c=>match f b with|some b'=>.bsl b' o n c|none=>.junk
 | .agg l=>.agg (D.rens f h l)
 | .tup l=>.tup (D.rens f h l)
 | .fn i l=>.fn i (D.rens f h l)
 | .nilf=>.nilf
 | .iface t d=>.iface t (D.ren f h d)
 | .nili=>.nili
 | .yl l=>.yl l
 | .mix l ds=>.mix l (D.rens f h ds)
 | .junk=>.junk
 | .row z l=>.row z l
def D.rens (f h:Nat->Option Nat):List D->List D
 | []=>[]
 | d::l=>D.ren f h d::D.rens f h l
end
theorem YG (f h:Nat->Option Nat)(l:List D):D.rens f h l=l.map (D.ren f h):=by
 induction l with
 | nil=>rfl
 | cons d l ih=>simp[D.rens,ih]
@[simp] theorem Ha (f h:Nat->Option Nat)(e:E):(D.ofC e).ren f h=D.ofC e:=by
 cases e<;>simp only[D.ofC,D.ren]
theorem Kf (f h:Nat->Option Nat)(cs:List D):D.ex (D.rens f h cs)=D.rens f h (D.ex cs):=by
 cases hr:D.isRow cs with
 | true=>
  have key:∀ l:List E,l.map D.ofC=(l.map D.ofC).map (D.ren f h):=fun l=>by
   rw[List.map_map]
   exact List.map_congr_left fun x _=>(Ha f h x).symm
  rcases QU hr with⟨z,l,rfl⟩ | ⟨l,ds,rfl⟩
  ·show l.map D.ofC=D.rens f h (l.map D.ofC)
   rw[YG];exact key l
  ·show l.map D.ofC++D.rens f h ds=D.rens f h (l.map D.ofC++ds)
   rw[YG,YG,List.map_append,<- key l]
 | false=>
  rw[Qo hr,Qo]
  match cs,hr with
  | [],_=>rfl
  | [d],hr=>cases d<;>first|rfl|(simp only[D.rens,D.ren];split<;>rfl)|(simp[D.isRow]at hr)
  | _::_::_,_=>rfl
theorem Hb {f h:Nat->Option Nat}{d:D}{z:Nat}{l:List E}(e:d.ren f h=.row z l):d=.row z l:=by
 cases d<;>first|exact e|(simp only[D.ren]at e;split at e<;>cases e)|(simp only[D.ren]at e;cases e)
theorem J4 {f h:Nat->Option Nat}{cs:List D}{n:Nat}(hf:D.fits cs n):D.fits (D.rens f h cs) n:=by
 refine⟨by rw[YG,List.length_map];exact hf.1,by rw[Kf,YG,List.length_map];exact hf.2.1,fun z l e=>?_⟩
 rw[YG]at e
 rcases cs with _|⟨d,_|⟨d2,r⟩⟩
 ·simp at e
 ·simp at e;exact hf.2.2 z l (by rw[Hb e])
 ·simp at e
theorem V.ren {w:World}{g g':G}{fr fr':List Fr}{d:D}{v:Value}(f h:Nat->Option Nat)(hV:V w g fr d v)(hC:∀ b o,g.C b o->g'.C b o)
  (hρ:∀(b b' blk:Nat),f b=some b'->g.ρ[b]?=some blk->g'.ρ[b']?=some blk)
  (hτ:∀(i j:Nat) (f0:Fr),h i=some j->fr[i]?=some f0->(∃ f',fr'[j]?=some f'/\f'.n=f0.n)/\g'.τ[j]?=g.τ[i]?):V w g' fr' (d.ren f h) v:=by
 have hE:∀ {e v},VE w g.C e v->VE w g'.C e v:=fun hv=>hv.mono hC fun _ _ _=>rfl
 induction hV with
 | bool b=>exact .bool b
 | int k n=>exact .int k n
 | str s h=>exact .str s h
 | sl t l v hv hk=>
  refine .sl _ l v (hE hv) ?_
  cases t with
  | ext=>trivial
  | nil=>exact hk
  | zero=>exact hk
  | own i=>
   dsimp only
   cases hi:h i with
   | none=>trivial
   | some j=>
    obtain⟨f0,k1,k2,k3⟩:=hk
    obtain⟨⟨f',h1,h2⟩,h3⟩:=hτ i j f0 hi k1
    refine⟨f',h1,by omega,fun e=>?_⟩
    rw[h3]
    exact k3 (by omega)
 | nilp=>exact .nilp
 | ptr b o blk hb=>
  show V w g' fr' (match f b with|some b'=>.ptr b' o|none=>.junk) _
  cases hf:f b with
  | none=>exact .junk _
  | some b'=>exact .ptr b' o blk (hρ b b' blk hf hb)
 | eptr cs o blk off us hc hw' hv=>exact .eptr cs o blk off us (fun j hj=>hC _ _ (hc j hj)) hw' (fun j e he=>hE (hv j e he))
 | gptr k o=>exact .gptr k o
 | bsl b o n c blk cap hb h1 h2 h3=>
  show V w g' fr' (match f b with|some b'=>.bsl b' o n c|none=>.junk) _
  cases hf:f b with
  | none=>exact .junk _
  | some b'=>exact .bsl b' o n c blk cap (hρ b b' blk hf hb) h1 h2 h3
 | agg l vs hl _ ih=>
  refine .agg _ vs (by rw[YG];simpa using hl) fun j d v hd hv=>?_
  rw[YG,List.getElem?_map]at hd
  cases hj:l[j]? with
  | none=>simp[hj]at hd
  | some d0=>simp[hj]at hd;subst hd;exact ih j d0 v hj hv
 | tup l vs hl _ ih=>
  refine .tup _ vs (by rw[YG];simpa using hl) fun j d v hd hv=>?_
  rw[YG,List.getElem?_map]at hd
  cases hj:l[j]? with
  | none=>simp[hj]at hd
  | some d0=>simp[hj]at hd;subst hd;exact ih j d0 v hj hv
 | fn i l vs hl _ ih=>
  refine .fn i _ vs (by rw[YG];simpa using hl) fun j d v hd hv=>?_
  rw[YG,List.getElem?_map]at hd
  cases hj:l[j]? with
  | none=>simp[hj]at hd
  | some d0=>simp[hj]at hd;subst hd;exact ih j d0 v hj hv
 | nilf=>exact .nilf
 | iface t d v _ ih=>exact .iface t _ v ih
 | nili=>exact .nili
 | yl l=>exact .yl l
 | mix l ds v vs hl _ ih=>
  refine .mix l _ v vs (by rw[YG];simpa using hl) fun j d v hd hv=>?_
  rw[YG,List.getElem?_map]at hd
  cases hj:ds[j]? with
  | none=>simp[hj]at hd
  | some d0=>simp[hj]at hd;subst hd;exact ih j d0 v hj hv
 | junk v=>exact .junk v
 | row z l v=>exact .row z l v

def idx:List Nat->Nat->Option Nat
 | [],_=>none
 | b::l,t=>match Nat.beq b t with
  | true=>some 0
  | false=>match idx l t with
   | some i=>some (i+1)
   | none=>none
theorem Kg:∀ {l:List Nat} {t i:Nat},idx l t=some i->l[i]?=some t
 | [],t,i,h=>by simp[idx]at h
 | b::l,t,i,h=>by
  simp only[idx]at h
  cases hb:Nat.beq b t with
  | true=>
   simp[hb]at h;subst h
   have:=Nat.eq_of_beq_eq_true hb
   simp[this]
  | false=>
   simp only[hb]at h
   cases hi:idx l t with
   | none=>simp[hi]at h
   | some i'=>simp[hi]at h;subst h;simpa using Kg hi
def G.sel (g:G)(bs ts:List Nat):G:=⟨g.C,bs.map fun i=>g.ρ.getD i 0,ts.map fun i=>g.τ.getD i none⟩
def Qp (bs ts:List Nat)(bx:List (List D)):List (List D):=bs.map fun i=>D.rens (idx bs) (idx ts) (bx.getD i [])
def VY (ts:List Nat)(fr:List Fr):List Fr:=ts.map fun i=>fr.getD i default
def WK (l:List Nat)(n:Nat):Prop:=(∀(i j b:Nat),l[i]?=some b->l[j]?=some b->i=j)/\∀ b,b ∈ l->b<n
theorem Wi (n:Nat):WK [] n:=⟨fun i j b h=>by simp at h,fun b h=>by simp at h⟩
section
variable {w:World} {g:G} {bx:List (List D)} {fr:List Fr} {bs ts:List Nat}
theorem getD_some {α:Type}{l:List α}{i:Nat}{d:α}(h:i<l.length):l[i]?=some (l.getD i d):=by
 simp[List.getD,h]
theorem V.sel [Known](hm:Mem g bx fr w)(hb:WK bs bx.length)(ht:WK ts fr.length){d:D}{v:Value}(h:V w g fr d v):V w (g.sel bs ts) (VY ts fr) (d.ren (idx bs) (idx ts)) v:=by
 refine h.ren _ _ (fun _ _ h=>h) (fun b b' blk hb' hblk=>?_) (fun i j f0 hi hf0=>?_)
 ·have h1:=Kg hb'
  simp[G.sel,h1,List.getD,hblk]
 ·have h1:=Kg hi
  have h2:i<fr.length:=ht.2 i (List.mem_of_getElem? h1)
  refine⟨⟨f0,by simp[VY,List.getElem?_map,h1,List.getD,hf0],rfl⟩,?_⟩
  have h3:i<g.τ.length:=by rw[hm.tl];exact h2
  simp only[G.sel,List.getElem?_map,h1,Option.map_some]
  exact(getD_some h3).symm
theorem HW [Known](hm:Mem g bx fr w)(hb:WK bs bx.length)(ht:WK ts fr.length){k:Nat}(h:M (g.sel bs ts) k):M g k:=by
 rcases h with h|⟨c,h⟩
 ·simp only[G.sel,List.mem_map]at h
  obtain⟨i,hi,rfl⟩:=h
  have h3:i<g.ρ.length:=by rw[hm.bl];exact hb.2 i hi
  exact .inl (List.mem_of_getElem? (getD_some h3))
 ·simp only[G.sel,List.mem_map]at h
  obtain⟨i,hi,h⟩:=h
  have h3:i<g.τ.length:=by rw[hm.tl];exact ht.2 i hi
  exact .inr ⟨c,h ▸ List.mem_of_getElem? (getD_some h3)⟩
theorem QQ [Known](hm:Mem g bx fr w)(hb:WK bs bx.length){i blk:Nat}(h:(g.sel bs ts).ρ[i]?=some blk):∃ b,bs[i]?=some b/\g.ρ[b]?=some blk:=by
 simp only[G.sel,List.getElem?_map]at h
 cases hi:bs[i]? with
 | none=>simp[hi]at h
 | some b=>
  simp only[hi,Option.map_some,Option.some.injEq]at h
  have h3:b<g.ρ.length:=by rw[hm.bl];exact hb.2 b (List.mem_of_getElem? hi)
  exact⟨b,rfl,by rw[getD_some (d:=0) h3,h]⟩
theorem Q4 [Known](hm:Mem g bx fr w)(ht:WK ts fr.length){i:Nat}{p:Option (Nat × Nat × Nat)}(h:(g.sel bs ts).τ[i]?=some p):∃ b,ts[i]?=some b/\g.τ[b]?=some p:=by
 simp only[G.sel,List.getElem?_map]at h
 cases hi:ts[i]? with
 | none=>simp[hi]at h
 | some b=>
  simp only[hi,Option.map_some,Option.some.injEq]at h
  have h3:b<g.τ.length:=by rw[hm.tl];exact ht.2 b (List.mem_of_getElem? hi)
  exact⟨b,rfl,by rw[getD_some (d:=none) h3,h]⟩
theorem TokAt.same {g g':G}{blk:Nat}{cap:Nat × Nat}{f:Fr}(h:TokAt w g blk cap f)(hC:∀ o,g'.C blk o->g.C blk o):TokAt w g' blk cap f:=
 ⟨h.row,h.le,h.max,fun o ho hc=>h.far o ho (hC o hc)⟩
theorem Mem.sel [Known](hm:Mem g bx fr w)(hb:WK bs bx.length)(ht:WK ts fr.length):Mem (g.sel bs ts) (Qp bs ts bx) (VY ts fr) w where
 bl:=by simp[G.sel,Qp]
 bat i blk cs h1 h2:=by
  obtain⟨b,hi,hρ⟩:=QQ hm hb h1
  simp only[Qp,List.getElem?_map,hi,Option.map_some,Option.some.injEq]at h2
  have hlt:b<bx.length:=hb.2 b (List.mem_of_getElem? hi)
  obtain⟨vs,ty,h3,h4,h5⟩:=hm.bat b blk _ hρ (getD_some (d:=[]) hlt)
  refine⟨vs,ty,h3,by rw[<- h2];exact J4 h4,fun j d v hd hv=>?_⟩
  rw[<- h2,Kf,YG,List.getElem?_map]at hd
  cases hj:(D.ex (bx.getD b []))[j]? with
  | none=>simp only[hj,Option.map_none]at hd;cases hd
  | some d0=>
   simp only[hj,Option.map_some,Option.some.injEq]at hd
   subst hd
   exact V.sel hm hb ht (h5 j d0 v hj hv)
 bC blk o h:=by
  obtain⟨i,hi⟩:=List.getElem?_of_mem h
  obtain⟨b,_,hρ⟩:=QQ hm hb hi
  exact hm.bC blk o (List.mem_of_getElem? hρ)
 bN i j b h1 h2:=by
  obtain⟨x,hx,h3⟩:=QQ hm hb h1
  obtain⟨y,hy,h4⟩:=QQ hm hb h2
  have:=hm.bN x y b h3 h4
  subst this
  exact hb.1 i j x hx hy
 tl:=by simp[G.sel,VY]
 tat i blk cap f h1 h2:=by
  obtain⟨b,hi,hτ⟩:=Q4 hm ht h1
  simp only[VY,List.getElem?_map,hi,Option.map_some,Option.some.injEq]at h2
  have hlt:b<fr.length:=ht.2 b (List.mem_of_getElem? hi)
  exact(hm.tat b blk cap f hτ (by rw[<- h2];exact getD_some hlt)).same fun _ h=>h
 tN i j b c c' h1 h2:=by
  obtain⟨x,hx,h3⟩:=Q4 hm ht h1
  obtain⟨y,hy,h4⟩:=Q4 hm ht h2
  have:=hm.tN x y b c c' h3 h4
  subst this
  exact ht.1 i j x hx hy
 tρ b c h hr:=by
  obtain⟨i,hi⟩:=List.getElem?_of_mem h
  obtain⟨x,_,h3⟩:=Q4 hm ht hi
  obtain⟨j,hj⟩:=List.getElem?_of_mem hr
  obtain⟨y,_,h4⟩:=QQ hm hb hj
  exact hm.tρ b c (List.mem_of_getElem? h3) (List.mem_of_getElem? h4)
 Clt:=hm.Clt
 gl:=hm.gl
end

inductive R where
 | ret (d:D)
 | pan (d:D)
def R.ren (f h:Nat->Option Nat):R->R
 | .ret d=>.ret (d.ren f h)
 | .pan d=>.pan (d.ren f h)
def R.is (w:World)(g:G)(fr:List Fr)(e:Ending):R->Prop
 | .ret d=>∃ v,e=.returned v/\V w g fr d v
 | .pan d=>∃ v,e=.panicked [{ v,recovered:=false }]/\V w g fr d v
structure AC [Known](P:Program) (f:FuncId) (args:List D) (bx:List (List D)) (fr:List Fr) (post:R->List (List D)->List Fr->Prop):Prop where
 run:∀(g:G) (w:World) (vs:List Value),Mem g bx fr w->vs.length=args.length->(∀(j:Nat) (d:D) (v:Value),args[j]?=some d->vs[j]?=some v->V w g fr d v) ->
  Calls P f vs.toArray w fun e w'=>∃ g' bx' fr' r,Evo ⟨g,fr,w⟩ ⟨g',fr',w'⟩/\Mem g' bx' fr' w'/\r.is w' g' fr' e/\post r bx' fr'
theorem AC.mono [Known]{P:Program}{f:FuncId}{args:List D}{bx:List (List D)}{fr:List Fr}{post post':R->List (List D)->List Fr->Prop}(h:AC P f args bx fr post)(hp:∀ r bx' fr',post r bx' fr'->post' r bx' fr'):AC P f args bx fr post':=
 ⟨fun g w vs hm hl hv=>(h.run g w vs hm hl hv).mono fun e w' ⟨g',bx',fr',r,h1,h2,h3,h4⟩=>⟨g',bx',fr',r,h1,h2,h3,hp _ _ _ h4⟩⟩
end Go.Av
end
section
open Go.RowKit Go.Pl
namespace Go.Av

def tAgg (P:Program)(t:TypeId):Option Bool:=
 match P.underlying t with
 | some (.struct _)=>some true
 | some (.array _ _)=>some true
 | some _=>some false
 | none=>none
def tSize (P:Program)(t:TypeId):Option Nat:=(P.info? t).map (·.size)
theorem Vx {P:Program}{t:TypeId}{b:Bool}(h:tAgg P t=some b)(w:World):(isAgg t).run P w=.ok b w:=by
 unfold tAgg at h
 cases hu:P.underlying t with
 | none=>simp[hu]at h
 | some d=>
  unfold isAgg
  rw[Sem.run_bind,run_underlying hu w]
  cases d<;>simp_all
theorem Y1 {P:Program}{t:TypeId}{n:Nat}(h:tSize P t=some n)(w:World):(sizeOf t).run P w=.ok n w:=by
 unfold tSize at h
 cases hi:P.info? t with
 | none=>simp[hi]at h
 | some i=>
  simp[hi]at h
  simp[sizeOf,typeInfo,Sem.run_bind,hi,h]
theorem XF {P:Program}{t:TypeId}(h:tAgg P t=some false){w:World}{b o:Nat}{v:Value}(hc:w.cell? ⟨b,o,none⟩=some v) :
  (loadVar t ⟨b,o,none⟩).run P w=.ok v w:=by
 simp[loadVar,Sem.run_bind,Vx h,hc]
theorem XG {P:Program}{t:TypeId}(h:tAgg P t=some true){w:World}{b o:Nat}(vs:List Value)(hs:tSize P t=some vs.length)(hc:∀ j v,vs[j]?=some v->w.cell? ⟨b,o+j,none⟩=some v) :
  (loadVar t ⟨b,o,none⟩).run P w=.ok (.agg vs.toArray) w:=by
 have hl:(loadCells ⟨b,o,none⟩ vs.length).run P w=.ok vs.toArray w:=
  run_loadCells_list (P:=P) w ⟨b,o,none⟩ vs (fun j v hv=>by rw[Addr.add_mid];exact hc j v hv)
 simp[loadVar,Sem.run_bind,Vx h,Y1 hs,hl]
section
variable {P:Program} {w:World} {g:G} {bx:List (List D)} {fr:List Fr}
theorem Mem.cell [Known](hm:Mem g bx fr w){b blk:Nat}{cs:List D}(hb:g.ρ[b]?=some blk)(hx:bx[b]?=some cs){o:Nat}{d:D}(hd:cs[o]?=some d):∃ v,w.cell? ⟨blk,o,none⟩=some v/\V w g fr d v:=by
 obtain⟨vs,ty,h1,h2,h3⟩:=hm.bat0 b blk cs hb hx
 have ho:o<cs.length:=(List.getElem?_eq_some_iff.1 hd).1
 have hv:vs[o]?=some (vs[o]'(by omega)):=by rw[Array.getElem?_eq_getElem]
 exact⟨_,(cell_of_row w blk o vs ty (0,0) h1).trans hv,h3 o d _ hd hv⟩
theorem Kh {v:Value}{b o:Nat}(h:V w g fr (.ptr b o) v):∃ blk,g.ρ[b]?=some blk/\v=.pointer (some ⟨blk,o,none⟩):=by cases h;exact⟨_,‹_›,rfl⟩
theorem XH [Known](hm:Mem g bx fr w){t:TypeId}(h:tAgg P t=some false){b o:Nat}{cs:List D}{d:D}{v:Value}(hv:V w g fr (.ptr b o) v)(hx:bx[b]?=some cs)(hd:cs[o]?=some d) :
  ∃ u,(Instr.loadAt t v).run P w=.ok u w/\V w g fr d u:=by
 cases hv with
 | ptr _ _ blk hb=>
  obtain⟨u,h1,h2⟩:=hm.cell hb hx hd
  exact⟨u,by simp[Instr.loadAt,Instr.sureAddr,Sem.run_bind,XF h h1],h2⟩
theorem XI [Known](hm:Mem g bx fr w){t:TypeId}(h:tAgg P t=some true){b o n:Nat}{cs:List D}{v:Value}(hs:tSize P t=some n)(hv:V w g fr (.ptr b o) v)(hx:bx[b]?=some cs)(ho:o+n<=cs.length) :
  ∃ u,(Instr.loadAt t v).run P w=.ok u w/\V w g fr (.agg ((cs.drop o).take n)) u:=by
 cases hv with
 | ptr _ _ blk hb=>
  obtain⟨vs,ty,h1,h2,h3⟩:=hm.bat0 b blk cs hb hx
  refine⟨.agg ((vs.toList.drop o).take n).toArray,?_,?_⟩
  ·have:=XG (P:=P) (w:=w) (b:=blk) (o:=o) h ((vs.toList.drop o).take n) (by rw[hs];simp;omega) fun j u hu=>by
    rw[cell_of_row w blk (o+j) vs ty (0,0) h1]
    have hu':j<n/\vs[o+j]?=some u:=by simpa[List.getElem?_take]using hu
    exact hu'.2
   simp[Instr.loadAt,Instr.sureAddr,Sem.run_bind,this]
  ·refine .agg _ _ (by simp;omega) fun j d u hd hu=>?_
   have hu':j<n/\vs[o+j]?=some u:=by simpa[List.getElem?_take]using hu
   have hd':j<n/\cs[o+j]?=some d:=by simpa[List.getElem?_take]using hd
   exact h3 _ d u hd'.2 hu'.2
theorem Oj {t:TypeId}(h:tAgg P t=some false){cs:List E}{o:Nat}{e:E}{v:Value}(hv:V w g fr (.eptr cs o) v)(hd:cs[o]?=some e) :
  ∃ u,(Instr.loadAt t v).run P w=.ok u w/\V w g fr (.ofE e) u:=by
 cases hv with
 | eptr _ _ blk off us hc hw he=>
  have ho:=(List.getElem?_eq_some_iff.1 hd).1
  exact⟨us o,by simp[Instr.loadAt,Instr.sureAddr,Sem.run_bind,XF h (hw o ho)],V.ofE (he o e hd)⟩
theorem Ok {t:TypeId}(h:tAgg P t=some true){cs:List E}{o n:Nat}{v:Value}(hs:tSize P t=some n)(hv:V w g fr (.eptr cs o) v)(ho:o+n<=cs.length) :
  ∃ u,(Instr.loadAt t v).run P w=.ok u w/\V w g fr (.agg (((cs.drop o).take n).map .ofE)) u:=by
 cases hv with
 | eptr _ _ blk off us hc hw he=>
  refine⟨.agg ((List.range n).map fun j=>us (o+j)).toArray,?_,?_⟩
  ·have:=XG (P:=P) (w:=w) (b:=blk) (o:=off+o) h ((List.range n).map fun j=>us (o+j)) (by simp[hs]) fun j u hu=>by
    rw[List.getElem?_map]at hu
    cases hj:(List.range n)[j]? with
    | none=>simp[hj]at hu
    | some j'=>
     obtain⟨hlt,hj'⟩:=List.getElem?_eq_some_iff.1 hj
     simp at hlt hj'
     subst hj'
     simp[hj]at hu
     subst hu
     rw[Nat.add_assoc]
     exact hw (o+j) (by omega)
   simp[Instr.loadAt,Instr.sureAddr,Sem.run_bind,this]
  ·refine .agg _ _ (by simp;omega) fun j d u hd hu=>?_
   rw[List.getElem?_map]at hd hu
   cases hj:(List.range n)[j]? with
   | none=>simp[hj]at hu
   | some j'=>
    obtain⟨hlt,hj'⟩:=List.getElem?_eq_some_iff.1 hj
    simp at hlt hj'
    subst hj'
    simp only[hj,Option.map_some,Option.some.injEq]at hu
    subst hu
    rw[List.getElem?_take,if_pos hlt,List.getElem?_drop]at hd
    cases hj2:cs[o+j]? with
    | none=>simp[hj2]at hd
    | some e=>simp[hj2]at hd;subst hd;exact V.ofE (he _ e hj2)
end

def VZ:Nat->List D->List (Nat × D)
 | _,[]=>[]
 | k,d::l=>(k,d)::VZ (k+1) l
theorem Qq (l:List D):∀(k t:Nat),look (VZ k l) t=if k<=t then(l[t-k]?).getD .junk else .junk:=by
 induction l with
 | nil=>intro k t;simp[VZ,look]
 | cons d l ih=>
  intro k t
  simp only[VZ,look]
  cases hb:Nat.beq k t with
  | true=>
   have:=Nat.eq_of_beq_eq_true hb
   subst this;simp
  | false=>
   have hne:k ≠ t:=fun e=>by subst e;simp at hb
   dsimp only
   rw[ih]
   by_cases h:k<=t
   ·rw[if_pos h,if_pos (by omega),show t-k=(t-(k+1))+1 from by omega,List.getElem?_cons_succ]
   ·rw[if_neg h,if_neg (by omega)]
inductive ResOk (P:Program) (S:St):ResultVar->D->Prop
 | tmp (t:Nat) (d:D) (h:look S.tm t=d):ResOk P S (.tmp t) d
 | cell1 (a t b o:Nat) (cs:List D) (d:D) (h:look S.tm a=.ptr b o) (ht:tAgg P t=some false) (hx:S.bx[b]?=some cs) (hd:cs[o]?=some d):ResOk P S (.cell a t) d
 | celln (a t b o n:Nat) (cs:List D) (d:D) (h:look S.tm a=.ptr b o) (ht:tAgg P t=some true) (hs:tSize P t=some n) (hx:S.bx[b]?=some cs) (ho:Nat.ble (o+n) cs.length=true) (hd:.agg ((cs.drop o).take n)=d):ResOk P S (.cell a t) d
inductive ResL (P:Program) (S:St):List ResultVar->List D->Prop
 | nil:ResL P S [] []
 | cons (r:ResultVar) (d:D) (rs:List ResultVar) (ds:List D) (h:ResOk P S r d) (t:ResL P S rs ds):ResL P S (r::rs) (d::ds)
def Q5:List D->D
 | [d]=>d
 | l=>.tup l
def Ol (tmps:Array Value):ResultVar->Sem Value
 | .tmp t=>pure (tmps.getD t undef)
 | .cell a t=>do loadVar t (<- asAddr (tmps.getD a undef))
theorem Om (fn:Func)(tmps:Array Value):results fn tmps=(fn.results.mapM (Ol tmps) >>= fun vs=>pure (if h:vs.size=1 then vs[0] else .tuple vs)):=rfl
theorem QR {P:Program}{α:Type}{w:World}(f:α->Sem Value):∀(l:List α) (vs:List Value),l.length=vs.length->(∀(j:Nat) (x:α) (v:Value),l[j]?=some x->vs[j]?=some v->(f x).run P w=.ok v w)->(l.mapM f).run P w=.ok vs w
 | [],[],_,_=>rfl
 | x::l,v::vs,hl,h=>by
  have ih:=QR f l vs (by simpa using hl) fun j x v hx hv=>h (j+1) x v (by simpa using hx) (by simpa using hv)
  have h0:=h 0 x v rfl rfl
  simp only[List.mapM_cons,Sem.run_bind,h0,Result.andThen_ok,ih]
  rfl
 | [],_::_,hl,_=>by simp at hl
 | _::_,[],hl,_=>by simp at hl
theorem ResL.runs [Known][Dfr]{P:Program}{S:St}{b0:Bs}{g:G}{a:Act}{w:World}(hi:Inv b0 S g a w){rs:List ResultVar}{ds:List D}(h:ResL P S rs ds) :
  ∃ vs:List Value,rs.length=vs.length/\vs.length=ds.length/\(∀(j:Nat) (r:ResultVar) (v:Value),rs[j]?=some r->vs[j]?=some v->(Ol a.tmps r).run P w=.ok v w)/\∀(j:Nat) (d:D) (v:Value),ds[j]?=some d->vs[j]?=some v->V w g S.fr d v:=by
 induction h with
 | nil=>exact⟨[],rfl,rfl,by simp,by simp⟩
 | cons r d rs ds h t ih=>
  obtain⟨vs,h0,h1,h2,h3⟩:=ih
  have:∃ v,(Ol a.tmps r).run P w=.ok v w/\V w g S.fr d v:=by
   cases h with
   | tmp t d h=>exact⟨_,rfl,h ▸ hi.tm t⟩
   | cell1 a' t b o cs d h ht hx hd=>
    have hv:=hi.tm a'
    rw[h]at hv
    obtain⟨p,hp⟩:∃ p,p=a.tmps.getD a' undef:=⟨_,rfl⟩
    rw[<- hp]at hv
    obtain⟨u,h1,h2⟩:=XH (P:=P) hi.mem ht hv hx hd
    refine⟨u,?_,h2⟩
    show(do let x <- asAddr (a.tmps.getD a' undef);loadVar t x:Sem Value).run P w=_
    rw[<- hp]
    cases hv with
    | ptr _ _ blk hb=>simpa[asAddr,Instr.loadAt,Instr.sureAddr,Sem.run_bind]using h1
   | celln a' t b o n cs d h ht hs hx ho hd=>
    have hv:=hi.tm a'
    rw[h]at hv
    obtain⟨p,hp⟩:∃ p,p=a.tmps.getD a' undef:=⟨_,rfl⟩
    rw[<- hp]at hv
    obtain⟨u,h1,h2⟩:=XI (P:=P) hi.mem ht hs hv hx (Nat.le_of_ble_eq_true ho)
    refine⟨u,?_,hd ▸ h2⟩
    show(do let x <- asAddr (a.tmps.getD a' undef);loadVar t x:Sem Value).run P w=_
    rw[<- hp]
    cases hv with
    | ptr _ _ blk hb=>simpa[asAddr,Instr.loadAt,Instr.sureAddr,Sem.run_bind]using h1
  obtain⟨v,k1,k2⟩:=this
  refine⟨v::vs,by simp[h0],by simp[h1],fun j r' v' hr hv=>?_,fun j d v hd hv=>?_⟩
  ·cases j with
   | zero=>simp at hr hv;subst hr hv;exact k1
   | succ j=>simp at hr hv;exact h2 j r' v' hr hv
  ·cases j with
   | zero=>simp at hd hv;subst hd hv;exact k2
   | succ j=>simp at hd hv;exact h3 j d v hd hv
theorem Qr [Known][Dfr]{P:Program}{S:St}{b0:Bs}{g:G}{a:Act}{w:World}(hi:Inv b0 S g a w){fn:Func}{rs:List ResultVar}(hr:fn.results=rs.toArray){ds:List D}(h:ResL P S rs ds) :
  ∃ v,(results fn a.tmps).run P w=.ok v w/\V w g S.fr (Q5 ds) v:=by
 obtain⟨vs,h0,h1,h2,h3⟩:=h.runs hi
 have hm:=QR (Ol a.tmps) rs vs h0 h2
 rw[Om,hr]
 have hm2:(rs.toArray.mapM (Ol a.tmps)).run P w=.ok vs.toArray w:=by
  rw[List.mapM_toArray]
  rw[show(List.toArray <$> rs.mapM (Ol a.tmps))=(rs.mapM (Ol a.tmps) >>= fun l=>pure l.toArray) from rfl]
  rw[Sem.run_bind,hm]
  rfl
 refine⟨_,by rw[Sem.run_bind,hm2];rfl,?_⟩
 match vs,ds,h1 with
 | [],[],_=>exact .tup [] [] rfl (by simp)
 | [v],[d],_=>exact h3 0 d v rfl rfl
 | v::v'::vs,d::d'::ds,h1=>
  have:=V.tup (d::d'::ds) (v::v'::vs) h1 h3
  simpa[Q5]using this
end Go.Av
end
