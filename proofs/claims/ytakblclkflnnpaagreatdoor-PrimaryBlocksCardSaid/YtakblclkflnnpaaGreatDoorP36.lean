/- An item as an argument: from the form's own reading to this seat's words. -/
import Derived.Test.YtakblclkflnnpaaGreatDoorP01
import Derived.Test.YtakblclkflnnpaaGreatDoorP12
import Derived.Test.YtakblclkflnnpaaGreatDoorP07
import Derived.Test.YtakblclkflnnpaaGreatDoorP21
import Derived.Test.YtakblclkflnnpaaGreatDoorP11
import Derived.Test.YtakblclkflnnpaaGreatDoorProg
import Derived.Lib.LaidU8
import Derived.Test.YtakblclkflnnpaaGreatDoorP35
set_option linter.unusedVariables false
set_option linter.unusedSimpArgs false
section
open Go.RowKit Go.Pl Go.Av
namespace Go.Proofs.YtakblclkflnnpaaGreatDoor
def Zqm {α β:Type}(R:Rep α)(f:β->α):Rep β where
 n:=R.n
 ok:=fun w S cs x=>R.ok w S cs (f x)
 len:=R.len
 one:=R.one
 frame:=R.frame
 mono:=R.mono
 lt:=R.lt
def ZpD:Rep It where
 n:=4
 ok:=fun _ _ _ _=>False
 len:=fun h=>h.elim
 one:=fun h=>h.elim
 frame:=fun _ h=>h
 mono:=fun _ h=>h
 lt:=fun h=>h
def RI:Nat -> {R:Rep It // R.n=4}
 | 0=>⟨ZpD,rfl⟩
 | m+1=>⟨Zqm (Rep.i64.prod (Rep.u64.prod ((Rep.slice Rep.byte (by decide)).prod (Rep.slice (RI m).1 (by rw[(RI m).2];decide))))) fun x=>(x.k,x.n,x.b,x.l),rfl⟩
theorem Zjo:∀ m:Nat,ToE (RI m).1 itE
 | 0=>⟨fun _ _ _ _ _ _ h=>h.elim⟩
 | m+1=>⟨fun w S C cs x hC h=>by
  have h0:=((ToE.i64.prod (ToE.u64.prod ((ToE.byte.slice (by decide)).prod ((Zjo m).slice (by rw[(RI m).2];decide))))).cells w S C cs (x.k,x.n,x.b,x.l) hC h)
  obtain⟨k,n,b,l⟩:=x
  have e:(itE (.mk k n b l)).cells=[.int .i64 k,.int .u64 (n:Int),.sl (b.map E.byte),.sl (l.map itE)]:=by rw[<- ZaB];rfl
  rw[e]
  exact h0⟩
theorem ZlD {α:Type}{R:Rep α}{w:World}{S:Nat->Prop}:∀ {l:List α} {cs:List Value},Run R w S cs l->∀ x ∈ l,∃ cs',R.ok w S cs' x
 | [],_,_,x,hx=>nomatch hx
 | y::l,cs,h,x,hx=>by
  obtain⟨c1,c2,_,h1,h2⟩:=h
  rcases List.mem_cons.1 hx with rfl|hx
  ·exact⟨c1,h1⟩
  ·exact ZlD h2 x hx
theorem Zm3:∀ {l:List It},(∀ x ∈ l,nI x)->nIs l
 | [],_=>trivial
 | x::l,h=>⟨h x (List.mem_cons_self ..),Zm3 fun y hy=>h y (List.mem_cons_of_mem _ hy)⟩
theorem ZlE:∀(m:Nat) {w:World} {S:Nat->Prop} {cs:List Value} {x:It},(RI m).1.ok w S cs x->nI x
 | 0,_,_,_,_,h=>h.elim
 | m+1,w,S,cs,x,h=>by
  obtain⟨k,n,b,l⟩:=x
  obtain⟨_,_,_,_,_,_,_,⟨_,hn⟩,_,_,_,_,v,_,A,cap,_,_,_,cs',hr,_⟩:=h
  exact⟨hn,Zm3 fun y hy=>let⟨c,hc⟩:=ZlD hr y hy;ZlE m hc⟩
variable {P:Program} {t:TypeId}
theorem ZhO {α:Type}{R:Rep α}{e:TypeId}(hR:0<R.n)(ht:P.underlying t=some (.slice e))(hc:P.cellsOf e=R.n){H:Type}{enc:TypeId × Value->H}{W:World}{spare:Nat->Bool}{held:Bool}{fuel:Nat}{cs:List Value}{y:DataW H × List MemPlace}
  (he:∀(f:Nat) (cs:List Value) (y:DataW H × List MemPlace),f<fuel->DataW.trod enc P W 0 spare held f e cs=some y->∃ x,R.ok W (· < W.heap.size) cs x) (h:DataW.trod enc P W 0 spare held fuel t cs=some y):∃ x,(Rep.slice R hR).ok W (· < W.heap.size) cs x:=by
 rcases DataW.trod_slice ht h with⟨rfl,_⟩ | ⟨a,len,cap,elems,rest,n,hn,rfl,_,_,hl,hm,hlen,hi,_,_⟩
 ·exact⟨[],_,rfl,Sl.nil _ _ _⟩
 ·rw[hc]at hi
  have key:∀ k,k<=len->∃(l:List α) (cs:List Value),l.length=k/\Run R W (· < W.heap.size) cs l/\∀ j,j<cs.length->W.cell? (a.add j)=cs[j]? := by
   intro k
   induction k with
   | zero=>intro _;exact⟨[],[],rfl,rfl,fun j hj=>by simp at hj⟩
   | succ k ih=>
    intro hk
    obtain⟨l,cs,hll,hr,hcc⟩:=ih (by omega)
    have hik:=hi k (by omega)
    rw[List.getElem?_eq_getElem (by omega)]at hik
    obtain⟨cs',hcs',ht'⟩:=Option.bind_eq_some_iff.1 hik
    obtain⟨x,hx⟩:=he n cs' _ (by omega) ht'
    obtain⟨_,hcl,hat⟩:=World.cells?_some hcs'
    refine⟨l++[x],cs++cs',by simp[hll],hr.append (Run.single hx),fun j hj=>?_⟩
    have hlen:=hr.length
    rw[hll]at hlen
    rcases Nat.lt_or_ge j cs.length with h1|h1
    ·rw[List.getElem?_append_left h1];exact hcc j h1
    ·rw[List.getElem?_append_right h1]
     have h2:j-cs.length<R.n:=by rw[List.length_append,hcl]at hj;omega
     have:=hat (j-cs.length) h2
     rw[Go.Deep.add_add]at this
     rw[<- this]
     congr 2
     omega
  obtain⟨l,cs,hll,hr,hcc⟩:=key len (Nat.le_refl _)
  subst hll
  refine⟨l,_,rfl,some a,cap,rfl,hl,hm,cs,hr,fun hne=>?_⟩
  have hlen:=hr.length
  have hpos:0<cs.length:=by rw[hlen];exact Nat.mul_pos (List.length_pos_iff.2 hne) hR
  obtain⟨b,off,spot⟩:=a
  have h0:=(hcc 0 hpos).trans (List.getElem?_eq_getElem hpos)
  have hspot:spot=none:=by simpa[Addr.add]using World.cell?_spot h0
  subst hspot
  refine⟨b,off,rfl,World.block_lt_of_cell? W _ (by simpa[Addr.add]using h0),fun j hj=>?_⟩
  rw[<- hcc j hj]
  congr 1
  unfold Addr.add;split<;>simp_all
theorem Zj0 {fs:Array Field}{f0 f1 f2 f3:Field}(hs:P.underlying t=some (.struct fs))(hfs:fs = #[f0,f1,f2,f3])(hc:P.cellsOf t=4)
  (h00:f0.offset=0) (h01:f1.offset=1) (h02:f2.offset=2) (h03:f3.offset=3) (hc0:P.cellsOf f0.type=1) (hc1:P.cellsOf f1.type=1) (hc2:P.cellsOf f2.type=1) (hc3:P.cellsOf f3.type=1)
  (h0:ZbW P f0.type Rep.i64) (h1:ZbW P f1.type Rep.u64) (h2:ZbW P f2.type (Rep.slice Rep.byte (by decide))) (h3:P.underlying f3.type=some (.slice t))
  {H:Type} {enc:TypeId × Value->H} {W:World} {spare:Nat->Bool} {held:Bool}:∀(fuel:Nat) (cs:List Value) (y:DataW H × List MemPlace),DataW.trod enc P W 0 spare held fuel t cs=some y->∀ j,fuel<=j->∃ x,(RI j).1.ok W (· < W.heap.size) cs x:=by
 intro fuel
 induction fuel using Nat.strongRecOn with
 | _ fuel ih=>
  intro cs y h j hj
  obtain⟨xs,n,hn,_,hl,hxl,hg⟩:=DataW.trod_struct hs h
  subst hfs
  obtain⟨j,rfl⟩:∃ i,j=i+1:=⟨j-1,by omega⟩
  have e0:=hg 0 f0 rfl
  have e1:=hg 1 f1 rfl
  have e2:=hg 2 f2 rfl
  have e3:=hg 3 f3 rfl
  rw[hc]at hl
  match cs,hl with
  | [v0,v1,v2,v3],_=>
  rw[h00,hc0]at e0
  rw[h01,hc1]at e1
  rw[h02,hc2]at e2
  rw[h03,hc3]at e3
  have hn4:xs.length=4:=hxl
  obtain⟨k,hk⟩:=h0 H enc W spare held n _ _ (e0.trans (List.getElem?_eq_getElem (by omega)))
  obtain⟨m,hm⟩:=h1 H enc W spare held n _ _ (e1.trans (List.getElem?_eq_getElem (by omega)))
  obtain⟨b,hb⟩:=h2 H enc W spare held n _ _ (e2.trans (List.getElem?_eq_getElem (by omega)))
  obtain⟨l,hll⟩:=ZhO (R:=(RI j).1) (by rw[(RI j).2];decide) h3 (by rw[hc,(RI j).2]) (fun f cs y hf hy=>ih f (by omega) cs y hy j (by omega)) (e3.trans (List.getElem?_eq_getElem (by omega)))
  exact⟨.mk k m b l,[v0],[v1,v2,v3],rfl,hk,[v1],[v2,v3],rfl,hm,[v2],[v3],rfl,hb,hll⟩
end Go.Proofs.YtakblclkflnnpaaGreatDoor
end
section
open Go.RowKit Go.Pl Go.Av
namespace Go.Proofs.YtakblclkflnnpaaGreatDoor
set_option maxHeartbeats 4000000
theorem ZoT {W:World}{cs:List Value}{x:It}{m:Nat}(h:(RI m).1.ok W (· < W.heap.size) cs x):V W (g0 W) [] (itD x) (.agg cs.toArray):=by
 obtain⟨k,n,b,l⟩:=x
 have h1:=ToE.agg (Zjo m) (l:=[.int .i64 k,.int .u64 (n:Int),.sl (b.map E.byte),.sl (Zas l)]) (hf:=rfl) h
 exact h1
end Go.Proofs.YtakblclkflnnpaaGreatDoor
end
section
open Go.RowKit Go.Pl Go.Av Go.Lib
namespace Go.Proofs.YtakblclkflnnpaaGreatDoor
theorem ZfJ (k:IntKind):∀ zs:List Int,Zj2 (zs.map fun z=>.lit (.int k z))=zs.map fun z=>Value.int k z
 | []=>rfl
 | z::zs=>by rw[List.map_cons,List.map_cons,Zj2,ZfJ k zs];rfl
theorem Zjp {P:Program}{W:World}{n:String}{g:Nat}{t:TypeId}{d:DataW Unit}(hg:P.globalNamed n=some g)(ht:(P.globals[g]?).map (·.type)=some t)(h:VarReads P W n d)
  (key:∀(fuel:Nat) (cs:List Value) (p:List MemPlace),DataW.trod (fun _=>()) P W 0 (fun _=>true) false fuel t cs=some (d,p)->∀(j:Nat) (v:Value),(dcs d)[j]?=some v->cs[j]?=some v) :
  ∀(j:Nat) (v:Value),(dcs d)[j]?=some v->(g0 W).C g j/\W.cell? ⟨g,j,none⟩=some v:=by
 obtain⟨g',t',cs,fuel,p,h1,h2,h3,h4⟩:=h
 obtain rfl:=Option.some.inj (hg.symm.trans h1)
 obtain rfl:=Option.some.inj (ht.symm.trans h2)
 intro j v hv
 have hc:=key fuel cs.toList p h4 j v hv
 have hcell:W.cell? ⟨g,j,none⟩=some v:=by
  rw[World.var?_cell hg h3 j,<- Array.getElem?_toList];exact hc
 exact⟨World.block_lt_of_cell? W _ hcell,hcell⟩
theorem Zn3 {P:Program}{W:World}{t e:TypeId}{n:Nat}{k:IntKind}{d:DataW Unit}(zs:List Int)(hd:d=tabData k zs)(ht:P.underlying t=some (.array n e))(he:P.underlying e=some (.int k))(hce:P.cellsOf e=1)(hct:P.cellsOf t=n) :
  ∀(fuel:Nat) (cs:List Value) (p:List MemPlace),DataW.trod (fun _=>()) P W 0 (fun _=>true) false fuel t cs=some (d,p)->∀(j:Nat) (v:Value),(dcs d)[j]?=some v->cs[j]?=some v:=by
 subst hd
 intro fuel cs p h j v hv
 rw[cells_of_tab ht he hce hct h]
 rw[tabData,dcs,ZfJ]at hv
 exact hv
theorem Zn4 {P:Program}{W:World}{t e:TypeId}{n:Nat}{k:IntKind}{d:DataW Unit}{fs:Array Field}(rows:List (List Int))(hd:d=.agg (rows.map fun r=>.agg (r.map fun z=>.lit (.int k z))))(hn:rows.length=n)(ht:P.underlying t=some (.array n e))(he:P.underlying e=some (.struct fs))
  (hf:∀(i:Nat) (f:Field),fs[i]?=some f->P.underlying f.type=some (.int k)/\f.offset=i/\P.cellsOf f.type=1) (hce:P.cellsOf e=fs.size) :
  ∀(fuel:Nat) (cs:List Value) (p:List MemPlace),DataW.trod (fun _=>()) P W 0 (fun _=>true) false fuel t cs=some (d,p)->∀(j:Nat) (v:Value),(dcs d)[j]?=some v->cs[j]?=some v:=by
 subst hd
 intro fuel cs p h j v hv
 have key:∀ i,i<=n->cs.take (i*fs.size)=Zj2 ((rows.take i).map fun r=>.agg (r.map fun z=>.lit (.int k z))):=by
  intro i
  induction i with
  | zero=>intro _;rw[Nat.zero_mul,List.take_zero,List.take_zero];rfl
  | succ i ih=>
   intro hi
   obtain⟨fuel',d',q,hdi,he'⟩:=array_elem ht h i (by omega)
   rw[List.getElem?_map,List.getElem?_eq_getElem (by omega:i<rows.length)]at hdi
   simp only[Option.map_some,Option.some.injEq]at hdi
   subst hdi
   rw[hce]at he'
   have hcs:=ints_of_struct he hf hce he'
   rw[Nat.succ_mul,List.take_add,ih (by omega),hcs,List.take_succ_eq_append_getElem (by omega:i<rows.length),List.map_append]
   have app:∀(a b:List (DataW Unit)),Zj2 (a++b)=Zj2 a++Zj2 b:=fun a b=>by
    induction a with
    | nil=>rfl
    | cons x a ih=>rw[List.cons_append,Zj2,Zj2,ih,List.append_assoc]
   rw[app,List.map_cons,List.map_nil,Zj2,dcs,ZfJ]
   simp[Zj2]
 have h2:=key n (Nat.le_refl _)
 rw[<- hn,List.take_length]at h2
 rw[dcs,<- h2]at hv
 rw[List.getElem?_take]at hv
 split at hv
 ·exact hv
 ·cases hv
abbrev Zd2:Known:=⟨[0,1]⟩
theorem Zj1 : @KnownU8 Zd2:=@KnownU8.mk Zd2 (List.mem_cons_self ..) (List.mem_cons_of_mem _ (List.mem_cons_self ..))
def ZoU:List Int:=Pinned.utf8FirstZ.map Int.ofNat
def Zn5:List (List Int):=[[128,191],[160,191],[128,159],[144,191],[128,143],[0,0],[0,0],[0,0],[0,0],[0,0],[0,0],[0,0],[0,0],[0,0],[0,0],[0,0]]
theorem ZoV {W:World}{laid:List (String × DataW Unit)}(h1:("unicode/utf8.first",Rows.laid_unicode_utf8_first) ∈ laid)(h2:("unicode/utf8.acceptRanges",Rows.laid_unicode_utf8_acceptRanges) ∈ laid)(h:laidMet Tryz.prog laid W) : @Gls Zd2 (g0 W).C W:=by
 have r1:=laidMet.reads h h1
 have r2:=laidMet.reads h h2
 have c1:=Zjp (P:=Tryz.prog) (g:=0) (t:=288) (by kernel_rfl) (by kernel_rfl) r1 (Zn3 ZoU (by kernel_rfl) (n:=256) (by kernel_rfl) Tryz.underlying5 (by kernel_rfl) (by kernel_rfl))
 have c2:=Zjp (P:=Tryz.prog) (g:=1) (t:=291) (by kernel_rfl) (by kernel_rfl) r2 (Zn4 Zn5 (by kernel_rfl) (n:=16) rfl Tryz.underlying291 Tryz.underlying290 (fun i f hf=>by
  match i,hf with
  | 0,hf=>simp at hf;subst hf;exact⟨Tryz.underlying5,rfl,by kernel_rfl⟩
  | 1,hf=>simp at hf;subst hf;exact⟨Tryz.underlying5,rfl,by kernel_rfl⟩
  | i+2,hf=>simp at hf) (by kernel_rfl))
 refine⟨fun k cs hk=>?_,fun k t hk=>?_⟩
 ·obtain⟨hk,hm⟩:=hk
  simp only[ZmJ,List.mem_cons,List.not_mem_nil,or_false,Prod.mk.injEq]at hm
  have hk:k ∈ [0,1]:=hk
  simp only[List.mem_cons,List.not_mem_nil,or_false]at hk
  clear r1 r2 h1 h2 h
  rcases hk with rfl|rfl
  all_goals repeat'(refine Or.elim hm (fun hm=>?_) (fun hm=>?_))
  all_goals first
   | (obtain⟨h,rfl⟩:=hm;exact c1)
   | (obtain⟨h,rfl⟩:=hm;exact c2)
   | (obtain⟨h,_⟩:=hm;exact absurd h (by decide))
 ·obtain⟨hk,hm⟩:=hk
  have hk:k ∈ [0,1]:=hk
  simp only[List.mem_cons,List.not_mem_nil,or_false]at hk
  simp only[ZpE,List.mem_cons,List.not_mem_nil,or_false,Prod.mk.injEq]at hm
  all_goals omega
end Go.Proofs.YtakblclkflnnpaaGreatDoor
end
section
open Go.RowKit Go.Pl Go.Av
namespace Go.Proofs.YtakblclkflnnpaaGreatDoor
theorem Zes (c0:List Value)(c1:List Value)(x0:XPr)(x1:It)(W:World)(h0:RPr.ok W (· < W.heap.size) c0 x0)(h1:∃ m,(RI m).1.ok W (· < W.heap.size) c1 x1)(hl:laidMet Tryz.prog Rows.primaryBlocksRow.laid W) :
  Calls Tryz.prog 3 #[.agg c0.toArray,.agg ⟨c1⟩] W fun e w'=>e=.returned (.bool true)/\Below W.heap.size W w':=by
 have hg:=ZoV (laid:=Rows.primaryBlocksRow.laid) (by unfold Rows.primaryBlocksRow;repeat (first|exact List.mem_cons_self .. | apply List.mem_cons_of_mem)) (by unfold Rows.primaryBlocksRow;repeat (first|exact List.mem_cons_self .. | apply List.mem_cons_of_mem)) hl
 have h:=@ZeO Zd2 Zj1 x0.v x1 (ZpC h0) (Zis h0).1 (Zis h0).2.1 (Zis h0).2.2 (ZlE _ h1.choose_spec)
 refine @ZpQ Zd2 Tryz.prog 3 _ (@AC.mono Zd2 _ _ _ _ _ _ _ h fun r b t h=>h.1) W [.agg c0.toArray,.agg ⟨c1⟩] hg rfl ?_
 intro j d v hd hv
 match j,hd,hv with
 | 0,hd,hv=>cases hd;cases hv;exact @Zql Zd2 _ _ _ h0
 | 1,hd,hv=>cases hd;cases hv;exact ZoT h1.choose_spec
 | j+2,hd,hv=>cases hd
end Go.Proofs.YtakblclkflnnpaaGreatDoor
end
