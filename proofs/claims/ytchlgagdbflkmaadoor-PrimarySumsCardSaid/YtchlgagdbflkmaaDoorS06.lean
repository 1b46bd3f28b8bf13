/- Tokens and variables let go. -/
import Derived.Test.YtchlgagdbflkmaaDoorS05
set_option linter.unusedSimpArgs false
set_option linter.unusedVariables false
section
open Go.RowKit Go.Pl
namespace Go.Av
mutual
def D.wk:D->D
 | .bool b=>.bool b
 | .int k n=>.int k n
 | .str s=>.str s
 | .sl _ l=>.sl .ext l
 | .nilp=>.nilp
 | .ptr b o=>.ptr b o
 | .eptr cs o=>.eptr cs o
 | .gptr k o=>.gptr k o
 | .bsl b o n c=>.bsl b o n c
 | .agg l=>.agg (D.wks l)
 | .tup l=>.tup (D.wks l)
 | .fn i l=>.fn i (D.wks l)
 | .nilf=>.nilf
 | .iface t d=>.iface t (D.wk d)
 | .nili=>.nili
 | .yl l=>.yl l
 | .mix l ds=>.mix l (D.wks ds)
 | .junk=>.junk
 | .row z l=>.row z l
def D.wks:List D->List D
 | []=>[]
 | d::l=>D.wk d::D.wks l
end
theorem YI (l:List D):D.wks l=l.map D.wk:=by
 induction l with
 | nil=>rfl
 | cons d l ih=>simp[D.wks,ih]
theorem V.wk {w:World}{g:G}{fr:List Fr}{d:D}{v:Value}(hV:V w g fr d v):V w g fr d.wk v:=by
 have key:∀ {l:List D} {vs:List Value},(∀(j:Nat) (d:D) (v:Value),l[j]?=some d->vs[j]?=some v->V w g fr d.wk v)->∀(j:Nat) (d:D) (v:Value),(D.wks l)[j]?=some d->vs[j]?=some v->V w g fr d v:=by
  intro l vs h j d v hd hv
  rw[YI,List.getElem?_map]at hd
  cases hj:l[j]? with
  | none=>simp[hj]at hd
  | some d0=>simp[hj]at hd;subst hd;exact h j d0 v hj hv
 induction hV with
 | bool b=>exact .bool b
 | int k n=>exact .int k n
 | str s h=>exact .str s h
 | sl t l v h hk=>exact .sl .ext l v h trivial
 | nilp=>exact .nilp
 | ptr b o blk h=>exact .ptr b o blk h
 | eptr cs o blk off us hc hw' hv=>exact .eptr cs o blk off us hc hw' hv
 | gptr k o=>exact .gptr k o
 | bsl b o n c blk cap hb h1 h2 h3=>exact .bsl b o n c blk cap hb h1 h2 h3
 | agg l vs hl _ ih=>exact .agg _ vs (by rw[YI];simpa using hl) (key ih)
 | tup l vs hl _ ih=>exact .tup _ vs (by rw[YI];simpa using hl) (key ih)
 | fn f l vs hl _ ih=>exact .fn f _ vs (by rw[YI];simpa using hl) (key ih)
 | nilf=>exact .nilf
 | iface t d v _ ih=>exact .iface t _ v ih
 | nili=>exact .nili
 | yl l=>exact .yl l
 | mix l ds v vs hl _ ih=>exact .mix l _ v vs (by rw[YI];simpa using hl) (key ih)
 | junk v=>exact .junk v
 | row z l v=>exact .row z l v
inductive Sub (tm:List (Nat × D)):List (Nat × D)->Prop
 | nil:Sub tm []
 | cons {t:Nat} {d:D} {l:List (Nat × D)} (h:look tm t=d) (k:Sub tm l):Sub tm ((t,d)::l)
 | wk {t:Nat} {d:D} {l:List (Nat × D)} (h:(look tm t).wk=d) (k:Sub tm l):Sub tm ((t,d)::l)
theorem Sub.look {tm:List (Nat × D)}{l:List (Nat × D)}(hs:Sub tm l)(t:Nat):look l t=.junk\/look l t=look tm t\/look l t=(look tm t).wk:=by
 induction hs with
 | nil=>exact .inl rfl
 | @cons k d l h s ih=>
  simp only[Go.Av.look]
  cases hb:Nat.beq k t with
  | true=>
   have:=Nat.eq_of_beq_eq_true hb
   subst this
   exact .inr (.inl h.symm)
  | false=>exact ih
 | @wk k d l h s ih=>
  simp only[Go.Av.look]
  cases hb:Nat.beq k t with
  | true=>
   have:=Nat.eq_of_beq_eq_true hb
   subst this
   exact .inr (.inr h.symm)
  | false=>exact ih
theorem Inv.sub [Known][Dfr]{b0:Bs}{n:Nat}{ee:Nat × Nat}{tm tm2:List (Nat × D)}{bx:List (List D)}{fr:List Fr}{g:G}{a:Act}{w:World}(h:Inv b0 ⟨n,tm,bx,fr,ee⟩ g a w)(hs:Sub tm tm2):Inv b0 ⟨n,tm2,bx,fr,ee⟩ g a w:=by
 refine⟨h.size,h.defers,h.mem,fun t=>?_,h.evo,h.bd⟩
 rcases hs.look t with e|e|e
 ·dsimp only;rw[e];exact .junk _
 ·dsimp only;rw[e];exact h.tm t
 ·dsimp only;rw[e];exact(h.tm t).wk
mutual
def D.lt (k m:Nat):D->Bool
 | .sl (.own i) _=>Nat.blt i m
 | .ptr b _=>Nat.blt b k
 | .bsl b _ _ _=>Nat.blt b k
 | .agg l=>D.lts k m l
 | .tup l=>D.lts k m l
 | .fn _ l=>D.lts k m l
 | .iface _ d=>D.lt k m d
 | .mix _ ds=>D.lts k m ds
 | _=>true
def D.lts (k m:Nat):List D->Bool
 | []=>true
 | d::l=>match D.lt k m d with
  | true=>D.lts k m l
  | false=>false
end
theorem WZ {k m:Nat}:∀ {l:List D} {j:Nat} {d:D},D.lts k m l=true->l[j]?=some d->D.lt k m d=true
 | [],j,d,_,h=>by simp at h
 | x::l,j,d,hl,h=>by
  simp only[D.lts]at hl
  cases hx:D.lt k m x with
  | false=>simp[hx]at hl
  | true=>
   simp only[hx]at hl
   cases j with
   | zero=>simp at h;subst h;exact hx
   | succ j=>simp at h;exact WZ hl h
theorem V.cutB {w:World}{g:G}{fr:List Fr}{d:D}{v:Value}{k m:Nat}(h:V w g fr d v)(hd:D.lt k m d=true):V w ⟨g.C,g.ρ.take k,g.τ.take m⟩ (fr.take m) d v:=by
 induction h with
 | bool b=>exact .bool b
 | int k n=>exact .int k n
 | str s h=>exact .str s h
 | sl t l v h hk=>
  refine .sl t l v h ?_
  cases t with
  | ext=>trivial
  | nil=>exact hk
  | zero=>exact hk
  | own i=>
   simp only[D.lt,Nat.blt_eq]at hd
   obtain⟨f,h1,h2,h3⟩:=hk
   refine⟨f,by rw[List.getElem?_take,if_pos hd];exact h1,h2,fun e=>?_⟩
   obtain⟨blk,cap,q1,q2⟩:=h3 e
   exact⟨blk,cap,q1,by show(g.τ.take m)[i]?=_;rw[List.getElem?_take,if_pos hd];exact q2⟩
 | nilp=>exact .nilp
 | ptr b o blk h=>
  simp only[D.lt,Nat.blt_eq]at hd
  exact .ptr b o blk (by show(g.ρ.take k)[b]?=_;rw[List.getElem?_take,if_pos hd];exact h)
 | eptr cs o blk off us hc hw' hv=>exact .eptr cs o blk off us hc hw' hv
 | gptr k o=>exact .gptr k o
 | bsl b o n c blk cap h h1 h2 h3=>
  simp only[D.lt,Nat.blt_eq]at hd
  exact .bsl b o n c blk cap (by show(g.ρ.take k)[b]?=_;rw[List.getElem?_take,if_pos hd];exact h) h1 h2 h3
 | agg l vs hl _ ih=>exact .agg l vs hl fun j d v hj hv=>ih j d v hj hv (WZ hd hj)
 | tup l vs hl _ ih=>exact .tup l vs hl fun j d v hj hv=>ih j d v hj hv (WZ hd hj)
 | fn f l vs hl _ ih=>exact .fn f l vs hl fun j d v hj hv=>ih j d v hj hv (WZ hd hj)
 | nilf=>exact .nilf
 | iface t d v _ ih=>exact .iface t d v (ih hd)
 | nili=>exact .nili
 | yl l=>exact .yl l
 | mix l ds v vs hl _ ih=>exact .mix l ds v vs hl fun j d v hj hv=>ih j d v hj hv (WZ hd hj)
 | junk v=>exact .junk v
 | row z l v=>exact .row z l v
def allLt (k m:Nat):List (List D)->Bool
 | []=>true
 | l::ls=>match D.lts k m l with
  | true=>allLt k m ls
  | false=>false
theorem QX {k m:Nat}:∀ {ls:List (List D)} {i:Nat} {l:List D},allLt k m ls=true->ls[i]?=some l->D.lts k m l=true
 | [],i,l,_,h=>by simp at h
 | x::ls,i,l,hl,h=>by
  simp only[allLt]at hl
  cases hx:D.lts k m x with
  | false=>simp[hx]at hl
  | true=>
   simp only[hx]at hl
   cases i with
   | zero=>simp at h;subst h;exact hx
   | succ i=>simp at h;exact QX hl h
def JU (k m:Nat):List (Nat × D)->Bool
 | []=>true
 | p::l=>match D.lt k m p.2 with
  | true=>JU k m l
  | false=>false
theorem QY {k m:Nat}:∀ {l:List (Nat × D)} (t:Nat),JU k m l=true->D.lt k m (look l t)=true
 | [],t,_=>rfl
 | (x,d)::l,t,h=>by
  simp only[JU]at h
  cases hd:D.lt k m d with
  | false=>simp[hd]at h
  | true=>
   simp only[hd]at h
   simp only[Go.Av.look]
   cases hb:Nat.beq x t with
   | true=>exact hd
   | false=>exact QY t h
theorem GQ (k m:Nat)(e:E):D.lt k m (D.ofC e)=true:=by
 cases e<;>simp only[D.ofC,D.lt]
theorem Hm {k m:Nat}{cs:List D}{j:Nat}{d:D}(h:D.lts k m cs=true)(hd:(D.ex cs)[j]?=some d):D.lt k m d=true:=by
 cases hr:D.isRow cs with
 | false=>rw[VN hr]at hd;exact WZ h hd
 | true=>
  have key:∀(l:List E) (j:Nat),(l.map D.ofC)[j]?=some d->D.lt k m d=true:=fun l j hd=>by
   rw[List.getElem?_map]at hd
   cases hl:l[j]? with
   | none=>simp[hl]at hd
   | some e=>simp[hl]at hd;subst hd;exact GQ k m e
  rcases VR hr with⟨z,l,rfl⟩ | ⟨l,ds,rfl⟩
  ·exact key l j hd
  ·have hd:(l.map D.ofC++ds)[j]?=some d:=hd
   have h2:D.lts k m ds=true:=by
    simp only[D.lts,D.lt]at h
    cases hx:D.lts k m ds with
    | true=>rfl
    | false=>rw[hx]at h;cases h
   rcases Nat.lt_or_ge j (l.map D.ofC).length with hj|hj
   ·rw[List.getElem?_append_left hj]at hd;exact key l j hd
   ·rw[List.getElem?_append_right hj]at hd;exact WZ h2 hd
theorem Inv.cut [Known][Dfr]{b0:Bs}{n k m:Nat}{ee:Nat × Nat}{tm:List (Nat × D)}{bx:List (List D)}{fr:List Fr}{g:G}{a:Act}{w:World}(h:Inv b0 ⟨n,tm,bx,fr,ee⟩ g a w)(hk:ee.1<=k)(hm:ee.2<=m)(htm:JU k m tm=true)(hbx:allLt k m (bx.take k)=true) :
  Inv b0 ⟨n,tm,bx.take k,fr.take m,ee⟩ ⟨g.C,g.ρ.take k,g.τ.take m⟩ a w:=by
 have hM:=h.mem
 have hbd:=h.bd
 dsimp only at hbd
 have hρ:∀(i b:Nat),(g.ρ.take k)[i]?=some b->i<k/\g.ρ[i]?=some b:=fun i b h=>by simpa[List.getElem?_take]using h
 have hτ:∀(i:Nat) (p:Nat × Nat),(g.τ.take m)[i]?=some p->i<m/\g.τ[i]?=some p:=fun i p h=>by simpa[List.getElem?_take]using h
 refine⟨h.size,h.defers,?_,fun t=>(h.tm t).cutB (QY t htm),?_,h.bd⟩
 ·constructor
  ·have:=hM.bl;simp at this ⊢;omega
  ·intro i blk cs h1 h2
   obtain⟨hi,h1⟩:=hρ i blk h1
   have h2' : bx[i]? = some cs := by have : i < k /\ bx[i]? = some cs := by simpa [List.getElem?_take] using h2
                                     exact this.2
   obtain⟨vs,ty,q1,q2,q3⟩:=hM.bat i blk cs h1 h2'
   exact⟨vs,ty,q1,q2,fun j d v hd hv=>(q3 j d v hd hv).cutB (Hm (QX hbx h2) hd)⟩
  ·intro blk o hb
   obtain⟨i,hi⟩:=List.getElem?_of_mem hb
   exact hM.bC blk o (List.mem_of_getElem? (hρ i blk hi).2)
  ·intro i j b h1 h2
   exact hM.bN i j b (hρ i b h1).2 (hρ j b h2).2
  ·have:=hM.tl;simp at this ⊢;omega
  ·intro i blk cap f h1 h2
   obtain⟨hi,h1⟩:=hτ i _ h1
   have h2:i<m/\fr[i]?=some f:=by simpa[List.getElem?_take]using h2
   exact(hM.tat i blk cap f h1 h2.2).same fun _ h=>h
  ·intro i j b c c' h1 h2
   exact hM.tN i j b c c' (hτ i _ h1).2 (hτ j _ h2).2
  ·intro b c h1 h2
   obtain⟨i,hi⟩:=List.getElem?_of_mem h1
   obtain⟨j,hj⟩:=List.getElem?_of_mem h2
   exact hM.tρ b c (List.mem_of_getElem? (hτ i _ hi).2) (List.mem_of_getElem? (hρ j b hj).2)
  ·exact hM.Clt
  ·exact hM.gl
 ·have he:=h.evo
  refine⟨he.os,he.tape,he.output,he.size,he.block,he.C,he.cell,he.newC,fun i b hb=>?_,fun b hb=>?_,fun b c hb=>?_,fun i f hf=>?_⟩
  ·have:=(List.getElem?_eq_some_iff.1 hb).1
   show(g.ρ.take k)[i]?=_
   rw[List.getElem?_take,if_pos (by omega)];exact he.ρp i b hb
  ·exact he.ρn b (List.mem_of_mem_take hb)
  ·exact he.τn b c (List.mem_of_mem_take hb)
  ·have:=(List.getElem?_eq_some_iff.1 hf).1
   obtain⟨f',h1,h2,h3⟩:=he.tok i f hf
   refine⟨f',by show(fr.take m)[i]?=_;rw[List.getElem?_take,if_pos (by omega)];exact h1,h2,fun e=>?_⟩
   show(g.τ.take m)[i]?=_
   rw[List.getElem?_take,if_pos (by omega)];exact h3 e
theorem VF {k m:Nat}:∀ {l:List D},(∀(j:Nat) (d:D),l[j]?=some d->D.lt k m d=true)->D.lts k m l=true
 | [],_=>rfl
 | d::l,h=>by
  simp only[D.lts,h 0 d rfl]
  exact VF fun j d hd=>h (j+1) d (by simpa using hd)
theorem V.lt {w:World}{g:G}{fr:List Fr}{d:D}{v:Value}{k:Nat}(h:V w g fr d v)(hk:g.ρ.length=k):D.lt k fr.length d=true:=by
 induction h with
 | sl t l v h hk=>
  cases t with
  | own i=>
   obtain⟨f,h1,_⟩:=hk
   simp only[D.lt,Nat.blt_eq]
   exact(List.getElem?_eq_some_iff.1 h1).1
  | _=>rfl
 | ptr b o blk h=>
  simp only[D.lt,Nat.blt_eq]
  have:=(List.getElem?_eq_some_iff.1 h).1
  omega
 | bsl b o n c blk cap h h1 h2 h3=>
  simp only[D.lt,Nat.blt_eq]
  have:=(List.getElem?_eq_some_iff.1 h).1
  omega
 | agg l vs hl _ ih=>
  simp only[D.lt]
  exact VF fun j d hd=>ih j d _ hd (List.getElem?_eq_getElem (by have:=(List.getElem?_eq_some_iff.1 hd).1;omega))
 | tup l vs hl _ ih=>
  simp only[D.lt]
  exact VF fun j d hd=>ih j d _ hd (List.getElem?_eq_getElem (by have:=(List.getElem?_eq_some_iff.1 hd).1;omega))
 | fn f l vs hl _ ih=>
  simp only[D.lt]
  exact VF fun j d hd=>ih j d _ hd (List.getElem?_eq_getElem (by have:=(List.getElem?_eq_some_iff.1 hd).1;omega))
 | iface t d v _ ih=>exact ih
 | mix l ds v vs hl _ ih=>
  simp only[D.lt]
  exact VF fun j d hd=>ih j d _ hd (List.getElem?_eq_getElem (by have:=(List.getElem?_eq_some_iff.1 hd).1;omega))
 | _=>rfl
theorem QZ {k m:Nat}:∀ {ls:List (List D)},(∀(i:Nat) (l:List D),ls[i]?=some l->D.lts k m l=true)->allLt k m ls=true
 | [],_=>rfl
 | l::ls,h=>by
  simp only[allLt,h 0 l rfl]
  exact QZ fun i l hl=>h (i+1) l (by simpa using hl)
theorem Mem.allLt [Known]{g:G}{bx:List (List D)}{fr:List Fr}{w:World}(hm:Mem g bx fr w):Go.Av.allLt bx.length fr.length bx=true:=
 QZ fun i l hl=>VF fun j d hd=>by
  have hi:=(List.getElem?_eq_some_iff.1 hl).1
  have hρ:i<g.ρ.length:=by rw[hm.bl];exact hi
  obtain⟨vs,ty,_,q2,q3⟩:=hm.bat0 i _ l (List.getElem?_eq_getElem hρ) hl
  have hj:=(List.getElem?_eq_some_iff.1 hd).1
  exact(q3 j d vs[j] hd (Array.getElem?_eq_getElem (by omega))).lt hm.bl
end Go.Av
end
