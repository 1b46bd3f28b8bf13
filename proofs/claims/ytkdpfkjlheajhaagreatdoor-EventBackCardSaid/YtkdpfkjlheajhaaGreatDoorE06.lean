/- Tokens and variables let go. -/
import Derived.Test.YtkdpfkjlheajhaaGreatDoorE05
set_option linter.unusedSimpArgs false
set_option linter.unusedVariables false
section
open Go.RowKit Go.Pl
namespace Go.Av
mutual
def D.wk:D->D
 | .bool b=>.bool b
 | .int k n=>.int k n
 | .str s=>.str s
 | .sl _ l=>.sl .ext l
 | .nilp=>.nilp
 | .ptr b o=>.ptr b o
 | .eptr cs o=>.eptr cs o
 | .gptr k o=>.gptr k o
 | .bsl b o n c=>.bsl b o n c
 | .agg l=>.agg (D.wks l)
 | .tup l=>.tup (D.wks l)
 | .fn i l=>.fn i (D.wks l)
 | .nilf=>.nilf
 | .iface t d=>.iface t (D.wk d)
 | .nili=>.nili
 | .junk=>.junk
 | .row z l=>.row z l
def D.wks:List D->List D
 | []=>[]
 | d::l=>D.wk d::D.wks l
end
theorem W1 (l:List D):D.wks l=l.map D.wk:=by
 induction l with
 | nil=>rfl
 | cons d l ih=>simp[D.wks,ih]
theorem V.wk {w:World}{g:G}{fr:List Fr}{d:D}{v:Value}(hV:V w g fr d v):V w g fr d.wk v:=by
 have key:∀ {l:List D} {vs:List Value},(∀(j:Nat) (d:D) (v:Value),l[j]?=some d->vs[j]?=some v->V w g fr d.wk v)->∀(j:Nat) (d:D) (v:Value),(D.wks l)[j]?=some d->vs[j]?=some v->V w g fr d v:=by
  intro l vs h j d v hd hv
  rw[W1,List.getElem?_map]at hd
  cases hj:l[j]? with
  | none=>simp[hj]at hd
  | some d0=>simp[hj]at hd;subst hd;exact h j d0 v hj hv
 induction hV with
 | bool b=>exact .bool b
 | int k n=>exact .int k n
 | str s h=>exact .str s h
 | sl t l v h hk=>exact .sl .ext l v h trivial
 | nilp=>exact .nilp
 | ptr b o blk h=>exact .ptr b o blk h
 | eptr cs o blk off us hc hw' hv=>exact .eptr cs o blk off us hc hw' hv
 | gptr k o=>exact .gptr k o
 | bsl b o n c blk cap hb h1 h2 h3=>exact .bsl b o n c blk cap hb h1 h2 h3
 | agg l vs hl _ ih=>exact .agg _ vs (by rw[W1];simpa using hl) (key ih)
 | tup l vs hl _ ih=>exact .tup _ vs (by rw[W1];simpa using hl) (key ih)
 | fn f l vs hl _ ih=>exact .fn f _ vs (by rw[W1];simpa using hl) (key ih)
 | nilf=>exact .nilf
 | iface t d v _ ih=>exact .iface t _ v ih
 | nili=>exact .nili
 | junk v=>exact .junk v
 | row z l v=>exact .row z l v
inductive Sub (tm:List (Nat × D)):List (Nat × D)->Prop
 | nil:Sub tm []
 | cons {t:Nat} {d:D} {l:List (Nat × D)} (h:look tm t=d) (k:Sub tm l):Sub tm ((t,d)::l)
 | wk {t:Nat} {d:D} {l:List (Nat × D)} (h:(look tm t).wk=d) (k:Sub tm l):Sub tm ((t,d)::l)
theorem Sub.look {tm:List (Nat × D)}{l:List (Nat × D)}(hs:Sub tm l)(t:Nat):look l t=.junk\/look l t=look tm t\/look l t=(look tm t).wk:=by
 induction hs with
 | nil=>exact .inl rfl
 | @cons k d l h s ih=>
  simp only[Go.Av.look]
  cases hb:Nat.beq k t with
  | true=>
   have:=Nat.eq_of_beq_eq_true hb
   subst this
   exact .inr (.inl h.symm)
  | false=>exact ih
 | @wk k d l h s ih=>
  simp only[Go.Av.look]
  cases hb:Nat.beq k t with
  | true=>
   have:=Nat.eq_of_beq_eq_true hb
   subst this
   exact .inr (.inr h.symm)
  | false=>exact ih
theorem Inv.sub [Known][Dfr]{b0:Bs}{n:Nat}{ee:Nat × Nat}{tm tm2:List (Nat × D)}{bx:List (List D)}{fr:List Fr}{g:G}{a:Act}{w:World}(h:Inv b0 ⟨n,tm,bx,fr,ee⟩ g a w)(hs:Sub tm tm2):Inv b0 ⟨n,tm2,bx,fr,ee⟩ g a w:=by
 refine⟨h.size,h.defers,h.mem,fun t=>?_,h.evo,h.bd⟩
 rcases hs.look t with e|e|e
 ·dsimp only;rw[e];exact .junk _
 ·dsimp only;rw[e];exact h.tm t
 ·dsimp only;rw[e];exact(h.tm t).wk
mutual
def D.lt (k m:Nat):D->Bool
 | .sl (.own i) _=>Nat.blt i m
 | .ptr b _=>Nat.blt b k
 | .bsl b _ _ _=>Nat.blt b k
 | .agg l=>D.lts k m l
 | .tup l=>D.lts k m l
 | .fn _ l=>D.lts k m l
 | .iface _ d=>D.lt k m d
 | _=>true
def D.lts (k m:Nat):List D->Bool
 | []=>true
 | d::l=>match D.lt k m d with
  | true=>D.lts k m l
  | false=>false
end
theorem Jl {k m:Nat}:∀ {l:List D} {j:Nat} {d:D},D.lts k m l=true->l[j]?=some d->D.lt k m d=true
 | [],j,d,_,h=>by simp at h
 | x::l,j,d,hl,h=>by
  simp only[D.lts]at hl
  cases hx:D.lt k m x with
  | false=>simp[hx]at hl
  | true=>
   simp only[hx]at hl
   cases j with
   | zero=>simp at h;subst h;exact hx
   | succ j=>simp at h;exact Jl hl h
theorem V.cutB {w:World}{g:G}{fr:List Fr}{d:D}{v:Value}{k m:Nat}(h:V w g fr d v)(hd:D.lt k m d=true):V w ⟨g.C,g.ρ.take k,g.τ.take m⟩ (fr.take m) d v:=by
 induction h with
 | bool b=>exact .bool b
 | int k n=>exact .int k n
 | str s h=>exact .str s h
 | sl t l v h hk=>
  refine .sl t l v h ?_
  cases t with
  | ext=>trivial
  | nil=>exact hk
  | zero=>exact hk
  | own i=>
   simp only[D.lt,Nat.blt_eq]at hd
   obtain⟨f,h1,h2,h3⟩:=hk
   refine⟨f,by rw[List.getElem?_take,if_pos hd];exact h1,h2,fun e=>?_⟩
   obtain⟨blk,cap,q1,q2⟩:=h3 e
   exact⟨blk,cap,q1,by show(g.τ.take m)[i]?=_;rw[List.getElem?_take,if_pos hd];exact q2⟩
 | nilp=>exact .nilp
 | ptr b o blk h=>
  simp only[D.lt,Nat.blt_eq]at hd
  exact .ptr b o blk (by show(g.ρ.take k)[b]?=_;rw[List.getElem?_take,if_pos hd];exact h)
 | eptr cs o blk off us hc hw' hv=>exact .eptr cs o blk off us hc hw' hv
 | gptr k o=>exact .gptr k o
 | bsl b o n c blk cap h h1 h2 h3=>
  simp only[D.lt,Nat.blt_eq]at hd
  exact .bsl b o n c blk cap (by show(g.ρ.take k)[b]?=_;rw[List.getElem?_take,if_pos hd];exact h) h1 h2 h3
 | agg l vs hl _ ih=>exact .agg l vs hl fun j d v hj hv=>ih j d v hj hv (Jl hd hj)
 | tup l vs hl _ ih=>exact .tup l vs hl fun j d v hj hv=>ih j d v hj hv (Jl hd hj)
 | fn f l vs hl _ ih=>exact .fn f l vs hl fun j d v hj hv=>ih j d v hj hv (Jl hd hj)
 | nilf=>exact .nilf
 | iface t d v _ ih=>exact .iface t d v (ih hd)
 | nili=>exact .nili
 | junk v=>exact .junk v
 | row z l v=>exact .row z l v
def allLt (k m:Nat):List (List D)->Bool
 | []=>true
 | l::ls=>match D.lts k m l with
  | true=>allLt k m ls
  | false=>false
theorem Oe {k m:Nat}:∀ {ls:List (List D)} {i:Nat} {l:List D},allLt k m ls=true->ls[i]?=some l->D.lts k m l=true
 | [],i,l,_,h=>by simp at h
 | x::ls,i,l,hl,h=>by
  simp only[allLt]at hl
  cases hx:D.lts k m x with
  | false=>simp[hx]at hl
  | true=>
   simp only[hx]at hl
   cases i with
   | zero=>simp at h;subst h;exact hx
   | succ i=>simp at h;exact Oe hl h
def Ie (k m:Nat):List (Nat × D)->Bool
 | []=>true
 | p::l=>match D.lt k m p.2 with
  | true=>Ie k m l
  | false=>false
theorem Of {k m:Nat}:∀ {l:List (Nat × D)} (t:Nat),Ie k m l=true->D.lt k m (look l t)=true
 | [],t,_=>rfl
 | (x,d)::l,t,h=>by
  simp only[Ie]at h
  cases hd:D.lt k m d with
  | false=>simp[hd]at h
  | true=>
   simp only[hd]at h
   simp only[Go.Av.look]
   cases hb:Nat.beq x t with
   | true=>exact hd
   | false=>exact Of t h
theorem R7 (k m:Nat)(e:E):D.lt k m (D.ofC e)=true:=by
 cases e<;>simp only[D.ofC,D.lt]
theorem SU {k m:Nat}{cs:List D}{j:Nat}{d:D}(h:D.lts k m cs=true)(hd:(D.ex cs)[j]?=some d):D.lt k m d=true:=by
 cases hr:D.isRow cs with
 | false=>rw[Q1 hr]at hd;exact Jl h hd
 | true=>
  obtain⟨z,l,rfl⟩:=Q7 hr
  have hd:(l.map D.ofC)[j]?=some d:=hd
  rw[List.getElem?_map]at hd
  cases hl:l[j]? with
  | none=>simp[hl]at hd
  | some e=>simp[hl]at hd;subst hd;exact R7 k m e
theorem Inv.cut [Known][Dfr]{b0:Bs}{n k m:Nat}{ee:Nat × Nat}{tm:List (Nat × D)}{bx:List (List D)}{fr:List Fr}{g:G}{a:Act}{w:World}(h:Inv b0 ⟨n,tm,bx,fr,ee⟩ g a w)(hk:ee.1<=k)(hm:ee.2<=m)(htm:Ie k m tm=true)(hbx:allLt k m (bx.take k)=true) :
  Inv b0 ⟨n,tm,bx.take k,fr.take m,ee⟩ ⟨g.C,g.ρ.take k,g.τ.take m⟩ a w:=by
 have hM:=h.mem
 have hbd:=h.bd
 dsimp only at hbd
 have hρ:∀(i b:Nat),(g.ρ.take k)[i]?=some b->i<k/\g.ρ[i]?=some b:=fun i b h=>by simpa[List.getElem?_take]using h
 have hτ:∀(i:Nat) (p:Nat × Nat),(g.τ.take m)[i]?=some p->i<m/\g.τ[i]?=some p:=fun i p h=>by simpa[List.getElem?_take]using h
 refine⟨h.size,h.defers,?_,fun t=>(h.tm t).cutB (Of t htm),?_,h.bd⟩
 ·constructor
  ·have:=hM.bl;simp at this ⊢;omega
  ·intro i blk cs h1 h2
   obtain⟨hi,h1⟩:=hρ i blk h1
   have h2' : bx[i]? = some cs := by have : i < k /\ bx[i]? = some cs := by simpa [List.getElem?_take] using h2
                                     exact this.2
   obtain⟨vs,ty,q1,q2,q3⟩:=hM.bat i blk cs h1 h2'
   exact⟨vs,ty,q1,q2,fun j d v hd hv=>(q3 j d v hd hv).cutB (SU (Oe hbx h2) hd)⟩
  ·intro blk o hb
   obtain⟨i,hi⟩:=List.getElem?_of_mem hb
   exact hM.bC blk o (List.mem_of_getElem? (hρ i blk hi).2)
  ·intro i j b h1 h2
   exact hM.bN i j b (hρ i b h1).2 (hρ j b h2).2
  ·have:=hM.tl;simp at this ⊢;omega
  ·intro i blk cap f h1 h2
   obtain⟨hi,h1⟩:=hτ i _ h1
   have h2:i<m/\fr[i]?=some f:=by simpa[List.getElem?_take]using h2
   exact(hM.tat i blk cap f h1 h2.2).same fun _ h=>h
  ·intro i j b c c' h1 h2
   exact hM.tN i j b c c' (hτ i _ h1).2 (hτ j _ h2).2
  ·intro b c h1 h2
   obtain⟨i,hi⟩:=List.getElem?_of_mem h1
   obtain⟨j,hj⟩:=List.getElem?_of_mem h2
   exact hM.tρ b c (List.mem_of_getElem? (hτ i _ hi).2) (List.mem_of_getElem? (hρ j b hj).2)
  ·exact hM.Clt
  ·exact hM.gl
 ·have he:=h.evo
  refine⟨he.os,he.tape,he.output,he.size,he.block,he.C,he.cell,he.newC,fun i b hb=>?_,fun b hb=>?_,fun b c hb=>?_,fun i f hf=>?_⟩
  ·have:=(List.getElem?_eq_some_iff.1 hb).1
   show(g.ρ.take k)[i]?=_
   rw[List.getElem?_take,if_pos (by omega)];exact he.ρp i b hb
  ·exact he.ρn b (List.mem_of_mem_take hb)
  ·exact he.τn b c (List.mem_of_mem_take hb)
  ·have:=(List.getElem?_eq_some_iff.1 hf).1
   obtain⟨f',h1,h2,h3⟩:=he.tok i f hf
   refine⟨f',by show(fr.take m)[i]?=_;rw[List.getElem?_take,if_pos (by omega)];exact h1,h2,fun e=>?_⟩
   show(g.τ.take m)[i]?=_
   rw[List.getElem?_take,if_pos (by omega)];exact h3 e
theorem Jm {k m:Nat}:∀ {l:List D},(∀(j:Nat) (d:D),l[j]?=some d->D.lt k m d=true)->D.lts k m l=true
 | [],_=>rfl
 | d::l,h=>by
  simp only[D.lts,h 0 d rfl]
  exact Jm fun j d hd=>h (j+1) d (by simpa using hd)
theorem V.lt {w:World}{g:G}{fr:List Fr}{d:D}{v:Value}{k:Nat}(h:V w g fr d v)(hk:g.ρ.length=k):D.lt k fr.length d=true:=by
 induction h with
 | sl t l v h hk=>
  cases t with
  | own i=>
   obtain⟨f,h1,_⟩:=hk
   simp only[D.lt,Nat.blt_eq]
   exact(List.getElem?_eq_some_iff.1 h1).1
  | _=>rfl
 | ptr b o blk h=>
  simp only[D.lt,Nat.blt_eq]
  have:=(List.getElem?_eq_some_iff.1 h).1
  omega
 | bsl b o n c blk cap h h1 h2 h3=>
  simp only[D.lt,Nat.blt_eq]
  have:=(List.getElem?_eq_some_iff.1 h).1
  omega
 | agg l vs hl _ ih=>
  simp only[D.lt]
  exact Jm fun j d hd=>ih j d _ hd (List.getElem?_eq_getElem (by have:=(List.getElem?_eq_some_iff.1 hd).1;omega))
 | tup l vs hl _ ih=>
  simp only[D.lt]
  exact Jm fun j d hd=>ih j d _ hd (List.getElem?_eq_getElem (by have:=(List.getElem?_eq_some_iff.1 hd).1;omega))
 | fn f l vs hl _ ih=>
  simp only[D.lt]
  exact Jm fun j d hd=>ih j d _ hd (List.getElem?_eq_getElem (by have:=(List.getElem?_eq_some_iff.1 hd).1;omega))
 | iface t d v _ ih=>exact ih
 | _=>rfl
theorem Og {k m:Nat}:∀ {ls:List (List D)},(∀(i:Nat) (l:List D),ls[i]?=some l->D.lts k m l=true)->allLt k m ls=true
 | [],_=>rfl
 | l::ls,h=>by
  simp only[allLt,h 0 l rfl]
  exact Og fun i l hl=>h (i+1) l (by simpa using hl)
theorem Mem.allLt [Known]{g:G}{bx:List (List D)}{fr:List Fr}{w:World}(hm:Mem g bx fr w):Go.Av.allLt bx.length fr.length bx=true:=
 Og fun i l hl=>Jm fun j d hd=>by
  have hi:=(List.getElem?_eq_some_iff.1 hl).1
  have hρ:i<g.ρ.length:=by rw[hm.bl];exact hi
  obtain⟨vs,ty,_,q2,q3⟩:=hm.bat0 i _ l (List.getElem?_eq_getElem hρ) hl
  have hj:=(List.getElem?_eq_some_iff.1 hd).1
  exact(q3 j d vs[j] hd (Array.getElem?_eq_getElem (by omega))).lt hm.bl
end Go.Av
end
section
open Go.RowKit Go.Pl
namespace Go.Av
def U4 (ms:List Nat):List Edge->Nat
 | []=>0
 | e::es=>match Region.binds .any e with
  | true=>((1 <<< e.on) ||| ms.getD e.on 0) ||| U4 ms es
  | false=>U4 ms es
def YR:List Nat->List Oper->List Nat
 | ms,[]=>ms
 | ms,o::l=>YR (ms++[U4 ms o.after.toList]) l
def up (ms:List Nat)(j i:Nat):Bool:=(ms.getD j 0).testBit i
def WB (l:List Oper)(o:Oper):List Nat:=o.looksAt l.toArray
def Vw (ms:List Nat)(l:List Oper)(i j:Nat):Bool:=
 match l[i]?,l[j]? with
 | some oi,some oj=>match oi.dst with
  | some t=>oj.dst != some t&&(!(WB l oj).contains t||(if i<j then up ms j i else up ms i j))
  | none=>true
 | _,_=>true
def Y8 (l:List Oper):Bool:=
 (List.range l.length).all fun i=>(List.range l.length).all fun j=>decide (i=j)||Vw (YR [] l) l i j
def Yx (l:List Oper)(o:Oper):List (Nat × D)->List (Nat × D)
 | []=>[]
 | p::tm=>match(WB l o).contains p.1 with
  | true=>p::Yx l o tm
  | false=>Yx l o tm
def qp (t:Nat)(d:D)(bx:List (List D))(fr:List Fr):X->St->Prop
 | .norm,S=>(S.bx=bx/\S.fr=fr/\look S.tm t=d)\/(S.bx.take bx.length=bx/\S.fr.take fr.length=fr/\(look S.tm t=d\/(look S.tm t).wk=d)/\D.lt bx.length fr.length d=true)
 | _,_=>False
theorem YE {t n:Nat}{ee:Nat × Nat}{d:D}{tm:List (Nat × D)}{bx:List (List D)}{fr:List Fr}(h:nf (look tm t)=some d):qp t d bx fr .norm ⟨n,tm,bx,fr,ee⟩:=.inl ⟨rfl,rfl,Y2 h⟩
theorem SV {t n:Nat}{ee:Nat × Nat}{d:D}{tm:List (Nat × D)}{bx bx':List (List D)}{fr fr':List Fr}(hb:nfb (bx'.take bx.length)=some bx)(hf:nfl (fr'.take fr.length)=some fr)(h:nf (look tm t).wk=some d)(hd:D.lt bx.length fr.length d=true):qp t d bx fr .norm ⟨n,tm,bx',fr',ee⟩:=.inr ⟨Vk hb,YV hf,.inr (Y2 h),hd⟩
inductive AD [Known][Dfr](P:Program) (l:List Oper) (n:Nat) (bx:List (List D)) (fr:List Fr):List Oper->List (Nat × D)->List (Nat × D)->Prop
 | nil (tm:List (Nat × D)):AD P l n bx fr [] tm tm
 | cons (o:Oper) (rest:List Oper) (t:Nat) (d:D) (tm tm':List (Nat × D)) (hd:o.dst=some t) (ht:Nat.blt t n=true) (h:AL P l.toArray [o] ⟨n,Yx l o tm,bx,fr,(bx.length,fr.length)⟩ (qp t d bx fr)) (k:AD P l n bx fr rest ((t,d)::tm) tm'):AD P l n bx fr (o::rest) tm tm'
theorem Vn {l:List Oper}{o:Oper}{t:Nat}:∀(tm:List (Nat × D)),t ∈ WB l o->look (Yx l o tm) t=look tm t
 | [],_=>rfl
 | p::tm,h=>by
  obtain⟨k,d⟩:=p
  simp only[Yx]
  cases hc:(WB l o).contains k with
  | true=>
   simp only[look]
   rw[Vn tm h]
  | false=>
   simp only[look]
   have hne:Nat.beq k t=false:=by
    cases hb:Nat.beq k t with
    | false=>rfl
    | true=>
     have:=Nat.eq_of_beq_eq_true hb
     subst this
     simp[h]at hc
   rw[hne]
   exact Vn tm h
theorem Wh {l:List Oper}{o:Oper}{t:Nat}:∀(tm:List (Nat × D)),t ∉ WB l o->look (Yx l o tm) t=.junk
 | [],_=>rfl
 | p::tm,h=>by
  obtain⟨k,d⟩:=p
  simp only[Yx]
  cases hc:(WB l o).contains k with
  | true=>
   simp only[look]
   have hne:Nat.beq k t=false:=by
    cases hb:Nat.beq k t with
    | false=>rfl
    | true=>
     have:=Nat.eq_of_beq_eq_true hb
     subst this
     simp[h]at hc
   rw[hne]
   exact Wh tm h
  | false=>exact Wh tm h
section
variable {P:Program} {Q:X->St->Prop} {n:Nat} {ee:Nat × Nat} {tm tm':List (Nat × D)} {bx bx':List (List D)} {fr fr':List Fr} {b0:Bs} {g:G} {w:World} {a:Act}
theorem AD.steps [Known][Dfr]{l:List Oper}{rest:List Oper}(h:AD P l n bx fr rest tm tm'):∃ ds:List (Nat × D),ds.length=rest.length/\tm'=ds.reverse++tm/\∀(i:Nat) (o:Oper),rest[i]?=some o->∃ t d,ds[i]?=some (t,d)/\o.dst=some t/\Nat.blt t n=true/\AL P l.toArray [o] ⟨n,Yx l o ((ds.take i).reverse++tm),bx,fr,(bx.length,fr.length)⟩ (qp t d bx fr):=by
 induction h with
 | nil tm=>exact⟨[],rfl,rfl,fun i o h=>by simp at h⟩
 | cons o rest t d tm tm' hd ht h k ih=>
  obtain⟨ds,h1,h2,h3⟩:=ih
  refine⟨(t,d)::ds,by simp[h1],by simp[h2],fun i o' ho=>?_⟩
  cases i with
  | zero=>simp at ho;subst ho;exact⟨t,d,rfl,hd,ht,by simpa using h⟩
  | succ i=>
   simp at ho
   obtain⟨t',d',q1,q2,q3,q4⟩:=h3 i o' ho
   exact⟨t',d',by simpa using q1,q2,q3,by simpa using q4⟩
theorem Kh {L:List Deferred}{o:Oper}{K:Act->World->Prop}{Q' Q2:Exit->Act->World->Prop}{r:Result Next}(h:o.upon P a K Q' r)(ha:a.defers=L)(hd:∀ a w,K a w->a.defers=L)(hQ:∀ c a w,Q' (.panic c) a w->False)(hL:LetsOut Q'->False) :
  o.upon P a (fun a' w'=>(∃ v,a'=a.put o.dst v)/\K a' w') Q2 r:=by
 cases r with
 | ok nx w'=>
  cases nx<;>simp only[Oper.upon]at h ⊢
  case value v=>exact⟨⟨v,rfl⟩,h⟩
  case skip=>exact⟨⟨undef,rfl⟩,h⟩
  case defer d=>
   have:=hd _ _ h
   have:=congrArg List.length this
   cases hdst:o.dst<;>simp[Act.put,hdst,ha]at this
  case enter f args=>
   refine Calls.mono h (fun e w'' he=>?_)
   cases e with
   | returned u=>exact⟨⟨u,rfl⟩,he⟩
   | panicked c=>exact(hQ _ _ _ he).elim
   | outgrown=>exact(hL he).elim
  case row row args=>exact Rows.mono h fun u w'' he=>⟨⟨u,rfl⟩,he⟩
 | halt x w'=>
  cases x<;>simp only[Oper.upon]at h ⊢
  case panic u=>exact(hQ _ _ _ h).elim
theorem J1 {ms:List Nat}{i:Nat}:∀ {es:List Edge},(U4 ms es).testBit i=true->∃ e ∈ es,Region.binds .any e=true/\(i=e.on\/(ms.getD e.on 0).testBit i=true)
 | [],h=>by simp[U4]at h
 | e::es,h=>by
  simp only[U4]at h
  cases hb:Region.binds .any e with
  | false=>
   simp only[hb]at h
   obtain⟨e',h1,h2⟩:=J1 h
   exact⟨e',by simp[h1],h2⟩
  | true=>
   simp only[hb,Nat.testBit_or,Bool.or_eq_true]at h
   rcases h with(h|h)|h
   ·refine⟨e,by simp,hb,.inl ?_⟩
    rw[Nat.shiftLeft_eq,Nat.one_mul,Nat.testBit_two_pow]at h
    simpa[eq_comm]using h
   ·exact⟨e,by simp,hb,.inr h⟩
   ·obtain⟨e',h1,h2⟩:=J1 h
    exact⟨e',by simp[h1],h2⟩
theorem Oh:∀(l:List Oper) (ms:List Nat),∃ r,YR ms l=ms++r/\r.length=l.length
 | [],ms=>⟨[],by simp[YR],rfl⟩
 | o::l,ms=>by
  obtain⟨r,h1,h2⟩:=Oh l (ms++[U4 ms o.after.toList])
  exact⟨U4 ms o.after.toList::r,by simp[YR,h1],by simp[h2]⟩
theorem Oi:∀(l:List Oper) (ms:List Nat) (j:Nat) (o:Oper),l[j]?=some o->∃ r,YR ms l=r++(YR ms l).drop (ms.length+j)/\r.length=ms.length+j/\(YR ms l)[ms.length+j]?=some (U4 r o.after.toList)
 | o0::l,ms,0,o,h=>by
  simp at h;subst h
  obtain⟨r,h1,h2⟩:=Oh l (ms++[U4 ms o0.after.toList])
  refine⟨ms,?_,by simp,?_⟩
  ·simp[YR,h1]
  ·simp[YR,h1]
 | o0::l,ms,j+1,o,h=>by
  simp at h
  obtain⟨r,h1,h2,h3⟩:=Oi l (ms++[U4 ms o0.after.toList]) j o h
  have e:(ms++[U4 ms o0.after.toList]).length+j=ms.length+(j+1):=by simp;omega
  rw[e]at h1 h2 h3
  exact⟨r,h1,h2,h3⟩
 | [],ms,j,o,h=>by simp at h
theorem W2 {l:List Oper}{listed:Array Bool}(hc:∀(m:Nat) (o:Oper),l[m]?=some o->listed.getD m false=true->∀ e ∈ o.after,Region.binds .any e=true->listed.getD e.on false=true) :
  ∀(i:Nat) (o:Oper),l[i]?=some o->(∀ e ∈ o.after,Region.binds .any e=true->listed.getD e.on false=true)->∀ k,up (YR [] l) i k=true->listed.getD k false=true:=by
 intro i
 induction i using Nat.strongRecOn with
 | _ i ih=>
  intro o ho hr k hk
  obtain⟨r,h1,h2,h3⟩:=Oi l [] i o ho
  simp only[List.length_nil,Nat.zero_add]at h1 h2 h3
  unfold up at hk
  rw[List.getD_eq_getElem?_getD,h3,Option.getD_some]at hk
  obtain⟨e,he,hb,hor⟩:=J1 hk
  have hle:=hr e (by simpa using he) hb
  rcases hor with rfl|hor
  ·exact hle
  ·have hlt:e.on<i:=by
    rcases Nat.lt_or_ge e.on i with h|h
    ·exact h
    ·exfalso
     rw[List.getD_eq_getElem?_getD,List.getElem?_eq_none (by omega)]at hor
     simp at hor
   have hil:i<l.length:=(List.getElem?_eq_some_iff.1 ho).1
   have hoe:l[e.on]?=some l[e.on]:=List.getElem?_eq_getElem (by omega)
   refine ih e.on hlt l[e.on] hoe (hc e.on _ hoe hle) k ?_
   unfold up
   rw[h1,List.getD_eq_getElem?_getD,List.getElem?_append_left (by omega),<- List.getD_eq_getElem?_getD]
   exact hor
def cur (l:List Oper)(ds:List (Nat × D))(tm:List (Nat × D))(listed:Array Bool)(t:Nat):D:=
 match(List.range l.length).find? (fun i=>listed.getD i false&&((ds[i]?).map (·.1)==some t)) with
 | some i=>((ds[i]?).map (·.2)).getD .junk
 | none=>look tm t
structure Mid [Known][Dfr](b0:Bs) (ee:Nat × Nat) (n:Nat) (tm:List (Nat × D)) (bx:List (List D)) (fr:List Fr) (l:List Oper) (ds:List (Nat × D)) (listed:Array Bool) (g:G) (a:Act) (w:World):Prop where
 bd:b0.g.ρ.length<=ee.1/\b0.fr.length<=ee.2
 size:a.tmps.size=n
 defers:a.defers=Dfr.l
 mem:Mem g bx fr w
 evo:Evo b0 ⟨g,fr,w⟩
 tm:∀ t,V w g fr (cur l ds tm listed t) (a.tmps.getD t undef)
 closed:∀(m:Nat) (o:Oper),l[m]?=some o->listed.getD m false=true->∀ e ∈ o.after,Region.binds .any e=true->listed.getD e.on false=true
 len:listed.size=l.length
theorem Ue {l:List Oper}(h:Y8 l=true){i j:Nat}(hi:i<l.length)(hj:j<l.length)(hne:i ≠ j):Vw (YR [] l) l i j=true:=by
 have h1:=List.all_eq_true.1 h i (List.mem_range.2 hi)
 have h2:=List.all_eq_true.1 h1 j (List.mem_range.2 hj)
 simpa[hne]using h2
theorem WU (a:List (Nat × D))(b:List (Nat × D))(t:Nat):look (a++b) t=if t ∈ a.map (·.1) then look a t else look b t:=by
 induction a with
 | nil=>simp
 | cons p a ih=>
  obtain⟨k,d⟩:=p
  simp only[List.cons_append,look,List.map_cons,List.mem_cons]
  cases hb:Nat.beq k t with
  | true=>
   have:=Nat.eq_of_beq_eq_true hb
   subst this
   rw[if_pos (by simp)]
  | false=>
   have hne:t ≠ k:=fun e=>by subst e;simp at hb
   dsimp only
   rw[ih]
   by_cases hm:t ∈ a.map (·.1)
   ·rw[if_pos hm,if_pos (.inr hm)]
   ·rw[if_neg hm,if_neg (fun h=>h.elim hne hm)]
theorem XS {ds:List (Nat × D)}(hN:∀(i j:Nat) (p q:Nat × D),ds[i]?=some p->ds[j]?=some q->p.1=q.1->i=j):∀ {i:Nat} {t:Nat} {d:D},ds[i]?=some (t,d)->look ds t=d:=by
 induction ds with
 | nil=>intro i t d h;simp at h
 | cons p ds ih=>
  intro i t d h
  obtain⟨k,d0⟩:=p
  simp only[look]
  cases i with
  | zero=>simp at h;obtain⟨rfl,rfl⟩:=h;rw[Nat.beq_refl]
  | succ i=>
   simp at h
   cases hb:Nat.beq k t with
   | true=>
    have:=Nat.eq_of_beq_eq_true hb
    subst this
    have:=hN 0 (i+1) (k,d0) (k,d) rfl (by simpa using h) rfl
    omega
   | false=>
    exact ih (fun i j p q h1 h2 e=>by have:=hN (i+1) (j+1) p q (by simpa using h1) (by simpa using h2) e;omega) h
theorem Wc {l:List Oper}{ds:List (Nat × D)}{tm:List (Nat × D)}{listed:Array Bool}(hN:∀(i j:Nat) (p q:Nat × D),ds[i]?=some p->ds[j]?=some q->p.1=q.1->i=j)(hl:ds.length<=l.length){j t:Nat}{d:D}(hj:ds[j]?=some (t,d)) :
  cur l ds tm listed t=if listed.getD j false=true then d else look tm t:=by
 unfold cur
 have hjl:j<l.length:=Nat.lt_of_lt_of_le (List.getElem?_eq_some_iff.1 hj).1 hl
 cases hf:(List.range l.length).find? (fun i=>listed.getD i false&&((ds[i]?).map (·.1)==some t)) with
 | some i=>
  have:=List.find?_some hf
  simp only[Bool.and_eq_true,beq_iff_eq]at this
  obtain⟨h1,h2⟩:=this
  cases hi:ds[i]? with
  | none=>simp[hi]at h2
  | some p=>
   simp[hi]at h2
   have:=hN i j p (t,d) hi hj h2
   subst this
   rw[if_pos h1]
   show((ds[i]?).map (·.2)).getD .junk=d
   rw[hj]
   rfl
 | none=>
  have:=List.find?_eq_none.1 hf j (List.mem_range.2 hjl)
  simp only[hj,Option.map_some,beq_self_eq_true,Bool.and_true,Bool.not_eq_true]at this
  rw[if_neg (by rw[this];simp)]
theorem WA {l:List Oper}{ds:List (Nat × D)}{tm:List (Nat × D)}{listed:Array Bool}{t:Nat}(h:∀(j:Nat) (p:Nat × D),ds[j]?=some p->p.1 ≠ t):cur l ds tm listed t=look tm t:=by
 unfold cur
 cases hf:(List.range l.length).find? (fun i=>listed.getD i false&&((ds[i]?).map (·.1)==some t)) with
 | some i=>
  have:=List.find?_some hf
  simp only[Bool.and_eq_true,beq_iff_eq]at this
  cases hi:ds[i]? with
  | none=>simp[hi]at this
  | some p=>simp[hi]at this;exact(h i p hi this.2).elim
 | none=>rfl
theorem J2 {l:List Oper}{ds:List (Nat × D)}{tm:List (Nat × D)}{listed:Array Bool}(hchk:Y8 l=true)(hl:ds.length<=l.length)(hdst:∀(i:Nat) (o:Oper),l[i]?=some o->i<ds.length->∃ t d,ds[i]?=some (t,d)/\o.dst=some t)
  (hcl:∀(m:Nat) (o:Oper),l[m]?=some o->listed.getD m false=true->∀ e ∈ o.after,Region.binds .any e=true->listed.getD e.on false=true)
  {i:Nat} {o:Oper} (hi:l[i]?=some o) (hni:listed.getD i false=false) (hr:∀ e ∈ o.after,Region.binds .any e=true->listed.getD e.on false=true) (hid:i<=ds.length) {t:Nat} (ht:t ∈ WB l o) :
  cur l ds tm listed t=look ((ds.take i).reverse++tm) t:=by
 have hil:i<l.length:=(List.getElem?_eq_some_iff.1 hi).1
 have hN:∀(i j:Nat) (p q:Nat × D),ds[i]?=some p->ds[j]?=some q->p.1=q.1->i=j:=fun x y p q hx hy e=>by
  by_cases hxy:x=y
  ·exact hxy
  ·exfalso
   have hxd:=(List.getElem?_eq_some_iff.1 hx).1
   have hxl:x<l.length:=Nat.lt_of_lt_of_le hxd hl
   have hyd:=(List.getElem?_eq_some_iff.1 hy).1
   have hyl:y<l.length:=Nat.lt_of_lt_of_le hyd hl
   have hc:=Ue hchk hxl hyl hxy
   obtain⟨t1,d1,a1,a2⟩:=hdst x _ (List.getElem?_eq_getElem hxl) hxd
   obtain⟨t2,d2,c1,c2⟩:=hdst y _ (List.getElem?_eq_getElem hyl) hyd
   rw[hx]at a1;injection a1 with a1
   rw[hy]at c1;injection c1 with c1
   simp only[Vw,List.getElem?_eq_getElem hxl,List.getElem?_eq_getElem hyl,a2,c2,Bool.and_eq_true,bne_iff_ne,ne_eq,Option.some.injEq]at hc
   rw[a1,c1]at e
   exact hc.1 e.symm
 by_cases hex:∃(j:Nat) (d:D),ds[j]?=some (t,d)
 ·obtain⟨j,d,hj⟩:=hex
  have hjd:=(List.getElem?_eq_some_iff.1 hj).1
  have hjl:j<l.length:=Nat.lt_of_lt_of_le hjd hl
  rw[Wc hN hl hj]
  have hoj:=List.getElem?_eq_getElem hjl
  obtain⟨t',d',a1,a2⟩:=hdst j _ hoj hjd
  rw[hj]at a1;injection a1 with a1;injection a1 with a1 _
  subst a1
  have hord:j ≠ i->(if j<i then up (YR [] l) i j else up (YR [] l) j i)=true:=fun hne=>by
   have hc:=Ue hchk hjl hil hne
   simp only[Vw,hoj,hi,a2,Bool.and_eq_true]at hc
   have h2:=hc.2
   rw[Bool.or_eq_true]at h2
   rcases h2 with h2|h2
   ·simp[ht]at h2
   ·exact h2
  have htake:∀(x:Nat) (p:Nat × D),(ds.take i)[x]?=some p->x<i/\ds[x]?=some p:=fun x p h=>by simpa[List.getElem?_take]using h
  rw[WU]
  by_cases hlist:listed.getD j false=true
  ·rw[if_pos hlist]
   have hne:j ≠ i:=fun e=>by subst e;rw[hni]at hlist;cases hlist
   have hlt:j<i:=by
    rcases Nat.lt_or_ge j i with h|h
    ·exact h
    ·exfalso
     have:=hord hne
     rw[if_neg (by omega)]at this
     have:=W2 hcl j _ hoj (hcl j _ hoj hlist) i this
     rw[hni]at this;cases this
   have hin:(ds.take i)[j]?=some (t,d):=by simp[List.getElem?_take,hlt,hj]
   rw[if_pos (by simp only[List.map_reverse,List.mem_reverse];exact List.mem_map.2 ⟨(t,d),List.mem_of_getElem? hin,rfl⟩)]
   have hN':∀(x y:Nat) (p q:Nat × D),(ds.take i).reverse[x]?=some p->(ds.take i).reverse[y]?=some q->p.1=q.1->x=y:=fun x y p q hx hy e=>by
    have lx:=(List.getElem?_eq_some_iff.1 hx).1
    have ly:=(List.getElem?_eq_some_iff.1 hy).1
    rw[List.getElem?_reverse (by simpa using lx)]at hx
    rw[List.getElem?_reverse (by simpa using ly)]at hy
    have:=hN _ _ p q (htake _ _ hx).2 (htake _ _ hy).2 e
    simp at lx ly this
    omega
   have hlen:(ds.take i).length=i:=by rw[List.length_take];omega
   refine(XS hN' (i:=i-1-j) (t:=t) (d:=d) ?_).symm
   rw[List.getElem?_reverse (by rw[hlen];omega),hlen,show i-1-(i-1-j)=j from by omega]
   exact hin
  ·rw[if_neg hlist]
   have hge:¬ j<i:=fun hlt=>by
    have:=hord (by omega)
    rw[if_pos hlt]at this
    exact hlist (W2 hcl i o hi hr j this)
   rw[if_neg (fun hm=>by
    simp only[List.map_reverse,List.mem_reverse]at hm
    obtain⟨p,hp,he⟩:=List.mem_map.1 hm
    obtain⟨x,hx⟩:=List.getElem?_of_mem hp
    obtain⟨h1,h2⟩:=htake x p hx
    have:=hN x j p (t,d) h2 hj he
    omega)]
 ·have hno:∀(j:Nat) (p:Nat × D),ds[j]?=some p->p.1 ≠ t:=fun j p hj e=>hex ⟨j,p.2,by rw[hj,<- e]⟩
  rw[WA hno,WU,if_neg (fun hm=>by
   simp only[List.map_reverse,List.mem_reverse]at hm
   obtain⟨p,hp,he⟩:=List.mem_map.1 hm
   obtain⟨x,hx⟩:=List.getElem?_of_mem (List.mem_of_mem_take hp)
   exact hno x p hx he)]
def XR (l:List Oper):Bool:=(l.zipIdx 0).all fun p=>p.1.after.all fun e=>!Region.binds .any e||Nat.blt e.on p.2
theorem I0 {l:List Oper}(h:XR l=true){i:Nat}{o:Oper}(hi:l[i]?=some o):∀ e ∈ o.after,Region.binds .any e=true->e.on<i:=fun e he hb=>by
 have h1:=List.all_eq_true.1 h (o,i) (by
  rw[List.mem_iff_getElem?]
  exact⟨i,by rw[List.getElem?_zipIdx,hi];simp⟩)
 have h2:=Array.all_eq_true_iff_forall_mem.1 h1 e he
 simpa[hb,Nat.blt_eq]using h2
def left (l:List Oper)(listed:Array Bool):Nat:=(List.range l.length).countP fun i=>!listed.getD i false
theorem Jn {l:List Oper}{listed:Array Bool}{i:Nat}(hi:i<l.length)(hs:listed.size=l.length)(hn:listed.getD i false=false):left l listed=left l (listed.setIfInBounds i true)+1:=by
 unfold left
 have key:∀(m:List Nat),m.Nodup->i ∈ m->m.countP (fun j=>!listed.getD j false)=m.countP (fun j=>!(listed.setIfInBounds i true).getD j false)+1:=by
  intro m
  induction m with
  | nil=>intro _ h;cases h
  | cons j m ih=>
   intro hnd hin
   have hnd':=List.nodup_cons.1 hnd
   by_cases e:j=i
   ·subst e
    have h1:(listed.setIfInBounds j true).getD j false=true:=by simp[hs,hi]
    have h2:m.countP (fun x=>!listed.getD x false)=m.countP (fun x=>!(listed.setIfInBounds j true).getD x false):=by
     apply List.countP_congr
     intro x hx
     have:j ≠ x:=fun e=>hnd'.1 (e ▸ hx)
     rw[getD_set_ne false this]
    rw[List.countP_cons,List.countP_cons,hn,h1,h2]
    simp
   ·have hin':i ∈ m:=by
     rcases List.mem_cons.1 hin with h|h
     ·exact(e h.symm).elim
     ·exact h
    rw[List.countP_cons,List.countP_cons,ih hnd'.2 hin',getD_set_ne false (Ne.symm e)]
    omega
 exact key _ List.nodup_range (List.mem_range.2 hi)
theorem Y7 {l:List Oper}{listed:Array Bool}(h:left l listed=0){i:Nat}(hi:i<l.length):listed.getD i false=true:=by
 have:=List.countP_eq_zero.1 h i (List.mem_range.2 hi)
 simpa using this
theorem Qi {l:List Oper}{listed:Array Bool}(hE:XR l=true)(hs:listed.size=l.length)(h:left l listed ≠ 0):Region.ready .any l.toArray listed ≠ []:=by
 obtain⟨i,hi,hn⟩:∃ i,i<l.length/\listed.getD i false=false:=by
  rcases Nat.eq_zero_or_pos (left l listed) with h0|h0
  ·exact(h h0).elim
  ·obtain⟨i,h1,h2⟩:=List.countP_pos_iff.1 h0
   exact⟨i,List.mem_range.1 h1,by simpa using h2⟩
 have:∀ i,i<l.length->listed.getD i false=false->Region.ready .any l.toArray listed ≠ []:=by
  intro i
  induction i using Nat.strongRecOn with
  | _ i ih=>
   intro hi hn
   by_cases hr:∀ e ∈ l[i].after,Region.binds .any e=true->listed.getD e.on false=true
   ·have:i ∈ Region.ready .any l.toArray listed:=by
     rw[mem_ready]
     have h1:i<listed.size:=by omega
     refine⟨by simp[h1]at hn ⊢;exact hn,l[i],by simp[hi],hr⟩
    intro e;rw[e]at this;cases this
   ·obtain⟨e,hr⟩:=Classical.not_forall.1 hr
    obtain⟨he,hr⟩:=Classical.not_imp.1 hr
    obtain⟨hb,hr⟩:=Classical.not_imp.1 hr
    have hlt:=I0 hE (List.getElem?_eq_getElem hi) e he hb
    exact ih e.on hlt (by omega) (by simpa using hr)
 exact this i hi hn
theorem NN [Known][Dfr]{l:List Oper}{ds:List (Nat × D)}{listed:Array Bool}(hchk:Y8 l=true)(hE:XR l=true)(hl:ds.length<=l.length)
  (hst:∀(i:Nat) (o:Oper),l[i]?=some o->i<ds.length->∃ t d,ds[i]?=some (t,d)/\o.dst=some t/\Nat.blt t n=true/\AL P l.toArray [o] ⟨n,Yx l o ((ds.take i).reverse++tm),bx,fr,(bx.length,fr.length)⟩ (qp t d bx fr))
  (hM:Mid b0 ee n tm bx fr l ds listed g a w) {i:Nat} (hi:i ∈ Region.ready .any l.toArray listed) (hids:i<ds.length) {K:Act->World->Prop} {Q2:Exit->Act->World->Prop} (hK:∀ g' a' w',Mid b0 ee n tm bx fr l ds (listed.setIfInBounds i true) g' a' w'->K a' w') :
  wpOp P l.toArray Q2 i K a w:=by
 obtain⟨hn0,o,ho,hr⟩:=mem_ready.1 hi
 have ho':l[i]?=some o:=by simpa using ho
 have hil:i<l.length:=(List.getElem?_eq_some_iff.1 ho').1
 have hn:listed.getD i false=false:=by
  have:i<listed.size:=by rw[hM.len];exact hil
  simp[this]at hn0 ⊢;exact hn0
 obtain⟨t,d,e1,e2,e3,hAL⟩:=hst i o ho' hids
 have hdst:∀(i:Nat) (o:Oper),l[i]?=some o->i<ds.length->∃ t d,ds[i]?=some (t,d)/\o.dst=some t:=fun i o h hd=>by
  obtain⟨t,d,h1,h2,_⟩:=hst i o h hd;exact⟨t,d,h1,h2⟩
 have hN:∀(i j:Nat) (p q:Nat × D),ds[i]?=some p->ds[j]?=some q->p.1=q.1->i=j:=fun x y p q hx hy e=>by
  by_cases hxy:x=y
  ·exact hxy
  ·exfalso
   have hxd:=(List.getElem?_eq_some_iff.1 hx).1
   have hxl:x<l.length:=Nat.lt_of_lt_of_le hxd hl
   have hyd:=(List.getElem?_eq_some_iff.1 hy).1
   have hyl:y<l.length:=Nat.lt_of_lt_of_le hyd hl
   have hc:=Ue hchk hxl hyl hxy
   obtain⟨t1,d1,a1,a2⟩:=hdst x _ (List.getElem?_eq_getElem hxl) hxd
   obtain⟨t2,d2,c1,c2⟩:=hdst y _ (List.getElem?_eq_getElem hyl) hyd
   rw[hx]at a1;injection a1 with a1
   rw[hy]at c1;injection c1 with c1
   simp only[Vw,List.getElem?_eq_getElem hxl,List.getElem?_eq_getElem hyl,a2,c2,Bool.and_eq_true,bne_iff_ne,ne_eq,Option.some.injEq]at hc
   rw[a1,c1]at e
   exact hc.1 e.symm
 have hinv:Inv ⟨g,fr,w⟩ ⟨n,Yx l o ((ds.take i).reverse++tm),bx,fr,(bx.length,fr.length)⟩ g a w:=by
  refine⟨hM.size,hM.defers,hM.mem,fun x=>?_,Evo.refl _,by rw[hM.mem.bl];exact Nat.le_refl _,Nat.le_refl _⟩
  by_cases hx:x ∈ WB l o
  ·dsimp only
   rw[Vn _ hx,<- J2 hchk hl hdst hM.closed ho' hn hr (Nat.le_of_lt hids) hx]
   exact hM.tm x
  ·dsimp only
   rw[Wh _ hx]
   exact .junk _
 have hrun:=hAL.run ⟨g,fr,w⟩ g a w hinv
 have fin:∀ a' w',(∃ v,a'=a.put o.dst v)->wpList P l.toArray (VC ⟨g,fr,w⟩ (qp t d bx fr)) [] a' w'->K a' w':=by
  rintro a' w' ⟨v,rfl⟩ h
  obtain⟨S',g',hi',hq⟩:=h
  obtain⟨n',tm2,bx2,fr2,ee'⟩:=S'
  have hn':n'=n:=by
   have h1:=hi'.size
   dsimp only at h1
   rw[<- h1,<- hM.size]
   cases hd':o.dst<;>simp[Act.put,hd']
  subst hn'
  obtain⟨tm3,g',hi',q3⟩:∃ tm3 g',Inv ⟨g,fr,w⟩ ⟨n',tm3,bx,fr,(g.ρ.length,fr.length)⟩ g' (a.put o.dst v) w'/\look tm3 t=d:=by
   rcases hq with⟨q1,q2,q3⟩ | ⟨q1,q2,q3,q4⟩
   ·dsimp only at q1 q2 q3
    subst q1 q2
    exact⟨tm2,g',⟨hi'.size,hi'.defers,hi'.mem,hi'.tm,hi'.evo,Nat.le_refl _,Nat.le_refl _⟩,q3⟩
   ·dsimp only at q1 q2 q3
    have h1:Inv ⟨g,fr,w⟩ ⟨n',[(t,d)],bx2,fr2,(g.ρ.length,fr.length)⟩ g' (a.put o.dst v) w':=by
     refine⟨hi'.size,hi'.defers,hi'.mem,fun x=>?_,hi'.evo,Nat.le_refl _,Nat.le_refl _⟩
     by_cases hx:x=t
     ·subst hx
      have:=hi'.tm x
      dsimp only at this ⊢
      simp only[look,Nat.beq_refl]
      rcases q3 with q3|q3
      ·rw[<- q3];exact this
      ·rw[<- q3];exact this.wk
     ·have hb:Nat.beq t x=false:=by
       cases hb:Nat.beq t x with
       | false=>rfl
       | true=>exact(hx (Nat.eq_of_beq_eq_true hb).symm).elim
      simp only[look,hb]
      exact .junk _
    have h2:=h1.cut (k:=bx.length) (m:=fr.length) (by show g.ρ.length<=_;rw[hM.mem.bl];exact Nat.le_refl _) (Nat.le_refl _) (by simp only[Ie,q4]) (by rw[q1];exact hM.mem.allLt)
    rw[q1,q2]at h2
    exact⟨_,_,h2,by simp[look]⟩
  refine hK g' _ _ ⟨hM.bd,hi'.size,hi'.defers,hi'.mem,hM.evo.trans hi'.evo,fun x=>?_,fun m om hm hlm e he hb=>?_,by simp[hM.len]⟩
  ·by_cases hx:x=t
   ·subst hx
    rw[Wc hN hl e1,if_pos (by simp[hM.len,hil])]
    have:=hi'.tm x
    dsimp only at this
    rw[q3]at this
    exact this
   ·have hcur:cur l ds tm (listed.setIfInBounds i true) x=cur l ds tm listed x:=by
     by_cases hex:∃(j:Nat) (d:D),ds[j]?=some (x,d)
     ·obtain⟨j,dj,hj⟩:=hex
      have hne:i ≠ j:=fun e=>by
       subst e
       rw[e1]at hj;injection hj with hj;injection hj with hj
       exact hx hj.symm
      rw[Wc hN hl hj,Wc hN hl hj,getD_set_ne false hne]
     ·have hno:∀(j:Nat) (p:Nat × D),ds[j]?=some p->p.1 ≠ x:=fun j p hj e=>hex ⟨j,p.2,by rw[hj,<- e]⟩
      rw[WA hno,WA hno]
    rw[hcur]
    have htm:(a.put o.dst v).tmps.getD x undef=a.tmps.getD x undef:=by
     rw[e2]
     simp[Act.put,Array.getD_getElem?,Array.getElem?_setIfInBounds_ne (Ne.symm hx)]
    rw[htm]
    exact(hM.tm x).evo hi'.evo
  ·by_cases hmi:m=i
   ·subst hmi
    rw[ho']at hm;injection hm with hm;subst hm
    exact getD_set_true (hr e he hb)
   ·rw[getD_set_ne false (Ne.symm hmi)]at hlm
    exact getD_set_true (hM.closed m om hm hlm e he hb)
 unfold wpOp
 simp only[ho]
 unfold wpList at hrun
 by_cases hw:Region.wanted o (yielded l.toArray a.tmps)=true
 ·rw[if_pos hw]at hrun
  rw[if_pos hw]
  have hL:LetsOut (VC ⟨g,fr,w⟩ (qp t d bx fr))->False:=fun⟨_,_,h⟩=>h
  rcases hrun with hrun|⟨_,hlo⟩
  ·refine .inl ?_
   have:=Kh (Q2:=Q2) hrun hM.defers (fun a w h=>by obtain⟨S',g',hi',_⟩:=h;exact hi'.defers) (fun c a w h=>by obtain⟨_,_,_,_,_,_,_,hq⟩:=h;exact hq) hL
   exact Oper.wp_mono (P:=P) (fun a' w' h=>fin a' w' h.1 h.2) this
  ·exact(hL hlo).elim
 ·rw[if_neg hw]at hrun
  rw[if_neg hw]
  exact fin _ _ ⟨undef,rfl⟩ hrun
theorem H3 [Known][Dfr]{l:List Oper}{ds:List (Nat × D)}{listed:Array Bool}(hchk:Y8 l=true)(hl:ds.length<=l.length)(hdst:∀(i:Nat) (o:Oper),l[i]?=some o->i<ds.length->∃ t d,ds[i]?=some (t,d)/\o.dst=some t)
  (hM:Mid b0 ee n tm bx fr l ds listed g a w) (hall:∀ i,i<ds.length->listed.getD i false=true):Inv b0 ⟨n,ds.reverse++tm,bx,fr,ee⟩ g a w:=by
 have hN:∀(i j:Nat) (p q:Nat × D),ds[i]?=some p->ds[j]?=some q->p.1=q.1->i=j:=fun x y p q hx hy e=>by
  by_cases hxy:x=y
  ·exact hxy
  ·exfalso
   have hxd:=(List.getElem?_eq_some_iff.1 hx).1
   have hxl:x<l.length:=Nat.lt_of_lt_of_le hxd hl
   have hyd:=(List.getElem?_eq_some_iff.1 hy).1
   have hyl:y<l.length:=Nat.lt_of_lt_of_le hyd hl
   have hc:=Ue hchk hxl hyl hxy
   obtain⟨t1,d1,a1,a2⟩:=hdst x _ (List.getElem?_eq_getElem hxl) hxd
   obtain⟨t2,d2,c1,c2⟩:=hdst y _ (List.getElem?_eq_getElem hyl) hyd
   rw[hx]at a1;injection a1 with a1
   rw[hy]at c1;injection c1 with c1
   simp only[Vw,List.getElem?_eq_getElem hxl,List.getElem?_eq_getElem hyl,a2,c2,Bool.and_eq_true,bne_iff_ne,ne_eq,Option.some.injEq]at hc
   rw[a1,c1]at e
   exact hc.1 e.symm
 refine⟨hM.size,hM.defers,hM.mem,fun x=>?_,hM.evo,hM.bd⟩
 have hx:=hM.tm x
 have hc:cur l ds tm listed x=look (ds.reverse++tm) x:=by
  rw[WU]
  by_cases hex:∃(j:Nat) (d:D),ds[j]?=some (x,d)
  ·obtain⟨j,dj,hj⟩:=hex
   have hjl:=(List.getElem?_eq_some_iff.1 hj).1
   rw[Wc hN hl hj,if_pos (hall j hjl),if_pos (by simp only[List.map_reverse,List.mem_reverse];exact List.mem_map.2 ⟨(x,dj),List.mem_of_getElem? hj,rfl⟩)]
   have hN':∀(x y:Nat) (p q:Nat × D),ds.reverse[x]?=some p->ds.reverse[y]?=some q->p.1=q.1->x=y:=fun x y p q hx hy e=>by
    have lx:=(List.getElem?_eq_some_iff.1 hx).1
    have ly:=(List.getElem?_eq_some_iff.1 hy).1
    rw[List.getElem?_reverse (by simpa using lx)]at hx
    rw[List.getElem?_reverse (by simpa using ly)]at hy
    have:=hN _ _ p q hx hy e
    simp at lx ly
    omega
   refine(XS hN' (i:=ds.length-1-j) ?_).symm
   rw[List.getElem?_reverse (by omega),show ds.length-1-(ds.length-1-j)=j from by omega]
   exact hj
  ·have hno:∀(j:Nat) (p:Nat × D),ds[j]?=some p->p.1 ≠ x:=fun j p hj e=>hex ⟨j,p.2,by rw[hj,<- e]⟩
   rw[WA hno,if_neg (fun hm=>by
    simp only[List.map_reverse,List.mem_reverse]at hm
    obtain⟨p,hp,he⟩:=List.mem_map.1 hm
    obtain⟨y,hy⟩:=List.getElem?_of_mem hp
    exact hno y p hy he)]
 rw[<- hc];exact hx
theorem G6 {l:List Oper}{listed:Array Bool}(hs:listed.size=l.length)(h0:left l listed=0):Region.ready .any l.toArray listed=[]:=by
 apply List.eq_nil_iff_forall_not_mem.2
 intro i hi
 obtain⟨hn0,o,ho,_⟩:=mem_ready.1 hi
 have ho':l[i]?=some o:=by simpa using ho
 have hil:i<l.length:=(List.getElem?_eq_some_iff.1 ho').1
 have:=Y7 h0 hil
 have hlt:i<listed.size:=by rw[hs];exact hil
 simp[hlt]at hn0 this
 rw[hn0]at this;cases this
def VA (l:List Oper)(m:Nat):Bool:=(List.range l.length).all fun j=>decide (j<m)||(List.range j).all fun i=>up (YR [] l) j i
theorem VO {l:List Oper}{m:Nat}(h:VA l m=true){i j:Nat}(hm:m<=j)(hj:j<l.length)(hi:i<j):up (YR [] l) j i=true:=by
 have h1:=List.all_eq_true.1 h j (List.mem_range.2 hj)
 rw[Bool.or_eq_true]at h1
 rcases h1 with h1|h1
 ·have:=of_decide_eq_true h1;omega
 ·exact List.all_eq_true.1 h1 i (List.mem_range.2 hi)
theorem QE {l:List Oper}{listed:Array Bool}{j:Nat}(h:∀ i,i<l.length->(listed.getD i false=true ↔ i<j)):left l listed=l.length-j:=by
 unfold left
 have h2:(List.range l.length).countP (fun i=>!listed.getD i false)=(List.range l.length).countP (fun i=>decide (j<=i)):=by
  apply List.countP_congr
  intro i hi
  have:=h i (List.mem_range.1 hi)
  cases hb:listed.getD i false with
  | true=>rw[hb]at this;have:=this.1 rfl;simp;omega
  | false=>rw[hb]at this;simp at this ⊢;omega
 rw[h2]
 generalize l.length=n
 induction n with
 | zero=>simp
 | succ n ih=>
  rw[List.range_succ,List.countP_append,ih]
  simp only[List.countP_cons,List.countP_nil,decide_eq_true_eq,Nat.zero_add]
  split<;>omega
theorem VT {l:List Oper}{m:Nat}{R:Exit->Act->World->Prop}(hE:XR l=true)(hch:VA l m=true):∀(fuel j:Nat) (listed:Array Bool) (a:Act) (w:World),j+fuel=l.length->m<=j->listed.size=l.length->(∀ i,i<l.length->(listed.getD i false=true ↔ i<j))->wpList P l.toArray R (l.drop j) a w->wpAny P .any l.toArray R fuel listed a w:=by
 intro fuel
 induction fuel with
 | zero=>
  intro j listed a w hj hm hs hl h
  refine⟨G6 hs (by rw[QE hl];omega),?_⟩
  rw[List.drop_of_length_le (by omega)]at h
  exact h
 | succ fuel ih=>
  intro j listed a w hj hm hs hl h
  refine⟨fun he=>(Qi hE hs (by rw[QE hl];omega) he).elim,fun i hi=>?_⟩
  obtain⟨hn0,o,ho,hr⟩:=mem_ready.1 hi
  have ho':l[i]?=some o:=by simpa using ho
  have hil:i<l.length:=(List.getElem?_eq_some_iff.1 ho').1
  have hlt:i<listed.size:=by rw[hs];exact hil
  have hn:¬ listed.getD i false=true:=by simp[hlt]at hn0 ⊢;exact hn0
  have hge:j<=i:=Nat.le_of_not_lt fun h=>hn ((hl i hil).2 h)
  have hcl:∀(m:Nat) (o:Oper),l[m]?=some o->listed.getD m false=true->∀ e ∈ o.after,Region.binds .any e=true->listed.getD e.on false=true:=fun x ox hx hlx e he hb=>by
   have hxl:=(List.getElem?_eq_some_iff.1 hx).1
   have h1:=I0 hE hx e he hb
   have h2:=(hl x hxl).1 hlx
   exact(hl e.on (by omega)).2 (by omega)
  have hij:i=j:=by
   rcases Nat.lt_or_ge j i with h|h
   ·exfalso
    have:=W2 hcl i o ho' hr j (VO hch (by omega) hil h)
    have:=(hl j (by omega)).1 this
    omega
   ·omega
  subst hij
  rw[List.drop_eq_getElem_cons hil,show l[i]=o from(List.getElem?_eq_some_iff.1 ho').2]at h
  have hK:∀ a' w',wpList P l.toArray R (l.drop (i+1)) a' w'->wpAny P .any l.toArray R fuel (listed.setIfInBounds i true) a' w':=fun a' w' h=>ih (i+1) _ a' w' (by omega) (by omega) (by simp[hs]) (fun x hx=>by
   by_cases e:x=i
   ·subst e;simp[hlt]
   ·rw[getD_set_ne false (Ne.symm e),hl x hx];omega) h
  unfold wpOp
  simp only[ho]
  unfold wpList at h
  by_cases hw:Region.wanted o (yielded l.toArray a.tmps)=true
  ·rw[if_pos hw]at h
   rw[if_pos hw]
   rcases h with h|h
   ·exact .inl (Oper.wp_mono hK h)
   ·exact .inr h
  ·rw[if_neg hw]at h
   rw[if_neg hw]
   exact hK _ _ h
theorem NO [Known][Dfr]{id m:Nat}{l acts:List Oper}(hm:P.follows .mixedOrders=true)(hchk:Y8 l=true)(hE:XR l=true)(hch:VA l m=true)(hlen:(l.take m).length=m)(hacts:l.drop m=acts)(h:AD P l n bx fr (l.take m) tm tm')(k:AL P l.toArray acts ⟨n,tm',bx,fr,ee⟩ Q) :
  AW P (.region id l.toArray true) ⟨n,tm,bx,fr,ee⟩ Q:=by
 obtain⟨ds,h1,h2,h3⟩:=h.steps
 have hml:m<=l.length:=by rw[List.length_take]at hlen;omega
 rw[hlen]at h1
 have hl:ds.length<=l.length:=by omega
 have hst:∀(i:Nat) (o:Oper),l[i]?=some o->i<ds.length->∃ t d,ds[i]?=some (t,d)/\o.dst=some t/\Nat.blt t n=true/\AL P l.toArray [o] ⟨n,Yx l o ((ds.take i).reverse++tm),bx,fr,(bx.length,fr.length)⟩ (qp t d bx fr):=fun i o ho hi=>h3 i o (by rw[List.getElem?_take,if_pos (by omega)];exact ho)
 have hdst:∀(i:Nat) (o:Oper),l[i]?=some o->i<ds.length->∃ t d,ds[i]?=some (t,d)/\o.dst=some t:=fun i o h hd=>by
  obtain⟨t,d,h1,h2,_⟩:=hst i o h hd;exact⟨t,d,h1,h2⟩
 refine⟨fun b0 g a w hi=>wp_region_any hm ?_⟩
 have main:∀(fuel:Nat) (listed:Array Bool) (g:G) (a:Act) (w:World),Mid b0 ee n tm bx fr l ds listed g a w->(∀ i,m<=i->i<l.length->listed.getD i false=false)->left l listed=fuel->wpAny P .any l.toArray (VC b0 Q) fuel listed a w:=by
  intro fuel
  induction fuel with
  | zero=>
   intro listed g a w hM hu h0
   have hall:∀ i,i<ds.length->listed.getD i false=true:=fun i hi=>Y7 h0 (by omega)
   have hinv:=H3 hchk hl hdst hM hall
   rw[<- h2]at hinv
   have hml':l.length=m:=by
    rcases Nat.lt_or_ge m l.length with h|h
    ·have h5:=hu m (Nat.le_refl _) h
     have h6:=Y7 h0 h
     rw[h5]at h6;cases h6
    ·omega
   exact VT hE hch 0 m listed a w (by omega) (Nat.le_refl _) hM.len (fun i hi=>by rw[Y7 h0 hi];simp;omega) (by rw[hacts];exact k.run b0 g a w hinv)
  | succ fuel ih=>
   intro listed g a w hM hu hf
   by_cases hall:∀ i,i<m->listed.getD i false=true
   ·have hinv:=H3 hchk hl hdst hM (fun i hi=>hall i (by omega))
    rw[<- h2]at hinv
    have hls:∀ i,i<l.length->(listed.getD i false=true ↔ i<m):=fun i hi=>by
     rcases Nat.lt_or_ge i m with h|h
     ·simp[hall i h,h]
     ·rw[hu i h hi];simp;omega
    refine VT hE hch (fuel+1) m listed a w (by rw[<- hf,QE hls];omega) (Nat.le_refl _) hM.len hls (by rw[hacts];exact k.run b0 g a w hinv)
   refine⟨fun he=>(Qi hE hM.len (by omega) he).elim,fun i hi=>?_⟩
   obtain⟨hn0,o,ho,hr⟩:=mem_ready.1 hi
   have ho':l[i]?=some o:=by simpa using ho
   have hil:i<l.length:=(List.getElem?_eq_some_iff.1 ho').1
   have hlt:i<listed.size:=by rw[hM.len];exact hil
   have hn:listed.getD i false=false:=by simp[hlt]at hn0 ⊢;exact hn0
   have hleft:=Jn hil hM.len hn
   by_cases him:i<m
   ·refine NN hchk hE hl hst hM hi (by omega) fun g' a' w' hM'=>ih _ g' a' w' hM' (fun x hx hxl=>?_) (by omega)
    rw[getD_set_ne false (by omega)]
    exact hu x hx hxl
   ·exact(hall fun x hx=>W2 hM.closed i o ho' hr x (VO hch (by omega) hil (by omega))).elim
 have hsz:l.toArray.size=l.length:=by simp
 rw[hsz]
 have hfresh:∀ i,(Array.replicate l.length false).getD i false=false:=fun i=>by
  rcases Nat.lt_or_ge i l.length with h|h<;>simp[h]
 refine main l.length _ g a _ ⟨hi.bd,hi.size,hi.defers,hi.mem.drew,hi.evo.trans Evo.drew,fun t=>?_,fun m o hm hl=>?_,by simp⟩ (fun i _ _=>hfresh i) ?_
 ·have:cur l ds tm (Array.replicate l.length false) t=look tm t:=by
   unfold cur
   have hf:(List.range l.length).find? (fun i=>(Array.replicate l.length false).getD i false&&((ds[i]?).map (·.1)==some t))=none:=by
    apply List.find?_eq_none.2
    intro i _
    rw[hfresh];simp
   rw[hf]
  rw[this]
  exact(hi.tm t).drew
 ·rw[hfresh]at hl;cases hl
 ·unfold left
  rw[List.countP_eq_length.2 (fun i _=>by rw[hfresh];rfl),List.length_range]
theorem Z2 [Known][Dfr]{id:Nat}(m:Nat){l acts:List Oper}(hm:P.follows .mixedOrders=true)(hch:VA l m=true)(hchk:Y8 l=true)(hE:XR l=true)(hlen:Nat.beq (l.take m).length m=true)(hacts:nfl (l.drop m)=some acts)(h:AD P l n bx fr (l.take m) tm tm')(k:AL P l.toArray acts ⟨n,tm',bx,fr,ee⟩ Q) :
  AW P (.region id l.toArray true) ⟨n,tm,bx,fr,ee⟩ Q:=NO hm hchk hE hch (Nat.eq_of_beq_eq_true hlen) (YV hacts) h k
end
end Go.Av
end
