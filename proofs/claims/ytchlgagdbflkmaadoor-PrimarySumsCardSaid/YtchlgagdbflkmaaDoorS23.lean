/- Regions that draw their order, in which new variables come in any order, and what is laid into them comes when it can. -/
import Derived.Test.YtchlgagdbflkmaaDoorS20
set_option linter.unusedSimpArgs false
set_option linter.unusedVariables false
section
open Go.RowKit Go.Pl
namespace Go.Av
inductive Wy where
 | pu (d:D)
 | al (cs:List D)
 | st (t:Nat) (cs:List D)
def wK (K:Nat->Nat)(p:Nat × Wy):Nat × D:=(p.1,match p.2 with | .pu d=>d | .al _=>.gptr (K p.1) 0 | .st _ _=>.junk)
def wJ (p:Nat × Wy):Nat × D:=(p.1,match p.2 with | .pu d=>d | .al _=>.junk | .st _ _=>.junk)
def QB:Nat->List (Nat × Wy)->List (Nat × D)->List (Nat × D)
 | _,[],tm=>tm
 | m,(_,.pu _)::zs,tm=>QB m zs tm
 | m,(t,.al _)::zs,tm=>QB (m+1) zs ((t,.ptr m 0)::tm)
 | m,(_,.st _ _)::zs,tm=>QB m zs tm
def stO (p:Nat->Bool):Nat->List (Nat × Wy)->Nat->Option (List D)
 | _,[],_=>none
 | i,(_,.st t cs)::zs,x=>match Nat.beq t x&&p i with
  | true=>some cs
  | false=>stO p (i+1) zs x
 | i,(_,.pu _)::zs,x=>stO p (i+1) zs x
 | i,(_,.al _)::zs,x=>stO p (i+1) zs x
theorem Wv {p q:Nat->Bool}{x:Nat}:∀ {zs:List (Nat × Wy)} {i:Nat},(∀ j u cs,zs[j]?=some (u,Wy.st x cs)->p (i+j)=q (i+j))->stO p i zs x=stO q i zs x
 | [],i,h=>rfl
 | (u,y)::zs,i,h=>by
  have h2:=Wv (p:=p) (q:=q) (x:=x) (zs:=zs) (i:=i+1) fun j u cs hj=>by
   have:=h (j+1) u cs (by simpa using hj)
   rw[show i+1+j=i+(j+1) by omega];exact this
  cases y with
  | pu d=>simp only[stO];exact h2
  | al cs=>simp only[stO];exact h2
  | st t cs=>
   simp only[stO]
   cases hb:Nat.beq t x with
   | false=>simp only[Bool.false_and];exact h2
   | true=>
    have e:=Nat.eq_of_beq_eq_true hb
    subst e
    have:=h 0 u cs (by simp)
    simp only[Nat.add_zero]at this
    rw[this,h2]
theorem Xw {p:Nat->Bool}{x:Nat}{zs:List (Nat × Wy)}{i:Nat}(h:∀ j u cs,zs[j]?=some (u,Wy.st x cs)->p (i+j)=false):stO p i zs x=none:=by
 rw[Wv (q:=fun _=>false) h]
 clear h
 induction zs generalizing i with
 | nil=>rfl
 | cons z zs ih=>
  obtain⟨u,y⟩:=z
  cases y<;>simp only[stO,Bool.and_false]<;>exact ih
theorem Xx {p:Nat->Bool}{x:Nat}{cs:List D}:∀ {zs:List (Nat × Wy)} {i j u:Nat},zs[j]?=some (u,Wy.st x cs)->p (i+j)=true->(∀ j' u' cs',zs[j']?=some (u',Wy.st x cs')->j'=j)->stO p i zs x=some cs
 | [],i,j,u,h,_,_=>by simp at h
 | (u0,y)::zs,i,0,u,h,hp,hu=>by
  simp at h
  obtain⟨rfl,rfl⟩:=h
  simp only[stO,Nat.beq_refl,Bool.true_and]
  rw[show p i=true from hp]
 | (u0,y)::zs,i,j+1,u,h,hp,hu=>by
  have ih:=Xx (p:=p) (x:=x) (cs:=cs) (zs:=zs) (i:=i+1) (j:=j) (u:=u) (by simpa using h) (by rw[show i+1+j=i+(j+1) by omega];exact hp) fun j' u' cs' hj=>by
   have:=hu (j'+1) u' cs' (by simpa using hj);omega
  cases y with
  | pu d=>simp only[stO];exact ih
  | al cs=>simp only[stO];exact ih
  | st t cs'=>
   simp only[stO]
   have hb:Nat.beq t x=false:=by
    cases hb:Nat.beq t x with
    | false=>rfl
    | true=>
     have e:=Nat.eq_of_beq_eq_true hb
     subst e
     have:=hu 0 u0 cs' (by simp)
     omega
   rw[hb,Bool.false_and]
   exact ih
def wcs (all:List (Nat × Wy)):List (Nat × Wy)->List (List D)
 | []=>[]
 | (_,.pu _)::zs=>wcs all zs
 | (t,.al cs)::zs=>((stO (fun _=>true) 0 all t).getD cs)::wcs all zs
 | (_,.st _ _)::zs=>wcs all zs
def KE (o:Oper):Bool:=match o.op with
 | .alloc _=>true
 | _=>false
def Xy (o:Oper):Bool:=match o.op with
 | .store _ _ _=>true
 | _=>false
def HC (l:List Oper)(m:Nat):Bool:=(l.take m).all fun o=>match o.op,o.dst with
 | .alloc _,some t=>(l.take m).all fun o'=>!(YQ l o').contains t||Xy o'
 | _,_=>true
def HE (l:List Oper)(m:Nat):Bool:=(List.range m).all fun i=>match l[i]? with
 | some o=>(match o.op with
  | .store e (.tmp ts) y=>(YQ l o).contains ts&&((match y with | .tmp tv=>(YQ l o).contains tv|_=>true) &&
   (((List.range i).any fun j=>match l[j]? with
    | some oj=>(match oj.op,oj.dst with | .alloc e',some t=>Nat.beq t ts&&Nat.beq e e' | _,_=>false)
    | none=>false) &&
   (List.range m).all fun j=>Nat.beq j i||(match l[j]? with
    | some oj=>(match oj.op with | .store _ (.tmp ts') _=>!Nat.beq ts' ts|_=>true)
    | none=>true)))
  | _=>true)
 | none=>true
section
variable {P:Program} {T:Tab} {Q:X->St->Prop} {n:Nat} {ee:Nat × Nat} {tm tm':List (Nat × D)} {bx:List (List D)} {fr:List Fr} {b0:Bs} {g g':G} {w w':World} {a:Act}
inductive AV [Known][Dfr](P:Program) (T:Tab) (l:List Oper) (n:Nat) (bx:List (List D)) (fr:List Fr):Nat->List Oper->List (Nat × D)->List (Nat × Wy)->List (Nat × D)->Prop
 | nil (i:Nat) (tm:List (Nat × D)):AV P T l n bx fr i [] tm [] tm
 | pu (i:Nat) (o:Oper) (rest:List Oper) (t:Nat) (d:D) (tm:List (Nat × D)) (zs:List (Nat × Wy)) (tm':List (Nat × D)) (hd:o.dst=some t) (hna:KE o=false) (ht:Nat.blt t n=true) (h:AL P l.toArray [o] ⟨n,Yi l o tm,bx,fr,(bx.length,fr.length)⟩ (qY o bx fr (.pu d))) (k:AV P T l n bx fr (i+1) rest ((t,d)::tm) zs tm'):AV P T l n bx fr i (o::rest) tm ((t,.pu d)::zs) tm'
 | al (i t:Nat) (e:TypeId) (ty:Nat) (pos:String) (after:Array Edge) (rest:List Oper) (ti:Ti) (tm:List (Nat × D)) (zs:List (Nat × Wy)) (tm':List (Nat × D)) (ht:Nat.blt t n=true) (hti:tl T e=some ti) (k:AV P T l n bx fr (i+1) rest ((t,.junk)::tm) zs tm'):AV P T l n bx fr i (⟨some t,.alloc e,ty,pos,after,none⟩::rest) tm ((t,.al (ti.zero.map ZK.d))::zs) tm'
 | st (i ts:Nat) (e:TypeId) (y:Operand) (ty:Nat) (pos:String) (after:Array Edge) (rest:List Oper) (ti:Ti) (d:D) (tm:List (Nat × D)) (zs:List (Nat × Wy)) (tm':List (Nat × D)) (hy:nf (ev tm y)=some d) (ho:D.ones d.cellsOf=true) (hti:tl T e=some ti) (hs:Nat.beq d.cellsOf.length ti.size=true) (k:AV P T l n bx fr (i+1) rest ((n+i,.junk)::tm) zs tm'):AV P T l n bx fr i (⟨none,.store e (.tmp ts) y,ty,pos,after,none⟩::rest) tm ((n+i,.st ts d.cellsOf)::zs) tm'
def Wof [Known][Dfr](P:Program)(T:Tab)(l:List Oper)(n:Nat)(bx:List (List D))(fr:List Fr)(A:List (Nat × D))(o:Oper):Wy->Prop
 | .pu d=>(∃ t,o.dst=some t)/\KE o=false/\AL P l.toArray [o] ⟨n,Yi l o A,bx,fr,(bx.length,fr.length)⟩ (qY o bx fr (.pu d))
 | .al cs=>∃(t:Nat) (e:TypeId) (ty:Nat) (pos:String) (after:Array Edge) (ti:Ti),o=⟨some t,.alloc e,ty,pos,after,none⟩/\tl T e=some ti/\cs=ti.zero.map ZK.d
 | .st ts cs=>∃(e:TypeId) (y:Operand) (ty:Nat) (pos:String) (after:Array Edge) (ti:Ti) (d:D),o=⟨none,.store e (.tmp ts) y,ty,pos,after,none⟩/\nf (ev A y)=some d/\D.ones d.cellsOf=true/\tl T e=some ti/\d.cellsOf.length=ti.size/\cs=d.cellsOf
theorem AV.steps [Known][Dfr]{l rest:List Oper}{zs:List (Nat × Wy)}{i0:Nat}(h:AV P T l n bx fr i0 rest tm zs tm'):zs.length=rest.length/\tm'=(zs.map wJ).reverse++tm /\
  ∀(i:Nat) (o:Oper),rest[i]?=some o->∃ y,zs[i]?=some (Yc n (i0+i) o,y)/\Vn n o=true/\Wof P T l n bx fr (((zs.take i).map wJ).reverse++tm) o y:=by
 induction h with
 | nil i tm=>exact⟨rfl,rfl,fun i o h=>by simp at h⟩
 | pu i o rest t d tm zs tm' hd hna ht h k ih=>
  obtain⟨h1,h2,h3⟩:=ih
  refine⟨by simp[h1],by rw[h2];simp[wJ],fun j o' ho=>?_⟩
  cases j with
  | zero=>
   simp at ho;subst ho
   exact⟨.pu d,by simp[Yc,hd],by simp only[Vn,hd,ht],⟨t,hd⟩,hna,by simpa using h⟩
  | succ j=>
   simp at ho
   obtain⟨y,q1,q2,q3⟩:=h3 j o' ho
   refine⟨y,by rw[show i+(j+1)=i+1+j by omega];simpa using q1,q2,?_⟩
   have e:((((t,Wy.pu d)::zs).take (j+1)).map wJ).reverse++tm=((zs.take j).map wJ).reverse++((t,d)::tm):=by simp[wJ]
   rw[e];exact q3
 | al i t e ty pos after rest ti tm zs tm' ht hti k ih=>
  obtain⟨h1,h2,h3⟩:=ih
  refine⟨by simp[h1],by rw[h2];simp[wJ],fun j o' ho=>?_⟩
  cases j with
  | zero=>
   simp at ho;subst ho
   exact⟨.al _,by simp[Yc],by simp only[Vn,ht],t,e,ty,pos,after,ti,rfl,hti,rfl⟩
  | succ j=>
   simp at ho
   obtain⟨y,q1,q2,q3⟩:=h3 j o' ho
   refine⟨y,by rw[show i+(j+1)=i+1+j by omega];simpa using q1,q2,?_⟩
   have e:((((t,Wy.al (ti.zero.map ZK.d))::zs).take (j+1)).map wJ).reverse++tm=((zs.take j).map wJ).reverse++((t,.junk)::tm):=by simp[wJ]
   rw[e];exact q3
 | st i ts e y ty pos after rest ti d tm zs tm' hy ho hti hs k ih=>
  obtain⟨h1,h2,h3⟩:=ih
  refine⟨by simp[h1],by rw[h2];simp[wJ],fun j o' hoo=>?_⟩
  cases j with
  | zero=>
   simp at hoo;subst hoo
   exact⟨.st ts d.cellsOf,by simp[Yc],rfl,e,y,ty,pos,after,ti,d,rfl,by simpa using hy,ho,hti,Nat.eq_of_beq_eq_true hs,rfl⟩
  | succ j=>
   simp at hoo
   obtain⟨y',q1,q2,q3⟩:=h3 j o' hoo
   refine⟨y',by rw[show i+(j+1)=i+1+j by omega];simpa using q1,q2,?_⟩
   have e:((((n+i,Wy.st ts d.cellsOf)::zs).take (j+1)).map wJ).reverse++tm=((zs.take j).map wJ).reverse++((n+i,.junk)::tm):=by simp[wJ]
   rw[e];exact q3
theorem Iv {l:List Oper}{o:Oper}{K:Nat->Nat}:∀ {zs:List (Nat × Wy)} {tm:List (Nat × D)},(∀ t cs,(t,Wy.al cs) ∈ zs->(YQ l o).contains t=false)->Yi l o ((zs.map (wK K)).reverse++tm)=Yi l o ((zs.map wJ).reverse++tm):=by
 intro zs tm h
 rw[W8,W8,List.filter_append,List.filter_append,List.filter_reverse,List.filter_reverse]
 congr 2
 induction zs with
 | nil=>rfl
 | cons p zs ih=>
  obtain⟨t,y⟩:=p
  rw[List.map_cons,List.map_cons,List.filter_cons,List.filter_cons,ih fun t cs hm=>h t cs (List.mem_cons_of_mem _ hm)]
  cases y with
  | pu d=>rfl
  | st t' cs=>rfl
  | al cs=>
   have:=h t cs (List.mem_cons_self ..)
   simp only[wK,wJ,this]
   rfl
theorem JC {K:Nat->Nat}{x:Nat}{tm:List (Nat × D)}:∀(zs:List (Nat × Wy)),look (zs.map wJ++tm) x=look (zs.map (wK K)++tm) x\/look (zs.map wJ++tm) x=.junk
 | []=>.inl rfl
 | (t,y)::zs=>by
  rw[List.map_cons,List.map_cons,List.cons_append,List.cons_append]
  cases hb:Nat.beq t x with
  | true=>
   cases y with
   | pu d=>left;simp only[wJ,wK,look,hb]
   | al cs=>right;simp only[wJ,look,hb]
   | st t' cs=>right;simp only[wJ,look,hb]
  | false=>
   have h1:look (wJ (t,y)::(zs.map wJ++tm)) x=look (zs.map wJ++tm) x:=by simp only[wJ,look,hb]
   have h2:look (wK K (t,y)::(zs.map (wK K)++tm)) x=look (zs.map (wK K)++tm) x:=by simp only[wK,look,hb]
   rw[h1,h2]
   exact JC zs
def Goo (b0:Bs)(g:G)(fr:List Fr)(w:World)(k:Nat)(cs:List D):Prop:=b0.w.heap.size<=k/\¬ M g k/\(∀ o,¬ g.C k o)/\∃ vs ty,w.heap[k]?=some (.cells vs ty (0,0))/\(vs.size=cs.length/\D.isRow cs=false)/\∀(j:Nat) (d:D) (v:Value),cs[j]?=some d->vs[j]?=some v->V w g fr d v
theorem Goo.lt {k:Nat}{cs:List D}(h:Goo b0 g fr w k cs):k<w.heap.size:=by
 obtain⟨_,_,_,vs,ty,h1,_⟩:=h
 exact(Array.getElem?_eq_some_iff.1 h1).1
theorem Goo.evo {k:Nat}{cs:List D}{fr':List Fr}(h:Goo b0 g fr w k cs)(e:Evo ⟨g,fr,w⟩ ⟨g',fr',w'⟩):Goo b0 g' fr' w' k cs:=by
 have hlt:=h.lt
 obtain⟨h1,h2,h3,vs,ty,h4,h5,h6⟩:=h
 refine⟨h1,fun hm=>?_,fun o hc=>?_,vs,ty,(e.block k hlt h2).trans h4,h5,fun j d v hd hv=>(h6 j d v hd hv).evo e⟩
 ·rcases e.own hm with hm|hm
  ·exact h2 hm
  ·exact absurd hlt (Nat.not_lt.2 hm)
 ·rcases e.newC k o hc with hc|hc|hc
  ·exact h3 o hc
  ·exact absurd hlt (Nat.not_lt.2 hc)
  ·exact h2 hc
theorem Inv.addW [Known][Dfr]{k t:Nat}{cs:List D}(hi:Inv b0 ⟨n,tm,bx,fr,ee⟩ g a w)(hG:Goo b0 g fr w k cs)(ht:a.tmps.getD t undef=.pointer (some ⟨k,0,none⟩)):Inv b0 ⟨n,(t,.ptr bx.length 0)::tm,bx++[cs],fr,ee⟩ ⟨g.C,g.ρ++[k],g.τ⟩ a w:=by
 obtain⟨h1,h2,h3,vs,ty,h4,h5,h6⟩:=hG
 have hm:=hi.mem
 have hρ:∀(i b:Nat),g.ρ[i]?=some b->(g.ρ++[k])[i]?=some b:=fun i b h=>(List.getElem?_append_left (List.getElem?_eq_some_iff.1 h).1).trans h
 have hV:∀ {d:D} {v:Value},V w g fr d v->V w ⟨g.C,g.ρ++[k],g.τ⟩ fr d v:=fun h=>h.mono (fun _ _ h=>h) (fun _ _ _=>rfl) hρ (YK.refl g fr)
 have hget:∀(i b:Nat),(g.ρ++[k])[i]?=some b->g.ρ[i]?=some b\/(i=g.ρ.length/\b=k):=fun i b h=>by
  rcases Nat.lt_or_ge i g.ρ.length with hlt|hge
  ·rw[List.getElem?_append_left hlt]at h;exact .inl h
  ·rw[List.getElem?_append_right hge]at h
   have h0:i-g.ρ.length=0:=by have:=(List.getElem?_eq_some_iff.1 h).1;simp at this;omega
   simp[h0]at h
   exact .inr ⟨by omega,h.symm⟩
 refine⟨hi.size,hi.defers,⟨?_,?_,?_,?_,hm.tl,?_,hm.tN,?_,hm.Clt,hm.gl⟩,fun x=>?_,⟨hi.evo.os,hi.evo.tape,hi.evo.output,hi.evo.size,hi.evo.block,hi.evo.C,hi.evo.cell,hi.evo.newC,fun i b h=>hρ i b (hi.evo.ρp i b h),fun b h=>?_,hi.evo.τn,hi.evo.tok⟩,hi.bd⟩
 ·simp[hm.bl]
 ·intro i b cs' e1 e2
  rcases hget i b e1 with e3|⟨rfl,rfl⟩
  ·have hlt:i<bx.length:=by rw[<- hm.bl];exact(List.getElem?_eq_some_iff.1 e3).1
   rw[List.getElem?_append_left hlt]at e2
   obtain⟨us,ty',k1,k2,k3⟩:=hm.bat i b cs' e3 e2
   exact⟨us,ty',k1,k2,fun j d v hd hv=>hV (k3 j d v hd hv)⟩
  ·rw[List.getElem?_append_right (by rw[hm.bl];exact Nat.le_refl _),hm.bl]at e2
   simp at e2;subst e2
   exact⟨vs,ty,h4,Ki h5.1 h5.2,fun j d v hd hv=>hV (h6 j d v (by rw[VN h5.2]at hd;exact hd) hv)⟩
 ·intro b o hb hC
  rcases List.mem_append.1 hb with h|h
  ·exact hm.bC b o h hC
  ·simp at h;subst h
   exact h3 o hC
 ·intro i j b e1 e2
  have cross:∀ i:Nat,g.ρ[i]?=some b->b=k->False:=fun i e3 e=>by
   subst e;exact h2 (.inl (List.mem_of_getElem? e3))
  rcases hget i b e1 with e3|⟨e3,e3'⟩<;>rcases hget j b e2 with e4|⟨e4,e4'⟩
  ·exact hm.bN i j b e3 e4
  ·exact(cross i e3 e4').elim
  ·exact(cross j e4 e3').elim
  ·omega
 ·intro i b c f e1 e2
  have hT:=hm.tat i b c f e1 e2
  exact⟨hT.row,hT.le,hT.max,hT.pos,hT.far⟩
 ·intro b c hb hr
  rcases List.mem_append.1 hr with h|h
  ·exact hm.tρ b c hb h
  ·simp at h;subst h
   exact h2 (.inr ⟨c,hb⟩)
 ·cases hb:Nat.beq t x with
  | true=>
   have e:=Nat.eq_of_beq_eq_true hb
   subst e
   simp only[look,hb]
   rw[ht]
   exact .ptr _ _ _ (by rw[List.getElem?_append_right (by rw[hm.bl];exact Nat.le_refl _),hm.bl];simp)
  | false=>
   simp only[look,hb]
   exact hV (hi.tm x)
 ·rcases List.mem_append.1 h with h|h
  ·exact hi.evo.ρn b h
  ·simp at h;subst h;exact .inr h1
theorem KF [Known][Dfr]{K:Nat->Nat}{all:List (Nat × Wy)}:∀(zs:List (Nat × Wy)) (tm:List (Nat × D)) (bx:List (List D)) (g:G),Inv b0 ⟨n,tm,bx,fr,ee⟩ g a w->(∀ t cs,(t,Wy.al cs) ∈ zs->a.tmps.getD t undef=.pointer (some ⟨K t,0,none⟩)/\Goo b0 g fr w (K t) ((stO (fun _=>true) 0 all t).getD cs))->zs.Pairwise (fun p q=>p.1 ≠ q.1)->(∀ t cs t' cs',(t,Wy.al cs) ∈ zs->(t',Wy.al cs') ∈ zs->K t=K t'->t=t')->∃ g',Inv b0 ⟨n,QB bx.length zs tm,bx++wcs all zs,fr,ee⟩ g' a w
 | [],tm,bx,g,hi,_,_,_=>⟨g,by rw[QB,wcs,List.append_nil];exact hi⟩
 | (t,.pu d)::zs,tm,bx,g,hi,hA,hN,hK=>by
  rw[QB,wcs]
  exact KF zs tm bx g hi (fun t cs h=>hA t cs (List.mem_cons_of_mem _ h)) (List.pairwise_cons.1 hN).2 (fun t cs t' cs' h h'=>hK t cs t' cs' (List.mem_cons_of_mem _ h) (List.mem_cons_of_mem _ h'))
 | (t,.st x d)::zs,tm,bx,g,hi,hA,hN,hK=>by
  rw[QB,wcs]
  exact KF zs tm bx g hi (fun t cs h=>hA t cs (List.mem_cons_of_mem _ h)) (List.pairwise_cons.1 hN).2 (fun t cs t' cs' h h'=>hK t cs t' cs' (List.mem_cons_of_mem _ h) (List.mem_cons_of_mem _ h'))
 | (t,.al cs)::zs,tm,bx,g,hi,hA,hN,hK=>by
  rw[QB,wcs]
  obtain⟨h1,h2⟩:=hA t cs (List.mem_cons_self ..)
  have h3:=hi.addW h2 h1
  have hlen:(bx++[(stO (fun _=>true) 0 all t).getD cs]).length=bx.length+1:=by simp
  have hρ:∀(i b:Nat),g.ρ[i]?=some b->(g.ρ++[K t])[i]?=some b:=fun i b h=>(List.getElem?_append_left (List.getElem?_eq_some_iff.1 h).1).trans h
  obtain⟨g',h4⟩:=KF (all:=all) zs _ (bx++[(stO (fun _=>true) 0 all t).getD cs]) _ h3 (fun t' cs' h=>by
   obtain⟨q1,q2,q3,q4,vs,ty,q5,q6,q7⟩:=hA t' cs' (List.mem_cons_of_mem _ h)
   refine⟨q1,q2,fun hm=>?_,q4,vs,ty,q5,q6,fun j d v hd hv=>(q7 j d v hd hv).mono (fun _ _ h=>h) (fun _ _ _=>rfl) hρ (YK.refl g fr)⟩
   rcases Ii hm with hm|hm
   ·exact q3 hm
   ·have:=hK t' cs' t cs (List.mem_cons_of_mem _ h) (List.mem_cons_self ..) hm
    exact(List.pairwise_cons.1 hN).1 _ h this.symm) (List.pairwise_cons.1 hN).2 (fun t cs t' cs' h h'=>hK t cs t' cs' (List.mem_cons_of_mem _ h) (List.mem_cons_of_mem _ h'))
  rw[hlen,List.append_assoc]at h4
  exact⟨g',h4⟩
structure Turn (w w':World) (k:Nat):Prop where
 os:w'.os=w.os
 tape:w'.tape=w.tape
 output:w'.output=w.output
 size:w'.heap.size=w.heap.size
 far:∀ b,b ≠ k->w'.heap[b]?=w.heap[b]?
theorem Turn.cell {k:Nat}(h:Turn w w' k)(hC:∀ o,¬ g.C k o)(b o:Nat)(hb:g.C b o):w'.cell? ⟨b,o,none⟩=w.cell? ⟨b,o,none⟩:=
 World.cell?_of_block (w:=w) (h.far b fun e=>by subst e;exact hC o hb)
theorem V.turn {k:Nat}{d:D}{v:Value}(hv:V w g fr d v)(h:Turn w w' k)(hC:∀ o,¬ g.C k o):V w' g fr d v:=hv.mono (fun _ _ h=>h) (fun b o hb=>h.cell hC b o hb) (fun _ _ h=>h) (YK.refl g fr)
theorem Evo.turn {k:Nat}(e:Evo b0 ⟨g,fr,w⟩)(h:Turn w w' k)(hC:∀ o,¬ g.C k o)(hk:b0.w.heap.size<=k):Evo b0 ⟨g,fr,w'⟩:=
 ⟨h.os.trans e.os,h.tape.trans e.tape,h.output.trans e.output,by show _<=w'.heap.size;rw[h.size];exact e.size,fun b hb hn=>(h.far b (by omega)).trans (e.block b hb hn),e.C,fun b o hb=>(h.cell hC b o (e.C b o hb)).trans (e.cell b o hb),e.newC,e.ρp,e.ρn,e.τn,e.tok⟩
theorem Mem.turn [Known]{k:Nat}(hm:Mem g bx fr w)(h:Turn w w' k)(hM:¬ M g k)(hC:∀ o,¬ g.C k o):Mem g bx fr w' where
 bl:=hm.bl
 bat i b cs' h1 h2:=by
  obtain⟨us,ty,k1,k2,k3⟩:=hm.bat i b cs' h1 h2
  exact⟨us,ty,(h.far b fun e=>by subst e;exact hM (.inl (List.mem_of_getElem? h1))).trans k1,k2,fun j d v hd hv=>(k3 j d v hd hv).turn h hC⟩
 bC:=hm.bC
 bN:=hm.bN
 tl:=hm.tl
 tat i b c f h1 h2:=by
  have hT:=hm.tat i b c f h1 h2
  obtain⟨cur,r1,r2⟩:=hT.row
  exact⟨⟨cur,(h.far b fun e=>by subst e;exact hM (.inr ⟨c,List.mem_of_getElem? h1⟩)).trans r1,r2⟩,hT.le,hT.max,hT.pos,hT.far⟩
 tN:=hm.tN
 tρ:=hm.tρ
 Clt b p hb:=by
  have:=hm.Clt b p hb
  rw[h.size];exact this
 gl:=⟨fun b cs hb j v hv=>⟨(hm.gl.1 b cs hb j v hv).1,(h.cell hC _ _ (hm.gl.1 b cs hb j v hv).1).trans (hm.gl.1 b cs hb j v hv).2⟩,fun b t hb=>⟨(hm.gl.2 b t hb).1,(hm.gl.2 b t hb).2.imp fun v hv=>(h.cell hC _ _ (hm.gl.2 b t hb).1).trans hv⟩⟩
theorem Wm {K:Nat->Nat}{zs:List (Nat × Wy)}{i:Nat}{t:Nat}{y:Wy}(h:zs[i]?=some (t,y)):(zs.map (wK K))[i]?=some (wK K (t,y)):=by rw[List.getElem?_map,h];rfl
end
end Go.Av
end
section
open Go.RowKit Go.Pl
namespace Go.Av
def HF (l:List Oper)(m:Nat):Bool:=(l.take m).all fun o=>!Xy o||o.dst.isNone
def Gq (zs:List (Nat × Wy)):Bool:=zs.all fun p=>match p.2 with
 | .st t cs=>zs.all fun q=>match q.2 with
  | .al cs'=>!Nat.beq q.1 t||Nat.beq cs.length cs'.length
  | _=>true
 | _=>true
section
variable {P:Program} {T:Tab} {Q:X->St->Prop} {n:Nat} {ee:Nat × Nat} {tm tm':List (Nat × D)} {bx:List (List D)} {fr:List Fr} {b0:Bs} {g g':G} {w w':World} {a:Act}
theorem Goo.turn {k k':Nat}{cs:List D}(h:Goo b0 g fr w k' cs)(ht:Turn w w' k)(hne:k' ≠ k)(hC:∀ o,¬ g.C k o):Goo b0 g fr w' k' cs:=by
 obtain⟨h1,h2,h3,vs,ty,h4,h5,h6⟩:=h
 exact⟨h1,h2,h3,vs,ty,(ht.far k' hne).trans h4,h5,fun j d v hd hv=>(h6 j d v hd hv).turn ht hC⟩
theorem Og [Known][Dfr]{id m:Nat}{l acts:List Oper}{zs:List (Nat × Wy)}(hT:chk P T=true)(hm:P.follows .mixedOrders=true)(hchk:YB l=true)(hlk:Qf n l=true)(hE:U9 l=true)(hch:Y0 l m=true)(hz:HC l m=true)(hs:HE l m=true)(hsn:HF l m=true)(hv:Gq zs=true)(hlen:(l.take m).length=m)(hacts:l.drop m=acts)(h:AV P T l n bx fr 0 (l.take m) tm zs tm')(k:AL P l.toArray acts ⟨n,QB bx.length zs tm',bx++wcs zs zs,fr,ee⟩ Q) :
  AW P (.region id l.toArray true) ⟨n,tm,bx,fr,ee⟩ Q:=by
 obtain⟨h1,h2,h3'⟩:=h.steps
 have h3:∀(i:Nat) (o:Oper),(l.take m)[i]?=some o->∃ y,zs[i]?=some (Yc n i o,y)/\Vn n o=true/\Wof P T l n bx fr (((zs.take i).map wJ).reverse++tm) o y:=fun i o ho=>by
  have:=h3' i o ho
  rw[Nat.zero_add]at this;exact this
 rw[hlen]at h1
 have hml:m<=l.length:=by rw[List.length_take]at hlen;omega
 have hdl:∀ K,(zs.map (wK K)).length=m:=fun K=>by rw[List.length_map,h1]
 have hl:∀ K,(zs.map (wK K)).length<=l.length:=fun K=>by rw[hdl];exact hml
 have htk:∀(i:Nat) (o:Oper),l[i]?=some o->i<m->(l.take m)[i]?=some o:=fun i o ho hi=>by rw[List.getElem?_take,if_pos hi];exact ho
 have hdst:∀ K,HD n l (zs.map (wK K)):=fun K i o ho hd=>by
  rw[hdl]at hd
  obtain⟨y,q1,q3,q4⟩:=h3 i o (htk i o ho hd)
  refine⟨(wK K (Yc n i o,y)).2,by rw[Wm q1];rfl,fun hn=>?_,q3⟩
  cases y with
  | pu d=>obtain⟨⟨t,ht⟩,_⟩:=q4;rw[hn]at ht;cases ht
  | al cs=>obtain⟨t,e,ty,pos,after,ti,rfl,_⟩:=q4;cases hn
  | st t cs=>rfl
 have hop:∀ {j:Nat} {u:Nat} {y:Wy},zs[j]?=some (u,y)->∃ o,l[j]?=some o/\j<m/\u=Yc n j o/\Wof P T l n bx fr (((zs.take j).map wJ).reverse++tm) o y:=fun {j u y} hj=>by
  have hjm:j<m:=by have:=(List.getElem?_eq_some_iff.1 hj).1;omega
  have hoj:l[j]?=some l[j]:=List.getElem?_eq_getElem (by omega)
  obtain⟨y',q1,q3,q4⟩:=h3 j _ (htk j _ hoj hjm)
  rw[hj]at q1
  injection q1 with q1
  injection q1 with q1 q1'
  subst q1'
  exact⟨_,hoj,hjm,q1,q4⟩
 have hNo:∀ {i:Nat} {o:Oper},(l.take m)[i]?=some o->Xy o=false->∀ t cs,(t,Wy.al cs) ∈ zs->(YQ l o).contains t=false:=fun {i o} ho hno t cs hmem=>by
  obtain⟨j,hj⟩:=List.getElem?_of_mem hmem
  obtain⟨o',p1,p2,p3,p4⟩:=hop hj
  obtain⟨t',e,ty,pos,after,ti,q5,_⟩:=p4
  have hz1:=List.all_eq_true.1 hz _ (List.mem_of_getElem? (htk j o' p1 p2))
  subst q5
  dsimp only at hz1
  have:=List.all_eq_true.1 hz1 o (List.mem_of_getElem? ho)
  rw[hno,Bool.or_false]at this
  have e:t=t':=p3
  subst e
  simpa using this
 have hNN:∀(i j:Nat) (p q:Nat × Wy),zs[i]?=some p->zs[j]?=some q->p.1=q.1->i=j:=fun i j p q hp hq e=>
  (hdst (fun _=>0)).one hchk (hl _) i j _ _ (Wm (t:=p.1) (y:=p.2) hp) (Wm (t:=q.1) (y:=q.2) hq) e
 have hsa:∀ {j u x:Nat} {cs:List D},zs[j]?=some (u,.st x cs)->∃ i' cs' o,l[j]?=some o/\i'<j/\zs[i']?=some (x,.al cs')/\up (Yr [] l) j i'=true/\cs.length=cs'.length/\(∀ y,(∃ e,o.op=.store e (.tmp x) y)->∀ tv,y=.tmp tv->tv ∈ YQ l o)/\x ∈ YQ l o/\(∀ j' u' cs'',zs[j']?=some (u',.st x cs'')->j'=j):=fun {j u x cs} hj=>by
  obtain⟨o,p1,p2,p3,e,y,ty,pos,after,ti,d,rfl,q2,q3,q4,q5,rfl⟩:=hop hj
  have hc:=List.all_eq_true.1 hs j (List.mem_range.2 p2)
  rw[p1]at hc
  simp only[Bool.and_eq_true]at hc
  obtain⟨c1,c2,c3,c4⟩:=hc
  obtain⟨i',hi',c5⟩:=List.any_eq_true.1 c3
  have hij:=List.mem_range.1 hi'
  have hoi:l[i']?=some l[i']:=List.getElem?_eq_getElem (by omega)
  rw[hoi]at c5
  dsimp only at c5
  obtain⟨y',r1,r2,r3⟩:=h3 i' _ (htk i' _ hoi (by omega))
  have hal:∃ e',l[i'].op=.alloc e'/\l[i'].dst=some x:=by
   cases hop':l[i'].op<;>rw[hop']at c5<;>(try dsimp only at c5)<;>try(cases c5)
   cases hd':l[i'].dst with
   | none=>rw[hd']at c5;cases c5
   | some t'=>
    rw[hd']at c5
    simp only[Bool.and_eq_true]at c5
    exact⟨_,rfl,by rw[Nat.eq_of_beq_eq_true c5.1]⟩
  obtain⟨e',a1,a2⟩:=hal
  have hsl:Yc n i' l[i']=x:=by simp only[Yc,a2]
  rw[hsl]at r1
  cases y' with
  | pu d'=>obtain⟨_,b2,_⟩:=r3;simp[KE,a1]at b2
  | st t' cs'=>obtain⟨e2,y2,ty2,pos2,after2,ti2,d2,b1,_⟩:=r3;rw[b1]at a1;cases a1
  | al cs'=>
   refine⟨i',cs',_,p1,hij,r1,?_,?_,?_,by simpa using c1,fun j' u' cs'' hj'=>?_⟩
   ·have hp:=W1 hchk (i:=i') (j:=j) (by omega) (by omega) (by omega)
    unfold Wp at hp
    rw[hoi,p1]at hp
    simp only[a2,c1]at hp
    simp only[Bool.not_true,Bool.false_or,Bool.and_eq_true]at hp
    have:=hp.2
    rw[if_pos hij]at this
    exact this
   ·have hv1:=List.all_eq_true.1 hv _ (List.mem_of_getElem? hj)
    dsimp only at hv1
    have hv2:=List.all_eq_true.1 hv1 _ (List.mem_of_getElem? r1)
    simp only[Nat.beq_refl,Bool.not_true,Bool.false_or]at hv2
    exact Nat.eq_of_beq_eq_true hv2
   ·rintro y2 ⟨e2,he2⟩ tv rfl
    dsimp only at he2
    injection he2 with _ _ he2
    subst he2
    simpa using c2
   ·by_cases hne:j'=j
    ·exact hne
    ·exfalso
     obtain⟨o',p1',p2',p3',e2,y2,ty2,pos2,after2,ti2,d2,rfl,_⟩:=hop hj'
     have c6:=List.all_eq_true.1 c4 j' (List.mem_range.2 p2')
     rw[p1']at c6
     simp[hne]at c6
 refine⟨fun b0 g a w hi=>wp_region_any hm ?_⟩
 have main:∀(fuel:Nat) (listed:Array Bool) (g:G) (a:Act) (w:World) (K:Nat->Nat),MidE b0 ee n tm (bx,fr) l (zs.map (wK K)) listed g a w ->
   (∀(i t:Nat) (cs:List D),zs[i]?=some (t,.al cs)->listed.getD i false=true->Goo b0 g fr w (K t) ((stO (fun j=>listed.getD j false) 0 zs t).getD cs))->(∀(i j t t':Nat) (cs cs':List D),zs[i]?=some (t,.al cs)->zs[j]?=some (t',.al cs')->listed.getD i false=true->listed.getD j false=true->K t=K t'->t=t') ->
   (∀ i,m<=i->i<l.length->listed.getD i false=false)->left l listed=fuel->wpAny P .any l.toArray (Ve b0 Q) fuel listed a w:=by
  intro fuel
  have hend:∀(listed:Array Bool) (g:G) (a:Act) (w:World) (K:Nat->Nat),MidE b0 ee n tm (bx,fr) l (zs.map (wK K)) listed g a w ->
    (∀(i t:Nat) (cs:List D),zs[i]?=some (t,.al cs)->listed.getD i false=true->Goo b0 g fr w (K t) ((stO (fun j=>listed.getD j false) 0 zs t).getD cs))->(∀(i j t t':Nat) (cs cs':List D),zs[i]?=some (t,.al cs)->zs[j]?=some (t',.al cs')->listed.getD i false=true->listed.getD j false=true->K t=K t'->t=t') ->
    (∀ i,i<m->listed.getD i false=true)->wpList P l.toArray (Ve b0 Q) acts a w:=fun listed g a w K hM hA hKK hall=>by
   have hinv:=JY hchk (hl K) (hdst K) hM fun i hi=>hall i (by rw[hdl]at hi;exact hi)
   have hinv2:Inv b0 ⟨n,tm',bx,fr,ee⟩ g a w:=⟨hinv.size,hinv.defers,hinv.mem,fun x=>by
    have hx:=hinv.tm x
    dsimp only at hx ⊢
    rw[h2,<- List.map_reverse]
    rw[<- List.map_reverse]at hx
    rcases JC (K:=K) (x:=x) (tm:=tm) zs.reverse with e|e
    ·rw[e];exact hx
    ·rw[e];exact .junk _,hinv.evo,hinv.bd⟩
   have hidx:∀ {t:Nat} {cs:List D},(t,Wy.al cs) ∈ zs->∃ i,zs[i]?=some (t,.al cs)/\listed.getD i false=true:=fun hmem=>by
    obtain⟨i,hi⟩:=List.getElem?_of_mem hmem
    exact⟨i,hi,hall i (by have:=(List.getElem?_eq_some_iff.1 hi).1;omega)⟩
   obtain⟨g',hi'⟩:=KF (K:=K) (all:=zs) zs tm' bx g hinv2 (fun t cs hmem=>by
    obtain⟨i,hi,hli⟩:=hidx hmem
    refine⟨?_,?_⟩
    ·have:=hM.tm t
     rw[YG ((hdst K).one hchk (hl K)) (hl K) (Wm hi),if_pos hli]at this
     exact Vp this
    ·have:=hA i t cs hi hli
     rw[Wv (q:=fun _=>true) fun j u cs' hj=>by
      rw[Nat.zero_add]
      exact hall j (by have:=(List.getElem?_eq_some_iff.1 hj).1;omega)]at this
     exact this) (List.pairwise_iff_getElem.2 fun i j hi hj hij e=>by
     have:=hNN i j _ _ (List.getElem?_eq_getElem hi) (List.getElem?_eq_getElem hj) e
     omega) (fun t cs t' cs' hmem hmem' e=>by
    obtain⟨i,hi,hli⟩:=hidx hmem
    obtain⟨j,hj,hlj⟩:=hidx hmem'
    exact hKK i j t t' cs cs' hi hj hli hlj e)
   exact k.run b0 g' a w hi'
  induction fuel with
  | zero=>
   intro listed g a w K hM hA hKK hu h0
   exact Wt hE hch 0 m listed a w (by
    rcases Nat.lt_or_ge m l.length with h|h
    ·have h5:=hu m (Nat.le_refl _) h
     have h6:=Yx h0 h
     rw[h5]at h6;cases h6
    ·omega) (Nat.le_refl _) hM.len (fun i hi=>by
     rw[Yx h0 hi]
     rcases Nat.lt_or_ge m l.length with h|h
     ·have h5:=hu m (Nat.le_refl _) h
      have h6:=Yx h0 h
      rw[h5]at h6;cases h6
     ·simp;omega) (by rw[hacts];exact hend listed g a w K hM hA hKK (fun i hi=>Yx h0 (by omega)))
  | succ fuel ih=>
   intro listed g a w K hM hA hKK hu hf
   by_cases hall:∀ i,i<m->listed.getD i false=true
   ·have hls:∀ i,i<l.length->(listed.getD i false=true ↔ i<m):=fun i hi=>by
     rcases Nat.lt_or_ge i m with h|h
     ·simp[hall i h,h]
     ·rw[hu i h hi];simp;omega
    exact Wt hE hch (fuel+1) m listed a w (by rw[<- hf,VG hls];omega) (Nat.le_refl _) hM.len hls (by rw[hacts];exact hend listed g a w K hM hA hKK hall)
   refine⟨fun he=>(V7 hE hM.len (by omega) he).elim,fun i hi=>?_⟩
   obtain⟨hn0,o,ho,hr⟩:=mem_ready.1 hi
   have ho':l[i]?=some o:=by simpa using ho
   have hil:i<l.length:=(List.getElem?_eq_some_iff.1 ho').1
   have hlt:i<listed.size:=by rw[hM.len];exact hil
   have hn:listed.getD i false=false:=by simp[hlt]at hn0 ⊢;exact hn0
   have hleft:=Qa hil hM.len hn
   by_cases him:i<m
   ·obtain⟨y,q1,q3,q4⟩:=h3 i o (htk i o ho' him)
    have hut:∀ x,m<=x->x<l.length->(listed.setIfInBounds i true).getD x false=false:=fun x hx hxl=>by
     rw[getD_set_ne false (by omega)]
     exact hu x hx hxl
    have hlist:∀ x:Nat,x ≠ i->(listed.setIfInBounds i true).getD x false=true->listed.getD x false=true:=fun x hx h=>by
     rw[getD_set_ne false (Ne.symm hx)]at h;exact h
    have hcl':∀(mm:Nat) (om:Oper),l[mm]?=some om->(listed.setIfInBounds i true).getD mm false=true->∀ e ∈ om.after,Region.binds .any e=true->(listed.setIfInBounds i true).getD e.on false=true:=fun mm om hmm hlm ed he hb=>by
     by_cases hmi:mm=i
     ·subst hmi
      rw[ho']at hmm;injection hmm with hmm;subst hmm
      exact getD_set_true (hr ed he hb)
     ·rw[getD_set_ne false (Ne.symm hmi)]at hlm
      exact getD_set_true (hM.closed mm om hmm hlm ed he hb)
    cases y with
    | pu d=>
     obtain⟨⟨t,ht⟩,q5,q6⟩:=q4
     have hnst:Xy o=false:=by
      have hz1:=List.all_eq_true.1 hsn _ (List.mem_of_getElem? (htk i o ho' him))
      rw[ht]at hz1
      simpa using hz1
     have hM0:MidE ⟨g,fr,w⟩ (g.ρ.length,fr.length) n tm (bx,fr) l (zs.map (wK K)) listed g a w:=⟨⟨Nat.le_refl _,Nat.le_refl _⟩,hM.size,hM.defers,hM.mem,Evo.refl _,hM.tm,hM.closed,hM.len⟩
     refine Q5 (y:=.pu d) hchk hlk (hl K) (hdst K) hM0 ho' hi (by rw[hdl];exact him) (by rw[Wm q1];rfl) (by
      rw[<- List.map_take,Iv (fun t' cs' hmem=>hNo (htk i o ho' him) hnst t' cs' (List.mem_of_mem_take hmem))]
      exact q6) fun g' a' w' hM'=>?_
     have hM':MidE ⟨g,fr,w⟩ (g.ρ.length,fr.length) n tm (bx,fr) l (zs.map (wK K)) (listed.setIfInBounds i true) g' a' w':=hM'
     refine ih _ g' a' w' K ⟨hM.bd,hM'.size,hM'.defers,hM'.mem,hM.evo.trans hM'.evo,hM'.tm,hM'.closed,hM'.len⟩ (fun x t' cs' hx hlx=>?_) (fun x x' t' t'' cs' cs'' hx hx' hlx hlx'=>?_) hut (by omega)
     ·have hxi:x ≠ i:=fun e=>by subst e;rw[q1]at hx;cases hx
      rw[Wv (q:=fun j=>listed.getD j false) fun j u cs2 hj=>by
       rw[Nat.zero_add]
       exact getD_set_ne false fun e=>by subst e;rw[q1]at hj;cases hj]
      exact(hA x t' cs' hx (hlist x hxi hlx)).evo hM'.evo
     ·have hxi:x ≠ i:=fun e=>by subst e;rw[q1]at hx;cases hx
      have hxi':x' ≠ i:=fun e=>by subst e;rw[q1]at hx';cases hx'
      exact hKK x x' t' t'' cs' cs'' hx hx' (hlist x hxi hlx) (hlist x' hxi' hlx')
    | al cs=>
     obtain⟨t,e,ty,pos,after,ti,rfl,hti,rfl⟩:=q4
     have q1:zs[i]?=some (t,.al (ti.zero.map ZK.d)):=q1
     obtain⟨z,z1,z2⟩:=(ZF hT hti).zero w
     have htn:t<n:=by simpa[Vn,Nat.blt_eq]using q3
     have hN:=fun K=>(hdst K).one hchk (hl K)
     unfold wpOp
     simp only[ho]
     have hw:Region.wanted (⟨some t,.alloc e,ty,pos,after,none⟩:Oper) (yielded l.toArray a.tmps)=true:=rfl
     rw[if_pos hw]
     refine .inl ?_
     have hrun:(execOp a.eval ⟨some t,.alloc e,ty,pos,after,none⟩).run P w=.ok (.value (.pointer (some ⟨w.heap.size,0,none⟩))) (w.alloc (.cells z.cells e)):=by
      simp[execOp,Instr.alloc,newVar,newRow,Sem.run_bind,z1]
     unfold Oper.wp
     rw[hrun,Oper.upon_value]
     have hev:=Evo.al hM.mem (.cells z.cells e)
     have hK:∀ t',t' ≠ t->(if t'=t then w.heap.size else K t')=K t':=fun t' h=>if_neg h
     have hsame:∀(j:Nat) (x:Nat) (y:Wy),zs[j]?=some (x,y)->x ≠ t->wK (fun s=>if s=t then w.heap.size else K s) (x,y)=wK K (x,y):=fun j x y _ hx=>by
      cases y with
      | pu d=>rfl
      | st t' cs=>rfl
      | al cs=>simp only[wK,hK x hx]
     refine ih _ g _ _ (fun s=>if s=t then w.heap.size else K s) ⟨hM.bd,by simp[Act.put,hM.size],by simp only[Act.put];exact hM.defers,hM.mem.al _,hM.evo.trans hev,fun x=>?_,hcl',by simp[hM.len]⟩ (fun x t' cs' hx hlx=>?_) (fun x x' t' t'' cs' cs'' hx hx' hlx hlx' hke=>?_) hut (by omega)
     ·by_cases hx:x=t
      ·subst hx
       rw[YG (hN _) (hl _) (Wm q1),if_pos (by simp[hM.len,hil])]
       have e1:(Act.put a (some x) (.pointer (some ⟨w.heap.size,0,none⟩))).tmps.getD x undef=.pointer (some ⟨w.heap.size,0,none⟩):=by
        simp[Act.put,Array.getD_getElem?,hM.size,htn]
       dsimp only
       rw[e1]
       simp only[if_pos]
       exact .gptr _ _
      ·have e1:(Act.put a (some t) (.pointer (some ⟨w.heap.size,0,none⟩))).tmps.getD x undef=a.tmps.getD x undef:=by
        simp[Act.put,Array.getD_getElem?,Array.getElem?_setIfInBounds_ne (Ne.symm hx)]
       dsimp only
       rw[e1]
       have e2:cur l (zs.map (wK fun s=>if s=t then w.heap.size else K s)) tm (listed.setIfInBounds i true) x=cur l (zs.map (wK K)) tm listed x:=by
        by_cases hex:∃(j:Nat) (y:Wy),zs[j]?=some (x,y)
        ·obtain⟨j,y,hj⟩:=hex
         have hne:i ≠ j:=fun e=>by
          subst e;rw[q1]at hj;injection hj with hj;injection hj with hj;exact hx hj.symm
         have hj1:=Wm (K:=fun s=>if s=t then w.heap.size else K s) hj
         rw[hsame j x y hj hx]at hj1
         rw[YG (hN _) (hl _) hj1,YG (hN K) (hl K) (Wm hj),getD_set_ne false hne]
        ·have hno:∀(K:Nat->Nat) (j:Nat) (p:Nat × D),(zs.map (wK K))[j]?=some p->p.1 ≠ x:=fun K j p hj e=>by
          rw[List.getElem?_map]at hj
          cases hzj:zs[j]? with
          | none=>rw[hzj]at hj;cases hj
          | some q=>
           rw[hzj]at hj
           injection hj with hj
           subst hj
           exact hex ⟨j,q.2,by rw[hzj,<- e];rfl⟩
         rw[YT (hno _),YT (hno _)]
       rw[e2]
       exact(hM.tm x).evo hev
     ·by_cases hxi:x=i
      ·subst hxi
       rw[q1]at hx
       injection hx with hx
       injection hx with hx hx'
       injection hx' with hx'
       subst hx hx'
       simp only[if_pos]
       rw[Xw fun j u cs2 hj=>by
        rw[Nat.zero_add]
        obtain⟨i',cs3,o',s1,s2,s3,s4,_⟩:=hsa hj
        have e3:=hNN i' x _ _ s3 q1 rfl
        subst e3
        rw[getD_set_ne false (by omega)]
        cases hlj:listed.getD j false with
        | false=>rfl
        | true=>
         have:=Wb hM.closed j o' s1 (hM.closed j o' s1 hlj) i' s4
         rw[hn]at this;cases this]
       refine⟨hM.evo.size,fun hmm=>absurd (hM.mem.lt hmm) (Nat.lt_irrefl _),fun o hc=>absurd (hM.mem.Clt _ o hc) (Nat.lt_irrefl _),z.cells,e,heap_alloc_new w _,?_,fun j d v hd hv=>?_⟩
       ·have:=(YX (w:=w) (g:=g) (fr:=fr) z2).1
        exact⟨by simpa using this,JP _⟩
       ·exact((YX (w:=w.alloc (.cells z.cells e)) (g:=g) (fr:=fr) z2).2 j d v hd (by simpa using hv)).1
      ·have hne:t' ≠ t:=fun e=>hxi (hNN x i _ _ hx q1 e)
       rw[hK t' hne]
       rw[Wv (q:=fun j=>listed.getD j false) fun j u cs2 hj=>by
        rw[Nat.zero_add]
        exact getD_set_ne false fun e=>by subst e;rw[q1]at hj;cases hj]
       exact(hA x t' cs' hx (hlist x hxi hlx)).evo hev
     ·by_cases hxi:x=i
      ·by_cases hxi':x'=i
       ·subst hxi;subst hxi'
        rw[hx]at hx';injection hx' with hx';injection hx'
       ·subst hxi
        rw[q1]at hx;injection hx with hx;injection hx with hx _;subst hx
        have hne:t'' ≠ t:=fun e=>hxi' (hNN x' x _ _ hx' q1 e)
        rw[hK t'' hne]at hke
        simp only[if_pos]at hke
        have:=(hA x' t'' cs'' hx' (hlist x' hxi' hlx')).lt
        omega
      ·have hne:t' ≠ t:=fun e=>hxi (hNN x i _ _ hx q1 e)
       rw[hK t' hne]at hke
       by_cases hxi':x'=i
       ·subst hxi'
        rw[q1]at hx';injection hx' with hx';injection hx' with hx' _;subst hx'
        simp only[if_pos]at hke
        have:=(hA x t' cs' hx (hlist x hxi hlx)).lt
        omega
       ·have hne':t'' ≠ t:=fun e=>hxi' (hNN x' i _ _ hx' q1 e)
        rw[hK t'' hne']at hke
        exact hKK x x' t' t'' cs' cs'' hx hx' (hlist x hxi hlx) (hlist x' hxi' hlx') hke
    | st ts cs=>
     obtain⟨i',cs3,o',s1,s2,s3,s4,s5,s6,s7,s8⟩:=hsa q1
     rw[ho']at s1;injection s1 with s1;subst s1
     obtain⟨e,yy,ty,pos,after,ti,d,rfl,hy,hone,hti,hsz,rfl⟩:=q4
     have q1:zs[i]?=some (n+i,.st ts d.cellsOf):=q1
     have hli:listed.getD i' false=true:=Wb hM.closed i _ ho' hr i' s4
     have hN:=(hdst K).one hchk (hl K)
     have hslot:a.tmps.getD ts undef=.pointer (some ⟨K ts,0,none⟩):=by
      have:=hM.tm ts
      rw[YG hN (hl K) (Wm s3),if_pos hli]at this
      exact Vp this
     have hG:=hA i' ts cs3 s3 hli
     rw[Xw fun j u cs2 hj=>by
      rw[Nat.zero_add,s8 j u cs2 hj];exact hn]at hG
     have hG:Goo b0 g fr w (K ts) cs3:=hG
     obtain⟨g1,g2,g3,us,ut,g4,⟨g5,g5r⟩,g6⟩:=hG
     have hvy:V w g fr d (a.eval yy):=by
      rw[<- Yj hy]
      have hinv:∀ x,x ∈ YQ l (⟨none,.store e (.tmp ts) yy,ty,pos,after,none⟩:Oper)->V w g fr (look (((zs.take i).map wJ).reverse++tm) x) (a.tmps.getD x undef):=fun x hx=>by
       have hx2:=hM.tm x
       rw[Qg hchk hlk (hl K) (hdst K) hM.closed ho' hn hr (by rw[hdl];omega) hx,<- List.map_take]at hx2
       rw[<- List.map_reverse]at hx2 ⊢
       rcases JC (K:=K) (x:=x) (tm:=tm) (zs.take i).reverse with e|e
       ·rw[e];exact hx2
       ·rw[e];exact .junk _
      cases yy with
      | tmp tv=>exact hinv tv (s6 (.tmp tv) ⟨e,rfl⟩ tv rfl)
      | const v=>exact QR _ _ _ v
      | func f=>exact .fn f [] [] rfl (by simp)
      | global k=>exact .gptr _ 0
     obtain⟨vs,v2,v3,v4⟩:=hvy.cells hone
     have hvs1:∀ v ∈ vs,v.oneCell'=true:=fun v hv=>by
      obtain⟨j,hj⟩:=List.getElem?_of_mem hv
      have hlt:j<d.cellsOf.length:=by rw[<- v3];exact(List.getElem?_eq_some_iff.1 hj).1
      exact(v4 j _ v (List.getElem?_eq_getElem hlt) hj).one (Wx hone (List.getElem?_eq_getElem hlt))
     have hrun:=run_storeCells_at (P:=P) (K ts) 0 ut vs 0 us w g4 (by omega) hvs1
     obtain⟨w',hw'⟩:∃ w',w'=w.setRow (K ts) (us.toList.take (0+0)++vs++us.toList.drop (0+0+vs.length)).toArray:=⟨_,rfl⟩
     have hheap:w'.heap[K ts]?=some (.cells (us.toList.take (0+0)++vs++us.toList.drop (0+0+vs.length)).toArray ut (0,0)):=by
      rw[hw'];exact setRow_heap w (K ts) us _ ut _ g4
     have hturn:Turn w w' (K ts):=⟨by rw[hw'];rfl,by rw[hw'];rfl,by rw[hw'];rfl,by rw[hw'];simp[World.setRow],fun k hk=>by
      rw[hw'];simp only[World.setRow,Array.getElem?_modify];rw[if_neg (fun e=>hk e.symm)]⟩
     have hrow:(us.toList.take (0+0)++vs++us.toList.drop (0+0+vs.length))=vs:=by
      rw[List.drop_of_length_le (by simp;omega)];simp
     rw[hrow]at hheap
     unfold wpOp
     simp only[ho]
     have hw:Region.wanted (⟨none,.store e (.tmp ts) yy,ty,pos,after,none⟩:Oper) (yielded l.toArray a.tmps)=true:=rfl
     rw[if_pos hw]
     refine .inl ?_
     have hrun2:(execOp a.eval ⟨none,.store e (.tmp ts) yy,ty,pos,after,none⟩).run P w=.ok .skip w':=by
      rw[<- hw']at hrun
      have hag:=(ZF hT hti)
      have hsz2:(sizeOf e).run P w=.ok vs.length w:=Z1 (by rw[hag.tSize,v3,hsz]) w
      have hea:a.eval (.tmp ts)=.pointer (some ⟨K ts,0,none⟩):=hslot
      simp[execOp,hea,Instr.storeAt,Instr.sureAddr,storeVar,Sem.run_bind,v2,hsz2,hrun]
     unfold Oper.wp
     rw[hrun2]
     have hcurs:∀ x,x ≠ n+i->cur l (zs.map (wK K)) tm (listed.setIfInBounds i true) x=cur l (zs.map (wK K)) tm listed x:=fun x hx=>by
      by_cases hex:∃(j:Nat) (y:Wy),zs[j]?=some (x,y)
      ·obtain⟨j,y,hj⟩:=hex
       have hne:i ≠ j:=fun e=>by
        subst e;rw[q1]at hj;injection hj with hj;injection hj with hj;exact hx hj.symm
       rw[YG hN (hl K) (Wm hj),YG hN (hl K) (Wm hj),getD_set_ne false hne]
      ·have hno:∀(j:Nat) (p:Nat × D),(zs.map (wK K))[j]?=some p->p.1 ≠ x:=fun j p hj e=>by
        rw[List.getElem?_map]at hj
        cases hzj:zs[j]? with
        | none=>rw[hzj]at hj;cases hj
        | some q=>
         rw[hzj]at hj
         injection hj with hj
         subst hj
         exact hex ⟨j,q.2,by rw[hzj,<- e];rfl⟩
       rw[YT hno,YT hno]
     refine ih _ g a w' K ⟨hM.bd,hM.size,hM.defers,hM.mem.turn hturn g2 g3,hM.evo.turn hturn g3 g1,fun x=>?_,hcl',by simp[hM.len]⟩ (fun x t' cs' hx hlx=>?_) (fun x x' t' t'' cs' cs'' hx hx' hlx hlx'=>?_) hut (by omega)
     ·by_cases hx:x=n+i
      ·subst hx
       rw[YG hN (hl K) (Wm q1),if_pos (by simp[hM.len,hil])]
       exact .junk _
      ·rw[hcurs x hx]
       exact(hM.tm x).turn hturn g3
     ·have hxi:x ≠ i:=fun e=>by subst e;rw[q1]at hx;cases hx
      by_cases hte:t'=ts
      ·subst hte
       rw[Xx q1 (by rw[Nat.zero_add];simp[hM.len,hil]) fun j' u' cs'' hj=>s8 j' u' cs'' hj]
       exact⟨g1,g2,g3,vs.toArray,ut,hheap,⟨by simp[v3],U5 hone⟩,fun j c v hd hv=>(v4 j c v hd (by simpa using hv)).turn hturn g3⟩
      ·rw[Wv (q:=fun j=>listed.getD j false) fun j u cs2 hj=>by
        rw[Nat.zero_add]
        exact getD_set_ne false fun e=>by
         subst e;rw[q1]at hj;injection hj with hj;injection hj with _ hj;injection hj with hj;exact hte hj.symm]
       exact(hA x t' cs' hx (hlist x hxi hlx)).turn hturn (fun e=>hte (hKK x i' t' ts cs' cs3 hx s3 (hlist x hxi hlx) hli e)) g3
     ·have hxi:x ≠ i:=fun e=>by subst e;rw[q1]at hx;cases hx
      have hxi':x' ≠ i:=fun e=>by subst e;rw[q1]at hx';cases hx'
      exact hKK x x' t' t'' cs' cs'' hx hx' (hlist x hxi hlx) (hlist x' hxi' hlx')
   ·exact(hall fun x hx=>Wb hM.closed i o ho' hr x (Wq hch (by omega) hil (by omega))).elim
 have hsz:l.toArray.size=l.length:=by simp
 rw[hsz]
 have hfresh:∀ i,(Array.replicate l.length false).getD i false=false:=fun i=>by
  rcases Nat.lt_or_ge i l.length with h|h<;>simp[h]
 refine main l.length _ g a _ (fun _=>0) ⟨hi.bd,hi.size,hi.defers,hi.mem.drew,hi.evo.trans Evo.drew,fun t=>?_,fun m o hm hl=>?_,by simp⟩ (fun i t cs h hl=>by rw[hfresh]at hl;cases hl) (fun i j t t' cs cs' h h' hl=>by rw[hfresh]at hl;cases hl) (fun i _ _=>hfresh i) ?_
 ·have:cur l (zs.map (wK fun _=>0)) tm (Array.replicate l.length false) t=look tm t:=by
   unfold cur
   have hf:(List.range l.length).find? (fun i=>(Array.replicate l.length false).getD i false&&(((zs.map (wK fun _=>0))[i]?).map (·.1)==some t))=none:=by
    apply List.find?_eq_none.2
    intro i _
    rw[hfresh];simp
   rw[hf]
  rw[this]
  exact(hi.tm t).drew
 ·rw[hfresh]at hl;cases hl
 ·have:=VG (l:=l) (listed:=Array.replicate l.length false) (j:=0) (fun i hi=>by rw[hfresh];simp)
  rw[this];omega
def HG (l:List Oper):Bool:=l.any Xy
structure AWk [Known][Dfr](P:Program) (l acts:List Oper) (n:Nat) (zs:List (Nat × Wy)) (tm:List (Nat × D)) (bx:List (List D)) (fr:List Fr) (ee:Nat × Nat) (Q:X->St->Prop):Prop where
 run:AL P l.toArray acts ⟨n,QB bx.length zs tm,bx++wcs zs zs,fr,ee⟩ Q
theorem UD [Known][Dfr]{l acts:List Oper}{zs:List (Nat × Wy)}{bx2:List (List D)}{tm2:List (Nat × D)}{k0:Nat}(hv:Gq zs=true)(hk0:Vo bx=some k0)(htm:nfl (QB k0 zs tm)=some tm2)(hbx:nfb (bx++wcs zs zs)=some bx2)(k:AL P l.toArray acts ⟨n,tm2,bx2,fr,ee⟩ Q):Gq zs=true/\AWk P l acts n zs tm bx fr ee Q:=by
 have e1:=YU hk0
 have e2:=Yq htm
 have e3:=Yv hbx
 subst e1 e2 e3
 exact⟨hv,⟨k⟩⟩
theorem Jj [Known][Dfr]{l:List Oper}{o:Oper}{rest:List Oper}{i t:Nat}{d:D}{zs:List (Nat × Wy)}{tm2:List (Nat × D)}(hd:o.dst=some t)(hna:KE o=false)(ht:Nat.blt t n=true)(h2:nfl (Yi l o tm)=some tm2)(h:AL P l.toArray [o] ⟨n,tm2,bx,fr,(bx.length,fr.length)⟩ (qY o bx fr (.pu d)))(k:AV P T l n bx fr (i+1) rest ((t,d)::tm) zs tm'):AV P T l n bx fr i (o::rest) tm ((t,.pu d)::zs) tm':=
 .pu i o rest t d tm zs tm' hd hna ht (Yq h2 ▸ h) k
theorem Jk [Known][Dfr]{l rest:List Oper}{i t:Nat}{e:TypeId}{ty:Nat}{pos:String}{after:Array Edge}{ti:Ti}{zs:List (Nat × Wy)}(ht:Nat.blt t n=true)(hti:tl T e=some ti)(k:AV P T l n bx fr (i+1) rest ((t,.junk)::tm) zs tm'):AV P T l n bx fr i (⟨some t,.alloc e,ty,pos,after,none⟩::rest) tm ((t,.al (ti.zero.map ZK.d))::zs) tm':=
 .al i t e ty pos after rest ti tm zs tm' ht hti k
theorem Jl [Known][Dfr]{l rest:List Oper}{i ts:Nat}{e:TypeId}{y:Operand}{ty:Nat}{pos:String}{after:Array Edge}{ti:Ti}{d:D}{zs:List (Nat × Wy)}(hy:nf (ev tm y)=some d)(ho:D.ones d.cellsOf=true)(hti:tl T e=some ti)(hs:Nat.beq d.cellsOf.length ti.size=true)(k:AV P T l n bx fr (i+1) rest ((n+i,.junk)::tm) zs tm'):AV P T l n bx fr i (⟨none,.store e (.tmp ts) y,ty,pos,after,none⟩::rest) tm ((n+i,.st ts d.cellsOf)::zs) tm':=
 .st i ts e y ty pos after rest ti d tm zs tm' hy ho hti hs k
theorem WU [Known][Dfr]{id:Nat}(m:Nat){l acts:List Oper}{zs:List (Nat × Wy)}(hT:chk P T=true)(hm:P.follows .mixedOrders=true)(hch:(HG (l.take m)&&(Y0 l m&&(HC l m&&(HE l m&&HF l m))))=true)(hchk:YB l=true)(hlk:Qf n l=true)(hE:U9 l=true)(hlen:Nat.beq (l.take m).length m=true)(hacts:nfl (l.drop m)=some acts)
  (h:AV P T l n bx fr 0 (l.take m) tm zs tm') (k:Gq zs=true/\AWk P l acts n zs tm' bx fr ee Q) :
  AW P (.region id l.toArray true) ⟨n,tm,bx,fr,ee⟩ Q:=by
 simp only[Bool.and_eq_true]at hch
 exact Og hT hm hchk hlk hE hch.2.1 hch.2.2.1 hch.2.2.2.1 hch.2.2.2.2 k.1 (Nat.eq_of_beq_eq_true hlen) (Yq hacts) h k.2.run
end
end Go.Av
end
