/- Operations that make or change memory, said of abstract states. -/
import Derived.Test.YtchlgagdbflkmaaGreatDoorL03
set_option linter.unusedSimpArgs false
set_option linter.unusedVariables false
section
open Go.RowKit Go.Pl
namespace Go.Av
section
variable {P:Program} {Q:X->St->Prop} {n:Nat} {ee:Nat × Nat} {tm:List (Nat × D)} {bx bx':List (List D)} {fr fr':List Fr} {b0:Bs} {g:G} {w:World} {a:Act} {T:Tab}
variable {ops:Array Oper} {rest:List Oper} {t ty:Nat} {pos:String} {after:Array Edge}
theorem Jj [Known][Dfr]{o:Op}(d:D)(htd:Nat.blt t n=true)
  (h:∀ g a w,Inv ⟨g,fr,w⟩ ⟨n,tm,bx,fr,(g.ρ.length,fr.length)⟩ g a w->∃ v w' g',(execOp a.eval ⟨some t,o,ty,pos,after,none⟩).run P w=.ok (.value v) w'/\Evo ⟨g,fr,w⟩ ⟨g',fr',w'⟩/\Mem g' bx' fr' w'/\V w' g' fr' d v)
  (k:AL P ops rest ⟨n,(t,d)::tm,bx',fr',ee⟩ Q):AL P ops (⟨some t,o,ty,pos,after,none⟩::rest) ⟨n,tm,bx,fr,ee⟩ Q:=⟨fun b0 g a w hi=>
 wpList_plain rfl fun K hK=>by
  obtain⟨v,w',g',hr,he,hm,hv⟩:=h g a w ⟨hi.size,hi.defers,hi.mem,hi.tm,Evo.refl _,Nat.le_refl _,Nat.le_refl _⟩
  unfold Oper.wp
  rw[hr]
  have hi2:Inv b0 ⟨n,tm,bx',fr',ee⟩ g' a w':=⟨hi.size,hi.defers,hm,fun t=>(hi.tm t).evo he,hi.evo.trans he,hi.bd⟩
  exact hK _ _ (k.run b0 g' _ w' (hi2.put htd hv))⟩
theorem Hc [Known][Dfr]{o:Op}
  (h:∀ g a w,Inv ⟨g,fr,w⟩ ⟨n,tm,bx,fr,(g.ρ.length,fr.length)⟩ g a w->∃ w' g',(execOp a.eval ⟨none,o,ty,pos,after,none⟩).run P w=.ok .skip w'/\Evo ⟨g,fr,w⟩ ⟨g',fr',w'⟩/\Mem g' bx' fr' w')
  (k:AL P ops rest ⟨n,tm,bx',fr',ee⟩ Q):AL P ops (⟨none,o,ty,pos,after,none⟩::rest) ⟨n,tm,bx,fr,ee⟩ Q:=⟨fun b0 g a w hi=>
 wpList_plain rfl fun K hK=>by
  obtain⟨w',g',hr,he,hm⟩:=h g a w ⟨hi.size,hi.defers,hi.mem,hi.tm,Evo.refl _,Nat.le_refl _,Nat.le_refl _⟩
  unfold Oper.wp
  rw[hr]
  exact hK _ _ (k.run b0 g' _ w' ⟨hi.size,hi.defers,hm,fun t=>(hi.tm t).evo he,hi.evo.trans he,hi.bd⟩)⟩
theorem Mem.lt [Known](hm:Mem g bx fr w){k:Nat}(h:M g k):k<w.heap.size:=by
 rcases h with hk|⟨c,hk⟩
 ·obtain⟨i,hi⟩:=List.getElem?_of_mem hk
  have hlt:i<bx.length:=by rw[<- hm.bl];exact(List.getElem?_eq_some_iff.1 hi).1
  obtain⟨vs,ty,h1,_⟩:=hm.bat i k _ hi (List.getElem?_eq_getElem hlt)
  exact(Array.getElem?_eq_some_iff.1 h1).1
 ·obtain⟨i,hi⟩:=List.getElem?_of_mem hk
  have hlt:i<fr.length:=by rw[<- hm.tl];exact(List.getElem?_eq_some_iff.1 hi).1
  obtain⟨cur,h1,_⟩:=(hm.tat i k c _ hi (List.getElem?_eq_getElem hlt)).row
  exact(Array.getElem?_eq_some_iff.1 h1).1
theorem Vy (w:World)(o:Obj){b:Nat}(h:b<w.heap.size)(p:Nat):(w.alloc o).cell? ⟨b,p,none⟩=w.cell? ⟨b,p,none⟩:=
 World.cell?_of_block (w:=w) (Below.heap_alloc w o b h)
theorem Mem.box0 [Known](hm:Mem g bx fr w)(vs:List Value)(cs:List D)(e:TypeId)(hl:D.fits cs vs.length)(hv:∀(j:Nat) (d:D) (v:Value),(D.ex cs)[j]?=some d->vs[j]?=some v->V w g fr d v) :
  Evo ⟨g,fr,w⟩ ⟨⟨g.C,g.ρ++[w.heap.size],g.τ⟩,fr,w.alloc (.cells vs.toArray e)⟩/\Mem ⟨g.C,g.ρ++[w.heap.size],g.τ⟩ (bx++[cs]) fr (w.alloc (.cells vs.toArray e)):=by
 have hevo:Evo ⟨g,fr,w⟩ ⟨⟨g.C,g.ρ++[w.heap.size],g.τ⟩,fr,w.alloc (.cells vs.toArray e)⟩:=by
  refine⟨rfl,rfl,rfl,by simp,fun k hk _=>Below.heap_alloc w _ k hk,fun _ _ h=>h,fun k o h=>Vy w _ (hm.Clt k o h) o,fun _ _ h=>.inl h,fun i k h=>?_,fun k h=>?_,fun k c h=>.inl ⟨c,h⟩,VX.refl _ _⟩
  ·exact(List.getElem?_append_left (List.getElem?_eq_some_iff.1 h).1).trans h
  ·rcases List.mem_append.1 h with h|h
   ·exact .inl h
   ·simp at h;exact .inr (by simp[h])
 refine⟨hevo,?_⟩
 have hget:∀(i k:Nat),(g.ρ++[w.heap.size])[i]?=some k->g.ρ[i]?=some k\/(i=g.ρ.length/\k=w.heap.size):=fun i k h=>by
  rcases Nat.lt_or_ge i g.ρ.length with hlt|hge
  ·rw[List.getElem?_append_left hlt]at h;exact .inl h
  ·rw[List.getElem?_append_right hge]at h
   have h0:i-g.ρ.length=0:=by have:=(List.getElem?_eq_some_iff.1 h).1;simp at this;omega
   simp[h0]at h
   exact .inr ⟨by omega,h.symm⟩
 constructor
 ·simp[hm.bl]
 ·intro i k cs' h1 h2
  rcases hget i k h1 with h3|⟨rfl,rfl⟩
  ·have hlt:i<bx.length:=by rw[<- hm.bl];exact(List.getElem?_eq_some_iff.1 h3).1
   rw[List.getElem?_append_left hlt]at h2
   obtain⟨us,ty,k1,k2,k3⟩:=hm.bat i k cs' h3 h2
   exact⟨us,ty,(Below.heap_alloc w _ k (Array.getElem?_eq_some_iff.1 k1).1).trans k1,k2,fun j d v hd hv=>(k3 j d v hd hv).evo hevo⟩
  ·rw[List.getElem?_append_right (by rw[hm.bl];exact Nat.le_refl _),hm.bl]at h2
   simp at h2;subst h2
   exact⟨vs.toArray,e,heap_alloc_new w _,by simpa using hl,fun j d v hd hv'=>(hv j d v hd (by simpa using hv')).evo hevo⟩
 ·intro k o hk hC
  rcases List.mem_append.1 hk with h|h
  ·exact hm.bC k o h hC
  ·simp at h;subst h
   have:=hm.Clt _ o hC;omega
 ·intro i j k h1 h2
  have cross:∀ i:Nat,g.ρ[i]?=some k->k=w.heap.size->False:=fun i h3 e=>by
   have:=hm.lt (.inl (List.mem_of_getElem? h3));omega
  rcases hget i k h1 with h3|⟨e3,h3⟩<;>rcases hget j k h2 with h4|⟨e4,h4⟩
  ·exact hm.bN i j k h3 h4
  ·exact(cross i h3 h4).elim
  ·exact(cross j h4 h3).elim
  ·omega
 ·exact hm.tl
 ·intro i k c f h1 h2
  have hT:=hm.tat i k c f h1 h2
  obtain⟨cur,r1,r2⟩:=hT.row
  exact⟨⟨cur,(Below.heap_alloc w _ k (Array.getElem?_eq_some_iff.1 r1).1).trans r1,r2⟩,hT.le,hT.max,hT.far⟩
 ·exact hm.tN
 ·intro k c hk hr
  rcases List.mem_append.1 hr with h|h
  ·exact hm.tρ k c hk h
  ·simp at h;subst h
   have:=hm.lt (.inr ⟨c,hk⟩);omega
 ·intro k o hC
  have:=hm.Clt k o hC
  simp;omega
 ·exact hm.gl.evo hevo
theorem Mem.box [Known](hm:Mem g bx fr w)(vs:List Value)(cs:List D)(e:TypeId)(hl:vs.length=cs.length)(hnr:D.isRow cs=false)(hv:∀(j:Nat) (d:D) (v:Value),cs[j]?=some d->vs[j]?=some v->V w g fr d v) :
  Evo ⟨g,fr,w⟩ ⟨⟨g.C,g.ρ++[w.heap.size],g.τ⟩,fr,w.alloc (.cells vs.toArray e)⟩/\Mem ⟨g.C,g.ρ++[w.heap.size],g.τ⟩ (bx++[cs]) fr (w.alloc (.cells vs.toArray e)):=
 hm.box0 vs cs e (G8 hl hnr) fun j d v hd hv'=>hv j d v (by rw[Qo hnr]at hd;exact hd) hv'
def D.cellsOf:D->List D
 | .agg l=>l
 | d=>[d]
def D.one:D->Bool
 | .agg _ | .tup _ | .junk | .row _ _ | .mix _ _=>false
 | _=>true
def D.ones:List D->Bool
 | []=>true
 | d::l=>match d.one with
  | true=>D.ones l
  | false=>false
theorem V.one {d:D}{v:Value}(h:V w g fr d v)(ho:d.one=true):v.oneCell'=true:=by
 cases h<;>first|rfl|simp[D.one]at ho|skip
 exact VE.one ‹_›
theorem Q8:∀ {l:List D} {j:Nat} {d:D},D.ones l=true->l[j]?=some d->d.one=true
 | [],j,d,_,h=>by simp at h
 | x::l,j,d,ho,h=>by
  simp only[D.ones]at ho
  cases hx:x.one with
  | false=>simp[hx]at ho
  | true=>
   simp only[hx]at ho
   cases j with
   | zero=>simp at h;subst h;exact hx
   | succ j=>simp at h;exact Q8 ho h
theorem IV {l:List D}(h:D.ones l=true):D.isRow l=false:=by
 cases hr:D.isRow l with
 | false=>rfl
 | true=>
  rcases QU hr with⟨z,x,rfl⟩ | ⟨z,x,rfl⟩<;>simp[D.ones,D.one]at h
theorem IW (l:List ZK):D.isRow (l.map ZK.d)=false:=by
 cases hr:D.isRow (l.map ZK.d) with
 | false=>rfl
 | true=>
  rcases QU hr with⟨y,x,hx⟩ | ⟨y,x,hx⟩ <;>
  ·cases l with
   | nil=>cases hx
   | cons z l=>
    rw[List.map_cons]at hx
    injection hx with hx _
    cases z<;>cases hx
theorem V.cells {d:D}{v:Value}(h:V w g fr d v)(hne:D.ones d.cellsOf=true):∃ vs:List Value,v.cells=vs.toArray/\vs.length=d.cellsOf.length/\∀(j:Nat) (c:D) (u:Value),d.cellsOf[j]?=some c->vs[j]?=some u->V w g fr c u:=by
 by_cases hd:∃ l,d=.agg l
 ·obtain⟨l,rfl⟩:=hd
  obtain⟨vs,rfl,h2,h3⟩:=Q7 h
  exact⟨vs,rfl,h2,h3⟩
 ·have hc:d.cellsOf=[d]:=by cases d<;>first|rfl|exact(hd ⟨_,rfl⟩).elim
  rw[hc]at hne ⊢
  have h1:d.one=true:=Q8 hne (j:=0) rfl
  have hv:=h.one h1
  refine⟨[v],?_,rfl,fun j c u hc hu=>?_⟩
  ·cases v<;>first|rfl|simp[Value.oneCell']at hv
  ·cases j with
   | zero=>simp at hc hu;subst hc hu;exact h
   | succ j=>simp at hc
def nfb:List (List D)->Option (List (List D))
 | []=>some []
 | x::l=>match nfs x,nfb l with
  | some x',some l'=>some (x'::l')
  | _,_=>none
theorem Vo:∀ {l l':List (List D)},nfb l=some l'->l=l'
 | [],l',h=>by simpa[nfb]using h
 | x::l,l',h=>by
  cases hx:nfs x with
  | none=>simp[nfb,hx]at h
  | some x'=>
   cases hl:nfb l with
   | none=>simp[nfb,hx,hl]at h
   | some l''=>simp[nfb,hx,hl]at h;rw[<- h,Vl hx,Vo hl]
theorem H6 [Known][Dfr]{x:Operand}{e:TypeId}{d:D}{m:Nat}(hx:nf (ev tm x)=some d)(ho:D.ones d.cellsOf=true)(hb:nfb (bx++[d.cellsOf])=some bx')(hm:bx.length=m)(htd:Nat.blt t n=true)
  (k:AL P ops rest ⟨n,(t,.ptr m 0)::tm,bx',fr,ee⟩ Q):AL P ops (⟨some t,.box e x,ty,pos,after,none⟩::rest) ⟨n,tm,bx,fr,ee⟩ Q:=
 Jj _ htd (fun g a w hi=>by
  have h1:V w g fr (ev tm x) (a.eval x):=hi.ev x
  rw[YZ hx]at h1
  obtain⟨vs,h2,h3,h4⟩:=h1.cells ho
  obtain⟨k1,k2⟩:=hi.mem.box vs d.cellsOf e h3 (IV ho) h4
  refine⟨.pointer (some ⟨w.heap.size,0,none⟩),_,_,by simp[execOp,Instr.box,newVar,newRow,Sem.run_bind,h2],k1,(Vo hb) ▸ k2,.ptr _ _ _ ?_⟩
  subst hm
  have:=hi.mem.bl
  simp at this
  simp[this]) k
theorem IX [Known][Dfr](hT:chk P T=true){e:TypeId}{ti:Ti}{m:Nat}(ht:tl T e=some ti)(hb:nfb (bx++[ti.zero.map ZK.d])=some bx')(hm:bx.length=m)(htd:Nat.blt t n=true)
  (k:AL P ops rest ⟨n,(t,.ptr m 0)::tm,bx',fr,ee⟩ Q):AL P ops (⟨some t,.alloc e,ty,pos,after,none⟩::rest) ⟨n,tm,bx,fr,ee⟩ Q:=
 Jj _ htd (fun g a w hi=>by
  obtain⟨z,h1,h2⟩:=(Z9 hT ht).zero w
  obtain⟨h3,h4⟩:=Ji (w:=w) (g:=g) (fr:=fr) h2
  obtain⟨k1,k2⟩:=hi.mem.box z.cells.toList (ti.zero.map ZK.d) e (by simpa using h3) (IW _) (fun j d v hd hv=>(h4 j d v hd hv).1)
  refine⟨.pointer (some ⟨w.heap.size,0,none⟩),_,_,?_,k1,(Vo hb) ▸ k2,.ptr _ _ _ ?_⟩
  ·simp[execOp,Instr.alloc,newVar,newRow,Sem.run_bind,h1]
  ·subst hm
   have:=hi.mem.bl
   simp at this
   simp[this]) k
def Vp (cs:List D)(o:Nat)(l:List D):List D:=cs.take o++(l++cs.drop (o+l.length))
theorem Wc [Known][Dfr](hT:chk P T=true){x y:Operand}{lt b o:Nat}{cs:List D}{d:D}{ti:Ti}(hx:ev tm x=.ptr b o)(hy:nf (ev tm y)=some d)(ho:D.ones d.cellsOf=true)(ht:tl T lt=some ti)(hs:Nat.beq d.cellsOf.length ti.size=true)(hb:bx[b]?=some cs)
  (hle:Nat.ble (o+d.cellsOf.length) cs.length=true) (hb':nfb (bx.set b (Vp cs o d.cellsOf))=some bx')
  (k:AL P ops rest ⟨n,tm,bx',fr,ee⟩ Q):AL P ops (⟨none,.store lt x y,ty,pos,after,none⟩::rest) ⟨n,tm,bx,fr,ee⟩ Q:=
 Hc (fun g a w hi=>by
  have h1:V w g fr (ev tm x) (a.eval x):=hi.ev x
  rw[hx]at h1
  obtain⟨blk,h2,h3⟩:=Kh h1
  have hv:V w g fr (ev tm y) (a.eval y):=hi.ev y
  rw[YZ hy]at hv
  obtain⟨vs,q2,q3,q4⟩:=hv.cells ho
  have hm:=hi.mem
  obtain⟨us,ut,r1,r2,r3⟩:=hm.bat0 b blk cs h2 hb
  have hle':=Nat.le_of_ble_eq_true hle
  have hs':=Nat.eq_of_beq_eq_true hs
  have hvs1:∀ v ∈ vs,v.oneCell'=true:=fun v hv=>by
   obtain⟨j,hj⟩:=List.getElem?_of_mem hv
   have hlt:j<d.cellsOf.length:=by rw[<- q3];exact(List.getElem?_eq_some_iff.1 hj).1
   exact(q4 j _ v (List.getElem?_eq_getElem hlt) hj).one (Q8 ho (List.getElem?_eq_getElem hlt))
  have hrun:=run_storeCells_at (P:=P) blk o ut vs 0 us w r1 (by omega) hvs1
  have hag:=(Z9 hT ht)
  obtain⟨w',hw'⟩:∃ w',w'=w.setRow blk (us.toList.take (o+0)++vs++us.toList.drop (o+0+vs.length)).toArray:=⟨_,rfl⟩
  have hheap:w'.heap[blk]?=some (.cells (us.toList.take (o+0)++vs++us.toList.drop (o+0+vs.length)).toArray ut (0,0)):=by
   rw[hw'];exact setRow_heap w blk us _ ut _ r1
  have hfar:∀ k,k ≠ blk->w'.heap[k]?=w.heap[k]? := fun k hk=>by
   rw[hw'];simp only[World.setRow,Array.getElem?_modify];rw[if_neg (fun e=>hk e.symm)]
  have hsize:w'.heap.size=w.heap.size:=by rw[hw'];simp[World.setRow]
  have hcell:∀ k p,g.C k p->w'.cell? ⟨k,p,none⟩=w.cell? ⟨k,p,none⟩:=fun k p hC=>World.cell?_of_block (w:=w) (hfar k fun e=>by
   subst e;exact hm.bC k p (List.mem_of_getElem? h2) hC)
  have hevo:Evo ⟨g,fr,w⟩ ⟨g,fr,w'⟩:=⟨by rw[hw'];rfl,by rw[hw'];rfl,by rw[hw'];rfl,by rw[hsize];exact Nat.le_refl _,fun k hk hn=>hfar k fun e=>hn (.inl (e ▸ List.mem_of_getElem? h2)),fun _ _ h=>h,hcell,fun _ _ h=>.inl h,fun _ _ h=>h,fun _ h=>.inl h,fun _ c h=>.inl ⟨c,h⟩,VX.refl _ _⟩
  refine⟨w',g,?_,hevo,?_⟩
  ·rw[<- hw']at hrun
   have hsz:(sizeOf lt).run P w=.ok vs.length w:=Y1 (by rw[hag.tSize,q3,hs']) w
   simp[execOp,h3,Instr.storeAt,Instr.sureAddr,storeVar,Sem.run_bind,q2,hsz,hrun]
  ·rw[<- Vo hb']
   constructor
   ·simp[hm.bl]
   ·intro i k cs' e1 e2
    by_cases hib:i=b
    ·subst hib
     rw[h2]at e1
     injection e1 with e1
     subst e1
     have hlt:i<bx.length:=(List.getElem?_eq_some_iff.1 hb).1
     rw[List.getElem?_set_self hlt]at e2
     injection e2 with e2
     subst e2
     cases hr:D.isRow (Vp cs o d.cellsOf) with
     | true=>
      have hnil:d.cellsOf=[]:=by
       cases hcl:d.cellsOf with
       | nil=>rfl
       | cons c0 r0=>
        have hc0:c0.one=true:=Q8 (j:=0) ho (by rw[hcl];rfl)
        have hmem:c0 ∈ Vp cs o d.cellsOf:=by rw[hcl];simp[Vp]
        rcases QU hr with⟨z0,l0,hl0⟩ | ⟨z0,l0,hl0⟩ <;>
        ·rw[hl0]at hmem
         simp at hmem;subst hmem
         simp[D.one]at hc0
      have hvn:vs=[]:=List.length_eq_zero_iff.1 (by rw[q3,hnil];rfl)
      have hsp:Vp cs o d.cellsOf=cs:=by rw[hnil];simp[Vp]
      obtain⟨us2,ut2,p1,p2,p3⟩:=hm.bat i blk cs h2 hb
      rw[r1]at p1
      injection p1 with p1
      injection p1 with p1 p4
      subst p1 p4
      rw[hsp]
      subst hvn
      refine⟨_,ut,hheap,?_,fun j c u hc hu=>?_⟩
      ·simpa using p2
      ·exact(p3 j c u hc (by simpa using hu)).evo hevo
     | false=>
     refine⟨_,ut,hheap,Kc (by simp[Vp,q3]<;>omega) hr,fun j c u hc hu=>?_⟩
     rw[Qo hr]at hc
     simp only[Vp]at hc
     have hu:(us.toList.take o++vs++us.toList.drop (o+vs.length))[j]?=some u:=by simpa using hu
     rw[List.append_assoc]at hu
     have hus:cs.length<=us.toList.length:=by simpa using r2
     rcases Nat.lt_or_ge j o with hjo|hjo
     ·rw[List.getElem?_append_left (by simp;omega),List.getElem?_take,if_pos hjo]at hc hu
      exact(r3 j c u hc (by simpa using hu)).evo hevo
     ·rw[List.getElem?_append_right (by simp;omega)]at hc hu
      simp only[List.length_take,Nat.min_eq_left (show o<=cs.length by omega)]at hc
      simp only[List.length_take,Nat.min_eq_left (show o<=us.toList.length by omega)]at hu
      rcases Nat.lt_or_ge (j-o) vs.length with hj2|hj2
      ·rw[List.getElem?_append_left (by omega)]at hc
       rw[List.getElem?_append_left hj2]at hu
       exact(q4 (j-o) c u hc hu).evo hevo
      ·rw[List.getElem?_append_right (by omega),List.getElem?_drop]at hc
       rw[List.getElem?_append_right hj2,List.getElem?_drop]at hu
       rw[q3]at hu
       exact(r3 _ c u hc (by simpa using hu)).evo hevo
    ·rw[List.getElem?_set_ne (Ne.symm hib)]at e2
     obtain⟨us',ut',t1,t2,t3⟩:=hm.bat i k cs' e1 e2
     have hne:k ≠ blk:=fun e=>by
      subst e
      exact hib (hm.bN i b k e1 h2)
     exact⟨us',ut',(hfar k hne).trans t1,t2,fun j c u hc hu=>(t3 j c u hc hu).evo hevo⟩
   ·exact hm.bC
   ·exact hm.bN
   ·exact hm.tl
   ·intro i k c f e1 e2
    have hTk:=hm.tat i k c f e1 e2
    obtain⟨cur,s1,s2⟩:=hTk.row
    have hne:k ≠ blk:=fun e=>by
     subst e
     exact hm.tρ k c (List.mem_of_getElem? e1) (List.mem_of_getElem? h2)
    exact⟨⟨cur,(hfar k hne).trans s1,s2⟩,hTk.le,hTk.max,hTk.far⟩
   ·exact hm.tN
   ·exact hm.tρ
   ·intro k p hC
    rw[hsize];exact hm.Clt k p hC
   ·exact hm.gl.evo hevo) k
end
end Go.Av
end
section
open Go.RowKit Go.Pl
namespace Go.Av
def Uni (sz:Nat)(l:List E):Prop:=∀ e ∈ l,e.cells.length=sz
theorem Uni.nil (sz:Nat):Uni sz []:=fun e h=>by cases h
theorem Uni.cons {sz:Nat}{e:E}{l:List E}(h:e.cells.length=sz)(t:Uni sz l):Uni sz (e::l):=fun x hx=>by
 rcases List.mem_cons.1 hx with rfl|hx
 ·exact h
 ·exact t x hx
theorem Uni.append {sz:Nat}{l l':List E}(h:Uni sz l)(h':Uni sz l'):Uni sz (l++l'):=fun x hx=>(List.mem_append.1 hx).elim (h x) (h' x)
theorem Uni.map {α:Type}{sz:Nat}{f:α->E}(h:∀ x,(f x).cells.length=sz)(l:List α):Uni sz (l.map f):=fun x hx=>by
 obtain⟨y,_,rfl⟩:=List.mem_map.1 hx
 exact h y
theorem Uni.sub {sz:Nat}{l l':List E}(h:Uni sz l)(hs:∀ e ∈ l',e ∈ l):Uni sz l':=fun x hx=>h x (hs x hx)
theorem Uni.flat {sz:Nat}{l:List E}(h:Uni sz l):(flat l).length=l.length*sz:=by
 induction l with
 | nil=>simp
 | cons e l ih=>
  simp only[Vf,List.length_append,List.length_cons]
  rw[h e (by simp),ih fun x hx=>h x (by simp[hx]),Nat.add_mul]
  omega
theorem Uni.at_ {sz:Nat}:∀ {l:List E} {i:Nat} {e:E},Uni sz l->l[i]?=some e->∀ j,j<sz->(Go.Av.flat l)[i*sz+j]?=e.cells[j]?
 | [],i,e,_,hi,j,hj=>by simp at hi
 | x::l,0,e,h,hi,j,hj=>by
  simp at hi;subst hi
  simp only[Vf,Nat.zero_mul,Nat.zero_add]
  rw[List.getElem?_append_left (by rw[h x (by simp)];exact hj)]
 | x::l,i+1,e,h,hi,j,hj=>by
  simp at hi
  have:=Uni.at_ (l:=l) (fun x hx=>h x (by simp[hx])) hi j hj
  rw[Vf,List.getElem?_append_right (by rw[h x (by simp),Nat.add_mul];omega),h x (by simp),Nat.add_mul]
  rw[<- this];congr 1;omega
theorem Uni.drop_flat {sz:Nat}:∀ {l:List E} (k:Nat),Uni sz l->Go.Av.flat (l.drop k)=(Go.Av.flat l).drop (k*sz)
 | l,0,h=>by simp
 | [],k+1,h=>by simp
 | x::l,k+1,h=>by
  rw[List.drop_succ_cons,Vf,Uni.drop_flat k (fun x hx=>h x (by simp[hx])),Nat.add_mul,Nat.one_mul,Nat.add_comm,<- List.drop_drop]
  congr 1
  rw[List.drop_append_of_le_length (by rw[h x (by simp)];exact Nat.le_refl _),List.drop_of_length_le (by rw[h x (by simp)];exact Nat.le_refl _),List.nil_append]
theorem Uni.take_flat {sz:Nat}:∀ {l:List E} (k:Nat),Uni sz l->Go.Av.flat (l.take k)=(Go.Av.flat l).take (k*sz)
 | l,0,h=>by simp
 | [],k+1,h=>by simp
 | x::l,k+1,h=>by
  have hx:=h x (by simp)
  rw[List.take_succ_cons,Vf,Vf,Uni.take_flat k (fun x hx=>h x (by simp[hx])),Nat.add_mul,Nat.one_mul,List.take_append,hx,List.take_of_length_le (l:=x.cells) (by rw[hx];omega),show k*sz+sz-sz=k*sz from by omega]

section
variable {P:Program} {Q:X->St->Prop} {n:Nat} {ee:Nat × Nat} {tm:List (Nat × D)} {bx bx':List (List D)} {fr fr':List Fr} {b0:Bs} {g:G} {w:World} {a:Act} {T:Tab}
variable {ops:Array Oper} {rest:List Oper} {t ty:Nat} {pos:String} {after:Array Edge}
def G.row (g:G)(w:World)(m cap:Nat):G:=⟨fun b o=>g.C b o\/(b=w.heap.size/\o<m),g.ρ,g.τ++[some (w.heap.size,cap,0)]⟩
theorem Mem.row [Known](hm:Mem g bx fr w)(cur:List Value)(l:List E)(cap sz:Nat)(e:TypeId)(hsz:0<sz)(hcur:cur.length=cap*sz)(hl:l.length<=cap)(hcap:cap<=maxLen)(hU:Uni sz l)
  (hv:∀(j:Nat) (x:E) (u:Value),(flat l)[j]?=some x->cur[j]?=some u->VE w g.C x u) :
  Evo ⟨g,fr,w⟩ ⟨g.row w (l.length*sz) cap,fr++[⟨l.length,sz,e⟩],w.alloc (.cells cur.toArray e)⟩/\Mem (g.row w (l.length*sz) cap) bx (fr++[⟨l.length,sz,e⟩]) (w.alloc (.cells cur.toArray e)) /\
   V (w.alloc (.cells cur.toArray e)) (g.row w (l.length*sz) cap) (fr++[⟨l.length,sz,e⟩]) (.sl (.own fr.length) l) (.slice (some ⟨w.heap.size,0,none⟩) l.length cap):=by
 have hevo:Evo ⟨g,fr,w⟩ ⟨g.row w (l.length*sz) cap,fr++[⟨l.length,sz,e⟩],w.alloc (.cells cur.toArray e)⟩:=by
  refine⟨rfl,rfl,rfl,by simp,fun k hk _=>Below.heap_alloc w _ k hk,fun _ _ h=>.inl h,fun k o h=>Vy w _ (hm.Clt k o h) o,fun k o h=>?_,fun _ _ h=>h,fun _ h=>.inl h,fun k c h=>?_,fun i f hf=>?_⟩
  ·rcases h with h|⟨h,_⟩
   ·exact .inl h
   ·exact .inr (.inl (by simp[h]))
  ·rcases List.mem_append.1 h with h|h
   ·exact .inl ⟨c,h⟩
   ·simp at h;exact .inr (by simp[h.1])
  ·have hlt:=(List.getElem?_eq_some_iff.1 hf).1
   refine⟨f,by rw[List.getElem?_append_left hlt];exact hf,Nat.le_refl _,fun _=>?_⟩
   show(g.τ++[some (w.heap.size,cap,0)])[i]?=g.τ[i]?
   rw[List.getElem?_append_left (by rw[hm.tl];exact hlt)]
 have hflat:=hU.flat
 have hle:l.length*sz<=cap*sz:=Nat.mul_le_mul_right _ hl
 have hnew:(w.alloc (.cells cur.toArray e)).heap[w.heap.size]?=some (.cells cur.toArray e (0,0)):=heap_alloc_new w _
 have hτ:(g.τ++[some (w.heap.size,cap,0)])[fr.length]?=some (some (w.heap.size,cap,0)):=by
  rw[List.getElem?_append_right (by rw[hm.tl];exact Nat.le_refl _),hm.tl];simp
 refine⟨hevo,?_,?_⟩
 ·constructor
  ·exact hm.bl
  ·intro i k cs h1 h2
   obtain⟨us,ut,k1,k2,k3⟩:=hm.bat i k cs h1 h2
   exact⟨us,ut,(Below.heap_alloc w _ k (Array.getElem?_eq_some_iff.1 k1).1).trans k1,k2,fun j d v hd hv=>(k3 j d v hd hv).evo hevo⟩
  ·intro k o hk hC
   rcases hC with hC|⟨hC,_⟩
   ·exact hm.bC k o hk hC
   ·have:=hm.lt (.inl hk);omega
  ·exact hm.bN
  ·simp[G.row,hm.tl]
  ·intro i k c f h1 h2
   rcases Nat.lt_or_ge i fr.length with hlt|hge
   ·have h1:g.τ[i]?=some (some (k,c)):=by
     have:=h1;simp only[G.row]at this
     rwa [List.getElem?_append_left (by rw[hm.tl];exact hlt)]at this
    rw[List.getElem?_append_left hlt]at h2
    have hTk:=hm.tat i k c f h1 h2
    obtain⟨cur',s1,s2⟩:=hTk.row
    have hklt:=(Array.getElem?_eq_some_iff.1 s1).1
    refine⟨⟨cur',(Below.heap_alloc w _ k hklt).trans s1,s2⟩,hTk.le,hTk.max,fun o ho hC=>?_⟩
    rcases hC with hC|⟨hC,_⟩
    ·exact hTk.far o ho hC
    ·omega
   ·have hi:i=fr.length:=by
     have:=(List.getElem?_eq_some_iff.1 h2).1;simp at this;omega
    subst hi
    simp only[G.row]at h1
    rw[hτ]at h1
    injection h1 with h1
    injection h1 with h1
    injection h1 with h1 h3
    subst h1 h3
    rw[List.getElem?_append_right (Nat.le_refl _)]at h2
    simp at h2;subst h2
    refine⟨⟨cur.toArray,hnew,by simpa using hcur⟩,hl,hcap,fun o ho hC=>?_⟩
    rcases hC with hC|⟨_,hC⟩
    ·have:=hm.Clt _ o hC;omega
    ·have ho:0+l.length*sz<=o:=ho
     omega
  ·intro i j k c c' h1 h2
   have hget:∀(i:Nat) (c:Nat × Nat),(g.row w (l.length*sz) cap).τ[i]?=some (some (k,c))->g.τ[i]?=some (some (k,c))\/(i=g.τ.length/\k=w.heap.size):=fun i c h=>by
    simp only[G.row]at h
    rcases Nat.lt_or_ge i g.τ.length with hlt|hge
    ·rw[List.getElem?_append_left hlt]at h;exact .inl h
    ·have:=(List.getElem?_eq_some_iff.1 h).1
     simp at this
     have hi:i=g.τ.length:=by omega
     subst hi
     rw[List.getElem?_append_right (Nat.le_refl _)]at h
     simp at h
     exact .inr ⟨rfl,h.1.symm⟩
   have cross:∀(i:Nat) (c:Nat × Nat),g.τ[i]?=some (some (k,c))->k=w.heap.size->False:=fun i c h3 e=>by
    have:=hm.lt (.inr ⟨c,List.mem_of_getElem? h3⟩);omega
   rcases hget i c h1 with h3|⟨e3,h3⟩<;>rcases hget j c' h2 with h4|⟨e4,h4⟩
   ·exact hm.tN i j k c c' h3 h4
   ·exact(cross i c h3 h4).elim
   ·exact(cross j c' h4 h3).elim
   ·omega
  ·intro k c hk hr
   rcases List.mem_append.1 hk with h|h
   ·exact hm.tρ k c h hr
   ·simp at h
    have:=hm.lt (.inl hr);omega
  ·intro k o hC
   rcases hC with hC|⟨hC,_⟩
   ·have:=hm.Clt k o hC;simp;omega
   ·simp[hC]
  ·exact hm.gl.evo hevo
 ·have hVE:VE (w.alloc (.cells cur.toArray e)) (g.row w (l.length*sz) cap).C (.sl l) (.slice (some ⟨w.heap.size,0,none⟩) l.length cap):=by
   refine .slC l w.heap.size 0 cap (fun j=>cur.getD j undef) hl hcap (fun j hj=>.inr ⟨rfl,by rw[hflat]at hj;omega⟩) (fun j hj=>?_) (fun j x hx=>?_)
   ·rw[cell_of_row _ _ _ _ _ _ hnew]
    have:j<cur.length:=by omega
    simp[List.getD,this]
   ·have hj:=(List.getElem?_eq_some_iff.1 hx).1
    have hlt:j<cur.length:=by omega
    refine(hv j x _ hx (by rw[List.getElem?_eq_getElem hlt];simp[List.getD,hlt])).mono (fun _ _ h=>.inl h) fun k o h=>Vy w _ (hm.Clt k o h) o
  refine .sl _ _ _ hVE ?_
  refine⟨⟨l.length,sz,e⟩,by simp,Nat.le_refl _,fun _=>.inr ⟨w.heap.size,cap,0,rfl,hτ⟩⟩
end
end Go.Av
end
section
open Go.RowKit Go.Pl
namespace Go.Av
theorem XJ:∀(l:List Value) (k off:Nat) (cs:Array Value),off+k+l.length<=cs.size ->
  ((l.zipIdx k).foldl (fun(cs:Array Value) (p:Value × Nat)=>cs.setIfInBounds (off+p.2) p.1) cs).toList=cs.toList.take (off+k)++(l++cs.toList.drop (off+k+l.length))
 | [],k,off,cs,_=>by simp
 | v::l,k,off,cs,h=>by
  have h':off+k<cs.size:=by simp at h;omega
  have hl:off+(k+1)+l.length<=(cs.setIfInBounds (off+k) v).size:=by simp at h ⊢;omega
  have ih:=XJ l (k+1) off (cs.setIfInBounds (off+k) v) hl
  rw[List.zipIdx_cons,List.foldl_cons,ih]
  simp only[Array.toList_setIfInBounds,List.length_cons]
  rw[List.drop_set_of_lt (by omega),List.take_set,show off+(k+1)=off+k+1 from by omega,List.take_succ_eq_append_getElem (by simpa using h')]
  rw[List.set_append_right _ _ (by simp;omega)]
  simp only[List.length_take,Array.length_toList,Nat.min_eq_left (Nat.le_of_lt h'),Nat.sub_self,List.set_cons_zero,List.append_assoc,List.cons_append,List.nil_append]
  rw[show off+k+(l.length+1)=off+k+1+l.length from by omega]
theorem XK {place:Nat->Option (Nat × Nat)}{cells:Array Value}{i off size:Nat}{v:Value}{rest:List (Nat × Value)}{vs:List Value}(hp:place i=some (off,size))(hv:v.cells=vs.toArray)(hs:vs.length=size)(hle:off+size<=cells.size) :
  ∃ cells':Array Value,Instr.fill place cells ((i,v)::rest)=Instr.fill place cells' rest/\cells'.toList=cells.toList.take off++(vs++cells.toList.drop (off+size)):=by
 refine⟨_,?_,XJ vs 0 off cells (by omega) |>.trans (by rw[hs];rfl)⟩
 simp only[Instr.fill,hp,hv,List.size_toArray,hs]
 rw[if_neg (by simp;omega)]
 congr 1
 rw[<- Array.foldl_toList]
 simp
theorem Kx {sz:Nat}:∀(vs:List (List Value × Value)) (i:Nat) (cells:Array Value),(∀ p ∈ vs,p.2.cells=p.1.toArray/\p.1.length=sz)->cells.size=(i+vs.length)*sz ->
  ∃ out:Array Value,Instr.fill (fun i=>some (i*sz,sz)) cells ((vs.zipIdx i).map fun q=>(q.2,q.1.2))=some out/\out.toList=cells.toList.take (i*sz)++vs.flatMap (·.1)
 | [],i,cells,_,hs=>⟨cells,rfl,by simp at hs;rw[List.take_of_length_le (by simp;omega)];simp⟩
 | p::vs,i,cells,h,hs=>by
  obtain⟨h1,h2⟩:=h p (by simp)
  have hs':cells.size=i*sz+sz+vs.length*sz:=by rw[hs];simp[Nat.add_mul];omega
  obtain⟨c',e1,e2⟩:=XK (place:=fun i=>some (i*sz,sz)) (cells:=cells) (i:=i) (rest:=(vs.zipIdx (i+1)).map fun q=>(q.2,q.1.2)) rfl h1 h2 (by omega)
  have hc':c'.size=cells.size:=by
   rw[<- Array.length_toList,e2];simp[h2];omega
  obtain⟨out,e3,e4⟩:=Kx vs (i+1) c' (fun q hq=>h q (by simp[hq])) (by rw[hc',hs',Nat.add_mul,Nat.add_mul];omega)
  refine⟨out,by rw[List.zipIdx_cons,List.map_cons,e1,e3],?_⟩
  rw[e4,e2,List.flatMap_cons,Nat.add_mul,Nat.one_mul]
  rw[List.take_append,List.take_take,Nat.min_eq_right (by omega)]
  simp only[List.length_take,Array.length_toList,Nat.min_eq_left (show i*sz<=cells.size by omega),Nat.add_sub_cancel_left]
  rw[List.take_append,h2,List.take_of_length_le (l:=p.1) (by omega),Nat.sub_self]
  simp
def D.toEl:List D->Option (List E)
 | []=>some []
 | d::l=>match d.toE,D.toEl l with
  | some e,some l'=>some (e::l')
  | _,_=>none
def Ky (sz:Nat):List E->Bool
 | []=>true
 | e::l=>match Nat.beq e.cells.length sz with
  | true=>Ky sz l
  | false=>false
theorem Zk {sz:Nat}:∀ {l:List E},Ky sz l=true->Uni sz l
 | [],_=>Uni.nil sz
 | e::l,h=>by
  simp only[Ky]at h
  cases hb:Nat.beq e.cells.length sz with
  | true=>simp only[hb]at h;exact Uni.cons (Nat.eq_of_beq_eq_true hb) (Zk h)
  | false=>simp[hb]at h
section
variable {P:Program} {Q:X->St->Prop} {n:Nat} {ee:Nat × Nat} {tm:List (Nat × D)} {bx bx':List (List D)} {fr fr':List Fr} {b0:Bs} {g:G} {w:World} {a:Act} {T:Tab}
variable {ops:Array Oper} {rest:List Oper} {t ty:Nat} {pos:String} {after:Array Edge}
theorem Kz:∀ {l:List D} {es:List E},D.toEs l=some es->l.length=es.length/\∀(j:Nat) (x:E),es[j]?=some x->∃ d,l[j]?=some d/\d.toE1=some x
 | [],es,h=>by simp[D.toEs]at h;subst h;simp
 | d::l,es,h=>by
  cases hd:d.toE1 with
  | none=>simp[D.toEs,hd]at h
  | some e=>
   cases hl:D.toEs l with
   | none=>simp[D.toEs,hd,hl]at h
   | some es'=>
    simp[D.toEs,hd,hl]at h;subst h
    obtain⟨h1,h2⟩:=Kz hl
    refine⟨by simp[h1],fun j x hx=>?_⟩
    cases j with
    | zero=>simp at hx;subst hx;exact⟨d,rfl,hd⟩
    | succ j=>simp at hx;simpa using h2 j x hx
theorem V.toE {d:D}{e:E}{v:Value}(h:V w g fr d v)(he:d.toE=some e):∃ vs:List Value,v.cells=vs.toArray/\vs.length=e.cells.length/\∀(j:Nat) (x:E) (u:Value),e.cells[j]?=some x->vs[j]?=some u->VE w g.C x u:=by
 by_cases hd:∃ l,d=.agg l
 ·obtain⟨l,rfl⟩:=hd
  obtain⟨vs,rfl,h2,h3⟩:=Q7 h
  simp only[D.toE,Option.map_eq_some_iff]at he
  obtain⟨es,he,rfl⟩:=he
  obtain⟨q1,q2⟩:=Kz he
  refine⟨vs,rfl,by rw[h2,q1];rfl,fun j x u hx hu=>?_⟩
  obtain⟨d,hd,hx⟩:=q2 j x hx
  exact(h3 j d u hd hu).toE1 hx
 ·have he1:d.toE1=some e:=by cases d<;>first|exact he|exact(hd ⟨_,rfl⟩).elim
  have hv:=h.toE1 he1
  have hc:e.cells=[e]:=by cases e<;>first|rfl|exact hv.notAgg.elim
  rw[hc]
  refine⟨[v],?_,rfl,fun j x u hx hu=>?_⟩
  ·cases hv<;>rfl
  ·cases j with
   | zero=>simp at hx hu;subst hx hu;exact hv
   | succ j=>simp at hx
theorem KA:∀ {l:List D} {es:List E},D.toEl l=some es->l.length=es.length/\∀(j:Nat) (d:D),l[j]?=some d->∃ x,es[j]?=some x/\d.toE=some x
 | [],es,h=>by simp[D.toEl]at h;subst h;simp
 | d::l,es,h=>by
  cases hd:d.toE with
  | none=>simp[D.toEl,hd]at h
  | some e=>
   cases hl:D.toEl l with
   | none=>simp[D.toEl,hd,hl]at h
   | some es'=>
    simp[D.toEl,hd,hl]at h;subst h
    obtain⟨h1,h2⟩:=KA hl
    refine⟨by simp[h1],fun j x hx=>?_⟩
    cases j with
    | zero=>simp at hx;subst hx;exact⟨e,rfl,hd⟩
    | succ j=>simp at hx;simpa using h2 j x hx
theorem OT {sz:Nat}:∀ {ds:List D} {vs:List Value} {es:List E},D.toEl ds=some es->vs.length=ds.length->(∀(j:Nat) (d:D) (v:Value),ds[j]?=some d->vs[j]?=some v->V w g fr d v)->Uni sz es ->
  ∃ rs:List (List Value × Value),rs.map (·.2)=vs/\(∀ p ∈ rs,p.2.cells=p.1.toArray/\p.1.length=sz)/\(rs.flatMap (·.1)).length=es.length*sz/\∀(j:Nat) (x:E) (u:Value),(flat es)[j]?=some x->(rs.flatMap (·.1))[j]?=some u->VE w g.C x u
 | [],[],es,h,_,_,_=>⟨[],rfl,by simp,by simp[D.toEl]at h;subst h;simp,by simp⟩
 | d::ds,v::vs,es,h,hl,hv,hU=>by
  cases hd:d.toE with
  | none=>simp[D.toEl,hd]at h
  | some e=>
   cases hl':D.toEl ds with
   | none=>simp[D.toEl,hd,hl']at h
   | some es'=>
    simp[D.toEl,hd,hl']at h;subst h
    obtain⟨us,q1,q2,q3⟩:=(hv 0 d v rfl rfl).toE hd
    have hsz:e.cells.length=sz:=hU e (by simp)
    obtain⟨rs,p1,p2,p3,p4⟩:=OT (sz:=sz) hl' (by simpa using hl) (fun j d v h1 h2=>hv (j+1) d v (by simpa using h1) (by simpa using h2)) (fun x hx=>hU x (by simp[hx]))
    refine⟨(us,v)::rs,by simp[p1],fun p hp=>?_,?_,fun j x u hx hu=>?_⟩
    ·rcases List.mem_cons.1 hp with rfl|hp
     ·exact⟨q1,by rw[<- hsz];exact q2⟩
     ·exact p2 p hp
    ·simp only[List.flatMap_cons,List.length_append,List.length_cons,p3,q2,hsz,Nat.add_mul];omega
    ·simp only[Vf,List.flatMap_cons]at hx hu
     rcases Nat.lt_or_ge j sz with hj|hj
     ·rw[List.getElem?_append_left (by rw[hsz];exact hj)]at hx
      rw[List.getElem?_append_left (by rw[q2,hsz];exact hj)]at hu
      exact q3 j x u hx hu
     ·rw[List.getElem?_append_right (by rw[hsz];exact hj),hsz]at hx
      rw[List.getElem?_append_right (by rw[q2,hsz];exact hj),q2,hsz]at hu
      exact p4 _ x u hx hu
 | [],_::_,_,_,hl,_,_=>by simp at hl
 | _::_,[],_,_,hl,_,_=>by simp at hl
theorem IY [Known][Dfr](hT:chk P T=true){st len e:Nat}{xs:List Operand}{ds:List D}{es:List E}{ti te:Ti}(ht:tl T st=some ti)(hk:ti.kd=.slice e)(hte:tl T e=some te){parts:Array (Nat × Operand)}(hp:parts=((xs.zipIdx 0).map fun q=>(q.2,q.1)).toArray)(hlen:Nat.beq xs.length len=true)
  (hds:nfs (xs.map (ev tm))=some ds) (hes:D.toEl ds=some es) (hU:Ky te.size es=true) (hpos:Nat.blt 0 te.size=true) (hsm:Nat.ble (len*te.size) 16777216=true) (hi:Inv b0 ⟨n,tm,bx,fr,ee⟩ g a w) :
  ∃ cs:List Value,cs.length=len*te.size/\es.length=len/\len<=maxLen/\(∀(j:Nat) (x:E) (u:Value),(flat es)[j]?=some x->cs[j]?=some u->VE w g.C x u) /\
   (execOp a.eval ⟨some t,.buildSlice st len parts,ty,pos,after,none⟩).run P w=.ok (.value (.slice (some ⟨w.heap.size,0,none⟩) len len)) (w.alloc (.cells cs.toArray e)):=by
 have hl:=Nat.eq_of_beq_eq_true hlen
 have hsm:=Nat.le_of_ble_eq_true hsm
 have hpos:0<te.size:=by simpa[Nat.blt_eq]using hpos
 have hu:=(Z9 hT ht).slice hk
 have hds':=Vl hds
 obtain⟨hel,_⟩:=KA hes
 have hdl:ds.length=xs.length:=by rw[<- hds'];simp
 obtain⟨rs,r1,r2,r3,r4⟩:=OT (w:=w) (g:=g) (fr:=fr) (sz:=te.size) (vs:=xs.map a.eval) hes (by rw[hdl];simp) (fun j d v h1 h2=>by
  rw[<- hds',List.getElem?_map]at h1
  rw[List.getElem?_map]at h2
  cases hx:xs[j]? with
  | none=>simp[hx]at h1
  | some x=>simp[hx]at h1 h2;subst h1 h2;exact hi.ev x) (Zk hU)
 have hrl:rs.length=len:=by rw[<- hl];have:=congrArg List.length r1;simpa using this
 obtain⟨z,hz1,hz2⟩:=(Z9 hT hte).zero w
 obtain⟨hzl,_⟩:=Ji (w:=w) (g:=g) (fr:=fr) hz2
 have hparts:(parts.map fun(p:Nat × Operand)=>(p.1,a.eval p.2)).toList=(rs.zipIdx 0).map fun q=>(q.2,q.1.2):=by
  subst hp
  apply List.ext_getElem?
  intro j
  simp only[List.map_toArray,List.map_map,List.getElem?_map,List.getElem?_zipIdx,Nat.zero_add]
  have hj:(rs.map (·.2))[j]?=(xs.map a.eval)[j]? := by rw[r1]
  rw[List.getElem?_map,List.getElem?_map]at hj
  cases h1:xs[j]? <;> cases h2:rs[j]? <;> simp_all
 have key:∀ cells:Array Value,cells.size=len*te.size->∃ out:Array Value,Instr.fill (fun i=>some (i*te.size,te.size)) cells (parts.map fun(p:Nat × Operand)=>(p.1,a.eval p.2)).toList=some out/\out.toList=rs.flatMap (·.1):=fun cells hc=>by
  obtain⟨out,e1,e2⟩:=Kx rs 0 cells r2 (by rw[hc,hrl];simp)
  exact⟨out,by rw[hparts];exact e1,by rw[e2];simp⟩
 have hmul:(rs.flatMap (·.1)).length=len*te.size:=by rw[r3,<- hel,hdl,hl]
 have hesl:es.length=len:=by rw[<- hel,hdl,hl]
 have hrun:(Instr.buildSlice st len (parts.map fun(p:Nat × Operand)=>(p.1,a.eval p.2))).run P w=.ok (.slice (some ⟨w.heap.size,0,none⟩) len len) (w.alloc (.cells (rs.flatMap (·.1)).toArray e)):=by
  have hsz:=Y1 (P:=P) (t:=e) (Z9 hT hte).tSize w
  by_cases h0:len*te.size=0
  ·obtain⟨out,e1,e2⟩:=key #[] (by simp[h0])
   have:out=(rs.flatMap (·.1)).toArray:=by rw[<- e2]
   have hnil:(Array.range (len*te.size)).map (fun i=>(#[]:Array Value)[i % (#[]:Array Value).size]!) = #[]:=by rw[h0];simp
   simp only[Instr.buildSlice,Sem.run_bind,run_underlying hu,Result.andThen_ok,hsz,if_neg (show ¬ len*te.size>2 ^ 24 by omega),if_pos h0,Sem.run_pure,hnil,e1,this]
   rfl
  ·obtain⟨out,e1,e2⟩:=key ((Array.range (len*te.size)).map (z.cells[· % z.cells.size]!)) (by simp)
   have:out=(rs.flatMap (·.1)).toArray:=by rw[<- e2]
   simp only[Instr.buildSlice,Sem.run_bind,run_underlying hu,Result.andThen_ok,hsz,if_neg (show ¬ len*te.size>2 ^ 24 by omega),if_neg h0,hz1,Sem.run_pure,e1,this]
   rfl
 refine⟨rs.flatMap (·.1),hmul,hesl,by simp only[maxLen];have:=Nat.le_mul_of_pos_right len hpos;omega,r4,?_⟩
 simp only[execOp,Sem.run_bind]
 rw[show(fun(x:Nat × Operand)=>match x with|(i,x)=>(i,a.eval x))=fun(p:Nat × Operand)=>(p.1,a.eval p.2) from rfl,hrun]
 rfl
theorem Xz [Known][Dfr](hT:chk P T=true){st len e:Nat}{xs:List Operand}{ds:List D}{es:List E}{ti te:Ti}{m:Nat}(ht:tl T st=some ti)(hk:ti.kd=.slice e)(hte:tl T e=some te){parts:Array (Nat × Operand)}(hp:parts=((xs.zipIdx 0).map fun q=>(q.2,q.1)).toArray)(hlen:Nat.beq xs.length len=true)
  (hds:nfs (xs.map (ev tm))=some ds) (hes:D.toEl ds=some es) (hU:Ky te.size es=true) (hpos:Nat.blt 0 te.size=true) (hsm:Nat.ble (len*te.size) 16777216=true) (hm:fr.length=m) (hf:nfl (fr++[⟨len,te.size,e⟩])=some fr') (htd:Nat.blt t n=true)
  (k:AL P ops rest ⟨n,(t,.sl (.own m) es)::tm,bx,fr',ee⟩ Q):AL P ops (⟨some t,.buildSlice st len parts,ty,pos,after,none⟩::rest) ⟨n,tm,bx,fr,ee⟩ Q:=
 Jj _ htd (fun g a w hi=>by
  obtain⟨cs,c1,c2,c3,c4,c5⟩:=IY (t:=t) (ty:=ty) (pos:=pos) (after:=after) hT ht hk hte hp hlen hds hes hU hpos hsm hi
  have hpos':0<te.size:=by simpa[Nat.blt_eq]using hpos
  obtain⟨k1,k2,k3⟩:=hi.mem.row cs es len te.size e hpos' c1 (by omega) c3 (Zk hU) c4
  rw[c2]at k1 k2 k3
  have e1:=YO hf
  subst e1 hm
  exact⟨.slice (some ⟨w.heap.size,0,none⟩) len len,_,_,c5,k1,k2,k3⟩) k
end
end Go.Av
end
