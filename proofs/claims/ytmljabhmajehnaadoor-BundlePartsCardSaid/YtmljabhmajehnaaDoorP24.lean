/- The region in which new variables come in any order and values are laid into them, as one step of a walk. -/
import Derived.Test.YtmljabhmajehnaaDoorP23
set_option linter.unusedSimpArgs false
set_option linter.unusedVariables false
section
open Go.RowKit Go.Pl
namespace Go.Av
def Lz (l:List Oper)(m:Nat):Bool:=(l.take m).all fun o=>!OQ o||o.dst.isNone
def NU (zs:List (Nat × Wy)):Bool:=zs.all fun p=>match p.2 with
 | .st t cs=>zs.all fun q=>match q.2 with
  | .al cs'=>!Nat.beq q.1 t||Nat.beq cs.length cs'.length
  | _=>true
 | _=>true
section
variable {P:Program} {T:Tab} {Q:X->St->Prop} {n:Nat} {ee:Nat × Nat} {tm tm':List (Nat × D)} {bx:List (List D)} {fr:List Fr} {b0:Bs} {g g':G} {w w':World} {a:Act}
theorem Goo.turn {k k':Nat}{cs:List D}(h:Goo b0 g fr w k' cs)(ht:Turn w w' k)(hne:k' ≠ k)(hC:∀ o,¬ g.C k o):Goo b0 g fr w' k' cs:=by
 obtain⟨h1,h2,h3,vs,ty,h4,h5,h6⟩:=h
 exact⟨h1,h2,h3,vs,ty,(ht.far k' hne).trans h4,h5,fun j d v hd hv=>(h6 j d v hd hv).turn ht hC⟩
theorem He [Known][Dfr]{id m:Nat}{l acts:List Oper}{zs:List (Nat × Wy)}(hT:chk P T=true)(hm:P.follows .mixedOrders=true)(hchk:YB l=true)(hlk:Jk n l=true)(hE:Qx l=true)(hch:Wk l m=true)(hz:Lx l m=true)(hs:Ly l m=true)(hsn:Lz l m=true)(hv:NU zs=true)(hlen:(l.take m).length=m)(hacts:l.drop m=acts)(h:AV P T l n bx fr 0 (l.take m) tm zs tm')(k:AL P l.toArray acts ⟨n,Xa bx.length zs tm',bx++wcs zs zs,fr,ee⟩ Q) :
  AW P (.region id l.toArray true) ⟨n,tm,bx,fr,ee⟩ Q:=by
 obtain⟨h1,h2,h3'⟩:=h.steps
 have h3:∀(i:Nat) (o:Oper),(l.take m)[i]?=some o->∃ y,zs[i]?=some (Yk n i o,y)/\Un n o=true/\Wof P T l n bx fr (((zs.take i).map wJ).reverse++tm) o y:=fun i o ho=>by
  have:=h3' i o ho
  rw[Nat.zero_add]at this;exact this
 rw[hlen]at h1
 have hml:m<=l.length:=by rw[List.length_take]at hlen;omega
 have hdl:∀ K,(zs.map (wK K)).length=m:=fun K=>by rw[List.length_map,h1]
 have hl:∀ K,(zs.map (wK K)).length<=l.length:=fun K=>by rw[hdl];exact hml
 have htk:∀(i:Nat) (o:Oper),l[i]?=some o->i<m->(l.take m)[i]?=some o:=fun i o ho hi=>by rw[List.getElem?_take,if_pos hi];exact ho
 have hdst:∀ K,HD n l (zs.map (wK K)):=fun K i o ho hd=>by
  rw[hdl]at hd
  obtain⟨y,q1,q3,q4⟩:=h3 i o (htk i o ho hd)
  refine⟨(wK K (Yk n i o,y)).2,by rw[W8 q1];rfl,fun hn=>?_,q3⟩
  cases y with
  | pu d=>obtain⟨⟨t,ht⟩,_⟩:=q4;rw[hn]at ht;cases ht
  | al cs=>obtain⟨t,e,ty,pos,after,ti,rfl,_⟩:=q4;cases hn
  | st t cs=>rfl
 have hop:∀ {j:Nat} {u:Nat} {y:Wy},zs[j]?=some (u,y)->∃ o,l[j]?=some o/\j<m/\u=Yk n j o/\Wof P T l n bx fr (((zs.take j).map wJ).reverse++tm) o y:=fun {j u y} hj=>by
  have hjm:j<m:=by have:=(List.getElem?_eq_some_iff.1 hj).1;omega
  have hoj:l[j]?=some l[j]:=List.getElem?_eq_getElem (by omega)
  obtain⟨y',q1,q3,q4⟩:=h3 j _ (htk j _ hoj hjm)
  rw[hj]at q1
  injection q1 with q1
  injection q1 with q1 q1'
  subst q1'
  exact⟨_,hoj,hjm,q1,q4⟩
 have hNo:∀ {i:Nat} {o:Oper},(l.take m)[i]?=some o->OQ o=false->∀ t cs,(t,Wy.al cs) ∈ zs->(YQ l o).contains t=false:=fun {i o} ho hno t cs hmem=>by
  obtain⟨j,hj⟩:=List.getElem?_of_mem hmem
  obtain⟨o',p1,p2,p3,p4⟩:=hop hj
  obtain⟨t',e,ty,pos,after,ti,q5,_⟩:=p4
  have hz1:=List.all_eq_true.1 hz _ (List.mem_of_getElem? (htk j o' p1 p2))
  subst q5
  dsimp only at hz1
  have:=List.all_eq_true.1 hz1 o (List.mem_of_getElem? ho)
  rw[hno,Bool.or_false]at this
  have e:t=t':=p3
  subst e
  simpa using this
 have hNN:∀(i j:Nat) (p q:Nat × Wy),zs[i]?=some p->zs[j]?=some q->p.1=q.1->i=j:=fun i j p q hp hq e=>
  (hdst (fun _=>0)).one hchk (hl _) i j _ _ (W8 (t:=p.1) (y:=p.2) hp) (W8 (t:=q.1) (y:=q.2) hq) e
 have hsa:∀ {j u x:Nat} {cs:List D},zs[j]?=some (u,.st x cs)->∃ i' cs' o,l[j]?=some o/\i'<j/\zs[i']?=some (x,.al cs')/\up (Yf [] l) j i'=true/\cs.length=cs'.length/\(∀ y,(∃ e,o.op=.store e (.tmp x) y)->∀ tv,y=.tmp tv->tv ∈ YQ l o)/\x ∈ YQ l o/\(∀ j' u' cs'',zs[j']?=some (u',.st x cs'')->j'=j):=fun {j u x cs} hj=>by
  obtain⟨o,p1,p2,p3,e,y,ty,pos,after,ti,d,rfl,q2,q3,q4,q5,rfl⟩:=hop hj
  have hc:=List.all_eq_true.1 hs j (List.mem_range.2 p2)
  rw[p1]at hc
  simp only[Bool.and_eq_true]at hc
  obtain⟨c1,c2,c3,c4⟩:=hc
  obtain⟨i',hi',c5⟩:=List.any_eq_true.1 c3
  have hij:=List.mem_range.1 hi'
  have hoi:l[i']?=some l[i']:=List.getElem?_eq_getElem (by omega)
  rw[hoi]at c5
  dsimp only at c5
  obtain⟨y',r1,r2,r3⟩:=h3 i' _ (htk i' _ hoi (by omega))
  have hal:∃ e',l[i'].op=.alloc e'/\l[i'].dst=some x:=by
   cases hop':l[i'].op<;>rw[hop']at c5<;>(try dsimp only at c5)<;>try(cases c5)
   cases hd':l[i'].dst with
   | none=>rw[hd']at c5;cases c5
   | some t'=>
    rw[hd']at c5
    simp only[Bool.and_eq_true]at c5
    exact⟨_,rfl,by rw[Nat.eq_of_beq_eq_true c5.1]⟩
  obtain⟨e',a1,a2⟩:=hal
  have hsl:Yk n i' l[i']=x:=by simp only[Yk,a2]
  rw[hsl]at r1
  cases y' with
  | pu d'=>obtain⟨_,b2,_⟩:=r3;simp[Gq,a1]at b2
  | st t' cs'=>obtain⟨e2,y2,ty2,pos2,after2,ti2,d2,b1,_⟩:=r3;rw[b1]at a1;cases a1
  | al cs'=>
   refine⟨i',cs',_,p1,hij,r1,?_,?_,?_,by simpa using c1,fun j' u' cs'' hj'=>?_⟩
   ·have hp:=Vw hchk (i:=i') (j:=j) (by omega) (by omega) (by omega)
    unfold WW at hp
    rw[hoi,p1]at hp
    simp only[a2,c1]at hp
    simp only[Bool.not_true,Bool.false_or,Bool.and_eq_true]at hp
    have:=hp.2
    rw[if_pos hij]at this
    exact this
   ·have hv1:=List.all_eq_true.1 hv _ (List.mem_of_getElem? hj)
    dsimp only at hv1
    have hv2:=List.all_eq_true.1 hv1 _ (List.mem_of_getElem? r1)
    simp only[Nat.beq_refl,Bool.not_true,Bool.false_or]at hv2
    exact Nat.eq_of_beq_eq_true hv2
   ·rintro y2 ⟨e2,he2⟩ tv rfl
    dsimp only at he2
    injection he2 with _ _ he2
    subst he2
    simpa using c2
   ·by_cases hne:j'=j
    ·exact hne
    ·exfalso
     obtain⟨o',p1',p2',p3',e2,y2,ty2,pos2,after2,ti2,d2,rfl,_⟩:=hop hj'
     have c6:=List.all_eq_true.1 c4 j' (List.mem_range.2 p2')
     rw[p1']at c6
     simp[hne]at c6
 refine⟨fun b0 g a w hi=>wp_region_any hm ?_⟩
 have main:∀(fuel:Nat) (listed:Array Bool) (g:G) (a:Act) (w:World) (K:Nat->Nat),MidE b0 ee n tm (bx,fr) l (zs.map (wK K)) listed g a w ->
   (∀(i t:Nat) (cs:List D),zs[i]?=some (t,.al cs)->listed.getD i false=true->Goo b0 g fr w (K t) ((stO (fun j=>listed.getD j false) 0 zs t).getD cs))->(∀(i j t t':Nat) (cs cs':List D),zs[i]?=some (t,.al cs)->zs[j]?=some (t',.al cs')->listed.getD i false=true->listed.getD j false=true->K t=K t'->t=t') ->
   (∀ i,m<=i->i<l.length->listed.getD i false=false)->left l listed=fuel->wpAny P .any l.toArray (WP b0 Q) fuel listed a w:=by
  intro fuel
  have hend:∀(listed:Array Bool) (g:G) (a:Act) (w:World) (K:Nat->Nat),MidE b0 ee n tm (bx,fr) l (zs.map (wK K)) listed g a w ->
    (∀(i t:Nat) (cs:List D),zs[i]?=some (t,.al cs)->listed.getD i false=true->Goo b0 g fr w (K t) ((stO (fun j=>listed.getD j false) 0 zs t).getD cs))->(∀(i j t t':Nat) (cs cs':List D),zs[i]?=some (t,.al cs)->zs[j]?=some (t',.al cs')->listed.getD i false=true->listed.getD j false=true->K t=K t'->t=t') ->
    (∀ i,i<m->listed.getD i false=true)->wpList P l.toArray (WP b0 Q) acts a w:=fun listed g a w K hM hA hKK hall=>by
   have hinv:=JM hchk (hl K) (hdst K) hM fun i hi=>hall i (by rw[hdl]at hi;exact hi)
   have hinv2:Inv b0 ⟨n,tm',bx,fr,ee⟩ g a w:=⟨hinv.size,hinv.defers,hinv.mem,fun x=>by
    have hx:=hinv.tm x
    dsimp only at hx ⊢
    rw[h2,<- List.map_reverse]
    rw[<- List.map_reverse]at hx
    rcases KO (K:=K) (x:=x) (tm:=tm) zs.reverse with e|e
    ·rw[e];exact hx
    ·rw[e];exact .junk _,hinv.evo,hinv.bd⟩
   have hidx:∀ {t:Nat} {cs:List D},(t,Wy.al cs) ∈ zs->∃ i,zs[i]?=some (t,.al cs)/\listed.getD i false=true:=fun hmem=>by
    obtain⟨i,hi⟩:=List.getElem?_of_mem hmem
    exact⟨i,hi,hall i (by have:=(List.getElem?_eq_some_iff.1 hi).1;omega)⟩
   obtain⟨g',hi'⟩:=Gr (K:=K) (all:=zs) zs tm' bx g hinv2 (fun t cs hmem=>by
    obtain⟨i,hi,hli⟩:=hidx hmem
    refine⟨?_,?_⟩
    ·have:=hM.tm t
     rw[Yu ((hdst K).one hchk (hl K)) (hl K) (W8 hi),if_pos hli]at this
     exact VR this
    ·have:=hA i t cs hi hli
     rw[Vf (q:=fun _=>true) fun j u cs' hj=>by
      rw[Nat.zero_add]
      exact hall j (by have:=(List.getElem?_eq_some_iff.1 hj).1;omega)]at this
     exact this) (List.pairwise_iff_getElem.2 fun i j hi hj hij e=>by
     have:=hNN i j _ _ (List.getElem?_eq_getElem hi) (List.getElem?_eq_getElem hj) e
     omega) (fun t cs t' cs' hmem hmem' e=>by
    obtain⟨i,hi,hli⟩:=hidx hmem
    obtain⟨j,hj,hlj⟩:=hidx hmem'
    exact hKK i j t t' cs cs' hi hj hli hlj e)
   exact k.run b0 g' a w hi'
  induction fuel with
  | zero=>
   intro listed g a w K hM hA hKK hu h0
   exact Wr hE hch 0 m listed a w (by
    rcases Nat.lt_or_ge m l.length with h|h
    ·have h5:=hu m (Nat.le_refl _) h
     have h6:=Yn h0 h
     rw[h5]at h6;cases h6
    ·omega) (Nat.le_refl _) hM.len (fun i hi=>by
     rw[Yn h0 hi]
     rcases Nat.lt_or_ge m l.length with h|h
     ·have h5:=hu m (Nat.le_refl _) h
      have h6:=Yn h0 h
      rw[h5]at h6;cases h6
     ·simp;omega) (by rw[hacts];exact hend listed g a w K hM hA hKK (fun i hi=>Yn h0 (by omega)))
  | succ fuel ih=>
   intro listed g a w K hM hA hKK hu hf
   by_cases hall:∀ i,i<m->listed.getD i false=true
   ·have hls:∀ i,i<l.length->(listed.getD i false=true ↔ i<m):=fun i hi=>by
     rcases Nat.lt_or_ge i m with h|h
     ·simp[hall i h,h]
     ·rw[hu i h hi];simp;omega
    exact Wr hE hch (fuel+1) m listed a w (by rw[<- hf,V8 hls];omega) (Nat.le_refl _) hM.len hls (by rw[hacts];exact hend listed g a w K hM hA hKK hall)
   refine⟨fun he=>(VP hE hM.len (by omega) he).elim,fun i hi=>?_⟩
   obtain⟨hn0,o,ho,hr⟩:=mem_ready.1 hi
   have ho':l[i]?=some o:=by simpa using ho
   have hil:i<l.length:=(List.getElem?_eq_some_iff.1 ho').1
   have hlt:i<listed.size:=by rw[hM.len];exact hil
   have hn:listed.getD i false=false:=by simp[hlt]at hn0 ⊢;exact hn0
   have hleft:=Ux hil hM.len hn
   by_cases him:i<m
   ·obtain⟨y,q1,q3,q4⟩:=h3 i o (htk i o ho' him)
    have hut:∀ x,m<=x->x<l.length->(listed.setIfInBounds i true).getD x false=false:=fun x hx hxl=>by
     rw[getD_set_ne false (by omega)]
     exact hu x hx hxl
    have hlist:∀ x:Nat,x ≠ i->(listed.setIfInBounds i true).getD x false=true->listed.getD x false=true:=fun x hx h=>by
     rw[getD_set_ne false (Ne.symm hx)]at h;exact h
    have hcl':∀(mm:Nat) (om:Oper),l[mm]?=some om->(listed.setIfInBounds i true).getD mm false=true->∀ e ∈ om.after,Region.binds .any e=true->(listed.setIfInBounds i true).getD e.on false=true:=fun mm om hmm hlm ed he hb=>by
     by_cases hmi:mm=i
     ·subst hmi
      rw[ho']at hmm;injection hmm with hmm;subst hmm
      exact getD_set_true (hr ed he hb)
     ·rw[getD_set_ne false (Ne.symm hmi)]at hlm
      exact getD_set_true (hM.closed mm om hmm hlm ed he hb)
    cases y with
    | pu d=>
     obtain⟨⟨t,ht⟩,q5,q6⟩:=q4
     have hnst:OQ o=false:=by
      have hz1:=List.all_eq_true.1 hsn _ (List.mem_of_getElem? (htk i o ho' him))
      rw[ht]at hz1
      simpa using hz1
     have hM0:MidE ⟨g,fr,w⟩ (g.ρ.length,fr.length) n tm (bx,fr) l (zs.map (wK K)) listed g a w:=⟨⟨Nat.le_refl _,Nat.le_refl _⟩,hM.size,hM.defers,hM.mem,Evo.refl _,hM.tm,hM.closed,hM.len⟩
     refine Q3 (y:=.pu d) hchk hlk (hl K) (hdst K) hM0 ho' hi (by rw[hdl];exact him) (by rw[W8 q1];rfl) (by
      rw[<- List.map_take,TD (fun t' cs' hmem=>hNo (htk i o ho' him) hnst t' cs' (List.mem_of_mem_take hmem))]
      exact q6) fun g' a' w' hM'=>?_
     have hM':MidE ⟨g,fr,w⟩ (g.ρ.length,fr.length) n tm (bx,fr) l (zs.map (wK K)) (listed.setIfInBounds i true) g' a' w':=hM'
     refine ih _ g' a' w' K ⟨hM.bd,hM'.size,hM'.defers,hM'.mem,hM.evo.trans hM'.evo,hM'.tm,hM'.closed,hM'.len⟩ (fun x t' cs' hx hlx=>?_) (fun x x' t' t'' cs' cs'' hx hx' hlx hlx'=>?_) hut (by omega)
     ·have hxi:x ≠ i:=fun e=>by subst e;rw[q1]at hx;cases hx
      rw[Vf (q:=fun j=>listed.getD j false) fun j u cs2 hj=>by
       rw[Nat.zero_add]
       exact getD_set_ne false fun e=>by subst e;rw[q1]at hj;cases hj]
      exact(hA x t' cs' hx (hlist x hxi hlx)).evo hM'.evo
     ·have hxi:x ≠ i:=fun e=>by subst e;rw[q1]at hx;cases hx
      have hxi':x' ≠ i:=fun e=>by subst e;rw[q1]at hx';cases hx'
      exact hKK x x' t' t'' cs' cs'' hx hx' (hlist x hxi hlx) (hlist x' hxi' hlx')
    | al cs=>
     obtain⟨t,e,ty,pos,after,ti,rfl,hti,rfl⟩:=q4
     have q1:zs[i]?=some (t,.al (ti.zero.map ZK.d)):=q1
     obtain⟨z,z1,z2⟩:=(ZJ hT hti).zero w
     have htn:t<n:=by simpa[Un,Nat.blt_eq]using q3
     have hN:=fun K=>(hdst K).one hchk (hl K)
     unfold wpOp
     simp only[ho]
     have hw:Region.wanted (⟨some t,.alloc e,ty,pos,after,none⟩:Oper) (yielded l.toArray a.tmps)=true:=rfl
     rw[if_pos hw]
     refine .inl ?_
     have hrun:(execOp a.eval ⟨some t,.alloc e,ty,pos,after,none⟩).run P w=.ok (.value (.pointer (some ⟨w.heap.size,0,none⟩))) (w.alloc (.cells z.cells e)):=by
      simp[execOp,Instr.alloc,newVar,newRow,Sem.run_bind,z1]
     unfold Oper.wp
     rw[hrun,Oper.upon_value]
     have hev:=Evo.al hM.mem (.cells z.cells e)
     have hK:∀ t',t' ≠ t->(if t'=t then w.heap.size else K t')=K t':=fun t' h=>if_neg h
     have hsame:∀(j:Nat) (x:Nat) (y:Wy),zs[j]?=some (x,y)->x ≠ t->wK (fun s=>if s=t then w.heap.size else K s) (x,y)=wK K (x,y):=fun j x y _ hx=>by
      cases y with
      | pu d=>rfl
      | st t' cs=>rfl
      | al cs=>simp only[wK,hK x hx]
     refine ih _ g _ _ (fun s=>if s=t then w.heap.size else K s) ⟨hM.bd,by simp[Act.put,hM.size],by simp only[Act.put];exact hM.defers,hM.mem.al _,hM.evo.trans hev,fun x=>?_,hcl',by simp[hM.len]⟩ (fun x t' cs' hx hlx=>?_) (fun x x' t' t'' cs' cs'' hx hx' hlx hlx' hke=>?_) hut (by omega)
     ·by_cases hx:x=t
      ·subst hx
       rw[Yu (hN _) (hl _) (W8 q1),if_pos (by simp[hM.len,hil])]
       have e1:(Act.put a (some x) (.pointer (some ⟨w.heap.size,0,none⟩))).tmps.getD x undef=.pointer (some ⟨w.heap.size,0,none⟩):=by
        simp[Act.put,Array.getD_getElem?,hM.size,htn]
       dsimp only
       rw[e1]
       simp only[if_pos]
       exact .gptr _ _
      ·have e1:(Act.put a (some t) (.pointer (some ⟨w.heap.size,0,none⟩))).tmps.getD x undef=a.tmps.getD x undef:=by
        simp[Act.put,Array.getD_getElem?,Array.getElem?_setIfInBounds_ne (Ne.symm hx)]
       dsimp only
       rw[e1]
       have e2:cur l (zs.map (wK fun s=>if s=t then w.heap.size else K s)) tm (listed.setIfInBounds i true) x=cur l (zs.map (wK K)) tm listed x:=by
        by_cases hex:∃(j:Nat) (y:Wy),zs[j]?=some (x,y)
        ·obtain⟨j,y,hj⟩:=hex
         have hne:i ≠ j:=fun e=>by
          subst e;rw[q1]at hj;injection hj with hj;injection hj with hj;exact hx hj.symm
         have hj1:=W8 (K:=fun s=>if s=t then w.heap.size else K s) hj
         rw[hsame j x y hj hx]at hj1
         rw[Yu (hN _) (hl _) hj1,Yu (hN K) (hl K) (W8 hj),getD_set_ne false hne]
        ·have hno:∀(K:Nat->Nat) (j:Nat) (p:Nat × D),(zs.map (wK K))[j]?=some p->p.1 ≠ x:=fun K j p hj e=>by
          rw[List.getElem?_map]at hj
          cases hzj:zs[j]? with
          | none=>rw[hzj]at hj;cases hj
          | some q=>
           rw[hzj]at hj
           injection hj with hj
           subst hj
           exact hex ⟨j,q.2,by rw[hzj,<- e];rfl⟩
         rw[YM (hno _),YM (hno _)]
       rw[e2]
       exact(hM.tm x).evo hev
     ·by_cases hxi:x=i
      ·subst hxi
       rw[q1]at hx
       injection hx with hx
       injection hx with hx hx'
       injection hx' with hx'
       subst hx hx'
       simp only[if_pos]
       rw[OO fun j u cs2 hj=>by
        rw[Nat.zero_add]
        obtain⟨i',cs3,o',s1,s2,s3,s4,_⟩:=hsa hj
        have e3:=hNN i' x _ _ s3 q1 rfl
        subst e3
        rw[getD_set_ne false (by omega)]
        cases hlj:listed.getD j false with
        | false=>rfl
        | true=>
         have:=Y5 hM.closed j o' s1 (hM.closed j o' s1 hlj) i' s4
         rw[hn]at this;cases this]
       refine⟨hM.evo.size,fun hmm=>absurd (hM.mem.lt hmm) (Nat.lt_irrefl _),fun o hc=>absurd (hM.mem.Clt _ o hc) (Nat.lt_irrefl _),z.cells,e,heap_alloc_new w _,?_,fun j d v hd hv=>?_⟩
       ·have:=(W6 (w:=w) (g:=g) (fr:=fr) z2).1
        exact⟨by simpa using this,JH _⟩
       ·exact((W6 (w:=w.alloc (.cells z.cells e)) (g:=g) (fr:=fr) z2).2 j d v hd (by simpa using hv)).1
      ·have hne:t' ≠ t:=fun e=>hxi (hNN x i _ _ hx q1 e)
       rw[hK t' hne]
       rw[Vf (q:=fun j=>listed.getD j false) fun j u cs2 hj=>by
        rw[Nat.zero_add]
        exact getD_set_ne false fun e=>by subst e;rw[q1]at hj;cases hj]
       exact(hA x t' cs' hx (hlist x hxi hlx)).evo hev
     ·by_cases hxi:x=i
      ·by_cases hxi':x'=i
       ·subst hxi;subst hxi'
        rw[hx]at hx';injection hx' with hx';injection hx'
       ·subst hxi
        rw[q1]at hx;injection hx with hx;injection hx with hx _;subst hx
        have hne:t'' ≠ t:=fun e=>hxi' (hNN x' x _ _ hx' q1 e)
        rw[hK t'' hne]at hke
        simp only[if_pos]at hke
        have:=(hA x' t'' cs'' hx' (hlist x' hxi' hlx')).lt
        omega
      ·have hne:t' ≠ t:=fun e=>hxi (hNN x i _ _ hx q1 e)
       rw[hK t' hne]at hke
       by_cases hxi':x'=i
       ·subst hxi'
        rw[q1]at hx';injection hx' with hx';injection hx' with hx' _;subst hx'
        simp only[if_pos]at hke
        have:=(hA x t' cs' hx (hlist x hxi hlx)).lt
        omega
       ·have hne':t'' ≠ t:=fun e=>hxi' (hNN x' i _ _ hx' q1 e)
        rw[hK t'' hne']at hke
        exact hKK x x' t' t'' cs' cs'' hx hx' (hlist x hxi hlx) (hlist x' hxi' hlx') hke
    | st ts cs=>
     obtain⟨i',cs3,o',s1,s2,s3,s4,s5,s6,s7,s8⟩:=hsa q1
     rw[ho']at s1;injection s1 with s1;subst s1
     obtain⟨e,yy,ty,pos,after,ti,d,rfl,hy,hone,hti,hsz,rfl⟩:=q4
     have q1:zs[i]?=some (n+i,.st ts d.cellsOf):=q1
     have hli:listed.getD i' false=true:=Y5 hM.closed i _ ho' hr i' s4
     have hN:=(hdst K).one hchk (hl K)
     have hslot:a.tmps.getD ts undef=.pointer (some ⟨K ts,0,none⟩):=by
      have:=hM.tm ts
      rw[Yu hN (hl K) (W8 s3),if_pos hli]at this
      exact VR this
     have hG:=hA i' ts cs3 s3 hli
     rw[OO fun j u cs2 hj=>by
      rw[Nat.zero_add,s8 j u cs2 hj];exact hn]at hG
     have hG:Goo b0 g fr w (K ts) cs3:=hG
     obtain⟨g1,g2,g3,us,ut,g4,⟨g5,g5r⟩,g6⟩:=hG
     have hvy:V w g fr d (a.eval yy):=by
      rw[<- YC hy]
      have hinv:∀ x,x ∈ YQ l (⟨none,.store e (.tmp ts) yy,ty,pos,after,none⟩:Oper)->V w g fr (look (((zs.take i).map wJ).reverse++tm) x) (a.tmps.getD x undef):=fun x hx=>by
       have hx2:=hM.tm x
       rw[JL hchk hlk (hl K) (hdst K) hM.closed ho' hn hr (by rw[hdl];omega) hx,<- List.map_take]at hx2
       rw[<- List.map_reverse]at hx2 ⊢
       rcases KO (K:=K) (x:=x) (tm:=tm) (zs.take i).reverse with e|e
       ·rw[e];exact hx2
       ·rw[e];exact .junk _
      cases yy with
      | tmp tv=>exact hinv tv (s6 (.tmp tv) ⟨e,rfl⟩ tv rfl)
      | const v=>exact XA _ _ _ v
      | func f=>exact .fn f [] [] rfl (by simp)
      | global k=>exact .gptr _ 0
     obtain⟨vs,v2,v3,v4⟩:=hvy.cells hone
     have hvs1:∀ v ∈ vs,v.oneCell'=true:=fun v hv=>by
      obtain⟨j,hj⟩:=List.getElem?_of_mem hv
      have hlt:j<d.cellsOf.length:=by rw[<- v3];exact(List.getElem?_eq_some_iff.1 hj).1
      exact(v4 j _ v (List.getElem?_eq_getElem hlt) hj).one (VN hone (List.getElem?_eq_getElem hlt))
     have hrun:=run_storeCells_at (P:=P) (K ts) 0 ut vs 0 us w g4 (by omega) hvs1
     obtain⟨w',hw'⟩:∃ w',w'=w.setRow (K ts) (us.toList.take (0+0)++vs++us.toList.drop (0+0+vs.length)).toArray:=⟨_,rfl⟩
     have hheap:w'.heap[K ts]?=some (.cells (us.toList.take (0+0)++vs++us.toList.drop (0+0+vs.length)).toArray ut (0,0)):=by
      rw[hw'];exact setRow_heap w (K ts) us _ ut _ g4
     have hturn:Turn w w' (K ts):=⟨by rw[hw'];rfl,by rw[hw'];rfl,by rw[hw'];rfl,by rw[hw'];simp[World.setRow],fun k hk=>by
      rw[hw'];simp only[World.setRow,Array.getElem?_modify];rw[if_neg (fun e=>hk e.symm)]⟩
     have hrow:(us.toList.take (0+0)++vs++us.toList.drop (0+0+vs.length))=vs:=by
      rw[List.drop_of_length_le (by simp;omega)];simp
     rw[hrow]at hheap
     unfold wpOp
     simp only[ho]
     have hw:Region.wanted (⟨none,.store e (.tmp ts) yy,ty,pos,after,none⟩:Oper) (yielded l.toArray a.tmps)=true:=rfl
     rw[if_pos hw]
     refine .inl ?_
     have hrun2:(execOp a.eval ⟨none,.store e (.tmp ts) yy,ty,pos,after,none⟩).run P w=.ok .skip w':=by
      rw[<- hw']at hrun
      have hag:=(ZJ hT hti)
      have hsz2:(sizeOf e).run P w=.ok vs.length w:=Ye (by rw[hag.tSize,v3,hsz]) w
      have hea:a.eval (.tmp ts)=.pointer (some ⟨K ts,0,none⟩):=hslot
      simp[execOp,hea,Instr.storeAt,Instr.sureAddr,storeVar,Sem.run_bind,v2,hsz2,hrun]
     unfold Oper.wp
     rw[hrun2]
     have hcurs:∀ x,x ≠ n+i->cur l (zs.map (wK K)) tm (listed.setIfInBounds i true) x=cur l (zs.map (wK K)) tm listed x:=fun x hx=>by
      by_cases hex:∃(j:Nat) (y:Wy),zs[j]?=some (x,y)
      ·obtain⟨j,y,hj⟩:=hex
       have hne:i ≠ j:=fun e=>by
        subst e;rw[q1]at hj;injection hj with hj;injection hj with hj;exact hx hj.symm
       rw[Yu hN (hl K) (W8 hj),Yu hN (hl K) (W8 hj),getD_set_ne false hne]
      ·have hno:∀(j:Nat) (p:Nat × D),(zs.map (wK K))[j]?=some p->p.1 ≠ x:=fun j p hj e=>by
        rw[List.getElem?_map]at hj
        cases hzj:zs[j]? with
        | none=>rw[hzj]at hj;cases hj
        | some q=>
         rw[hzj]at hj
         injection hj with hj
         subst hj
         exact hex ⟨j,q.2,by rw[hzj,<- e];rfl⟩
       rw[YM hno,YM hno]
     refine ih _ g a w' K ⟨hM.bd,hM.size,hM.defers,hM.mem.turn hturn g2 g3,hM.evo.turn hturn g3 g1,fun x=>?_,hcl',by simp[hM.len]⟩ (fun x t' cs' hx hlx=>?_) (fun x x' t' t'' cs' cs'' hx hx' hlx hlx'=>?_) hut (by omega)
     ·by_cases hx:x=n+i
      ·subst hx
       rw[Yu hN (hl K) (W8 q1),if_pos (by simp[hM.len,hil])]
       exact .junk _
      ·rw[hcurs x hx]
       exact(hM.tm x).turn hturn g3
     ·have hxi:x ≠ i:=fun e=>by subst e;rw[q1]at hx;cases hx
      by_cases hte:t'=ts
      ·subst hte
       rw[OP q1 (by rw[Nat.zero_add];simp[hM.len,hil]) fun j' u' cs'' hj=>s8 j' u' cs'' hj]
       exact⟨g1,g2,g3,vs.toArray,ut,hheap,⟨by simp[v3],K5 hone⟩,fun j c v hd hv=>(v4 j c v hd (by simpa using hv)).turn hturn g3⟩
      ·rw[Vf (q:=fun j=>listed.getD j false) fun j u cs2 hj=>by
        rw[Nat.zero_add]
        exact getD_set_ne false fun e=>by
         subst e;rw[q1]at hj;injection hj with hj;injection hj with _ hj;injection hj with hj;exact hte hj.symm]
       exact(hA x t' cs' hx (hlist x hxi hlx)).turn hturn (fun e=>hte (hKK x i' t' ts cs' cs3 hx s3 (hlist x hxi hlx) hli e)) g3
     ·have hxi:x ≠ i:=fun e=>by subst e;rw[q1]at hx;cases hx
      have hxi':x' ≠ i:=fun e=>by subst e;rw[q1]at hx';cases hx'
      exact hKK x x' t' t'' cs' cs'' hx hx' (hlist x hxi hlx) (hlist x' hxi' hlx')
   ·exact(hall fun x hx=>Y5 hM.closed i o ho' hr x (Wv hch (by omega) hil (by omega))).elim
 have hsz:l.toArray.size=l.length:=by simp
 rw[hsz]
 have hfresh:∀ i,(Array.replicate l.length false).getD i false=false:=fun i=>by
  rcases Nat.lt_or_ge i l.length with h|h<;>simp[h]
 refine main l.length _ g a _ (fun _=>0) ⟨hi.bd,hi.size,hi.defers,hi.mem.drew,hi.evo.trans Evo.drew,fun t=>?_,fun m o hm hl=>?_,by simp⟩ (fun i t cs h hl=>by rw[hfresh]at hl;cases hl) (fun i j t t' cs cs' h h' hl=>by rw[hfresh]at hl;cases hl) (fun i _ _=>hfresh i) ?_
 ·have:cur l (zs.map (wK fun _=>0)) tm (Array.replicate l.length false) t=look tm t:=by
   unfold cur
   have hf:(List.range l.length).find? (fun i=>(Array.replicate l.length false).getD i false&&(((zs.map (wK fun _=>0))[i]?).map (·.1)==some t))=none:=by
    apply List.find?_eq_none.2
    intro i _
    rw[hfresh];simp
   rw[hf]
  rw[this]
  exact(hi.tm t).drew
 ·rw[hfresh]at hl;cases hl
 ·have:=V8 (l:=l) (listed:=Array.replicate l.length false) (j:=0) (fun i hi=>by rw[hfresh];simp)
  rw[this];omega
def LA (l:List Oper):Bool:=l.any OQ
structure AWk [Known][Dfr](P:Program) (l acts:List Oper) (n:Nat) (zs:List (Nat × Wy)) (tm:List (Nat × D)) (bx:List (List D)) (fr:List Fr) (ee:Nat × Nat) (Q:X->St->Prop):Prop where
 run:AL P l.toArray acts ⟨n,Xa bx.length zs tm,bx++wcs zs zs,fr,ee⟩ Q
theorem Q8 [Known][Dfr]{l acts:List Oper}{zs:List (Nat × Wy)}{bx2:List (List D)}{tm2:List (Nat × D)}{k0:Nat}(hv:NU zs=true)(hk0:Ur bx=some k0)(htm:nfl (Xa k0 zs tm)=some tm2)(hbx:nfb (bx++wcs zs zs)=some bx2)(k:AL P l.toArray acts ⟨n,tm2,bx2,fr,ee⟩ Q):NU zs=true/\AWk P l acts n zs tm bx fr ee Q:=by
 have e1:=Wc hk0
 have e2:=Yd htm
 have e3:=Wg hbx
 subst e1 e2 e3
 exact⟨hv,⟨k⟩⟩
theorem X9 [Known][Dfr]{l:List Oper}{o:Oper}{rest:List Oper}{i t:Nat}{d:D}{zs:List (Nat × Wy)}{tm2:List (Nat × D)}(hd:o.dst=some t)(hna:Gq o=false)(ht:Nat.blt t n=true)(h2:nfl (Z6 l o tm)=some tm2)(h:AL P l.toArray [o] ⟨n,tm2,bx,fr,(bx.length,fr.length)⟩ (qY o bx fr (.pu d)))(k:AV P T l n bx fr (i+1) rest ((t,d)::tm) zs tm'):AV P T l n bx fr i (o::rest) tm ((t,.pu d)::zs) tm':=
 .pu i o rest t d tm zs tm' hd hna ht (Yd h2 ▸ h) k
theorem Ka [Known][Dfr]{l rest:List Oper}{i t:Nat}{e:TypeId}{ty:Nat}{pos:String}{after:Array Edge}{ti:Ti}{zs:List (Nat × Wy)}(ht:Nat.blt t n=true)(hti:tl T e=some ti)(k:AV P T l n bx fr (i+1) rest ((t,.junk)::tm) zs tm'):AV P T l n bx fr i (⟨some t,.alloc e,ty,pos,after,none⟩::rest) tm ((t,.al (ti.zero.map ZK.d))::zs) tm':=
 .al i t e ty pos after rest ti tm zs tm' ht hti k
theorem Kb [Known][Dfr]{l rest:List Oper}{i ts:Nat}{e:TypeId}{y:Operand}{ty:Nat}{pos:String}{after:Array Edge}{ti:Ti}{d:D}{zs:List (Nat × Wy)}(hy:nf (ev tm y)=some d)(ho:D.ones d.cellsOf=true)(hti:tl T e=some ti)(hs:Nat.beq d.cellsOf.length ti.size=true)(k:AV P T l n bx fr (i+1) rest ((n+i,.junk)::tm) zs tm'):AV P T l n bx fr i (⟨none,.store e (.tmp ts) y,ty,pos,after,none⟩::rest) tm ((n+i,.st ts d.cellsOf)::zs) tm':=
 .st i ts e y ty pos after rest ti d tm zs tm' hy ho hti hs k
theorem V0 [Known][Dfr]{id:Nat}(m:Nat){l acts:List Oper}{zs:List (Nat × Wy)}(hT:chk P T=true)(hm:P.follows .mixedOrders=true)(hch:(LA (l.take m)&&(Wk l m&&(Lx l m&&(Ly l m&&Lz l m))))=true)(hchk:YB l=true)(hlk:Jk n l=true)(hE:Qx l=true)(hlen:Nat.beq (l.take m).length m=true)(hacts:nfl (l.drop m)=some acts)
  (h:AV P T l n bx fr 0 (l.take m) tm zs tm') (k:NU zs=true/\AWk P l acts n zs tm' bx fr ee Q) :
  AW P (.region id l.toArray true) ⟨n,tm,bx,fr,ee⟩ Q:=by
 simp only[Bool.and_eq_true]at hch
 exact He hT hm hchk hlk hE hch.2.1 hch.2.2.1 hch.2.2.2.1 hch.2.2.2.2 k.1 (Nat.eq_of_beq_eq_true hlen) (Yd hacts) h k.2.run
end
end Go.Av
end
section
open Go.RowKit Go.Pl Go.Av
namespace Go.Proofs.YtmljabhmajehnaaDoor
set_option maxHeartbeats 4000000
def UD (s r:It):EidV × Bool:=
 match WG 1 s with
 | true=>(match WG 0 r with
  | true=>(Wd,true)
  | false=>(match r.k==3 with
   | true=>ppV r.b
   | false=>(Wd,false)))
 | false=>(match WG 2 s with
  | true=>(match U8 r with
   | some (a,c)=>(⟨true,a,c,[],[]⟩,Yg ⟨true,a,c,[],[]⟩)
   | none=>(Wd,false))
  | false=>(Wd,false))
def Yt (x:It):EidV × Bool:=match ZI x,x with
 | true,.mk k _ _ [s,r]=>if k=4 then UD s r else(Wd,false)
 | _,_=>(Wd,false)
abbrev IF (x:EidV × Bool):D:=.tup [.agg (eC (match x.2 with|true=>x.1|false=>Wd)),.int .i64 (match x.2 with|true=>0|false=>3)]
theorem Xb [Known][KnownU8](x:It)(hw:wfI x)(h:ZI x=false\/x.k ≠ 4\/x.l.length ≠ 2):AP Tryd.prog 41 [itD x] (IF (Wd,false)) []:=by
 have hR:=Y4 x hw
 show AP Tryd.prog _ _ (.tup [.agg [.bool false,.int .u64 0,.int .u64 0,.str [],.str []],.int .i64 3]) []
 cases hr:ZI x with
 | false=>
  rw[hr]at hR
  obtain⟨k,n,b,l⟩:=x
  refine AP.ofA (Zl Tryd.func41 Z Tryd.ntmps41 Z Z ?_)
  repeat'(first|(apply Zb (hR);kernel_rfl;(iterate 4 exact Z))|(apply Zh Za;exact Z)|(apply Zf Za;exact Z)|(apply Zt Za;exact Z)|refine Zo Z Z Z Qt ?_|refine Zk Z Qt Z Z ?_|refine Zd Z Qt ?_)
  all_goals exact Qe
 | true=>
  rw[hr]at hR h
  obtain⟨k,n,b,l⟩:=x
  simp only[It.k,It.l]at h
  by_cases hk:k=4
  ·have t1:(k != 4)=false:=by simpa using hk
   have hl:l.length ≠ 2:=by
    rcases h with h|h|h
    ·cases h
    ·exact absurd hk h
    ·exact h
   have t2:(((Zp l).length:Int) != 2)=true:=by rw[Zx];simp;omega
   refine AP.ofA (Zl Tryd.func41 Z Tryd.ntmps41 Z Z ?_)
   repeat'(first|(apply Zb (hR);kernel_rfl;(iterate 4 exact Z))|(apply Zh Za;exact Z)|(apply Zf Za;exact Z)|(apply Zt Za;exact Z)|refine Ze Z Z Z Qt ?_|refine Zi Z Qt Z Z ?_|refine Zd Z Qt ?_|refine Zm Za Z Z Z Z ?_)
   all_goals exact Qe
  ·have t1:(k != 4)=true:=by simpa using hk
   refine AP.ofA (Zl Tryd.func41 Z Tryd.ntmps41 Z Z ?_)
   repeat'(first|(apply Zb (hR);kernel_rfl;(iterate 4 exact Z))|(apply Zh Za;exact Z)|(apply Zf Za;exact Z)|(apply Zt Za;exact Z)|refine Ze Z Z Z Qt ?_|refine Zo Z Z Z Qt ?_|refine Zk Z Qt Z Z ?_|refine Zi Z Qt Z Z ?_|refine Zd Z Qt ?_)
   all_goals exact Qe
theorem MT [Known][KnownU8](n:Nat)(b:List UInt8)(s r:It)(hw:wfI (.mk 4 n b [s,r]))(hr:ZI (.mk 4 n b [s,r])=true)(h1:WG 1 s=true):AP Tryd.prog 41 [itD (.mk 4 n b [s,r])] (IF (UD s r)) []:=by
 have hR:=Y4 _ hw
 rw[hr]at hR
 obtain⟨_,_,_,hws,hwr,_⟩:=hw
 have e1:s=.mk 0 1 [] []:=It.beq_iff.1 h1
 have hS1:=Vn s hws 1 (by omega)
 have hS2:=Vn s hws 2 (by omega)
 have hR0:=Vn r hwr 0 (by omega)
 have n0:=Ug 0
 have n1:=Ug 1
 have n2:=Ug 2
 replace n0:AP Tryd.prog _ [.int .u64 0] (.agg [.int .i64 0,.int .u64 0,.sl .ext [],.sl .ext []]) []:=n0
 replace n1:AP Tryd.prog _ [.int .u64 1] (.agg [.int .i64 0,.int .u64 1,.sl .ext [],.sl .ext []]) []:=n1
 replace n2:AP Tryd.prog _ [.int .u64 2] (.agg [.int .i64 0,.int .u64 2,.sl .ext [],.sl .ext []]) []:=n2
 have h2:WG 2 s=false:=by rw[e1];rfl
 rw[h1]at hS1
 rw[h2]at hS2
 have hU:=YV [s,r]
 unfold UD
 rw[h1]
 dsimp only
 have hbl:r.b.length<=140737488351232:=by obtain⟨kr,nr,br,lr⟩:=r;exact hwr.2.1
 have hP:=Lv r.b hbl
 obtain⟨ks,ns,bs,ls⟩:=s
 obtain⟨kr,nr,br,lr⟩:=r
 simp only[It.b,It.k]at hP ⊢
 have t2:(((Zp [It.mk ks ns bs ls,It.mk kr nr br lr]).length:Int) != 2)=false:=rfl
 cases h0:WG 0 (.mk kr nr br lr) with
 | true=>
  rw[h0]at hR0
  show AP Tryd.prog _ _ (.tup [.agg [.bool false,.int .u64 0,.int .u64 0,.str [],.str []],.int .i64 0]) []
  refine AP.ofA (Zl Tryd.func41 Z Tryd.ntmps41 Z Z ?_)
  repeat'(first|(apply V0 11 Za ZF;decide +kernel;kernel_rfl;kernel_rfl;kernel_rfl;exact Z;exact Z)|exact AV.nil _ _|(apply Ka;exact Z;exact Z)|(apply Kb;(iterate 4 exact Z))|(apply X9;(iterate 4 exact Z))|refine Q8 Z Z Z Z ?_|(apply Zb (hR);kernel_rfl;(iterate 4 exact Z))|(apply Zb (hS1);kernel_rfl;(iterate 4 exact Z))|(apply Zb (hR0);kernel_rfl;(iterate 4 exact Z))|(apply Zb (n0);kernel_rfl;(iterate 4 exact Z))|(apply Zb (n1);kernel_rfl;(iterate 4 exact Z))|(apply Zh Za;exact Z)|(apply Zf Za;exact Z)|(apply Zt Za;exact Z)|refine Ze Z Z Z Qt ?_|refine Zk Z Qt Z Z ?_|refine Zi Z Qt Z Z ?_|refine Zd Z Qt ?_|refine Zg Z Qt ?_|refine Zm Za Z Z Z Z ?_|(apply Zn 6 ZF;decide +kernel;kernel_rfl;kernel_rfl;kernel_rfl;exact Z;exact Z)|(apply Zr;(iterate 4 exact Z))|exact AE.nil _ _ _ _|(apply Zv;exact Z)|(apply ZA;exact Z;exact Z;decide +kernel;exact Z)|(apply ZB;exact Z)|exact AO.nil _ _ _|(apply Zq;(decide +kernel))|exact AOs.nil|exact ZG rfl rfl|(apply Zu Za;(iterate 6 exact Z);(first|exact Qt|rotate_left);(first|with_reducible assumption|decide +kernel|exact Z);(first|exact Zj rfl|with_reducible assumption|decide +kernel|rotate_left)))
  all_goals exact Qe
 | false=>
  rw[h0]at hR0
  generalize ppV br=xp at *
  obtain⟨⟨qi,qn,qs,qh,qd⟩,qb⟩:=xp
  replace hP:AP Tryd.prog _ [.str br] (.tup [.agg [.bool qi,.int .u64 (qn:Int),.int .u64 (qs:Int),.str qh,.str qd],.bool qb]) []:=hP
  cases hk:kr==3 with
  | true=>
   cases qb
   all_goals
    refine AP.ofA (Zl Tryd.func41 Z Tryd.ntmps41 Z Z ?_)
    repeat'(first|(apply V0 11 Za ZF;decide +kernel;kernel_rfl;kernel_rfl;kernel_rfl;exact Z;exact Z)|exact AV.nil _ _|(apply Ka;exact Z;exact Z)|(apply Kb;(iterate 4 exact Z))|(apply X9;(iterate 4 exact Z))|refine Q8 Z Z Z Z ?_|(apply Zb (hR);kernel_rfl;(iterate 4 exact Z))|(apply Zb (hS1);kernel_rfl;(iterate 4 exact Z))|(apply Zb (hR0);kernel_rfl;(iterate 4 exact Z))|(apply Zb (n0);kernel_rfl;(iterate 4 exact Z))|(apply Zb (n1);kernel_rfl;(iterate 4 exact Z))|(apply Zb (hP);kernel_rfl;(iterate 4 exact Z))|(apply Zh Za;exact Z)|(apply Zf Za;exact Z)|(apply Zt Za;exact Z)|refine Ze Z Z Z Qt ?_|refine Zk Z Qt Z Z ?_|refine Zi Z Qt Z Z ?_|refine Zd Z Qt ?_|refine Zg Z Qt ?_|refine Zm Za Z Z Z Z ?_|(apply Zn 2 ZF;decide +kernel;kernel_rfl;kernel_rfl;kernel_rfl;exact Z;exact Z)|(apply Zn 6 ZF;decide +kernel;kernel_rfl;kernel_rfl;kernel_rfl;exact Z;exact Z)|(apply Zr;(iterate 4 exact Z))|exact AE.nil _ _ _ _|(apply Zv;exact Z)|(apply ZA;exact Z;exact Z;decide +kernel;exact Z)|(apply ZB;exact Z)|exact AO.nil _ _ _|(apply Zq;(decide +kernel))|exact AOs.nil|exact ZG rfl rfl|(apply Zu Za;(iterate 6 exact Z);(first|exact Qt|rotate_left);(first|with_reducible assumption|decide +kernel|exact Z);(first|exact Zj rfl|with_reducible assumption|decide +kernel|rotate_left))|refine KA Za Z Z Z Z Z Z Z Z Z ?_)
    all_goals exact Qe
  | false=>
   refine AP.ofA (Zl Tryd.func41 Z Tryd.ntmps41 Z Z ?_)
   repeat'(first|(apply V0 11 Za ZF;decide +kernel;kernel_rfl;kernel_rfl;kernel_rfl;exact Z;exact Z)|exact AV.nil _ _|(apply Ka;exact Z;exact Z)|(apply Kb;(iterate 4 exact Z))|(apply X9;(iterate 4 exact Z))|refine Q8 Z Z Z Z ?_|(apply Zb (hR);kernel_rfl;(iterate 4 exact Z))|(apply Zb (hS1);kernel_rfl;(iterate 4 exact Z))|(apply Zb (hS2);kernel_rfl;(iterate 4 exact Z))|(apply Zb (hR0);kernel_rfl;(iterate 4 exact Z))|(apply Zb (n0);kernel_rfl;(iterate 4 exact Z))|(apply Zb (n1);kernel_rfl;(iterate 4 exact Z))|(apply Zb (n2);kernel_rfl;(iterate 4 exact Z))|(apply Zh Za;exact Z)|(apply Zf Za;exact Z)|(apply Zt Za;exact Z)|refine Ze Z Z Z Qt ?_|refine Zk Z Qt Z Z ?_|refine Zi Z Qt Z Z ?_|refine Zd Z Qt ?_|refine Zg Z Qt ?_|refine Zm Za Z Z Z Z ?_|(apply Zn 2 ZF;decide +kernel;kernel_rfl;kernel_rfl;kernel_rfl;exact Z;exact Z)|(apply Zn 6 ZF;decide +kernel;kernel_rfl;kernel_rfl;kernel_rfl;exact Z;exact Z)|(apply Zr;(iterate 4 exact Z))|exact AE.nil _ _ _ _|(apply Zv;exact Z)|(apply ZA;exact Z;exact Z;decide +kernel;exact Z)|(apply ZB;exact Z)|exact AO.nil _ _ _|(apply Zq;(decide +kernel))|exact AOs.nil|exact ZG rfl rfl|(apply Zu Za;(iterate 6 exact Z);(first|exact Qt|rotate_left);(first|with_reducible assumption|decide +kernel|exact Z);(first|exact Zj rfl|with_reducible assumption|decide +kernel|rotate_left)))
   all_goals exact Qe
end Go.Proofs.YtmljabhmajehnaaDoor
end
