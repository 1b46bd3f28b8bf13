/- Regions that draw their order, with changes that come in turn and one new variable that comes at any time. -/
import Derived.Test.YthdgejfglbjogaaDoorM13
import Derived.Test.YthdgejfglbjogaaDoorM12
import Derived.Test.YthdgejfglbjogaaDoorM10
import Derived.Laws.BitsAllLaws
set_option linter.unusedSimpArgs false
set_option linter.unusedVariables false
section
open Go.RowKit Go.Pl
namespace Go.Av
section
variable {P:Program} {T:Tab} {Q:X->St->Prop} {n:Nat} {ee:Nat × Nat} {tm tm':List (Nat × D)} {bx bx':List (List D)} {fr fr':List Fr} {b0:Bs} {g:G} {w:World} {a:Act} {ys:List Y}
theorem alJ [Known][Dfr]{ops:Array Oper}{t e ty:Nat}{pos:String}{after:Array Edge}{ti:Ti}(hT:chk P T=true)(hti:tl T e=some ti)(htd:Nat.blt t n=true):AL P ops [⟨some t,.alloc e,ty,pos,after,none⟩] ⟨n,tm,bx,fr,ee⟩ (qY ⟨some t,.alloc e,ty,pos,after,none⟩ bx fr (.pu .junk)):=
 JR (fun b0 g a w hi=>by
  obtain⟨z,z1,z2⟩:=(Zx hT hti).zero w
  have hrun:(execOp a.eval ⟨some t,.alloc e,ty,pos,after,none⟩).run P w=.ok (.value (.pointer (some ⟨w.heap.size,0,none⟩))) (w.alloc (.cells z.cells e)):=by
   simp[execOp,Instr.alloc,newVar,newRow,Sem.run_bind,z1]
  have hev:Evo ⟨g,fr,w⟩ ⟨g,fr,w.alloc (.cells z.cells e)⟩:=Evo.al hi.mem _
  exact⟨_,_,tm,bx,fr,g,.junk,hrun,⟨hi.size,hi.defers,Mem.al hi.mem _,fun t=>(hi.tm t).evo hev,hi.evo.trans hev,hi.bd⟩,.junk _,Jx (Z1 rfl (by simp[look,nf]))⟩) htd
def mkA (ja t K:Nat)(q:(Nat × D) × Nat):Nat × D:=if q.2=ja then(t,.gptr K 0) else q.1
theorem JT {α:Type}(ds:List α)(i:Nat):ds.zipIdx[i]?=ds[i]?.map fun p=>(p,i):=by simp[List.getElem?_zipIdx]
theorem KM {α:Type}(ds:List α):ds.zipIdx.map Prod.fst=ds:=by
 apply List.ext_getElem?
 intro i
 rw[List.getElem?_map,JT]
 cases ds[i]? <;> rfl
theorem Uk {ds:List (Nat × D)}{ja t K i:Nat}:(ds.zipIdx.map (mkA ja t K))[i]?=ds[i]?.map fun p=>if i=ja then(t,.gptr K 0) else p:=by
 rw[List.getElem?_map,JT]
 cases ds[i]? <;> rfl
theorem XU {l:List Oper}{o:Oper}{ja t K:Nat}{zs:List ((Nat × D) × Nat)}{tm:List (Nat × D)}(hn:(YM l o).contains t=false)(hz:∀ q ∈ zs,q.2=ja->q.1.1=t):ZU l o ((zs.map (mkA ja t K)).reverse++tm)=ZU l o ((zs.map Prod.fst).reverse++tm):=by
 rw[WG,WG,List.filter_append,List.filter_append,List.filter_reverse,List.filter_reverse]
 congr 2
 induction zs with
 | nil=>rfl
 | cons q zs ih=>
  rw[List.map_cons,List.map_cons,List.filter_cons,List.filter_cons,ih fun p hp=>hz p (List.mem_cons_of_mem _ hp)]
  by_cases hq:q.2=ja
  ·have h1:=hz q (List.mem_cons_self ..) hq
   unfold mkA
   rw[if_pos hq,h1,hn]
   simp
  ·unfold mkA
   rw[if_neg hq]
theorem Jd {ja t K x:Nat}{tm:List (Nat × D)}:∀(zs:List ((Nat × D) × Nat)),(∀ q ∈ zs,q.2=ja->q.1=(t,.junk))->look (zs.map Prod.fst++tm) x=look (zs.map (mkA ja t K)++tm) x\/look (zs.map Prod.fst++tm) x=.junk
 | [],_=>.inl rfl
 | (q,i)::zs,h=>by
  rw[List.map_cons,List.map_cons,List.cons_append,List.cons_append]
  have hr:=Jd (tm:=tm) (K:=K) (x:=x) zs fun p hp=>h p (List.mem_cons_of_mem _ hp)
  by_cases hq:i=ja
  ·have h1:=h (q,i) (List.mem_cons_self ..) hq
   dsimp only at h1
   subst h1
   simp only[mkA,if_pos hq,look]
   cases hb:Nat.beq t x with
   | true=>exact .inr rfl
   | false=>exact hr
  ·simp only[mkA,if_neg hq,look]
   cases hb:Nat.beq q.1 x with
   | true=>exact .inl rfl
   | false=>exact hr
structure AOj [Known][Dfr](P:Program) (l:List Oper) (n:Nat) (rest:List Oper) (ys:List Y) (tm:List (Nat × D)) (bx:List (List D)) (fr:List Fr) (ja:Nat):Prop where
 out:AOt P l n rest ys tm bx fr
 at_:ys[ja]?=some (.pu .junk)
theorem KN [Known][Dfr]{l rest:List Oper}{ja:Nat}(h1:ys[ja]?=some (.pu .junk))(h:AOt P l n rest ys tm bx fr):AOj P l n rest ys tm bx fr ja:=⟨h,h1⟩
theorem JU [Known][Dfr]{id m ja t e ty:Nat}{pos:String}{after:Array Edge}{ti:Ti}{l acts:List Oper}(hT:chk P T=true)(hm:P.follows .mixedOrders=true)(hchk:Ye l=true)(hlk:UY n l=true)(hE:Ue l=true)(hch:Y6 l m=true)(hlen:(l.take m).length=m)(hacts:l.drop m=acts)
  (hja:l[ja]?=some ⟨some t,.alloc e,ty,pos,after,none⟩) (hjm:ja<m) (hti:tl T e=some ti) (hz:((l.take m).all fun o=>!(YM l o).contains t)=true)
  (h:AE P l n 0 (l.take m) tm bx fr ys tm' bx' fr') (hO:AOj P l n (l.take m) ys tm bx fr ja) (k:AL P l.toArray acts ⟨n,(t,.ptr bx'.length 0)::tm',bx'++[ti.zero.map ZK.d],fr',ee⟩ Q) :
  AW P (.region id l.toArray true) ⟨n,tm,bx,fr,ee⟩ Q:=by
 obtain⟨ds,h1,h1y,h2,hfin,h3⟩:=h.steps
 obtain⟨es,sts,e1,e2,hes,hAO,hJ⟩:=hO.out.out
 have hyj:=hO.at_
 have e1:=Yb e1
 have e2:=Yb e2
 subst e1 e2
 have hml:m<=l.length:=by rw[List.length_take]at hlen;omega
 rw[hlen]at h1 h1y
 have htk:∀(i:Nat) (o:Oper),l[i]?=some o->i<m->(l.take m)[i]?=some o:=fun i o ho hi=>by rw[List.getElem?_take,if_pos hi];exact ho
 have hdj:ds[ja]?=some (t,.junk):=by
  obtain⟨y,q1,q2,_⟩:=h3 ja _ (htk ja _ hja hjm)
  rw[hyj]at q1;injection q1 with q1;subst q1
  rw[Nat.zero_add]at q2
  exact q2
 have hzq:∀ q ∈ ds.zipIdx,q.2=ja->q.1=(t,.junk):=fun q hq e=>by
  obtain⟨i,hi⟩:=List.getElem?_of_mem hq
  rw[JT]at hi
  cases hd:ds[i]? with
  | none=>rw[hd]at hi;cases hi
  | some p=>
   rw[hd]at hi
   simp only[Option.map_some,Option.some.injEq]at hi
   subst hi
   dsimp only at e ⊢
   subst e
   rw[hdj]at hd;injection hd with hd;exact hd.symm
 have hdl:∀ K,(ds.zipIdx.map (mkA ja t K)).length=m:=fun K=>by rw[List.length_map,List.length_zipIdx,h1]
 have hl:∀ K,(ds.zipIdx.map (mkA ja t K)).length<=l.length:=fun K=>by rw[hdl];exact hml
 have hget:∀ K i y o,l[i]?=some o->ds[i]?=some (Yh n i o,y)->i ≠ ja->(ds.zipIdx.map (mkA ja t K))[i]?=some (Yh n i o,y):=fun K i y o _ hd hne=>by rw[Uk,hd];simp[hne]
 have hgetj:∀ K,(ds.zipIdx.map (mkA ja t K))[ja]?=some (t,.gptr K 0):=fun K=>by rw[Uk,hdj];simp
 have hdst:∀ K,HD n l (ds.zipIdx.map (mkA ja t K)):=fun K i o ho hd=>by
  rw[hdl]at hd
  obtain⟨y,q1,q2,q3,_⟩:=h3 i o (htk i o ho hd)
  rw[Nat.zero_add]at q2
  by_cases hij:i=ja
  ·subst hij
   rw[hja]at ho;injection ho with ho;subst ho
   exact⟨_,hgetj K,fun hn=>(by cases hn),q3⟩
  ·exact⟨y.d,hget K i y.d o ho q2 hij,hJ i o y (htk i o ho hd) q1,q3⟩
 have hefl:∀ e,JI ys e->e<m:=fun e ⟨d,b,f,he⟩=>by have:=(List.getElem?_eq_some_iff.1 he).1;omega
 have hjef:¬ JI ys ja:=fun⟨d,b,f,he⟩=>by rw[hyj]at he;cases he
 have hrs:∀(K i:Nat) (o:Oper),l[i]?=some o->i<m->ZU l o (((ds.zipIdx.map (mkA ja t K)).take i).reverse++tm)=ZU l o ((ds.take i).reverse++tm):=fun K i o ho hi=>by
  have hc:(YM l o).contains t=false:=by
   have:=List.all_eq_true.1 hz o (List.mem_of_getElem? (htk i o ho hi))
   simpa using this
  rw[<- List.map_take,XU hc (fun q hq e=>by rw[hzq q (List.mem_of_mem_take hq) e]),List.map_take,KM]
 have hNK:=fun K=>(hdst K).one hchk (hl K)
 refine⟨fun b0 g a w hi=>wp_region_any hm ?_⟩
 have main:∀(fuel:Nat) (listed:Array Bool) (g:G) (a:Act) (w:World) (K:Nat),MidE b0 ee n tm (stg ys (bx,fr) (fun i=>listed.getD i false)) l (ds.zipIdx.map (mkA ja t K)) listed g a w->(listed.getD ja false=true->Jc b0 g w K (ti.zero.map ZK.d))->(∀ i,m<=i->i<l.length->listed.getD i false=false)->left l listed=fuel->wpAny P .any l.toArray (Wc b0 Q) fuel listed a w:=by
  intro fuel
  have hend:∀(listed:Array Bool) (g:G) (a:Act) (w:World) (K:Nat),MidE b0 ee n tm (stg ys (bx,fr) (fun i=>listed.getD i false)) l (ds.zipIdx.map (mkA ja t K)) listed g a w->(listed.getD ja false=true->Jc b0 g w K (ti.zero.map ZK.d))->(∀ i,i<m->listed.getD i false=true)->wpList P l.toArray (Wc b0 Q) acts a w:=fun listed g a w K hM hA hall=>by
   have hinv:=QZ hchk (hl K) (hdst K) hM fun i hi=>hall i (by rw[hdl]at hi;exact hi)
   have hst:stg ys (bx,fr) (fun i=>listed.getD i false)=(bx',fr'):=by
    rw[<- hfin]
    exact Ya _ _ _ _ fun i hi=>hall i (hefl i hi)
   have htp:a.tmps.getD t undef=.pointer (some ⟨K,0,none⟩):=by
    have:=hM.tm t
    rw[Yw (hNK K) (hl K) (hgetj K),if_pos (hall ja hjm)]at this
    exact Vy this
   rw[hst]at hinv
   have hinv2:Inv b0 ⟨n,tm',bx',fr',ee⟩ g a w:=⟨hinv.size,hinv.defers,hinv.mem,fun x=>by
    have hx:=hinv.tm x
    dsimp only at hx ⊢
    have e0:tm'=(ds.zipIdx.reverse.map Prod.fst)++tm:=by rw[List.map_reverse,KM,<- h2]
    rw[e0]
    rw[<- List.map_reverse]at hx
    rcases Jd (K:=K) (x:=x) (tm:=tm) ds.zipIdx.reverse (fun q hq=>hzq q (by simpa using hq)) with e|e
    ·rw[e];exact hx
    ·rw[e];exact .junk _,hinv.evo,hinv.bd⟩
   exact k.run b0 _ a w (hinv2.addB (hA (hall ja hjm)) htp)
  induction fuel with
  | zero=>
   intro listed g a w K hM hA hu h0
   have hml':l.length=m:=by
    rcases Nat.lt_or_ge m l.length with h|h
    ·have h5:=hu m (Nat.le_refl _) h
     have h6:=Yl h0 h
     rw[h5]at h6;cases h6
    ·omega
   exact Wj hE hch 0 m listed a w (by omega) (Nat.le_refl _) hM.len (fun i hi=>by rw[Yl h0 hi];simp;omega) (by rw[hacts];exact hend listed g a w K hM hA (fun i hi=>Yl h0 (by omega)))
  | succ fuel ih=>
   intro listed g a w K hM hA hu hf
   by_cases hall:∀ i,i<m->listed.getD i false=true
   ·have hls:∀ i,i<l.length->(listed.getD i false=true ↔ i<m):=fun i hi=>by
     rcases Nat.lt_or_ge i m with h|h
     ·simp[hall i h,h]
     ·rw[hu i h hi];simp;omega
    refine Wj hE hch (fuel+1) m listed a w (by rw[<- hf,Vv hls];omega) (Nat.le_refl _) hM.len hls (by rw[hacts];exact hend listed g a w K hM hA hall)
   refine⟨fun he=>(WS hE hM.len (by omega) he).elim,fun i hi=>?_⟩
   obtain⟨hn0,o,ho,hr⟩:=mem_ready.1 hi
   have ho':l[i]?=some o:=by simpa using ho
   have hil:i<l.length:=(List.getElem?_eq_some_iff.1 ho').1
   have hlt:i<listed.size:=by rw[hM.len];exact hil
   have hn:listed.getD i false=false:=by simp[hlt]at hn0 ⊢;exact hn0
   have hleft:=Vu hil hM.len hn
   by_cases him:i<m
   ·have hut:∀ x,m<=x->x<l.length->(listed.setIfInBounds i true).getD x false=false:=fun x hx hxl=>by
     rw[getD_set_ne false (by omega)]
     exact hu x hx hxl
    by_cases hij:i=ja
    ·
     subst hij
     rw[hja]at ho';injection ho' with ho';subst ho'
     obtain⟨z,z1,z2⟩:=(Zx hT hti).zero w
     have htn:t<n:=by
      obtain⟨_,_,_,q3,_⟩:=h3 i _ (htk i _ hja hjm)
      simpa[Uq,Nat.blt_eq]using q3
     unfold wpOp
     simp only[ho]
     have hw:Region.wanted (⟨some t,.alloc e,ty,pos,after,none⟩:Oper) (yielded l.toArray a.tmps)=true:=rfl
     rw[if_pos hw]
     refine .inl ?_
     have hrun:(execOp a.eval ⟨some t,.alloc e,ty,pos,after,none⟩).run P w=.ok (.value (.pointer (some ⟨w.heap.size,0,none⟩))) (w.alloc (.cells z.cells e)):=by
      simp[execOp,Instr.alloc,newVar,newRow,Sem.run_bind,z1]
     unfold Oper.wp
     rw[hrun,Oper.upon_value]
     have hev:=Evo.al hM.mem (.cells z.cells e)
     have hstE:stg ys (bx,fr) (fun j=>(listed.setIfInBounds i true).getD j false)=stg ys (bx,fr) (fun j=>listed.getD j false):=Ya _ _ _ _ fun e he=>by
      have hne:i ≠ e:=fun e'=>hjef (e' ▸ he)
      rw[getD_set_ne false hne]
     refine ih _ g _ _ w.heap.size ?_ (fun _=>?_) hut (by omega)
     ·rw[hstE]
      refine⟨hM.bd,by simp[Act.put,hM.size],by simp only[Act.put];exact hM.defers,hM.mem.al _,hM.evo.trans hev,fun x=>?_,fun mm om hmm hlm ed he hb=>?_,by simp[hM.len]⟩
      ·by_cases hx:x=t
       ·subst hx
        rw[Yw (hNK _) (hl _) (hgetj _),if_pos (by simp[hM.len,hil])]
        have e1:(Act.put a (some x) (.pointer (some ⟨w.heap.size,0,none⟩))).tmps.getD x undef=.pointer (some ⟨w.heap.size,0,none⟩):=by
         simp[Act.put,Array.getD_getElem?,hM.size,htn]
        dsimp only
        rw[e1]
        exact .gptr _ _
       ·have e1:(Act.put a (some t) (.pointer (some ⟨w.heap.size,0,none⟩))).tmps.getD x undef=a.tmps.getD x undef:=by
         simp[Act.put,Array.getD_getElem?,Array.getElem?_setIfInBounds_ne (Ne.symm hx)]
        dsimp only
        rw[e1]
        have e2:cur l (ds.zipIdx.map (mkA i t w.heap.size)) tm (listed.setIfInBounds i true) x=cur l (ds.zipIdx.map (mkA i t K)) tm listed x:=by
         by_cases hex:∃(j:Nat) (y:D),ds[j]?=some (x,y)
         ·obtain⟨j,y,hj⟩:=hex
          have hne:j ≠ i:=fun e=>by
           subst e;rw[hdj]at hj;injection hj with hj;injection hj with hj;exact hx hj.symm
          have hj1:∀ K,(ds.zipIdx.map (mkA i t K))[j]?=some (x,y):=fun K=>by rw[Uk,hj];simp[hne]
          rw[Yw (hNK _) (hl _) (hj1 _),Yw (hNK _) (hl _) (hj1 _),getD_set_ne false (Ne.symm hne)]
         ·have hno:∀(K:Nat) (j:Nat) (p:Nat × D),(ds.zipIdx.map (mkA i t K))[j]?=some p->p.1 ≠ x:=fun K j p hj e=>by
           rw[Uk]at hj
           cases hzj:ds[j]? with
           | none=>rw[hzj]at hj;cases hj
           | some q=>
            rw[hzj]at hj
            simp only[Option.map_some,Option.some.injEq]at hj
            by_cases hji:j=i
            ·rw[if_pos hji]at hj
             subst hj
             exact hx e.symm
            ·rw[if_neg hji]at hj
             subst hj
             exact hex ⟨j,q.2,by rw[hzj,<- e]⟩
          rw[YD (hno _),YD (hno _)]
        rw[e2]
        exact(hM.tm x).evo hev
      ·by_cases hmi:mm=i
       ·subst hmi
        rw[hja]at hmm;injection hmm with hmm;subst hmm
        exact getD_set_true (hr ed he hb)
       ·rw[getD_set_ne false (Ne.symm hmi)]at hlm
        exact getD_set_true (hM.closed mm om hmm hlm ed he hb)
     ·refine⟨hM.evo.size,fun hmm=>absurd (hM.mem.lt hmm) (Nat.lt_irrefl _),fun o hc=>absurd (hM.mem.Clt _ o hc) (Nat.lt_irrefl _),z.cells,e,heap_alloc_new w _,?_,fun w g fr j d v hd hv=>?_⟩
      ·have:=(Wt (w:=w) (g:=g) (fr:=fr) z2).1
       exact⟨by simpa using this,QR _⟩
      ·have:=(Wt (w:=w) (g:=g) (fr:=fr) z2).2 j d v hd (by simpa using hv)
       exact this.1
    ·obtain⟨y,q1,q2,q3,q4⟩:=h3 i o (htk i o ho' him)
     rw[Nat.zero_add]at q2
     have hdown:∀ e ∈ YT 0 ys,∀ e' ∈ YT 0 ys,e<e'->listed.getD e' false=true->listed.getD e false=true:=fun e he e' he' hlt hp=>by
      have h1:=List.all_eq_true.1 (List.all_eq_true.1 hes e he) e' he'
      simp[hlt]at h1
      obtain⟨j,hj,hj'⟩:=Z0.1 he'
      have hlt':e'<l.length:=by have:=hefl _ hj';omega
      have ho2:=List.getElem?_eq_getElem hlt'
      exact YG hM.closed e' _ ho2 (hM.closed e' _ ho2 hp) e h1
     obtain⟨c,hc1,hc2⟩:=JJ (p:=fun i=>listed.getD i false) (YT 0 ys) hdown
     have hcs:stg ys (bx,fr) (fun i=>listed.getD i false)=stg ys (bx,fr) (fun j=>decide (j<c)):=Ya _ _ _ _ fun e he=>hc2 e (Z0.2 ⟨e,by omega,he⟩)
     have hupi:∀ e,up (ZX [] l) i e=true->listed.getD e false=true:=fun e he=>YG hM.closed i o ho' hr e he
     have hupe:∀ e ∈ YT 0 ys,up (ZX [] l) e i=true->listed.getD e false=false:=fun e he hu'=>by
      cases hle:listed.getD e false with
      | false=>rfl
      | true=>
       obtain⟨j,hj,hj'⟩:=Z0.1 he
       have hlt':e<l.length:=by have:=hefl _ hj';omega
       have ho2:=List.getElem?_eq_getElem hlt'
       have:=YG hM.closed e _ ho2 (hM.closed e _ ho2 hle) i hu'
       rw[hn]at this;cases this
     have hsame:(∀ e ∈ YT 0 ys,decide (e<c)=decide (e<i))->stg ys (bx,fr) (fun j=>decide (j<c))=stg ys (bx,fr) (fun j=>decide (j<i)):=fun h=>Ya _ _ _ _ fun e he=>h e (Z0.2 ⟨e,by omega,he⟩)
     have hAL:AL P l.toArray [o] ⟨n,ZU l o ((ds.take i).reverse++tm),(stg ys (bx,fr) (fun i=>listed.getD i false)).1,(stg ys (bx,fr) (fun i=>listed.getD i false)).2,((stg ys (bx,fr) (fun i=>listed.getD i false)).1.length,(stg ys (bx,fr) (fun i=>listed.getD i false)).2.length)⟩ (qY o (stg ys (bx,fr) (fun i=>listed.getD i false)).1 (stg ys (bx,fr) (fun i=>listed.getD i false)).2 y):=by
      by_cases hown:∀ e ∈ YT 0 ys,decide (e<c)=decide (e<i)
      ·rw[hcs,hsame hown];exact q4
      ·cases y with
       | ef d b f=>
        exfalso
        apply hown
        intro e he
        have hie:i ∈ YT 0 ys:=Z0.2 ⟨i,by omega,d,b,f,q1⟩
        rw[<- hc2 e he]
        rcases Nat.lt_trichotomy e i with hlt' | rfl|hgt
        ·have h1:=List.all_eq_true.1 (List.all_eq_true.1 hes e he) i hie
         simp[hlt']at h1
         rw[hupi e h1];simp[hlt']
        ·rw[hn];simp
        ·have h1:=List.all_eq_true.1 (List.all_eq_true.1 hes i hie) e he
         simp[hgt]at h1
         rw[hupe e he h1];simp;omega
       | pu d=>
        have hAs:=hAO.get (i:=i) (htk i o ho' him) q1 ds (fun j oj yj hj k1 k2=>by
         obtain⟨y',p1,p2,_⟩:=h3 j oj k1
         rw[k2]at p1;injection p1 with p1;subst p1
         exact p2) (by omega)
        rw[Nat.zero_add]at hAs
        have hmem:(c,(stg ys (bx,fr) (fun j=>decide (j<c))).1,(stg ys (bx,fr) (fun j=>decide (j<c))).2) ∈ ((0,bx,fr)::Vd 0 ys):=by
         rcases hc1 with rfl|⟨e,he,rfl,hpe⟩
         ·have:stg ys (bx,fr) (fun j=>decide (j<0))=(bx,fr):=Y7 _ _ _ (by intro i _;simp)
          rw[this];simp
         ·obtain⟨j,hj,d',b,f,hy⟩:=Z0.1 he
          rw[Nat.zero_add]at hj;subst hj
          rw[Ur _ _ _ _ hy]
          have:=W1 (i0:=0) hy
          rw[Nat.zero_add]at this
          exact List.mem_cons_of_mem _ this
        rcases hAs.get hmem with hf|hA
        ·exfalso
         unfold Ku at hf
         have h1:(!(List.all (YT 0 ys) fun e=>decide (e<c)==decide (e<i)))=true:=by
          simp only[Bool.not_eq_true',Bool.eq_false_iff]
          intro hall'
          exact hown fun e he=>by simpa using List.all_eq_true.1 hall' e he
         rw[h1,Bool.true_and]at hf
         have h2:(List.all (YT 0 ys) fun e=>(!up (ZX [] l) i e||decide (e<c))&&(!up (ZX [] l) e i||decide (c<=e)))=true:=List.all_eq_true.2 fun e he=>by
          rw[Bool.and_eq_true]
          constructor
          ·cases hu1:up (ZX [] l) i e with
           | false=>rfl
           | true=>
            have:=hupi e hu1
            have h9:=hc2 e he
            rw[this]at h9
            simpa using h9
          ·cases hu1:up (ZX [] l) e i with
           | false=>rfl
           | true=>
            have:=hupe e he hu1
            have h9:=hc2 e he
            rw[this]at h9
            simp at h9
            simpa using h9
         rw[h2]at hf;cases hf
        ·rw[hcs];exact hA
     have haft:y.aft (stg ys (bx,fr) (fun i=>listed.getD i false))=stg ys (bx,fr) (fun j=>(listed.setIfInBounds i true).getD j false):=by
      cases y with
      | pu d=>
       show stg ys (bx,fr) (fun i=>listed.getD i false)=_
       refine Ya _ _ _ _ fun e ⟨d',b,f,he⟩=>?_
       have hne:i ≠ e:=fun e'=>by subst e';rw[q1]at he;cases he
       rw[getD_set_ne false hne]
      | ef d b f=>
       show(b,f)=_
       have hie:i ∈ YT 0 ys:=Z0.2 ⟨i,by omega,d,b,f,q1⟩
       have e3:stg ys (bx,fr) (fun j=>(listed.setIfInBounds i true).getD j false)=stg ys (bx,fr) (fun j=>decide (j<i+1)):=Ya _ _ _ _ fun e he=>by
        have hee:=Z0.2 ⟨e,(Nat.zero_add e).symm,he⟩
        rcases Nat.lt_trichotomy e i with hlt' | rfl|hgt
        ·rw[getD_set_ne false (by omega)]
         have h1:=List.all_eq_true.1 (List.all_eq_true.1 hes e hee) i hie
         simp[hlt']at h1
         rw[hupi e h1];simp;omega
        ·simp[hlt]
        ·rw[getD_set_ne false (by omega)]
         have h1:=List.all_eq_true.1 (List.all_eq_true.1 hes i hie) e hee
         simp[hgt]at h1
         rw[hupe e hee h1];simp;omega
       rw[e3,Ur _ _ _ _ q1]
       rfl
     have hM0:MidE ⟨g,(stg ys (bx,fr) (fun i=>listed.getD i false)).2,w⟩ (g.ρ.length,(stg ys (bx,fr) (fun i=>listed.getD i false)).2.length) n tm (stg ys (bx,fr) (fun i=>listed.getD i false)) l (ds.zipIdx.map (mkA ja t K)) listed g a w:=⟨⟨Nat.le_refl _,Nat.le_refl _⟩,hM.size,hM.defers,hM.mem,Evo.refl _,hM.tm,hM.closed,hM.len⟩
     refine UZ (y:=y) hchk hlk (hl K) (hdst K) hM0 ho' hi (by rw[hdl];exact him) (hget K i y.d o ho' q2 hij) (by rw[hrs K i o ho' him];exact hAL) fun g' a' w' hM'=>?_
     rw[haft]at hM'
     refine ih _ g' a' w' K ⟨hM.bd,hM'.size,hM'.defers,hM'.mem,hM.evo.trans hM'.evo,hM'.tm,hM'.closed,hM'.len⟩ (fun hlj=>?_) hut (by omega)
     rw[getD_set_ne false hij]at hlj
     exact(hA hlj).evo hM'.evo
   ·exact(hall fun x hx=>YG hM.closed i o ho' hr x (We hch (by omega) hil (by omega))).elim
 have hsz:l.toArray.size=l.length:=by simp
 rw[hsz]
 have hfresh:∀ i,(Array.replicate l.length false).getD i false=false:=fun i=>by
  rcases Nat.lt_or_ge i l.length with h|h<;>simp[h]
 have hs0:stg ys (bx,fr) (fun i=>(Array.replicate l.length false).getD i false)=(bx,fr):=Y7 _ _ _ fun i _=>hfresh i
 refine main l.length _ g a _ 0 ?_ (fun h=>by rw[hfresh]at h;cases h) (fun i _ _=>hfresh i) ?_
 ·rw[hs0]
  refine⟨hi.bd,hi.size,hi.defers,hi.mem.drew,hi.evo.trans Evo.drew,fun x=>?_,fun m o hm hl=>?_,by simp⟩
  ·have:cur l (ds.zipIdx.map (mkA ja t 0)) tm (Array.replicate l.length false) x=look tm x:=by
    unfold cur
    have hf:(List.range l.length).find? (fun i=>(Array.replicate l.length false).getD i false&&(((ds.zipIdx.map (mkA ja t 0))[i]?).map (·.1)==some x))=none:=by
     apply List.find?_eq_none.2
     intro i _
     rw[hfresh];simp
    rw[hf]
   rw[this]
   exact(hi.tm x).drew
  ·rw[hfresh]at hl;cases hl
 ·unfold left
  rw[List.countP_eq_length.2 (fun i _=>by rw[hfresh];rfl),List.length_range]
theorem U7 [Known][Dfr]{id:Nat}(m ja:Nat){t e ty:Nat}{pos:String}{after:Array Edge}{ti:Ti}{l acts:List Oper}(hT:chk P T=true)(hm:P.follows .mixedOrders=true)(hch:Y6 l m=true)(hchk:Ye l=true)(hlk:UY n l=true)(hE:Ue l=true)(hlen:Nat.beq (l.take m).length m=true)(hacts:nfl (l.drop m)=some acts)
  (hja:l[ja]?=some ⟨some t,.alloc e,ty,pos,after,none⟩) (hjm:Nat.blt ja m=true) (hti:tl T e=some ti) (hz:((l.take m).all fun o=>!(YM l o).contains t)=true)
  (h:AE P l n 0 (l.take m) tm bx fr ys tm' bx' fr') (hO:AOj P l n (l.take m) ys tm bx fr ja) (k:AZk P l acts n [(t,.al (ti.zero.map ZK.d))] tm' bx' fr' ee Q) :
  AW P (.region id l.toArray true) ⟨n,tm,bx,fr,ee⟩ Q:=
 JU hT hm hchk hlk hE hch (Nat.eq_of_beq_eq_true hlen) (Yb hacts) hja (by simpa[Nat.blt_eq]using hjm) hti hz h hO k.run
end
end Go.Av
end
section
open Go.RowKit Go.Pl
namespace Go.Av
section
variable {P:Program} {Q:X->St->Prop} {n:Nat} {ee:Nat × Nat} {tm:List (Nat × D)} {bx bx':List (List D)} {fr fr':List Fr} {b0:Bs} {g:G} {w:World} {a:Act} {T:Tab}
variable {ops:Array Oper} {rest:List Oper} {t ty:Nat} {pos:String} {after:Array Edge}
theorem Xp [Known][Dfr](hT:chk P T=true){op:BinOp}{x:Operand}{xt yt e b o m c:Nat}{d:Bool->D}{ti:Ti}(hx:ev tm x=.bsl b o m c)(ht:tl T xt=some ti)(hk:ti.kd=.slice e)(hd:(match op with | .eql=>some (fun b=>D.bool b) | .neq=>some (fun b=>D.bool (!b))|_=>none)=some d)(htd:Nat.blt t n=true)
  (k:AL P ops rest ⟨n,(t,d false)::tm,bx,fr,ee⟩ Q):AL P ops (⟨some t,.binOp op xt x (.const (.slice none 0 0)) yt,ty,pos,after,none⟩::rest) ⟨n,tm,bx,fr,ee⟩ Q:=
 ZF _ htd (fun g a w hi=>by
  have h1:V w g fr (ev tm x) (a.eval x):=hi.ev x
  rw[hx]at h1
  obtain⟨blk,cap,_,_,_,hv,_⟩:=Ui h1
  have hu:=(Zx hT ht).slice hk
  have hrun:(Op.equal xt (.slice (some ⟨blk,o,none⟩) m cap) (.slice none 0 0)).run P w=.ok false w:=Go.run_equal_slice_nil w xt e _ m cap hu
  have hc0:a.eval (.const (.slice none 0 0))=.slice none 0 0:=rfl
  cases op<;>simp at hd<;>subst hd<;>first|exact⟨.bool false,by simp[execOp,hv,hc0,eqGuard,binOp,Sem.run_bind,hrun],.bool _⟩ | exact⟨.bool (!false),by simp[execOp,hv,hc0,eqGuard,binOp,Sem.run_bind,hrun],.bool _⟩) k
theorem Je:∀(l l':List D),D.ones l=true->D.ones l'=true->D.ones (l++l')=true
 | [],l',_,h=>h
 | d::l,l',h,h'=>by
  rw[List.cons_append,D.ones]
  rw[D.ones]at h
  cases hd:d.one with
  | true=>rw[hd]at h;exact Je l l' h h'
  | false=>rw[hd]at h;cases h
def Jf (sz:Nat)(d:D):Bool:=D.ones d.cellsOf&&Nat.beq d.cellsOf.length sz
theorem Jg {sz:Nat}{d:D}(h:Jf sz d=true):D.ones d.cellsOf=true/\d.cellsOf.length=sz:=by
 unfold Jf at h
 rw[Bool.and_eq_true]at h
 exact⟨h.1,Nat.eq_of_beq_eq_true h.2⟩
theorem U8 {sz:Nat}:∀(ds:List D),ds.all (Jf sz)=true->D.ones (ds.flatMap D.cellsOf)=true
 | [],_=>rfl
 | d::ds,h=>by
  rw[List.all_cons,Bool.and_eq_true]at h
  rw[List.flatMap_cons]
  exact Je _ _ (Jg h.1).1 (U8 ds h.2)
theorem Jh {sz:Nat}:∀ {ds:List D} {vs:List Value},vs.length=ds.length->(∀(j:Nat) (d:D) (v:Value),ds[j]?=some d->vs[j]?=some v->V w g fr d v)->ds.all (Jf sz)=true ->
  ∃ rs:List (List Value × Value),rs.map (·.2)=vs/\(∀ p ∈ rs,p.2.cells=p.1.toArray/\p.1.length=sz)/\(rs.flatMap (·.1)).length=(ds.flatMap D.cellsOf).length/\∀(j:Nat) (d:D) (v:Value),(ds.flatMap D.cellsOf)[j]?=some d->(rs.flatMap (·.1))[j]?=some v->V w g fr d v
 | [],[],_,_,_=>⟨[],rfl,by simp,by simp,by simp⟩
 | d::ds,v::vs,hl,hv,hs=>by
  rw[List.all_cons,Bool.and_eq_true]at hs
  obtain⟨ho,hsz⟩:=Jg hs.1
  obtain⟨us,q1,q2,q3⟩:=(hv 0 d v rfl rfl).cells ho
  obtain⟨rs,p1,p2,p3,p4⟩:=Jh (sz:=sz) (ds:=ds) (vs:=vs) (by simpa using hl) (fun j d v h1 h2=>hv (j+1) d v (by simpa using h1) (by simpa using h2)) hs.2
  refine⟨(us,v)::rs,by simp[p1],fun p hp=>?_,?_,fun j x u hx hu=>?_⟩
  ·rcases List.mem_cons.1 hp with rfl|hp
   ·exact⟨q1,by rw[q2,hsz]⟩
   ·exact p2 p hp
  ·simp only[List.flatMap_cons,List.length_append,p3,q2]
  ·simp only[List.flatMap_cons]at hx hu
   rcases Nat.lt_or_ge j d.cellsOf.length with hj|hj
   ·rw[List.getElem?_append_left hj]at hx
    rw[List.getElem?_append_left (by rw[q2];exact hj)]at hu
    exact q3 j x u hx hu
   ·rw[List.getElem?_append_right hj]at hx
    rw[List.getElem?_append_right (by rw[q2];exact hj),q2]at hu
    exact p4 _ x u hx hu
 | [],_::_,hl,_,_=>by simp at hl
 | _::_,[],hl,_,_=>by simp at hl
theorem Ig [Known][Dfr](hT:chk P T=true){st len e m:Nat}{ds:List D}{ti te:Ti}{parts:Array (Nat × Operand)}(ht:tl T st=some ti)(hk:ti.kd=.slice e)(hte:tl T e=some te)(hp:parts.toList.map (·.1)=List.range len)
  (hds:nfs (parts.toList.map fun p=>ev tm p.2)=some ds) (hs:ds.all (Jf te.size)=true) (hsz:Nat.blt 0 te.size=true) (hsm:Nat.ble (len*te.size) 16777216=true) (hpos:Nat.blt 0 len=true) (hm:bx.length=m) (hb:nfb (bx++[ds.flatMap D.cellsOf])=some bx') (htd:Nat.blt t n=true)
  (k:AL P ops rest ⟨n,(t,.bsl m 0 len len)::tm,bx',fr,ee⟩ Q):AL P ops (⟨some t,.buildSlice st len parts,ty,pos,after,none⟩::rest) ⟨n,tm,bx,fr,ee⟩ Q:=
 Vj _ htd (fun g a w hi=>by
  have hsm:=Nat.le_of_ble_eq_true hsm
  have hpos:0<len:=by simpa[Nat.blt_eq]using hpos
  have hsz:0<te.size:=by simpa[Nat.blt_eq]using hsz
  have hu:=(Zx hT ht).slice hk
  have hds':=Y9 hds
  obtain⟨z,hz1,hz2⟩:=(Zx hT hte).zero w
  obtain⟨hzl,_⟩:=Wt (w:=w) (g:=g) (fr:=fr) hz2
  have hpl:parts.toList.length=len:=by have:=congrArg List.length hp;simpa using this
  have hdl:ds.length=len:=by rw[<- hds'];simpa using hpl
  have hV:∀(j:Nat) (d:D) (v:Value),ds[j]?=some d->(parts.toList.map fun p=>a.eval p.2)[j]?=some v->V w g fr d v:=fun j d v h1 h2=>by
   rw[<- hds',List.getElem?_map]at h1
   rw[List.getElem?_map]at h2
   cases hx:parts.toList[j]? with
   | none=>rw[hx]at h1;cases h1
   | some p=>rw[hx]at h1 h2;injection h1 with h1;injection h2 with h2;subst h1 h2;exact hi.ev p.2
  obtain⟨rs,r1,r2,r3,r4⟩:=Jh (sz:=te.size) (by rw[hdl,List.length_map,hpl]) hV hs
  have hrl:rs.length=len:=by have:=congrArg List.length r1;simpa[hpl]using this
  have hparts:(parts.map fun(p:Nat × Operand)=>(p.1,a.eval p.2)).toList=(rs.zipIdx 0).map fun q=>(q.2,q.1.2):=by
   apply List.ext_getElem?
   intro j
   have hj:(parts.toList.map (·.1))[j]?=(List.range len)[j]? := by rw[hp]
   have hr:(rs.map (·.2))[j]?=(parts.toList.map fun p=>a.eval p.2)[j]? := by rw[r1]
   simp only[Array.toList_map,List.getElem?_map,List.getElem?_zipIdx,Nat.zero_add]at hj hr ⊢
   cases hx:parts.toList[j]? with
   | none=>
    have:rs[j]?=none:=List.getElem?_eq_none (by rw[hrl,<- hpl];exact List.getElem?_eq_none_iff.1 hx)
    rw[this];rfl
   | some p=>
    have hjl:j<len:=by rw[<- hpl];exact(List.getElem?_eq_some_iff.1 hx).1
    rw[hx,List.getElem?_range hjl]at hj
    simp only[Option.map_some,Option.some.injEq]at hj
    rw[hx]at hr
    cases hq:rs[j]? with
    | none=>rw[hq]at hr;cases hr
    | some q=>
     rw[hq]at hr
     simp only[Option.map_some,Option.some.injEq]at hr
     simp[hj,hr]
  obtain⟨out,e1,e2⟩:=Um rs 0 ((Array.range (len*te.size)).map (z.cells[· % z.cells.size]!)) r2 (by simp[hrl])
  have hout:out=(rs.flatMap (·.1)).toArray:=by
   have:out.toList=rs.flatMap (·.1):=by rw[e2];simp
   rw[<- this]
  have h0:¬ len*te.size=0:=Nat.ne_of_gt (Nat.mul_pos hpos hsz)
  have hsz2:=ZV (P:=P) (t:=e) (Zx hT hte).tSize w
  have hrun:(Instr.buildSlice st len (parts.map fun(p:Nat × Operand)=>(p.1,a.eval p.2))).run P w=.ok (.slice (some ⟨w.heap.size,0,none⟩) len len) (w.alloc (.cells (rs.flatMap (·.1)).toArray e)):=by
   rw[<- hparts]at e1
   simp only[Instr.buildSlice,Sem.run_bind,run_underlying hu,Result.andThen_ok,hsz2,if_neg (show ¬ len*te.size>2 ^ 24 by omega),if_neg h0,hz1,Sem.run_pure,e1,hout]
   rfl
  have hlm:len<=maxLen:=by unfold maxLen;have:=Nat.le_mul_of_pos_right len hsz;omega
  obtain⟨k1,k2⟩:=hi.mem.box (rs.flatMap (·.1)) (ds.flatMap D.cellsOf) e r3 (QQ (U8 ds hs)) r4
  refine⟨.slice (some ⟨w.heap.size,0,none⟩) len len,_,_,?_,k1,(YF hb) ▸ k2,.bsl _ _ _ _ w.heap.size len ?_ (Nat.le_refl _) hlm (.inr rfl)⟩
  ·simp only[execOp,Sem.run_bind]
   rw[show(fun(x:Nat × Operand)=>match x with|(i,x)=>(i,a.eval x))=fun(p:Nat × Operand)=>(p.1,a.eval p.2) from rfl,hrun]
   rfl
  ·subst hm
   have:=hi.mem.bl
   simp at this
   simp[this]) k
end
end Go.Av
end
section
open Go.RowKit Go.Pl Go.Av
namespace Go.Proofs.YthdgejfglbjogaaDoor
set_option maxHeartbeats 4000000
theorem QD {b:List UInt8}(h:b ≠ []):b.map E.byte ≠ []:=fun e=>h (List.map_eq_nil_iff.1 e)
theorem JV [Known](b:List UInt8)(z c:Nat)(hne:b ≠ [])(hb:b.length<=140737488351232):AQ Tryd.prog 12 [.bsl 0 0 (b.map E.byte).length c] [[.row z (flat (b.map E.byte))]] (byE b) [[.row z (flat (b.map E.byte))]]:=by
 have hU:=Yv b
 have hn:=QD hne
 have h1:(b.map E.byte).length<=maxLen:=by rw[List.length_map];unfold maxLen;omega
 have h2:(b.map E.byte).length*1<=140737488355328:=by rw[List.length_map];omega
 refine AQ.weak (Zs Tryd.func12 Z Tryd.ntmps12 Z Z ?_)
 repeat'(first|refine Xp Za Z Z Z Z Z ?_|refine QC Za Z Z Z Z Z Z ?_|refine WQ Za Z Z Z Z (Src.row (l:=b.map E.byte) rfl rfl) Z hU hn h1 h2 Z Z Z ?_|(apply Zh Za;exact Z)|(apply Zd Za;exact Z)|(apply Zv Za;exact Z)|(apply Ze;exact Z;(first|with_reducible assumption|decide +kernel|(solve|simp only[bn]))))
 all_goals(apply ZW [0];(apply Zf Za;exact Z);(iterate 4 exact Z))
 all_goals rfl
theorem JW [Known](b:List UInt8)(z c:Nat)(hne:b ≠ [])(hb:b.length<=140737488351232):AT Tryd.prog 12 [.bsl 0 0 (b.map E.byte).length c] [[.row z (flat (b.map E.byte))]] [] (.bsl 1 0 (b.map E.byte).length 0) [[.row z (flat (b.map E.byte))],[.row 0 (flat (b.map E.byte))]] []:=by
 have hU:=Yv b
 have hn:=QD hne
 have h1:(b.map E.byte).length<=maxLen:=by rw[List.length_map];unfold maxLen;omega
 have h2:(b.map E.byte).length*1<=140737488355328:=by rw[List.length_map];omega
 refine Zs Tryd.func12 rfl Tryd.ntmps12 rfl rfl ?_
 repeat'(first|refine Xp Za Z Z Z Z Z ?_|refine QC Za Z Z Z Z Z Z ?_|(apply V8 (m:=1) Za;(iterate 4 exact Z);exact(Src.row (l:=b.map E.byte) rfl rfl);exact Z;exact hU;exact hn;exact Z;exact h1;exact h2;(iterate 3 exact Z))|(apply Zh Za;exact Z)|(apply Zd Za;exact Z)|(apply Zv Za;exact Z)|(apply Ze;exact Z;(first|with_reducible assumption|decide +kernel|(solve|simp only[bn]))))
 all_goals(apply JH [0,1] [];(apply Zf Za;exact Z);(iterate 7 exact Z))
 all_goals rfl
theorem XV [Known](b:List UInt8)(z c:Nat)(hne:b ≠ [])(hb:b.length<=140737488351232):AT Tryd.prog 5 [.bsl 0 0 (b.map E.byte).length c] [[.row z (flat (b.map E.byte))]] [] (.agg [.int .i64 2,.int .u64 0,.bsl 1 0 (b.map E.byte).length 0,.sl .nil []]) [[.row z (flat (b.map E.byte))],[.row 0 (flat (b.map E.byte))]] []:=by
 have hC:=JW b z c hne hb
 refine Zs Tryd.func5 rfl Tryd.ntmps5 rfl rfl ?_
 repeat'(first|(apply YN [0] [] (hC);kernel_rfl;(iterate 10 exact Z))|(apply Zh Za;exact Z)|(apply Zd Za;exact Z))
 all_goals(apply JH [0,2] [];(apply Zf Za;exact Z);(iterate 7 exact Z))
 all_goals rfl
theorem UD [Known](k:Int)(n:Nat)(b:List UInt8)(z c:Nat)(hne:b ≠ [])(hb:b.length<=140737488351232):AQ Tryd.prog 13 [.agg [.int .i64 k,.int .u64 (n:Int),.bsl 0 0 (b.map E.byte).length c,.sl .ext []]] [[.row z (flat (b.map E.byte))]] (.agg [.int .i64 k,.int .u64 (n:Int),byE b,.sl .ext []]) [[.row z (flat (b.map E.byte))]]:=by
 have hC:=JV b z c hne hb
 refine AQ.weak (Zs Tryd.func13 Z Tryd.ntmps13 Z Z ?_)
 repeat'(first|(apply Zj [0] (hC);kernel_rfl;(iterate 7 exact Z))|refine Vx 20 ?_|refine Ug ?_|(apply Zh Za;exact Z)|(apply Zd Za;exact Z)|(apply Ze;exact Z;(first|with_reducible assumption|decide +kernel|(solve|simp only[bn])))|refine Zp Za Z Z Z Z ?_)
 all_goals(apply ZW [0];(apply Zf Za;exact Z);(iterate 4 exact Z))
 all_goals rfl
theorem XW [Known](b:List UInt8)(z c:Nat)(hne:b ≠ [])(hb:b.length<=140737488351232):AQ Tryd.prog 6 [.bsl 1 0 1 1] [[.row z (flat (b.map E.byte))],[.int .i64 2,.int .u64 0,.bsl 0 0 (b.map E.byte).length c,.sl .nil []]]
  (.agg [.int .i64 4,.int .u64 0,.sl .ext [],.sl .ext [.agg [.int .i64 2,.int .u64 0,.sl (b.map E.byte),.sl []]]]) [[.row z (flat (b.map E.byte))],[.int .i64 2,.int .u64 0,.bsl 0 0 (b.map E.byte).length c,.sl .ext []]]:=by
 have hC:=UD 2 0 b z c hne hb
 replace hC:AQ Tryd.prog 13 [.agg [.int .i64 2,.int .u64 0,.bsl 0 0 (b.map E.byte).length c,.sl .ext []]] [[.row z (flat (b.map E.byte))]] (.agg [.int .i64 2,.int .u64 0,.sl .ext (b.map E.byte),.sl .ext []]) [[.row z (flat (b.map E.byte))]]:=hC
 generalize b.map E.byte=B at *
 refine AQ.weak (Zs Tryd.func6 Z Tryd.ntmps6 Z Z ?_)
 repeat'(first|(apply Zj [0] (hC);kernel_rfl;(iterate 7 exact Z))|refine Vx 20 ?_|refine Ug ?_|refine W4 Za Z Z Z Z ?_|(apply Uj Za;(iterate 6 exact Z);(first|exact Qb|rotate_left);(first|exact Qb|rotate_left);exact Z)|refine Ym Za Z Z Z Z Z Z (Zi rfl) (List.cons_ne_nil _ _) Z Qd Qd Z Z Z ?_|(apply Zh Za;exact Z)|(apply Zd Za;exact Z)|(apply Zv Za;exact Z)|(apply Zc;exact Z;(first|with_reducible assumption|decide +kernel|(solve|simp only[bn])))|(apply Ze;exact Z;(first|with_reducible assumption|decide +kernel|(solve|simp only[bn])))|refine Wa Za Z Z Z Z Z Z Z Z Z Z Z Z ?_|(apply Zr 5 ZJ;decide +kernel;kernel_rfl;kernel_rfl;kernel_rfl;exact Z;exact Z)|(apply Zu;(iterate 4 exact Z))|exact AE.nil _ _ _ _|(apply ZD;exact Z)|(apply ZP;exact Z;exact Z;decide +kernel;exact Z)|(apply ZQ;exact Z)|exact AO.nil _ _ _|(apply Zt;(decide +kernel))|exact AOs.nil|exact Z1 rfl rfl|exact WT rfl rfl rfl rfl rfl)
 all_goals(apply ZW [0,1];(apply Zf Za;exact Z);(iterate 4 exact Z))
 all_goals rfl
theorem XX [Known](n:Nat)(b s:List UInt8)(z c:Nat)(hne:b ≠ [])(hb:b.length<=140737488351232)(hs:s.length<=140737488351232)(hn:n<18446744073709551616):AQ Tryd.prog 6 [.bsl 1 0 4 4] [[.row z (flat (b.map E.byte))],[.int .i64 0,.int .u64 (n:Int),.sl .ext [],.sl .ext [],.int .i64 2,.int .u64 0,.bsl 0 0 (b.map E.byte).length c,.sl .nil [],.int .i64 3,.int .u64 0,.sl .ext (s.map E.byte),.sl .ext [],.int .i64 4,.int .u64 0,.sl .ext [],.sl .ext [.agg [.int .i64 2,.int .u64 0,.sl (b.map E.byte),.sl []]]]]
  (.agg [.int .i64 4,.int .u64 0,.sl .ext [],.sl .ext [.agg [.int .i64 0,.int .u64 (n:Int),.sl [],.sl []],.agg [.int .i64 2,.int .u64 0,.sl (b.map E.byte),.sl []],.agg [.int .i64 3,.int .u64 0,.sl (s.map E.byte),.sl []],.agg [.int .i64 4,.int .u64 0,.sl [],.sl [.agg [.int .i64 2,.int .u64 0,.sl (b.map E.byte),.sl []]]]]]) [[.row z (flat (b.map E.byte))],[.int .i64 0,.int .u64 (n:Int),.sl .ext [],.sl .ext [],.int .i64 2,.int .u64 0,.bsl 0 0 (b.map E.byte).length c,.sl .ext [],.int .i64 3,.int .u64 0,.sl .ext (s.map E.byte),.sl .ext [],.int .i64 4,.int .u64 0,.sl .ext [],.sl .ext [.agg [.int .i64 2,.int .u64 0,.sl (b.map E.byte),.sl []]]]]:=by
 have hC:=UD 2 0 b z c hne hb
 replace hC:AQ Tryd.prog 13 [.agg [.int .i64 2,.int .u64 0,.bsl 0 0 (b.map E.byte).length c,.sl .ext []]] [[.row z (flat (b.map E.byte))]] (.agg [.int .i64 2,.int .u64 0,.sl .ext (b.map E.byte),.sl .ext []]) [[.row z (flat (b.map E.byte))]]:=hC
 have h0:AP Tryd.prog 13 [.agg [.int .i64 0,.int .u64 (n:Int),.sl .ext [],.sl .ext []]] (.agg [.int .i64 0,.int .u64 (n:Int),.sl .ext [],.sl .ext []]) []:=W3 (.mk 0 n [] []) ⟨hn,by simp,by simp,trivial⟩
 have h3:AP Tryd.prog 13 [.agg [.int .i64 3,.int .u64 0,.sl .ext (s.map E.byte),.sl .ext []]] (.agg [.int .i64 3,.int .u64 0,.sl .ext (s.map E.byte),.sl .ext []]) []:=W3 (.mk 3 0 s []) ⟨by omega,hs,by simp,trivial⟩
 have h4:AP Tryd.prog 13 [.agg [.int .i64 4,.int .u64 0,.sl .ext [],.sl .ext [.agg [.int .i64 2,.int .u64 0,.sl (b.map E.byte),.sl []]]]] (.agg [.int .i64 4,.int .u64 0,.sl .ext [],.sl .ext [.agg [.int .i64 2,.int .u64 0,.sl (b.map E.byte),.sl []]]]) []:=W3 (.mk 4 0 [] [.mk 2 0 b []]) ⟨by omega,by simp,by simp,⟨by omega,hb,by simp,trivial⟩,trivial⟩
 generalize b.map E.byte=B at *
 generalize s.map E.byte=S at *
 refine AQ.weak (Zs Tryd.func6 Z Tryd.ntmps6 Z Z ?_)
 repeat'(first|(apply Zj [0] (hC);kernel_rfl;(iterate 7 exact Z))|(apply Zb (h0);kernel_rfl;(iterate 4 exact Z))|(apply Zb (h3);kernel_rfl;(iterate 4 exact Z))|(apply Zb (h4);kernel_rfl;(iterate 4 exact Z))|refine Vx 20 ?_|refine Ug ?_|refine W4 Za Z Z Z Z ?_|(apply Uj Za;(iterate 6 exact Z);(first|exact Qb|rotate_left);(first|exact Qb|rotate_left);exact Z)|refine Us Za Z Z Z Z Z Z Z Z Z Z Z (Zi rfl) (Zi rfl) (List.cons_ne_nil _ _) Qd Qd Z Z ?_|refine Ym Za Z Z Z Z Z Z (Zi rfl) (List.cons_ne_nil _ _) Z Qd Qd Z Z Z ?_|(apply Zh Za;exact Z)|(apply Zd Za;exact Z)|(apply Zv Za;exact Z)|(apply Zc;exact Z;(first|with_reducible assumption|decide +kernel|(solve|simp only[bn])))|(apply Ze;exact Z;(first|with_reducible assumption|decide +kernel|(solve|simp only[bn])))|refine Wa Za Z Z Z Z Z Z Z Z Z Z Z Z ?_|(apply Zr 5 ZJ;decide +kernel;kernel_rfl;kernel_rfl;kernel_rfl;exact Z;exact Z)|(apply Zu;(iterate 4 exact Z))|exact AE.nil _ _ _ _|(apply ZD;exact Z)|(apply ZP;exact Z;exact Z;decide +kernel;exact Z)|(apply ZQ;exact Z)|exact AO.nil _ _ _|(apply Zt;(decide +kernel))|exact AOs.nil|exact Z1 rfl rfl|exact WT rfl rfl rfl rfl rfl)
 all_goals(apply ZW [0,1];(apply Zf Za;exact Z);(iterate 4 exact Z))
 all_goals rfl
theorem KO (x:UInt8):bits .xor .u8 (x.toNat:Int) 255=((x ^^^ 255).toNat:Int):=by
 have h:=u8_xor_nat x.toNat 255 x.toNat_lt (by decide)
 rw[show((255:Int))=((255:Nat):Int) from rfl,h,UInt8.toNat_xor]
 rfl
theorem U9 (bs:List UInt8):flat (bs.map E.byte)=bs.map E.byte:=by
 induction bs with
 | nil=>rfl
 | cons x bs ih=>rw[List.map_cons,Yy,ih];rfl
theorem V9 (bs:List UInt8){i:Nat}(h:i<bs.length)(y:UInt8):WF (flat (bs.map E.byte)) i [E.byte y]=flat ((bs.set i y).map E.byte):=by
 rw[U9,U9,List.map_set]
 unfold WF
 rw[List.set_eq_take_append_cons_drop,if_pos (by rw[List.length_map];exact h)]
 rfl
end Go.Proofs.YthdgejfglbjogaaDoor
end
