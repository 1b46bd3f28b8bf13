/- Regions that draw their order, with changes that come in turn and one new variable that comes at any time. -/
import Derived.Test.YtmljabhmajehnaaDoorP31
set_option linter.unusedSimpArgs false
set_option linter.unusedVariables false
section
open Go.RowKit Go.Pl
namespace Go.Av
section
variable {P:Program} {T:Tab} {Q:X->St->Prop} {n:Nat} {ee:Nat × Nat} {tm tm':List (Nat × D)} {bx bx':List (List D)} {fr fr':List Fr} {b0:Bs} {g:G} {w:World} {a:Act} {ys:List Y}
theorem alJ [Known][Dfr]{ops:Array Oper}{t e ty:Nat}{pos:String}{after:Array Edge}{ti:Ti}(hT:chk P T=true)(hti:tl T e=some ti)(htd:Nat.blt t n=true):AL P ops [⟨some t,.alloc e,ty,pos,after,none⟩] ⟨n,tm,bx,fr,ee⟩ (qY ⟨some t,.alloc e,ty,pos,after,none⟩ bx fr (.pu .junk)):=
 IM (fun b0 g a w hi=>by
  obtain⟨z,z1,z2⟩:=(ZJ hT hti).zero w
  have hrun:(execOp a.eval ⟨some t,.alloc e,ty,pos,after,none⟩).run P w=.ok (.value (.pointer (some ⟨w.heap.size,0,none⟩))) (w.alloc (.cells z.cells e)):=by
   simp[execOp,Instr.alloc,newVar,newRow,Sem.run_bind,z1]
  have hev:Evo ⟨g,fr,w⟩ ⟨g,fr,w.alloc (.cells z.cells e)⟩:=Evo.al hi.mem _
  exact⟨_,_,tm,bx,fr,g,.junk,hrun,⟨hi.size,hi.defers,Mem.al hi.mem _,fun t=>(hi.tm t).evo hev,hi.evo.trans hev,hi.bd⟩,.junk _,Ia (ZG rfl (by simp[look,nf]))⟩) htd
def mkA (ja t K:Nat)(q:(Nat × D) × Nat):Nat × D:=if q.2=ja then(t,.gptr K 0) else q.1
theorem IP {α:Type}(ds:List α)(i:Nat):ds.zipIdx[i]?=ds[i]?.map fun p=>(p,i):=by simp[List.getElem?_zipIdx]
theorem T4 {α:Type}(ds:List α):ds.zipIdx.map Prod.fst=ds:=by
 apply List.ext_getElem?
 intro i
 rw[List.getElem?_map,IP]
 cases ds[i]? <;> rfl
theorem JF {ds:List (Nat × D)}{ja t K i:Nat}:(ds.zipIdx.map (mkA ja t K))[i]?=ds[i]?.map fun p=>if i=ja then(t,.gptr K 0) else p:=by
 rw[List.getElem?_map,IP]
 cases ds[i]? <;> rfl
theorem Hx {l:List Oper}{o:Oper}{ja t K:Nat}{zs:List ((Nat × D) × Nat)}{tm:List (Nat × D)}(hn:(YQ l o).contains t=false)(hz:∀ q ∈ zs,q.2=ja->q.1.1=t):Z6 l o ((zs.map (mkA ja t K)).reverse++tm)=Z6 l o ((zs.map Prod.fst).reverse++tm):=by
 rw[WF,WF,List.filter_append,List.filter_append,List.filter_reverse,List.filter_reverse]
 congr 2
 induction zs with
 | nil=>rfl
 | cons q zs ih=>
  rw[List.map_cons,List.map_cons,List.filter_cons,List.filter_cons,ih fun p hp=>hz p (List.mem_cons_of_mem _ hp)]
  by_cases hq:q.2=ja
  ·have h1:=hz q (List.mem_cons_self ..) hq
   unfold mkA
   rw[if_pos hq,h1,hn]
   simp
  ·unfold mkA
   rw[if_neg hq]
theorem O5 {ja t K x:Nat}{tm:List (Nat × D)}:∀(zs:List ((Nat × D) × Nat)),(∀ q ∈ zs,q.2=ja->q.1=(t,.junk))->look (zs.map Prod.fst++tm) x=look (zs.map (mkA ja t K)++tm) x\/look (zs.map Prod.fst++tm) x=.junk
 | [],_=>.inl rfl
 | (q,i)::zs,h=>by
  rw[List.map_cons,List.map_cons,List.cons_append,List.cons_append]
  have hr:=O5 (tm:=tm) (K:=K) (x:=x) zs fun p hp=>h p (List.mem_cons_of_mem _ hp)
  by_cases hq:i=ja
  ·have h1:=h (q,i) (List.mem_cons_self ..) hq
   dsimp only at h1
   subst h1
   simp only[mkA,if_pos hq,look]
   cases hb:Nat.beq t x with
   | true=>exact .inr rfl
   | false=>exact hr
  ·simp only[mkA,if_neg hq,look]
   cases hb:Nat.beq q.1 x with
   | true=>exact .inl rfl
   | false=>exact hr
structure AOj [Known][Dfr](P:Program) (l:List Oper) (n:Nat) (rest:List Oper) (ys:List Y) (tm:List (Nat × D)) (bx:List (List D)) (fr:List Fr) (ja:Nat):Prop where
 out:AOt P l n rest ys tm bx fr
 at_:ys[ja]?=some (.pu .junk)
theorem KU [Known][Dfr]{l rest:List Oper}{ja:Nat}(h1:ys[ja]?=some (.pu .junk))(h:AOt P l n rest ys tm bx fr):AOj P l n rest ys tm bx fr ja:=⟨h,h1⟩
theorem IQ [Known][Dfr]{id m ja t e ty:Nat}{pos:String}{after:Array Edge}{ti:Ti}{l acts:List Oper}(hT:chk P T=true)(hm:P.follows .mixedOrders=true)(hchk:YB l=true)(hlk:Jk n l=true)(hE:Qx l=true)(hch:Wk l m=true)(hlen:(l.take m).length=m)(hacts:l.drop m=acts)
  (hja:l[ja]?=some ⟨some t,.alloc e,ty,pos,after,none⟩) (hjm:ja<m) (hti:tl T e=some ti) (hz:((l.take m).all fun o=>!(YQ l o).contains t)=true)
  (h:AE P l n 0 (l.take m) tm bx fr ys tm' bx' fr') (hO:AOj P l n (l.take m) ys tm bx fr ja) (k:AL P l.toArray acts ⟨n,(t,.ptr bx'.length 0)::tm',bx'++[ti.zero.map ZK.d],fr',ee⟩ Q) :
  AW P (.region id l.toArray true) ⟨n,tm,bx,fr,ee⟩ Q:=by
 obtain⟨ds,h1,h1y,h2,hfin,h3⟩:=h.steps
 obtain⟨es,sts,e1,e2,hes,hAO,hJ⟩:=hO.out.out
 have hyj:=hO.at_
 have e1:=Yd e1
 have e2:=Yd e2
 subst e1 e2
 have hml:m<=l.length:=by rw[List.length_take]at hlen;omega
 rw[hlen]at h1 h1y
 have htk:∀(i:Nat) (o:Oper),l[i]?=some o->i<m->(l.take m)[i]?=some o:=fun i o ho hi=>by rw[List.getElem?_take,if_pos hi];exact ho
 have hdj:ds[ja]?=some (t,.junk):=by
  obtain⟨y,q1,q2,_⟩:=h3 ja _ (htk ja _ hja hjm)
  rw[hyj]at q1;injection q1 with q1;subst q1
  rw[Nat.zero_add]at q2
  exact q2
 have hzq:∀ q ∈ ds.zipIdx,q.2=ja->q.1=(t,.junk):=fun q hq e=>by
  obtain⟨i,hi⟩:=List.getElem?_of_mem hq
  rw[IP]at hi
  cases hd:ds[i]? with
  | none=>rw[hd]at hi;cases hi
  | some p=>
   rw[hd]at hi
   simp only[Option.map_some,Option.some.injEq]at hi
   subst hi
   dsimp only at e ⊢
   subst e
   rw[hdj]at hd;injection hd with hd;exact hd.symm
 have hdl:∀ K,(ds.zipIdx.map (mkA ja t K)).length=m:=fun K=>by rw[List.length_map,List.length_zipIdx,h1]
 have hl:∀ K,(ds.zipIdx.map (mkA ja t K)).length<=l.length:=fun K=>by rw[hdl];exact hml
 have hget:∀ K i y o,l[i]?=some o->ds[i]?=some (Yk n i o,y)->i ≠ ja->(ds.zipIdx.map (mkA ja t K))[i]?=some (Yk n i o,y):=fun K i y o _ hd hne=>by rw[JF,hd];simp[hne]
 have hgetj:∀ K,(ds.zipIdx.map (mkA ja t K))[ja]?=some (t,.gptr K 0):=fun K=>by rw[JF,hdj];simp
 have hdst:∀ K,HD n l (ds.zipIdx.map (mkA ja t K)):=fun K i o ho hd=>by
  rw[hdl]at hd
  obtain⟨y,q1,q2,q3,_⟩:=h3 i o (htk i o ho hd)
  rw[Nat.zero_add]at q2
  by_cases hij:i=ja
  ·subst hij
   rw[hja]at ho;injection ho with ho;subst ho
   exact⟨_,hgetj K,fun hn=>(by cases hn),q3⟩
  ·exact⟨y.d,hget K i y.d o ho q2 hij,hJ i o y (htk i o ho hd) q1,q3⟩
 have hefl:∀ e,Il ys e->e<m:=fun e ⟨d,b,f,he⟩=>by have:=(List.getElem?_eq_some_iff.1 he).1;omega
 have hjef:¬ Il ys ja:=fun⟨d,b,f,he⟩=>by rw[hyj]at he;cases he
 have hrs:∀(K i:Nat) (o:Oper),l[i]?=some o->i<m->Z6 l o (((ds.zipIdx.map (mkA ja t K)).take i).reverse++tm)=Z6 l o ((ds.take i).reverse++tm):=fun K i o ho hi=>by
  have hc:(YQ l o).contains t=false:=by
   have:=List.all_eq_true.1 hz o (List.mem_of_getElem? (htk i o ho hi))
   simpa using this
  rw[<- List.map_take,Hx hc (fun q hq e=>by rw[hzq q (List.mem_of_mem_take hq) e]),List.map_take,T4]
 have hNK:=fun K=>(hdst K).one hchk (hl K)
 refine⟨fun b0 g a w hi=>wp_region_any hm ?_⟩
 have main:∀(fuel:Nat) (listed:Array Bool) (g:G) (a:Act) (w:World) (K:Nat),MidE b0 ee n tm (stg ys (bx,fr) (fun i=>listed.getD i false)) l (ds.zipIdx.map (mkA ja t K)) listed g a w->(listed.getD ja false=true->ON b0 g w K (ti.zero.map ZK.d))->(∀ i,m<=i->i<l.length->listed.getD i false=false)->left l listed=fuel->wpAny P .any l.toArray (WP b0 Q) fuel listed a w:=by
  intro fuel
  have hend:∀(listed:Array Bool) (g:G) (a:Act) (w:World) (K:Nat),MidE b0 ee n tm (stg ys (bx,fr) (fun i=>listed.getD i false)) l (ds.zipIdx.map (mkA ja t K)) listed g a w->(listed.getD ja false=true->ON b0 g w K (ti.zero.map ZK.d))->(∀ i,i<m->listed.getD i false=true)->wpList P l.toArray (WP b0 Q) acts a w:=fun listed g a w K hM hA hall=>by
   have hinv:=JM hchk (hl K) (hdst K) hM fun i hi=>hall i (by rw[hdl]at hi;exact hi)
   have hst:stg ys (bx,fr) (fun i=>listed.getD i false)=(bx',fr'):=by
    rw[<- hfin]
    exact YF _ _ _ _ fun i hi=>hall i (hefl i hi)
   have htp:a.tmps.getD t undef=.pointer (some ⟨K,0,none⟩):=by
    have:=hM.tm t
    rw[Yu (hNK K) (hl K) (hgetj K),if_pos (hall ja hjm)]at this
    exact VR this
   rw[hst]at hinv
   have hinv2:Inv b0 ⟨n,tm',bx',fr',ee⟩ g a w:=⟨hinv.size,hinv.defers,hinv.mem,fun x=>by
    have hx:=hinv.tm x
    dsimp only at hx ⊢
    have e0:tm'=(ds.zipIdx.reverse.map Prod.fst)++tm:=by rw[List.map_reverse,T4,<- h2]
    rw[e0]
    rw[<- List.map_reverse]at hx
    rcases O5 (K:=K) (x:=x) (tm:=tm) ds.zipIdx.reverse (fun q hq=>hzq q (by simpa using hq)) with e|e
    ·rw[e];exact hx
    ·rw[e];exact .junk _,hinv.evo,hinv.bd⟩
   exact k.run b0 _ a w (hinv2.addB (hA (hall ja hjm)) htp)
  induction fuel with
  | zero=>
   intro listed g a w K hM hA hu h0
   have hml':l.length=m:=by
    rcases Nat.lt_or_ge m l.length with h|h
    ·have h5:=hu m (Nat.le_refl _) h
     have h6:=Yn h0 h
     rw[h5]at h6;cases h6
    ·omega
   exact Wr hE hch 0 m listed a w (by omega) (Nat.le_refl _) hM.len (fun i hi=>by rw[Yn h0 hi];simp;omega) (by rw[hacts];exact hend listed g a w K hM hA (fun i hi=>Yn h0 (by omega)))
  | succ fuel ih=>
   intro listed g a w K hM hA hu hf
   by_cases hall:∀ i,i<m->listed.getD i false=true
   ·have hls:∀ i,i<l.length->(listed.getD i false=true ↔ i<m):=fun i hi=>by
     rcases Nat.lt_or_ge i m with h|h
     ·simp[hall i h,h]
     ·rw[hu i h hi];simp;omega
    refine Wr hE hch (fuel+1) m listed a w (by rw[<- hf,V8 hls];omega) (Nat.le_refl _) hM.len hls (by rw[hacts];exact hend listed g a w K hM hA hall)
   refine⟨fun he=>(VP hE hM.len (by omega) he).elim,fun i hi=>?_⟩
   obtain⟨hn0,o,ho,hr⟩:=mem_ready.1 hi
   have ho':l[i]?=some o:=by simpa using ho
   have hil:i<l.length:=(List.getElem?_eq_some_iff.1 ho').1
   have hlt:i<listed.size:=by rw[hM.len];exact hil
   have hn:listed.getD i false=false:=by simp[hlt]at hn0 ⊢;exact hn0
   have hleft:=Ux hil hM.len hn
   by_cases him:i<m
   ·have hut:∀ x,m<=x->x<l.length->(listed.setIfInBounds i true).getD x false=false:=fun x hx hxl=>by
     rw[getD_set_ne false (by omega)]
     exact hu x hx hxl
    by_cases hij:i=ja
    ·
     subst hij
     rw[hja]at ho';injection ho' with ho';subst ho'
     obtain⟨z,z1,z2⟩:=(ZJ hT hti).zero w
     have htn:t<n:=by
      obtain⟨_,_,_,q3,_⟩:=h3 i _ (htk i _ hja hjm)
      simpa[Un,Nat.blt_eq]using q3
     unfold wpOp
     simp only[ho]
     have hw:Region.wanted (⟨some t,.alloc e,ty,pos,after,none⟩:Oper) (yielded l.toArray a.tmps)=true:=rfl
     rw[if_pos hw]
     refine .inl ?_
     have hrun:(execOp a.eval ⟨some t,.alloc e,ty,pos,after,none⟩).run P w=.ok (.value (.pointer (some ⟨w.heap.size,0,none⟩))) (w.alloc (.cells z.cells e)):=by
      simp[execOp,Instr.alloc,newVar,newRow,Sem.run_bind,z1]
     unfold Oper.wp
     rw[hrun,Oper.upon_value]
     have hev:=Evo.al hM.mem (.cells z.cells e)
     have hstE:stg ys (bx,fr) (fun j=>(listed.setIfInBounds i true).getD j false)=stg ys (bx,fr) (fun j=>listed.getD j false):=YF _ _ _ _ fun e he=>by
      have hne:i ≠ e:=fun e'=>hjef (e' ▸ he)
      rw[getD_set_ne false hne]
     refine ih _ g _ _ w.heap.size ?_ (fun _=>?_) hut (by omega)
     ·rw[hstE]
      refine⟨hM.bd,by simp[Act.put,hM.size],by simp only[Act.put];exact hM.defers,hM.mem.al _,hM.evo.trans hev,fun x=>?_,fun mm om hmm hlm ed he hb=>?_,by simp[hM.len]⟩
      ·by_cases hx:x=t
       ·subst hx
        rw[Yu (hNK _) (hl _) (hgetj _),if_pos (by simp[hM.len,hil])]
        have e1:(Act.put a (some x) (.pointer (some ⟨w.heap.size,0,none⟩))).tmps.getD x undef=.pointer (some ⟨w.heap.size,0,none⟩):=by
         simp[Act.put,Array.getD_getElem?,hM.size,htn]
        dsimp only
        rw[e1]
        exact .gptr _ _
       ·have e1:(Act.put a (some t) (.pointer (some ⟨w.heap.size,0,none⟩))).tmps.getD x undef=a.tmps.getD x undef:=by
         simp[Act.put,Array.getD_getElem?,Array.getElem?_setIfInBounds_ne (Ne.symm hx)]
        dsimp only
        rw[e1]
        have e2:cur l (ds.zipIdx.map (mkA i t w.heap.size)) tm (listed.setIfInBounds i true) x=cur l (ds.zipIdx.map (mkA i t K)) tm listed x:=by
         by_cases hex:∃(j:Nat) (y:D),ds[j]?=some (x,y)
         ·obtain⟨j,y,hj⟩:=hex
          have hne:j ≠ i:=fun e=>by
           subst e;rw[hdj]at hj;injection hj with hj;injection hj with hj;exact hx hj.symm
          have hj1:∀ K,(ds.zipIdx.map (mkA i t K))[j]?=some (x,y):=fun K=>by rw[JF,hj];simp[hne]
          rw[Yu (hNK _) (hl _) (hj1 _),Yu (hNK _) (hl _) (hj1 _),getD_set_ne false (Ne.symm hne)]
         ·have hno:∀(K:Nat) (j:Nat) (p:Nat × D),(ds.zipIdx.map (mkA i t K))[j]?=some p->p.1 ≠ x:=fun K j p hj e=>by
           rw[JF]at hj
           cases hzj:ds[j]? with
           | none=>rw[hzj]at hj;cases hj
           | some q=>
            rw[hzj]at hj
            simp only[Option.map_some,Option.some.injEq]at hj
            by_cases hji:j=i
            ·rw[if_pos hji]at hj
             subst hj
             exact hx e.symm
            ·rw[if_neg hji]at hj
             subst hj
             exact hex ⟨j,q.2,by rw[hzj,<- e]⟩
          rw[YM (hno _),YM (hno _)]
        rw[e2]
        exact(hM.tm x).evo hev
      ·by_cases hmi:mm=i
       ·subst hmi
        rw[hja]at hmm;injection hmm with hmm;subst hmm
        exact getD_set_true (hr ed he hb)
       ·rw[getD_set_ne false (Ne.symm hmi)]at hlm
        exact getD_set_true (hM.closed mm om hmm hlm ed he hb)
     ·refine⟨hM.evo.size,fun hmm=>absurd (hM.mem.lt hmm) (Nat.lt_irrefl _),fun o hc=>absurd (hM.mem.Clt _ o hc) (Nat.lt_irrefl _),z.cells,e,heap_alloc_new w _,?_,fun w g fr j d v hd hv=>?_⟩
      ·have:=(W6 (w:=w) (g:=g) (fr:=fr) z2).1
       exact⟨by simpa using this,JH _⟩
      ·have:=(W6 (w:=w) (g:=g) (fr:=fr) z2).2 j d v hd (by simpa using hv)
       exact this.1
    ·obtain⟨y,q1,q2,q3,q4⟩:=h3 i o (htk i o ho' him)
     rw[Nat.zero_add]at q2
     have hdown:∀ e ∈ WM 0 ys,∀ e' ∈ WM 0 ys,e<e'->listed.getD e' false=true->listed.getD e false=true:=fun e he e' he' hlt hp=>by
      have h1:=List.all_eq_true.1 (List.all_eq_true.1 hes e he) e' he'
      simp[hlt]at h1
      obtain⟨j,hj,hj'⟩:=Yl.1 he'
      have hlt':e'<l.length:=by have:=hefl _ hj';omega
      have ho2:=List.getElem?_eq_getElem hlt'
      exact Y5 hM.closed e' _ ho2 (hM.closed e' _ ho2 hp) e h1
     obtain⟨c,hc1,hc2⟩:=Im (p:=fun i=>listed.getD i false) (WM 0 ys) hdown
     have hcs:stg ys (bx,fr) (fun i=>listed.getD i false)=stg ys (bx,fr) (fun j=>decide (j<c)):=YF _ _ _ _ fun e he=>hc2 e (Yl.2 ⟨e,by omega,he⟩)
     have hupi:∀ e,up (Yf [] l) i e=true->listed.getD e false=true:=fun e he=>Y5 hM.closed i o ho' hr e he
     have hupe:∀ e ∈ WM 0 ys,up (Yf [] l) e i=true->listed.getD e false=false:=fun e he hu'=>by
      cases hle:listed.getD e false with
      | false=>rfl
      | true=>
       obtain⟨j,hj,hj'⟩:=Yl.1 he
       have hlt':e<l.length:=by have:=hefl _ hj';omega
       have ho2:=List.getElem?_eq_getElem hlt'
       have:=Y5 hM.closed e _ ho2 (hM.closed e _ ho2 hle) i hu'
       rw[hn]at this;cases this
     have hsame:(∀ e ∈ WM 0 ys,decide (e<c)=decide (e<i))->stg ys (bx,fr) (fun j=>decide (j<c))=stg ys (bx,fr) (fun j=>decide (j<i)):=fun h=>YF _ _ _ _ fun e he=>h e (Yl.2 ⟨e,by omega,he⟩)
     have hAL:AL P l.toArray [o] ⟨n,Z6 l o ((ds.take i).reverse++tm),(stg ys (bx,fr) (fun i=>listed.getD i false)).1,(stg ys (bx,fr) (fun i=>listed.getD i false)).2,((stg ys (bx,fr) (fun i=>listed.getD i false)).1.length,(stg ys (bx,fr) (fun i=>listed.getD i false)).2.length)⟩ (qY o (stg ys (bx,fr) (fun i=>listed.getD i false)).1 (stg ys (bx,fr) (fun i=>listed.getD i false)).2 y):=by
      by_cases hown:∀ e ∈ WM 0 ys,decide (e<c)=decide (e<i)
      ·rw[hcs,hsame hown];exact q4
      ·cases y with
       | ef d b f=>
        exfalso
        apply hown
        intro e he
        have hie:i ∈ WM 0 ys:=Yl.2 ⟨i,by omega,d,b,f,q1⟩
        rw[<- hc2 e he]
        rcases Nat.lt_trichotomy e i with hlt' | rfl|hgt
        ·have h1:=List.all_eq_true.1 (List.all_eq_true.1 hes e he) i hie
         simp[hlt']at h1
         rw[hupi e h1];simp[hlt']
        ·rw[hn];simp
        ·have h1:=List.all_eq_true.1 (List.all_eq_true.1 hes i hie) e he
         simp[hgt]at h1
         rw[hupe e he h1];simp;omega
       | pu d=>
        have hAs:=hAO.get (i:=i) (htk i o ho' him) q1 ds (fun j oj yj hj k1 k2=>by
         obtain⟨y',p1,p2,_⟩:=h3 j oj k1
         rw[k2]at p1;injection p1 with p1;subst p1
         exact p2) (by omega)
        rw[Nat.zero_add]at hAs
        have hmem:(c,(stg ys (bx,fr) (fun j=>decide (j<c))).1,(stg ys (bx,fr) (fun j=>decide (j<c))).2) ∈ ((0,bx,fr)::U3 0 ys):=by
         rcases hc1 with rfl|⟨e,he,rfl,hpe⟩
         ·have:stg ys (bx,fr) (fun j=>decide (j<0))=(bx,fr):=W2 _ _ _ (by intro i _;simp)
          rw[this];simp
         ·obtain⟨j,hj,d',b,f,hy⟩:=Yl.1 he
          rw[Nat.zero_add]at hj;subst hj
          rw[JK _ _ _ _ hy]
          have:=UN (i0:=0) hy
          rw[Nat.zero_add]at this
          exact List.mem_cons_of_mem _ this
        rcases hAs.get hmem with hf|hA
        ·exfalso
         unfold HZ at hf
         have h1:(!(List.all (WM 0 ys) fun e=>decide (e<c)==decide (e<i)))=true:=by
          simp only[Bool.not_eq_true',Bool.eq_false_iff]
          intro hall'
          exact hown fun e he=>by simpa using List.all_eq_true.1 hall' e he
         rw[h1,Bool.true_and]at hf
         have h2:(List.all (WM 0 ys) fun e=>(!up (Yf [] l) i e||decide (e<c))&&(!up (Yf [] l) e i||decide (c<=e)))=true:=List.all_eq_true.2 fun e he=>by
          rw[Bool.and_eq_true]
          constructor
          ·cases hu1:up (Yf [] l) i e with
           | false=>rfl
           | true=>
            have:=hupi e hu1
            have h9:=hc2 e he
            rw[this]at h9
            simpa using h9
          ·cases hu1:up (Yf [] l) e i with
           | false=>rfl
           | true=>
            have:=hupe e he hu1
            have h9:=hc2 e he
            rw[this]at h9
            simp at h9
            simpa using h9
         rw[h2]at hf;cases hf
        ·rw[hcs];exact hA
     have haft:y.aft (stg ys (bx,fr) (fun i=>listed.getD i false))=stg ys (bx,fr) (fun j=>(listed.setIfInBounds i true).getD j false):=by
      cases y with
      | pu d=>
       show stg ys (bx,fr) (fun i=>listed.getD i false)=_
       refine YF _ _ _ _ fun e ⟨d',b,f,he⟩=>?_
       have hne:i ≠ e:=fun e'=>by subst e';rw[q1]at he;cases he
       rw[getD_set_ne false hne]
      | ef d b f=>
       show(b,f)=_
       have hie:i ∈ WM 0 ys:=Yl.2 ⟨i,by omega,d,b,f,q1⟩
       have e3:stg ys (bx,fr) (fun j=>(listed.setIfInBounds i true).getD j false)=stg ys (bx,fr) (fun j=>decide (j<i+1)):=YF _ _ _ _ fun e he=>by
        have hee:=Yl.2 ⟨e,(Nat.zero_add e).symm,he⟩
        rcases Nat.lt_trichotomy e i with hlt' | rfl|hgt
        ·rw[getD_set_ne false (by omega)]
         have h1:=List.all_eq_true.1 (List.all_eq_true.1 hes e hee) i hie
         simp[hlt']at h1
         rw[hupi e h1];simp;omega
        ·simp[hlt]
        ·rw[getD_set_ne false (by omega)]
         have h1:=List.all_eq_true.1 (List.all_eq_true.1 hes i hie) e hee
         simp[hgt]at h1
         rw[hupe e hee h1];simp;omega
       rw[e3,JK _ _ _ _ q1]
       rfl
     have hM0:MidE ⟨g,(stg ys (bx,fr) (fun i=>listed.getD i false)).2,w⟩ (g.ρ.length,(stg ys (bx,fr) (fun i=>listed.getD i false)).2.length) n tm (stg ys (bx,fr) (fun i=>listed.getD i false)) l (ds.zipIdx.map (mkA ja t K)) listed g a w:=⟨⟨Nat.le_refl _,Nat.le_refl _⟩,hM.size,hM.defers,hM.mem,Evo.refl _,hM.tm,hM.closed,hM.len⟩
     refine Q3 (y:=y) hchk hlk (hl K) (hdst K) hM0 ho' hi (by rw[hdl];exact him) (hget K i y.d o ho' q2 hij) (by rw[hrs K i o ho' him];exact hAL) fun g' a' w' hM'=>?_
     rw[haft]at hM'
     refine ih _ g' a' w' K ⟨hM.bd,hM'.size,hM'.defers,hM'.mem,hM.evo.trans hM'.evo,hM'.tm,hM'.closed,hM'.len⟩ (fun hlj=>?_) hut (by omega)
     rw[getD_set_ne false hij]at hlj
     exact(hA hlj).evo hM'.evo
   ·exact(hall fun x hx=>Y5 hM.closed i o ho' hr x (Wv hch (by omega) hil (by omega))).elim
 have hsz:l.toArray.size=l.length:=by simp
 rw[hsz]
 have hfresh:∀ i,(Array.replicate l.length false).getD i false=false:=fun i=>by
  rcases Nat.lt_or_ge i l.length with h|h<;>simp[h]
 have hs0:stg ys (bx,fr) (fun i=>(Array.replicate l.length false).getD i false)=(bx,fr):=W2 _ _ _ fun i _=>hfresh i
 refine main l.length _ g a _ 0 ?_ (fun h=>by rw[hfresh]at h;cases h) (fun i _ _=>hfresh i) ?_
 ·rw[hs0]
  refine⟨hi.bd,hi.size,hi.defers,hi.mem.drew,hi.evo.trans Evo.drew,fun x=>?_,fun m o hm hl=>?_,by simp⟩
  ·have:cur l (ds.zipIdx.map (mkA ja t 0)) tm (Array.replicate l.length false) x=look tm x:=by
    unfold cur
    have hf:(List.range l.length).find? (fun i=>(Array.replicate l.length false).getD i false&&(((ds.zipIdx.map (mkA ja t 0))[i]?).map (·.1)==some x))=none:=by
     apply List.find?_eq_none.2
     intro i _
     rw[hfresh];simp
    rw[hf]
   rw[this]
   exact(hi.tm x).drew
  ·rw[hfresh]at hl;cases hl
 ·unfold left
  rw[List.countP_eq_length.2 (fun i _=>by rw[hfresh];rfl),List.length_range]
theorem UW [Known][Dfr]{id:Nat}(m ja:Nat){t e ty:Nat}{pos:String}{after:Array Edge}{ti:Ti}{l acts:List Oper}(hT:chk P T=true)(hm:P.follows .mixedOrders=true)(hch:Wk l m=true)(hchk:YB l=true)(hlk:Jk n l=true)(hE:Qx l=true)(hlen:Nat.beq (l.take m).length m=true)(hacts:nfl (l.drop m)=some acts)
  (hja:l[ja]?=some ⟨some t,.alloc e,ty,pos,after,none⟩) (hjm:Nat.blt ja m=true) (hti:tl T e=some ti) (hz:((l.take m).all fun o=>!(YQ l o).contains t)=true)
  (h:AE P l n 0 (l.take m) tm bx fr ys tm' bx' fr') (hO:AOj P l n (l.take m) ys tm bx fr ja) (k:AZk P l acts n [(t,.al (ti.zero.map ZK.d))] tm' bx' fr' ee Q) :
  AW P (.region id l.toArray true) ⟨n,tm,bx,fr,ee⟩ Q:=
 IQ hT hm hchk hlk hE hch (Nat.eq_of_beq_eq_true hlen) (Yd hacts) hja (by simpa[Nat.blt_eq]using hjm) hti hz h hO k.run
end
end Go.Av
end
section
open Go.RowKit Go.Pl
namespace Go.Av
mutual
def KV (b:Nat):D->List (Nat × Nat)
 | .bsl b' o n' _=>match Nat.beq b' b with
  | true=>[(o,n')]
  | false=>[]
 | .agg ds=>Xn b ds
 | .tup ds=>Xn b ds
 | .fn _ ds=>Xn b ds
 | .iface _ d=>KV b d
 | _=>[]
def Xn (b:Nat):List D->List (Nat × Nat)
 | []=>[]
 | d::ds=>KV b d++Xn b ds
end
def N5 (b:Nat):List (Nat × D)->List (Nat × Nat)
 | []=>[]
 | (_,d)::tm=>KV b d++N5 b tm
def N6 (b:Nat):List (List D)->List (Nat × Nat)
 | []=>[]
 | d::bx=>Xn b d++N6 b bx
def N7 (n:Nat):List (Nat × Nat)->Prop
 | []=>True
 | p::l=>p=(0,n)/\N7 n l
theorem Xo {n:Nat}:∀ {l:List (Nat × Nat)},N7 n l->∀ p ∈ l,p=(0,n)
 | [],_,p,h=>by simp at h
 | q::l,⟨h1,h2⟩,p,h=>by
  rcases List.mem_cons.1 h with rfl|h
  ·exact h1
  ·exact Xo h2 p h
mutual
theorem IR {b n:Nat}:∀(d:D),(∀ p ∈ KV b d,p=(0,n))->SOk b n d
 | .bsl b' o n' c,h=>by
  unfold SOk
  unfold KV at h
  rcases Nat.lt_trichotomy b' b with hl|rfl|hg
  ·exact .inl (by simpa[Nat.blt_eq]using hl)
  ·right;right
   have:=h (o,n') (by simp)
   simp only[Prod.mk.injEq]at this
   exact⟨rfl,this.1,this.2⟩
  ·exact .inr (.inl (by simpa[Nat.blt_eq]using hg))
 | .agg ds,h=>by unfold SOk;exact QU ds (by simpa only[KV]using h)
 | .tup ds,h=>by unfold SOk;exact QU ds (by simpa only[KV]using h)
 | .fn _ ds,h=>by unfold SOk;exact QU ds (by simpa only[KV]using h)
 | .iface _ d,h=>by unfold SOk;exact IR d (by simpa only[KV]using h)
 | .bool _,_=>by unfold SOk;trivial
 | .int _ _,_=>by unfold SOk;trivial
 | .str _,_=>by unfold SOk;trivial
 | .sl _ _,_=>by unfold SOk;trivial
 | .nilp,_=>by unfold SOk;trivial
 | .ptr _ _,_=>by unfold SOk;trivial
 | .eptr _ _,_=>by unfold SOk;trivial
 | .gptr _ _,_=>by unfold SOk;trivial
 | .nilf,_=>by unfold SOk;trivial
 | .nili,_=>by unfold SOk;trivial
 | .junk,_=>by unfold SOk;trivial
 | .row _ _,_=>by unfold SOk;trivial
theorem QU {b n:Nat}:∀(ds:List D),(∀ p ∈ Xn b ds,p=(0,n))->Jv b n ds
 | [],_=>by unfold Jv;trivial
 | d::ds,h=>by
  unfold Jv
  unfold Xn at h
  exact⟨IR d fun p hp=>h p (List.mem_append_left _ hp),QU ds fun p hp=>h p (List.mem_append_right _ hp)⟩
end
theorem Gz {b n:Nat}:∀(tm:List (Nat × D)),(∀ p ∈ N5 b tm,p=(0,n))->O2 b n tm
 | [],_=>by unfold O2;trivial
 | (k,d)::tm,h=>by
  unfold N5 at h
  exact Hu (IR d fun p hp=>h p (List.mem_append_left _ hp)) (Gz tm fun p hp=>h p (List.mem_append_right _ hp))
theorem GA {b n:Nat}:∀(bx:List (List D)),(∀ p ∈ N6 b bx,p=(0,n))->O3 b n bx
 | [],_=>by unfold O3;trivial
 | d::bx,h=>by
  unfold N6 at h
  exact Hv (QU d fun p hp=>h p (List.mem_append_left _ hp)) (GA bx fun p hp=>h p (List.mem_append_right _ hp))
section
variable {P:Program} {Q:X->St->Prop} {n:Nat} {ee:Nat × Nat} {tm:List (Nat × D)} {bx:List (List D)} {fr:List Fr} {ops:Array Oper} {rest:List Oper}
theorem Xp [Known][Dfr]{b z m:Nat}{l:List E}{ms ms2:List (Nat × Nat)}{tm2:List (Nat × D)}{bx2:List (List D)}(hb:bx[b]?=some [.row z (flat l)])(hge:Nat.ble ee.1 b=true)(hl:l.length=m)(ho:nfl (N5 b tm)=some ms)(ho2:N7 m ms)(hob:nfl (N6 b (bx.take b))=some ms2)(hob2:N7 m ms2)
  (htm:nft (tm.map fun p=>(p.1,stD b l p.2))=some tm2) (hbx:nfb ((bx.take b).map (U1 b l))=some bx2) (k:AL P ops rest ⟨n,tm2,bx2,fr,ee⟩ Q):AL P ops rest ⟨n,tm,bx,fr,ee⟩ Q:=
 Hw hb hge hl (Gz _ fun p hp=>Xo ho2 p (Yd ho ▸ hp)) (GA _ fun p hp=>Xo hob2 p (Yd hob ▸ hp)) htm hbx k
end
end Go.Av
end
