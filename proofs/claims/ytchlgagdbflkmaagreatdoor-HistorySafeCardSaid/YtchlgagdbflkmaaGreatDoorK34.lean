/- Regions that draw their order and hold an append whose new room is not known ahead (draft). -/
import Derived.Test.YtchlgagdbflkmaaGreatDoorK33
import Derived.Test.YtchlgagdbflkmaaGreatDoorK32
set_option linter.unusedSimpArgs false
set_option linter.unusedVariables false
section
open Go.RowKit Go.Pl
namespace Go.Av
section
variable {P:Program} {T:Tab} {Q:X->St->Prop} {n:Nat} {ee:Nat × Nat} {tm tm':List (Nat × D)} {bx bx':List (List D)} {fr fr':List Fr} {b0:Bs} {g:G} {w:World} {a:Act} {ys:List Y}
theorem Hk [Known][Dfr]{l:List Oper}{dsc:Nat->List (Nat × D)}{d0:List (Nat × D)}{listed:Array Bool}{s:List (List D) × List Fr}{yc:Nat->Y}{okc:Nat->Prop}{c0:Nat}(h0:okc c0)(hef:∀ c,∃ d b f,yc c=.ef d b f)(hchk:Yt l=true)(hlk:Qa n l=true)(hlc:∀ c,okc c->(dsc c).length<=l.length)(hdstc:∀ c,okc c->HD n l (dsc c))
  (hMc:∀ c,okc c->MidE b0 ee n tm s l (dsc c) listed g a w) {i:Nat} {o:Oper} (ho':l[i]?=some o) (hi:i ∈ Region.ready .any l.toArray listed) (hidsc:∀ c,okc c->i<(dsc c).length) (hdc:∀ c,okc c->(dsc c)[i]?=some (Yg n i o,(yc c).d)) (htake:∀ c,okc c->(dsc c).take i=d0)
  (hAL:AL P l.toArray [o] ⟨n,Z8 l o (d0.reverse++tm),s.1,s.2,(s.1.length,s.2.length)⟩ (fun X S=>∃ c,okc c/\qY o s.1 s.2 (yc c) X S)) {K:Act->World->Prop} {Q2:Exit->Act->World->Prop} (hK:∀ c g' a' w',okc c->MidE b0 ee n tm ((yc c).aft s) l (dsc c) (listed.setIfInBounds i true) g' a' w'->K a' w') :
  wpOp P l.toArray Q2 i K a w:=by
 have hM:=hMc c0 h0
 have hl:=hlc c0 h0
 have hdst:=hdstc c0 h0
 have hids:=hidsc c0 h0
 obtain⟨hn0,o2,ho,hr⟩:=mem_ready.1 hi
 have:o2=o:=by
  have h:l[i]?=some o2:=by simpa using ho
  rw[ho']at h;injection h with h;exact h.symm
 subst this
 have hil:i<l.length:=(List.getElem?_eq_some_iff.1 ho').1
 have hn:listed.getD i false=false:=by
  have:i<listed.size:=by rw[hM.len];exact hil
  simp[this]at hn0 ⊢;exact hn0
 have hinv:Inv ⟨g,s.2,w⟩ ⟨n,Z8 l o2 (d0.reverse++tm),s.1,s.2,(s.1.length,s.2.length)⟩ g a w:=by
  rw[<- htake c0 h0]
  refine⟨hM.size,hM.defers,hM.mem,fun x=>?_,Evo.refl _,by rw[hM.mem.bl];exact Nat.le_refl _,Nat.le_refl _⟩
  by_cases hx:x ∈ Wn l o2
  ·dsimp only
   rw[WM _ hx,<- Q3 hchk hlk hl hdst hM.closed ho' hn hr (Nat.le_of_lt hids) hx]
   exact hM.tm x
  ·dsimp only
   rw[YP _ hx]
   exact .junk _
 have hrun:=hAL.run ⟨g,s.2,w⟩ g a w hinv
 have fin:∀ a' w',(∃ v,a'=a.put o2.dst v)->wpList P l.toArray (Wk ⟨g,s.2,w⟩ (fun X S=>∃ c,okc c/\qY o2 s.1 s.2 (yc c) X S)) [] a' w'->K a' w':=by
  rintro a' w' ⟨v,rfl⟩ h
  obtain⟨S',g',hi',c,hc,hq⟩:=h
  obtain⟨yd,yb,yf,hy⟩:=hef c
  have hd:=hdc c hc
  have hl:=hlc c hc
  have hdst:=hdstc c hc
  have hM:=hMc c hc
  have hN:=hdst.one hchk hl
  have hK:=hK c
  generalize dsc c=ds at *
  generalize yc c=y at *
  obtain⟨n',tm2,bx2,fr2,ee'⟩:=S'
  have hn':n'=n:=by
   have h1:=hi'.size
   dsimp only at h1
   rw[<- h1,<- hM.size]
   cases hd':o2.dst<;>simp[Act.put,hd']
  subst hn'
  obtain⟨g',hmem,hevo,hdef,hval⟩:∃ g',Mem g' (y.aft s).1 (y.aft s).2 w'/\Evo ⟨g,s.2,w⟩ ⟨g',(y.aft s).2,w'⟩/\(a.put o2.dst v).defers=Dfr.l/\V w' g' (y.aft s).2 y.d ((a.put o2.dst v).tmps.getD (Yg n' i o2) undef):=by
   cases y with
   | ef d b f=>
    obtain⟨q1,q2,q3⟩:=hq
    dsimp only at q1 q2
    subst q1 q2
    refine⟨g',hi'.mem,hi'.evo,hi'.defers,?_⟩
    cases hds:o2.dst with
    | none=>rw[hds]at q3;simp only at q3;subst q3;exact .junk _
    | some t=>
     rw[hds]at q3
     dsimp only at q3
     have:=hi'.tm t
     rw[hds]at this
     dsimp only at this
     simp only[Yg,hds,Y.d]
     rw[<- q3];exact this
   | pu d=>
    cases hds:o2.dst with
    | none=>
     simp only[qY,hds]at hq
     obtain⟨rfl,q2,q3⟩:=hq
     subst q2 q3
     have h1:=hi'.defers
     rw[hds]at h1
     exact⟨g',hi'.mem,hi'.evo,h1,.junk _⟩
    | some t=>
     simp only[qY,hds]at hq
     have hdef:=hi'.defers
     rw[hds]at hdef
     rcases hq with⟨q1,q2,q3⟩ | ⟨q1,q2,q3,q4⟩
     ·dsimp only at q1 q2 q3
      subst q1 q2
      refine⟨g',hi'.mem,hi'.evo,hdef,?_⟩
      have:=hi'.tm t
      rw[hds]at this
      dsimp only at this
      simp only[Yg,hds,Y.d]
      rw[<- q3];exact this
     ·dsimp only at q1 q2 q3
      have h1:Inv ⟨g,s.2,w⟩ ⟨n',[(t,d)],bx2,fr2,(g.ρ.length,s.2.length)⟩ g' (a.put o2.dst v) w':=by
       refine⟨hi'.size,hi'.defers,hi'.mem,fun x=>?_,hi'.evo,Nat.le_refl _,Nat.le_refl _⟩
       by_cases hx:x=t
       ·subst hx
        have:=hi'.tm x
        dsimp only at this ⊢
        simp only[look,Nat.beq_refl]
        rcases q3 with q3|q3
        ·rw[<- q3];exact this
        ·rw[<- q3];exact this.wk
       ·have hb:Nat.beq t x=false:=by
         cases hb:Nat.beq t x with
         | false=>rfl
         | true=>exact(hx (Nat.eq_of_beq_eq_true hb).symm).elim
        simp only[look,hb]
        exact .junk _
      have h2:=h1.cut (k:=s.1.length) (m:=s.2.length) (by show g.ρ.length<=_;rw[hM.mem.bl];exact Nat.le_refl _) (Nat.le_refl _) (by simp only[KN,q4]) (by rw[q1];exact hM.mem.allLt)
      rw[q1,q2]at h2
      refine⟨_,h2.mem,h2.evo,hdef,?_⟩
      have:=h2.tm t
      rw[hds]at this
      dsimp only at this
      simp only[look,Nat.beq_refl]at this
      simp only[Yg,hds,Y.d]
      exact this
  refine hK g' _ _ hc ⟨hM.bd,hi'.size,hdef,hmem,hM.evo.trans hevo,fun x=>?_,fun m om hm hlm e he hb=>?_,by simp[hM.len]⟩
  ·by_cases hx:x=Yg n' i o2
   ·subst hx
    rw[Yq hN hl hd,if_pos (by simp[hM.len,hil])]
    exact hval
   ·have hcur:cur l ds tm (listed.setIfInBounds i true) x=cur l ds tm listed x:=by
     by_cases hex:∃(j:Nat) (d:D),ds[j]?=some (x,d)
     ·obtain⟨j,dj,hj⟩:=hex
      have hne:i ≠ j:=fun e=>by
       subst e
       rw[hd]at hj;injection hj with hj;injection hj with hj
       exact hx hj.symm
      rw[Yq hN hl hj,Yq hN hl hj,getD_set_ne false hne]
     ·have hno:∀(j:Nat) (p:Nat × D),ds[j]?=some p->p.1 ≠ x:=fun j p hj e=>hex ⟨j,p.2,by rw[hj,<- e]⟩
      rw[YQ hno,YQ hno]
    rw[hcur]
    have htm:(a.put o2.dst v).tmps.getD x undef=a.tmps.getD x undef:=by
     cases hds:o2.dst with
     | none=>rfl
     | some t=>
      simp only[Yg,hds]at hx
      simp[Act.put,Array.getD_getElem?,Array.getElem?_setIfInBounds_ne (Ne.symm hx)]
    rw[htm]
    exact(hM.tm x).evo hevo
  ·by_cases hmi:m=i
   ·subst hmi
    rw[ho']at hm;injection hm with hm;subst hm
    exact getD_set_true (hr e he hb)
   ·rw[getD_set_ne false (Ne.symm hmi)]at hlm
    exact getD_set_true (hM.closed m om hm hlm e he hb)
 unfold wpOp
 simp only[ho]
 unfold wpList at hrun
 by_cases hw:Region.wanted o2 (yielded l.toArray a.tmps)=true
 ·rw[if_pos hw]at hrun
  rw[if_pos hw]
  have hL:LetsOut (Wk ⟨g,s.2,w⟩ (fun X S=>∃ c,okc c/\qY o2 s.1 s.2 (yc c) X S))->False:=fun⟨_,_,h⟩=>h
  rcases hrun with hrun|⟨_,hlo⟩
  ·refine .inl ?_
   have:=Jm (Q2:=Q2) hrun hM.defers (fun a w h=>by obtain⟨S',g',hi',_⟩:=h;exact hi'.defers) (fun c a w h=>by obtain⟨_,_,_,_,_,_,_,_,_,hq⟩:=h;exact(by cases NF hq)) hL
   exact Oper.wp_mono (P:=P) (fun a' w' h=>fin a' w' h.1 h.2) this
  ·exact(hL hlo).elim
 ·rw[if_neg hw]at hrun
  rw[if_neg hw]
  exact fin _ _ ⟨undef,rfl⟩ hrun
theorem MidE.same [Known][Dfr]{l:List Oper}{ds ds':List (Nat × D)}{listed:Array Bool}{s:List (List D) × List Fr}(h:MidE b0 ee n tm s l ds listed g a w)(hc:∀ x,cur l ds' tm listed x=cur l ds tm listed x):MidE b0 ee n tm s l ds' listed g a w:=
 ⟨h.bd,h.size,h.defers,h.mem,h.evo,fun x=>by rw[hc];exact h.tm x,h.closed,h.len⟩
theorem Tk {α:Type}{l1 l2:List α}{x:α}{i:Nat}:(l1++x::l2)[i]?=if i<l1.length then l1[i]? else if i=l1.length then some x else l2[i-(l1.length+1)]? := by
 rw[List.getElem?_append]
 by_cases h:i<l1.length
 ·rw[if_pos h,if_pos h]
 ·rw[if_neg h,if_neg h]
  by_cases h2:i=l1.length
  ·rw[if_pos h2,h2];simp
  ·rw[if_neg h2]
   obtain⟨k,rfl⟩:∃ k,i=l1.length+1+k:=⟨i-(l1.length+1),by omega⟩
   rw[show l1.length+1+k-l1.length=k+1 from by omega,show l1.length+1+k-(l1.length+1)=k from by omega]
   simp
def KQ:List Y->Bool
 | []=>true
 | .pu _::ys=>KQ ys
 | .ef _ _ _::_=>false
theorem Uy:∀ {ys:List Y},KQ ys=true->∀(i:Nat) (y:Y),ys[i]?=some y->∃ d,y=.pu d
 | [],_,i,y,h=>by simp at h
 | .pu d::ys,_,0,y,h=>by simp at h;exact⟨d,h.symm⟩
 | .pu d::ys,h0,i+1,y,h=>Uy (ys:=ys) h0 i y (by simpa using h)
 | .ef _ _ _::_,h0,_,_,_=>by simp[KQ]at h0
theorem Gs {ys:List Y}(h:KQ ys=true)(s:List (List D) × List Fr)(p:Nat->Bool):stg ys s p=s:=VR _ _ _ fun i ⟨d,b,f,e⟩=>by
 obtain⟨d',h'⟩:=Uy h i _ e
 cases h'
theorem Hl [Known][Dfr]{id m ja t:Nat}{l acts:List Oper}{oja:Oper}{ys1 ys2:List Y}{dc:Nat->D}{bc:Nat->List (List D)}{fc:Nat->List Fr}{okc:Nat->Prop}{c0:Nat}{tm1:List (Nat × D)}{tmc:Nat->List (Nat × D)}(hc0:okc c0)(hm:P.follows .mixedOrders=true)(hchk:Yt l=true)(hlk:Qa n l=true)(hE:QQ l=true)(hch:Wf l m=true)(hlen:(l.take m).length=m)(hacts:l.drop m=acts)
  (hja:l[ja]?=some oja) (hjd:oja.dst=some t) (htn:t<n) (hjm:ja<m) (n1:KQ ys1=true) (n2:KQ ys2=true)
  (h1:AE P l n 0 (l.take ja) tm bx fr ys1 tm1 bx fr)
  (hJ:AL P l.toArray [oja] ⟨n,Z8 l oja tm1,bx,fr,(bx.length,fr.length)⟩ (fun X S=>∃ c,okc c/\qY oja bx fr (.ef (dc c) (bc c) (fc c)) X S))
  (h2:∀ c,okc c->AE P l n (ja+1) ((l.take m).drop (ja+1)) ((t,dc c)::tm1) (bc c) (fc c) ys2 (tmc c) (bc c) (fc c))
  (hO:∀ c,okc c->AOt P l n (l.take m) (ys1++.ef (dc c) (bc c) (fc c)::ys2) tm bx fr)
  (k:∀ c,okc c->AL P l.toArray acts ⟨n,tmc c,bc c,fc c,ee⟩ Q) :
  AW P (.region id l.toArray true) ⟨n,tm,bx,fr,ee⟩ Q:=by
 have hml:m<=l.length:=by rw[List.length_take]at hlen;omega
 have hlj:(l.take ja).length=ja:=by rw[List.length_take];omega
 have hlr:((l.take m).drop (ja+1)).length=m-(ja+1):=by rw[List.length_drop,hlen]
 obtain⟨ds1,a1,a1y,a2,_,a3⟩:=h1.steps
 obtain⟨ds2,c1,c1y,c2,_,c3⟩:=(h2 c0 hc0).steps
 rw[hlj]at a1 a1y
 rw[hlr]at c1 c1y
 have hot:Yg n ja oja=t:=by simp[Yg,hjd]
 have hds2:∀ c,okc c->∀(ds:List (Nat × D)),ds.length=m-(ja+1)->(∀(i:Nat) (o:Oper),((l.take m).drop (ja+1))[i]?=some o->∃ y,ys2[i]?=some y/\ds[i]?=some (Yg n (ja+1+i) o,y.d))->ds=ds2:=fun c hc ds hl hd=>by
  apply List.ext_getElem?
  intro i
  rcases Nat.lt_or_ge i (m-(ja+1)) with h|h
  ·have ho:=List.getElem?_eq_getElem (l:=(l.take m).drop (ja+1)) (i:=i) (by omega)
   obtain⟨y,p1,p2⟩:=hd i _ ho
   obtain⟨y',p3,p4,_⟩:=c3 i _ ho
   rw[p1]at p3;injection p3 with p3;subst p3
   rw[p2,p4]
  ·rw[List.getElem?_eq_none (by omega),List.getElem?_eq_none (by omega)]
 have h2c:∀ c,okc c->tmc c=ds2.reverse++((t,dc c)::tm1)/\∀(i:Nat) (o:Oper),((l.take m).drop (ja+1))[i]?=some o->∃ y,ys2[i]?=some y/\ds2[i]?=some (Yg n (ja+1+i) o,y.d)/\Ua n o=true/\AL P l.toArray [o] ⟨n,Z8 l o ((ds2.take i).reverse++((t,dc c)::tm1)),bc c,fc c,((bc c).length,(fc c).length)⟩ (qY o (bc c) (fc c) y):=fun c hc=>by
  obtain⟨ds,d1,d1y,d2,_,d3⟩:=(h2 c hc).steps
  rw[hlr]at d1
  have e:=hds2 c hc ds d1 fun i o ho=>by
   obtain⟨y,p1,p2,_⟩:=d3 i o ho
   exact⟨y,p1,p2⟩
  subst e
  refine⟨d2,fun i o ho=>?_⟩
  obtain⟨y,p1,p2,p3,p4⟩:=d3 i o ho
  rw[Gs n2]at p4
  exact⟨y,p1,p2,p3,p4⟩
 obtain⟨dsc,hdsc⟩:∃ f:Nat->List (Nat × D),f=fun c=>ds1++(t,dc c)::ds2:=⟨_,rfl⟩
 have hdg:∀ c i,(dsc c)[i]?=if i<ja then ds1[i]? else if i=ja then some (t,dc c) else ds2[i-(ja+1)]? := fun c i=>by rw[hdsc];dsimp only;rw[Tk,a1]
 have hdl:∀ c,(dsc c).length=m:=fun c=>by rw[hdsc];simp[a1,c1];omega
 have hdlt:∀ c,(dsc c).length<=l.length:=fun c=>by rw[hdl];exact hml
 have htk:∀(i:Nat) (o:Oper),l[i]?=some o->i<m->(l.take m)[i]?=some o:=fun i o ho hi=>by rw[List.getElem?_take,if_pos hi];exact ho
 have htj:∀(i:Nat) (o:Oper),l[i]?=some o->i<ja->(l.take ja)[i]?=some o:=fun i o ho hi=>by rw[List.getElem?_take,if_pos hi];exact ho
 have htr:∀(i:Nat) (o:Oper),l[i]?=some o->ja<i->i<m->((l.take m).drop (ja+1))[i-(ja+1)]?=some o:=fun i o ho hi him=>by
  rw[List.getElem?_drop,show ja+1+(i-(ja+1))=i from by omega];exact htk i o ho him
 have hyg:∀ c i,(ys1++Y.ef (dc c) (bc c) (fc c)::ys2)[i]?=if i<ja then ys1[i]? else if i=ja then some (Y.ef (dc c) (bc c) (fc c)) else ys2[i-(ja+1)]? := fun c i=>by rw[Tk,a1y]
 have hpu:∀(i:Nat) (o:Oper),l[i]?=some o->i<m->i ≠ ja->∃ d,(∀ c,(ys1++Y.ef (dc c) (bc c) (fc c)::ys2)[i]?=some (.pu d))/\(∀ c,(dsc c)[i]?=some (Yg n i o,d))/\Ua n o=true:=fun i o ho him hij=>by
  rcases Nat.lt_or_ge i ja with h|h
  ·obtain⟨y,p1,p2,p3,_⟩:=a3 i o (htj i o ho h)
   obtain⟨d,rfl⟩:=Uy n1 _ _ p1
   exact⟨d,fun c=>by rw[hyg,if_pos h];exact p1,fun c=>by rw[hdg,if_pos h,p2,Nat.zero_add];rfl,p3⟩
  ·obtain⟨y,p1,p2,p3,_⟩:=c3 _ o (htr i o ho (by omega) him)
   obtain⟨d,rfl⟩:=Uy n2 _ _ p1
   rw[show ja+1+(i-(ja+1))=i from by omega]at p2
   exact⟨d,fun c=>by rw[hyg,if_neg (by omega),if_neg hij];exact p1,fun c=>by rw[hdg,if_neg (by omega),if_neg hij,p2];rfl,p3⟩
 have hdj:∀ c,(dsc c)[ja]?=some (t,dc c):=fun c=>by rw[hdg,if_neg (Nat.lt_irrefl _),if_pos rfl]
 have hdst:∀ c,okc c->HD n l (dsc c):=fun c hc i o ho hd=>by
  rw[hdl]at hd
  by_cases hij:i=ja
  ·subst hij
   rw[hja]at ho;injection ho with ho;subst ho
   exact⟨dc c,by rw[hdj,hot],⟨fun h=>(by rw[hjd]at h;cases h),by simp[Ua,hjd,Nat.blt_eq,htn]⟩⟩
  ·obtain⟨d,p1,p2,p3⟩:=hpu i o ho hd hij
   obtain⟨es,sts,_,_,_,_,hJ0⟩:=(hO c hc).out
   exact⟨d,p2 c,fun hn=>hJ0 i o _ (htk i o ho hd) (p1 c) hn,p3⟩
 have htake:∀ c,(dsc c).take ja=ds1:=fun c=>by rw[hdsc];dsimp only;rw[List.take_append_of_le_length (by omega),List.take_of_length_le (by omega)]
 have hisEf:∀ c i,Ty (ys1++Y.ef (dc c) (bc c) (fc c)::ys2) i->i=ja:=fun c i ⟨d,b,f,he⟩=>by
  by_cases hij:i=ja
  ·exact hij
  ·exfalso
   rw[hyg,if_neg hij]at he
   by_cases hlt:i<ja
   ·rw[if_pos hlt]at he
    obtain⟨d',h'⟩:=Uy n1 _ _ he
    cases h'
   ·rw[if_neg hlt]at he
    obtain⟨d',h'⟩:=Uy n2 _ _ he
    cases h'
 refine⟨fun b0 g a w hi=>wp_region_any hm ?_⟩
 have main:∀(fuel:Nat) (listed:Array Bool) (g:G) (a:Act) (w:World),((listed.getD ja false=false/\∀ c,okc c->MidE b0 ee n tm (bx,fr) l (dsc c) listed g a w)\/(listed.getD ja false=true/\∃ c,okc c/\MidE b0 ee n tm (bc c,fc c) l (dsc c) listed g a w))->(∀ i,m<=i->i<l.length->listed.getD i false=false)->left l listed=fuel->wpAny P .any l.toArray (Wk b0 Q) fuel listed a w:=by
  intro fuel
  have hend:∀(listed:Array Bool) (g:G) (a:Act) (w:World),((listed.getD ja false=false/\∀ c,okc c->MidE b0 ee n tm (bx,fr) l (dsc c) listed g a w)\/(listed.getD ja false=true/\∃ c,okc c/\MidE b0 ee n tm (bc c,fc c) l (dsc c) listed g a w))->(∀ i,i<m->listed.getD i false=true)->wpList P l.toArray (Wk b0 Q) acts a w:=fun listed g a w hM hall=>by
   rcases hM with⟨hf,_⟩ | ⟨_,c,hc,hM⟩
   ·rw[hall ja hjm]at hf;cases hf
   ·have hinv:=X0 hchk (hdlt c) (hdst c hc) hM fun i hi=>hall i (by rw[hdl]at hi;exact hi)
    have:(dsc c).reverse++tm=tmc c:=by
     rw[(h2c c hc).1,hdsc,a2]
     simp
    rw[this]at hinv
    exact(k c hc).run b0 g a w hinv
  have hlsz:∀(listed:Array Bool) (g:G) (a:Act) (w:World),((listed.getD ja false=false/\∀ c,okc c->MidE b0 ee n tm (bx,fr) l (dsc c) listed g a w)\/(listed.getD ja false=true/\∃ c,okc c/\MidE b0 ee n tm (bc c,fc c) l (dsc c) listed g a w))->listed.size=l.length/\(∀(m:Nat) (o:Oper),l[m]?=some o->listed.getD m false=true->∀ e ∈ o.after,Region.binds .any e=true->listed.getD e.on false=true):=fun listed g a w h=>by
   rcases h with⟨_,h⟩ | ⟨_,c,_,h⟩
   ·exact⟨(h c0 hc0).len,(h c0 hc0).closed⟩
   ·exact⟨h.len,h.closed⟩
  induction fuel with
  | zero=>
   intro listed g a w hM hu h0
   obtain⟨hMl,hMc⟩:=hlsz listed g a w hM
   have hml':l.length=m:=by
    rcases Nat.lt_or_ge m l.length with h|h
    ·have h5:=hu m (Nat.le_refl _) h
     have h6:=Yx h0 h
     rw[h5]at h6;cases h6
    ·omega
   exact WP hE hch 0 m listed a w (by omega) (Nat.le_refl _) hMl (fun i hi=>by rw[Yx h0 hi];simp;omega) (by rw[hacts];exact hend listed g a w hM (fun i hi=>Yx h0 (by omega)))
  | succ fuel ih=>
   intro listed g a w hM hu hf
   obtain⟨hMl,hMc⟩:=hlsz listed g a w hM
   by_cases hall:∀ i,i<m->listed.getD i false=true
   ·have hls:∀ i,i<l.length->(listed.getD i false=true ↔ i<m):=fun i hi=>by
     rcases Nat.lt_or_ge i m with h|h
     ·simp[hall i h,h]
     ·rw[hu i h hi];simp;omega
    refine WP hE hch (fuel+1) m listed a w (by rw[<- hf,UH hls];omega) (Nat.le_refl _) hMl hls (by rw[hacts];exact hend listed g a w hM hall)
   refine⟨fun he=>(Um hE hMl (by omega) he).elim,fun i hi=>?_⟩
   obtain⟨hn0,o,ho,hr⟩:=mem_ready.1 hi
   have ho':l[i]?=some o:=by simpa using ho
   have hil:i<l.length:=(List.getElem?_eq_some_iff.1 ho').1
   have hlt:i<listed.size:=by rw[hMl];exact hil
   have hn:listed.getD i false=false:=by simp[hlt]at hn0 ⊢;exact hn0
   have hleft:=U8 hil hMl hn
   by_cases him:i<m
   ·have hut:∀ x,m<=x->x<l.length->(listed.setIfInBounds i true).getD x false=false:=fun x hx hxl=>by
     rw[getD_set_ne false (by omega)]
     exact hu x hx hxl
    by_cases hij:i=ja
    ·subst hij
     rw[hja]at ho';injection ho' with ho';subst ho'
     rcases hM with⟨_,hM⟩ | ⟨ht,_⟩
     ·refine Hk (s:=(bx,fr)) (dsc:=dsc) (d0:=ds1) (yc:=fun c=>.ef (dc c) (bc c) (fc c)) (okc:=okc) hc0 (fun c=>⟨_,_,_,rfl⟩) hchk hlk (fun c _=>hdlt c) hdst hM hja hi (fun c _=>by rw[hdl];exact hjm) (fun c _=>by rw[hdj,hot];rfl) (fun c _=>htake c) (by rw[<- a2];exact hJ) fun c g' a' w' hc hM'=>ih _ g' a' w' (.inr ⟨by simp[hlt],c,hc,hM'⟩) hut (by omega)
     ·rw[hn]at ht;cases ht
    ·obtain⟨d,p1,p2,p3⟩:=hpu i o ho' him hij
     have hsetj:(listed.setIfInBounds i true).getD ja false=listed.getD ja false:=getD_set_ne false hij
     have hupi:∀ e,up (Yp [] l) i e=true->listed.getD e false=true:=fun e he=>Wr hMc i o ho' hr e he
     have hAO:∀ c,okc c->∀(c':Nat) (b:List (List D)) (f:List Fr),(c'=0/\b=bx/\f=fr/\listed.getD ja false=false/\ja<i)\/(c'=ja+1/\b=bc c/\f=fc c/\listed.getD ja false=true/\i<ja)->AL P l.toArray [o] ⟨n,Z8 l o (((dsc c).take i).reverse++tm),b,f,(b.length,f.length)⟩ (qY o b f (.pu d)):=fun c hc c' b f hcase=>by
      obtain⟨es,sts,e1,e2,hes,hAO,hJ0⟩:=(hO c hc).out
      have e1:=Yn e1
      have e2:=Yn e2
      subst e1 e2
      have hAs:=hAO.get (i:=i) (htk i o ho' him) (p1 c) (dsc c) (fun j oj yj hj k1 k2=>by
       have hjl:l[j]?=some oj:=by
        rw[List.getElem?_take,if_pos (by omega)]at k1;exact k1
       rw[Nat.zero_add]
       by_cases hjj:j=ja
       ·subst hjj
        rw[hja]at hjl;injection hjl with hjl;subst hjl
        rw[hyg,if_neg (Nat.lt_irrefl _),if_pos rfl]at k2
        injection k2 with k2;subst k2
        rw[hdj,hot];rfl
       ·obtain⟨d',r1,r2,_⟩:=hpu j oj hjl (by omega) hjj
        rw[r1]at k2;injection k2 with k2;subst k2
        rw[r2];rfl) (by rw[hdl];omega)
      rw[Nat.zero_add]at hAs
      have hmem:(c',b,f) ∈ ((0,bx,fr)::QW 0 (ys1++Y.ef (dc c) (bc c) (fc c)::ys2)):=by
       rcases hcase with⟨rfl,rfl,rfl,_⟩ | ⟨rfl,rfl,rfl,_⟩
       ·simp
       ·have:=QE (i0:=0) (ys:=ys1++Y.ef (dc c) (bc c) (fc c)::ys2) (i:=ja) (d:=dc c) (b:=bc c) (f:=fc c) (by rw[hyg,if_neg (Nat.lt_irrefl _),if_pos rfl])
        rw[Nat.zero_add]at this
        exact List.mem_cons_of_mem _ this
      rcases hAs.get hmem with hf|hA
      ·exfalso
       have hjes:ja ∈ V5 0 (ys1++Y.ef (dc c) (bc c) (fc c)::ys2):=Wh.2 ⟨ja,by omega,dc c,bc c,fc c,by rw[hyg,if_neg (Nat.lt_irrefl _),if_pos rfl]⟩
       have hes1:∀ e ∈ V5 0 (ys1++Y.ef (dc c) (bc c) (fc c)::ys2),e=ja:=fun e he=>by
        obtain⟨j,hj,hj'⟩:=Wh.1 he
        have:=hisEf c j hj'
        omega
       unfold NG at hf
       have h1:(!(List.all (V5 0 (ys1++Y.ef (dc c) (bc c) (fc c)::ys2)) fun e=>decide (e<c')==decide (e<i)))=true:=by
        simp only[Bool.not_eq_true',Bool.eq_false_iff]
        intro hall'
        have:=List.all_eq_true.1 hall' ja hjes
        rcases hcase with⟨rfl,_,_,_,hlt'⟩ | ⟨rfl,_,_,_,hlt'⟩
        ·simp at this;omega
        ·simp at this;omega
       rw[h1,Bool.true_and]at hf
       have h2:(List.all (V5 0 (ys1++Y.ef (dc c) (bc c) (fc c)::ys2)) fun e=>(!up (Yp [] l) i e||decide (e<c'))&&(!up (Yp [] l) e i||decide (c'<=e)))=true:=List.all_eq_true.2 fun e he=>by
        have:=hes1 e he
        subst this
        rw[Bool.and_eq_true]
        rcases hcase with⟨rfl,_,_,hjf,hlt'⟩ | ⟨rfl,_,_,hjf,hlt'⟩
        ·refine⟨?_,by simp⟩
         cases hu1:up (Yp [] l) i e with
         | false=>rfl
         | true=>rw[hupi e hu1]at hjf;cases hjf
        ·refine⟨by simp,?_⟩
         cases hu1:up (Yp [] l) e i with
         | false=>rfl
         | true=>
          have:=Wr hMc e _ hja (hMc e _ hja hjf) i hu1
          rw[hn]at this;cases this
       rw[h2]at hf;cases hf
      ·exact hA
     rcases hM with⟨hjf,hM⟩ | ⟨hjt,c,hc,hM⟩
     ·
      have hAL:AL P l.toArray [o] ⟨n,Z8 l o (((dsc c0).take i).reverse++tm),bx,fr,(bx.length,fr.length)⟩ (qY o bx fr (.pu d)):=by
       rcases Nat.lt_or_ge i ja with h|h
       ·obtain⟨y,q1,q2,q3,q4⟩:=a3 i o (htj i o ho' h)
        have hy:=p1 c0
        rw[hyg,if_pos h,q1]at hy
        injection hy with hy;subst hy
        rw[Gs n1]at q4
        have:(dsc c0).take i=ds1.take i:=by rw[hdsc];dsimp only;rw[List.take_append_of_le_length (by omega)]
        rw[this];exact q4
       ·exact hAO c0 hc0 0 bx fr (.inl ⟨rfl,rfl,rfl,hjf,by omega⟩)
      refine QF (y:=.pu d) hchk hlk (hdlt c0) (hdst c0 hc0) (hM c0 hc0) ho' hi (by rw[hdl];exact him) (p2 c0) hAL fun g' a' w' hM'=>ih _ g' a' w' (.inl ⟨by rw[hsetj];exact hjf,fun c hc=>?_⟩) hut (by omega)
      refine hM'.same fun x=>?_
      have hjf':(listed.setIfInBounds i true).getD ja false=false:=by rw[hsetj];exact hjf
      by_cases hex:∃(j:Nat) (y:D),(dsc c0)[j]?=some (x,y)
      ·obtain⟨j,y,hj⟩:=hex
       by_cases hjj:j=ja
       ·subst hjj
        have e0:=hdj c0
        rw[hj]at e0;injection e0 with e0;injection e0 with e0 e0'
        subst e0
        rw[Yq ((hdst c hc).one hchk (hdlt c)) (hdlt c) (hdj c),Yq ((hdst c0 hc0).one hchk (hdlt c0)) (hdlt c0) hj,hjf']
        simp
       ·have hj':(dsc c)[j]?=some (x,y):=by
         rw[hdg]at hj ⊢
         by_cases hlt':j<ja
         ·rw[if_pos hlt']at hj ⊢;exact hj
         ·rw[if_neg hlt',if_neg hjj]at hj ⊢;exact hj
        rw[Yq ((hdst c hc).one hchk (hdlt c)) (hdlt c) hj',Yq ((hdst c0 hc0).one hchk (hdlt c0)) (hdlt c0) hj]
      ·have hno:∀ c' (j:Nat) (p:Nat × D),(dsc c')[j]?=some p->p.1 ≠ x:=fun c' j p hj e=>by
        apply hex
        by_cases hjj:j=ja
        ·subst hjj
         rw[hdj]at hj;injection hj with hj;subst hj
         exact⟨j,dc c0,by rw[hdj,<- e]⟩
        ·refine⟨j,p.2,?_⟩
         rw[<- e]
         rw[hdg]at hj ⊢
         by_cases hlt':j<ja
         ·rw[if_pos hlt']at hj ⊢;exact hj
         ·rw[if_neg hlt',if_neg hjj]at hj ⊢;exact hj
       rw[YQ (hno c),YQ (hno c0)]
     ·have hAL:AL P l.toArray [o] ⟨n,Z8 l o (((dsc c).take i).reverse++tm),bc c,fc c,((bc c).length,(fc c).length)⟩ (qY o (bc c) (fc c) (.pu d)):=by
       rcases Nat.lt_or_ge i ja with h|h
       ·exact hAO c hc (ja+1) (bc c) (fc c) (.inr ⟨rfl,rfl,rfl,hjt,h⟩)
       ·obtain⟨y,q1,q2,q3,q4⟩:=(h2c c hc).2 _ o (htr i o ho' (by omega) him)
        have hy:=p1 c
        rw[hyg,if_neg (by omega),if_neg hij,q1]at hy
        injection hy with hy;subst hy
        have:((dsc c).take i).reverse++tm=(ds2.take (i-(ja+1))).reverse++((t,dc c)::tm1):=by
         obtain⟨k,rfl⟩:∃ k,i=ja+1+k:=⟨i-(ja+1),by omega⟩
         rw[hdsc]
         dsimp only
         rw[List.take_append,a1,List.take_of_length_le (by omega),show ja+1+k-ja=k+1 from by omega,show ja+1+k-(ja+1)=k from by omega,List.take_succ_cons,a2]
         simp
        rw[this];exact q4
      refine QF (y:=.pu d) (s:=(bc c,fc c)) hchk hlk (hdlt c) (hdst c hc) hM ho' hi (by rw[hdl];exact him) (p2 c) hAL fun g' a' w' hM'=>ih _ g' a' w' (.inr ⟨by rw[hsetj];exact hjt,c,hc,hM'⟩) hut (by omega)
   ·exact(hall fun x hx=>Wr hMc i o ho' hr x (WZ hch (by omega) hil (by omega))).elim
 have hsz:l.toArray.size=l.length:=by simp
 rw[hsz]
 have hfresh:∀ i,(Array.replicate l.length false).getD i false=false:=fun i=>by
  rcases Nat.lt_or_ge i l.length with h|h<;>simp[h]
 refine main l.length _ g a _ (.inl ⟨hfresh ja,fun c hc=>?_⟩) (fun i _ _=>hfresh i) ?_
 ·refine⟨hi.bd,hi.size,hi.defers,hi.mem.drew,hi.evo.trans Evo.drew,fun x=>?_,fun m o hm hl=>?_,by simp⟩
  ·have:cur l (dsc c) tm (Array.replicate l.length false) x=look tm x:=by
    unfold cur
    have hf:(List.range l.length).find? (fun i=>(Array.replicate l.length false).getD i false&&(((dsc c)[i]?).map (·.1)==some x))=none:=by
     apply List.find?_eq_none.2
     intro i _
     rw[hfresh];simp
    rw[hf]
   rw[this]
   exact(hi.tm x).drew
  ·rw[hfresh]at hl;cases hl
 ·unfold left
  rw[List.countP_eq_length.2 (fun i _=>by rw[hfresh];rfl),List.length_range]
end
end Go.Av
end
section
open Go.RowKit Go.Pl
namespace Go.Av
section
variable {P:Program} {Q:X->St->Prop} {n:Nat} {ee:Nat × Nat} {tm:List (Nat × D)} {bx bx':List (List D)} {fr fr':List Fr} {b0:Bs} {g:G} {w w':World} {a:Act} {T:Tab}
variable {ops:Array Oper} {rest:List Oper} {t ty:Nat} {pos:String} {after:Array Edge}
theorem Mem.reRow [Known](hm:Mem g bx fr w){b blk z z2:Nat}{l l2:List E}{us2:Array Value}{ut:TypeId}(h2:g.ρ[b]?=some blk)(hb:bx[b]?=some [.row z l])(hos:w'.os=w.os)(htape:w'.tape=w.tape)(hout:w'.output=w.output)(hsize:w'.heap.size=w.heap.size)(hfar:∀ k,k ≠ blk->w'.heap[k]?=w.heap[k]?)
  (hheap:w'.heap[blk]?=some (.cells us2 ut (0,0))) (hf:D.fits [.row z2 l2] us2.size) (hv:∀(j:Nat) (x:E) (u:Value),l2[j]?=some x->us2[j]?=some u->VE w g.C x u):Evo ⟨g,fr,w⟩ ⟨g,fr,w'⟩/\Mem g (bx.set b [.row z2 l2]) fr w':=by
 have hcell:∀ k p,g.C k p->w'.cell? ⟨k,p,none⟩=w.cell? ⟨k,p,none⟩:=fun k p hC=>World.cell?_of_block (w:=w) (hfar k fun e=>by
  subst e;exact hm.bC k p (List.mem_of_getElem? h2) hC)
 have hevo:Evo ⟨g,fr,w⟩ ⟨g,fr,w'⟩:=⟨hos,htape,hout,by rw[hsize];exact Nat.le_refl _,fun k hk hn=>hfar k fun e=>hn (.inl (e ▸ List.mem_of_getElem? h2)),fun _ _ h=>h,hcell,fun _ _ h=>.inl h,fun _ _ h=>h,fun _ h=>.inl h,fun _ c h=>.inl ⟨c,h⟩,WF.refl _ _⟩
 refine⟨hevo,?_⟩
 constructor
 ·simp[hm.bl]
 ·intro i k cs' e1 e2
  by_cases hib:i=b
  ·subst hib
   rw[h2]at e1
   injection e1 with e1
   subst e1
   have hlt:i<bx.length:=(List.getElem?_eq_some_iff.1 hb).1
   rw[List.getElem?_set_self hlt]at e2
   injection e2 with e2
   subst e2
   refine⟨us2,ut,hheap,hf,fun j c u hc hu=>?_⟩
   rw[JZ]at hc
   obtain⟨x2,hx2,rfl⟩:=XC hc
   exact V.ofC ((hv j x2 u hx2 hu).mono hevo.C hevo.cell)
  ·rw[List.getElem?_set_ne (Ne.symm hib)]at e2
   obtain⟨us',ut',t1,t2,t3⟩:=hm.bat i k cs' e1 e2
   have hne:k ≠ blk:=fun e=>by
    subst e
    exact hib (hm.bN i b k e1 h2)
   exact⟨us',ut',(hfar k hne).trans t1,t2,fun j c u hc hu=>(t3 j c u hc hu).evo hevo⟩
 ·exact hm.bC
 ·exact hm.bN
 ·exact hm.tl
 ·intro i k c f e1 e2
  have hTk:=hm.tat i k c f e1 e2
  obtain⟨cur,s1,s2⟩:=hTk.row
  have hne:k ≠ blk:=fun e=>by
   subst e
   exact hm.tρ k c (List.mem_of_getElem? e1) (List.mem_of_getElem? h2)
  exact⟨⟨cur,(hfar k hne).trans s1,s2⟩,hTk.le,hTk.max,hTk.pos,hTk.far⟩
 ·exact hm.tN
 ·exact hm.tρ
 ·intro k p hC
  rw[hsize];exact hm.Clt k p hC
 ·exact hm.gl.evo hevo
theorem Jb [Known][Dfr](hT:chk P T=true){x y:Operand}{st e b m c z:Nat}{l l':List E}{ti te:Ti}{bx2:List (List D)}(ht:tl T st=some ti)(hk:ti.kd=.slice e)(hte:tl T e=some te)(hx:ev tm x=.bsl b 0 m c)(hy:Src bx te.size (ev tm y) l')
  (hb:bx[b]?=some [.row z (flat l)]) (hm:l.length=m) (hz:z=c*te.size) (hc0:0<c) (hU:Uni te.size l) (hU':Uni te.size l') (hne:l' ≠ []) (hlen:l.length+l'.length<=maxLen) (hby:(l.length+l'.length)*te.bytes<=140737488355328)
  (hpos:Nat.blt 0 te.size=true) (hroom:l.length+l'.length<=c) (hbx:nfb (bx.set b [.row (c*te.size) (flat (l++l'))])=some bx2) (htd:Nat.blt t n=true)
  (k:AL P ops rest ⟨n,(t,.bsl b 0 (l.length+l'.length) c)::tm,bx2,fr,ee⟩ Q):AL P ops (⟨some t,.call { callee:=.builtin .append,args := #[x,y],argTypes := #[st,st] },ty,pos,after,none⟩::rest) ⟨n,tm,bx,fr,ee⟩ Q:=
 Hb (fun b0 g a w hi=>by
  have h1:V w g fr (ev tm x) (a.eval x):=hi.ev x
  have h2:V w g fr (ev tm y) (a.eval y):=hi.ev y
  rw[hx]at h1
  obtain⟨ad,cc,news,hyv,n1,n2,n3,n4⟩:=hy hi.mem h2 hU' hne
  have hpos':0<l'.length:=List.length_pos_iff.2 hne
  obtain⟨blk,cap0,hρ,hmc,hmax,hxv,hcc⟩:=XB h1
  obtain rfl:c=cap0:=by omega
  have hm0:=hi.mem
  obtain⟨cur,e2,s1,s2,s3,s4⟩:=hm0.rowc hρ hb
  have hpos:0<te.size:=by simpa[Nat.blt_eq]using hpos
  have hblk:blk<w.heap.size:=(Array.getElem?_eq_some_iff.1 s1).1
  have hu:=(ZP hT ht).slice hk
  obtain⟨ie,ue,zv,i1,i2,i3,i4,i5,i6,i7⟩:=(ZP hT hte).out
  have hzz:=(Vu (w:=w) (g:=g) (fr:=fr) i7).1
  subst hm
  have hzp:0<c*te.size:=Nat.mul_pos hc0 hpos
  replace s2:cur.size=c*te.size:=by rcases s2 with s2|s2<;>omega
  have hcurle:l.length*te.size<=cur.size:=by rw[s2];exact Nat.mul_le_mul_right _ hmc
  have hl2:(cur.toList.take (l.length*te.size)).length=l.length*te.size:=by simp;omega
  have olds:(cur.toList.take (l.length*te.size)).length=l.length*ie.size:=by rw[<- i5];exact hl2
  have oget:∀(j:Nat) (u:Value),(cur.toList.take (l.length*te.size))[j]?=some u->cur[j]?=some u:=fun j u hu=>by
   have:j<l.length*te.size/\cur[j]?=some u:=by simpa[List.getElem?_take]using hu
   exact this.2
  have hflat:=hU.flat
  have hmul:(l.length+l'.length)*te.size=l.length*te.size+l'.length*te.size:=Nat.add_mul _ _ _
  have hUU:=hU.append hU'
  have hfl2:(flat (l++l')).length=l.length*te.size+news.length:=by rw[hUU.flat,List.length_append,n1,hmul]
  have hnew:∀(j:Nat) (x:E) (u:Value),(flat (l++l'))[j]?=some x->(cur.toList.take (l.length*te.size)++news)[j]?=some u->VE w g.C x u:=fun j x2 u hx2 hu=>by
   rw[U4]at hx2
   rcases Nat.lt_or_ge j (l.length*te.size) with hj|hj
   ·rw[List.getElem?_append_left (by omega)]at hx2
    rw[List.getElem?_append_left (by omega)]at hu
    exact s4 j x2 u hx2 (oget j u hu)
   ·rw[List.getElem?_append_right (by omega),hflat]at hx2
    rw[List.getElem?_append_right (by omega),hl2]at hu
    exact n4 _ x2 u hx2 hu
  have hfit:l.length*ie.size+news.length<=cur.size:=by rw[n1,<- i5,s2,<- Nat.add_mul];exact Nat.mul_le_mul_right _ hroom
  have hr:=JY (P:=P) w st ty e e2 ie hu i1 blk l.length c cur s1 ad l'.length cc news (by rw[<- i5];exact n1) n2 n3 hroom hfit
  obtain⟨w',hw'⟩:∃ w',w'=w.setRow blk (cur.toList.take (l.length*ie.size)++news++cur.toList.drop (l.length*ie.size+news.length)).toArray:=⟨_,rfl⟩
  rw[<- hw']at hr
  rw[<- i5]at hw' hfit
  have hheap:w'.heap[blk]?=some (.cells (cur.toList.take (l.length*te.size)++news++cur.toList.drop (l.length*te.size+news.length)).toArray e2 (0,0)):=by
   rw[hw'];exact setRow_heap w blk cur _ e2 _ s1
  have hsz:w'.heap.size=w.heap.size:=by rw[hw'];simp[World.setRow]
  have hfar:∀ k,k<w.heap.size->k ≠ blk->w'.heap[k]?=w.heap[k]? := fun k _ hne=>by rw[hw'];simp only[World.setRow,Array.getElem?_modify];rw[if_neg (fun e=>hne e.symm)]
  have hCb:∀ o,¬ g.C blk o:=fun o=>hm0.bC blk o (List.mem_of_getElem? hρ)
  have hcell:∀ k o,g.C k o->w'.cell? ⟨k,o,none⟩=w.cell? ⟨k,o,none⟩:=fun k o h=>World.cell?_of_block (w:=w) (hfar k (hm0.Clt k o h) fun e=>by subst e;exact hCb o h)
  have hsize2:(cur.toList.take (l.length*te.size)++news++cur.toList.drop (l.length*te.size+news.length)).toArray.size=c*te.size:=by
   simp only[List.size_toArray,List.length_append,hl2,List.length_drop,Array.length_toList];omega
  obtain⟨q1,q2⟩:=hm0.reRow (w':=w') (z2:=c*te.size) (l2:=flat (l++l')) hρ hb (by rw[hw'];rfl) (by rw[hw'];rfl) (by rw[hw'];rfl) hsz (fun k hne=>by rw[hw'];simp only[World.setRow,Array.getElem?_modify];rw[if_neg (fun e=>hne e.symm)]) hheap
   (by rw[hsize2];exact Kq (by have:=Nat.mul_le_mul_right te.size hroom;rw[hmul]at this;have:1<=l'.length*te.size:=Nat.mul_pos hpos' hpos;omega) (by rw[hfl2,n1,<- hmul];exact Nat.mul_le_mul_right _ hroom))
   (fun j x2 v hx2 hv=>by
    have hjl:=(List.getElem?_eq_some_iff.1 hx2).1
    rw[hfl2]at hjl
    rw[List.getElem?_toArray,List.getElem?_append_left (by rw[List.length_append,hl2];exact hjl)]at hv
    exact hnew j x2 v hx2 hv)
  have e6:=Wl hbx
  rw[e6]at q2
  exact⟨.slice (some ⟨blk,0,none⟩) (l.length+l'.length) c,w',tm,bx2,fr,g,_,by simp only[execOp,resolve,invoke,builtin,Sem.run_bind,Sem.run_pure,Result.andThen_ok,List.map_toArray,List.map_cons,List.map_nil,hxv,hyv,hr],⟨hi.size,hi.defers,q2,fun t=>(hi.tm t).evo q1,hi.evo.trans q1,hi.bd⟩,.bsl b 0 _ c blk c hρ hroom hmax (.inr rfl),k⟩) htd
theorem Jc [Known][Dfr](hT:chk P T=true){x y:Operand}{st e b m c z m2:Nat}{l l':List E}{ti te:Ti}{bx2:Nat->List (List D)}(ht:tl T st=some ti)(hk:ti.kd=.slice e)(hte:tl T e=some te)(hx:ev tm x=.bsl b 0 m c)(hy:Src bx te.size (ev tm y) l')
  (hb:bx[b]?=some [.row z (flat l)]) (hm:l.length=m) (hz:z=c*te.size) (hc0:0<c) (hU:Uni te.size l) (hU':Uni te.size l') (hne:l' ≠ []) (hlen:l.length+l'.length<=maxLen) (hby:(l.length+l'.length)*te.bytes<=140737488355328)
  (hpos:Nat.blt 0 te.size=true) (hfull:c<l.length+l'.length) (hm2:bx.length=m2) (hbx:∀ c',nfb (bx++[[.row (c'*te.size) (flat (l++l'))]])=some (bx2 c')) (htd:Nat.blt t n=true)
  (k:∀ c',l.length+l'.length<=c'->AL P ops rest ⟨n,(t,.bsl m2 0 (l.length+l'.length) c')::tm,bx2 c',fr,ee⟩ Q):AL P ops (⟨some t,.call { callee:=.builtin .append,args := #[x,y],argTypes := #[st,st] },ty,pos,after,none⟩::rest) ⟨n,tm,bx,fr,ee⟩ Q:=
 Hb (fun b0 g a w hi=>by
  have h1:V w g fr (ev tm x) (a.eval x):=hi.ev x
  have h2:V w g fr (ev tm y) (a.eval y):=hi.ev y
  rw[hx]at h1
  obtain⟨ad,cc,news,hyv,n1,n2,n3,n4⟩:=hy hi.mem h2 hU' hne
  have hpos':0<l'.length:=List.length_pos_iff.2 hne
  obtain⟨blk,cap0,hρ,hmc,hmax,hxv,hcc⟩:=XB h1
  obtain rfl:c=cap0:=by omega
  have hm0:=hi.mem
  obtain⟨cur,e2,s1,s2,s3,s4⟩:=hm0.rowc hρ hb
  have hpos:0<te.size:=by simpa[Nat.blt_eq]using hpos
  have hblk:blk<w.heap.size:=(Array.getElem?_eq_some_iff.1 s1).1
  have hu:=(ZP hT ht).slice hk
  obtain⟨ie,ue,zv,i1,i2,i3,i4,i5,i6,i7⟩:=(ZP hT hte).out
  have hzz:=(Vu (w:=w) (g:=g) (fr:=fr) i7).1
  subst hm
  have hzp:0<c*te.size:=Nat.mul_pos hc0 hpos
  replace s2:cur.size=c*te.size:=by rcases s2 with s2|s2<;>omega
  have hcurle:l.length*te.size<=cur.size:=by rw[s2];exact Nat.mul_le_mul_right _ hmc
  have hl2:(cur.toList.take (l.length*te.size)).length=l.length*te.size:=by simp;omega
  have olds:(cur.toList.take (l.length*te.size)).length=l.length*ie.size:=by rw[<- i5];exact hl2
  have oget:∀(j:Nat) (u:Value),(cur.toList.take (l.length*te.size))[j]?=some u->cur[j]?=some u:=fun j u hu=>by
   have:j<l.length*te.size/\cur[j]?=some u:=by simpa[List.getElem?_take]using hu
   exact this.2
  have hflat:=hU.flat
  have hmul:(l.length+l'.length)*te.size=l.length*te.size+l'.length*te.size:=Nat.add_mul _ _ _
  have hUU:=hU.append hU'
  have hfl2:(flat (l++l')).length=l.length*te.size+news.length:=by rw[hUU.flat,List.length_append,n1,hmul]
  have hnew:∀(j:Nat) (x:E) (u:Value),(flat (l++l'))[j]?=some x->(cur.toList.take (l.length*te.size)++news)[j]?=some u->VE w g.C x u:=fun j x2 u hx2 hu=>by
   rw[U4]at hx2
   rcases Nat.lt_or_ge j (l.length*te.size) with hj|hj
   ·rw[List.getElem?_append_left (by omega)]at hx2
    rw[List.getElem?_append_left (by omega)]at hu
    exact s4 j x2 u hx2 (oget j u hu)
   ·rw[List.getElem?_append_right (by omega),hflat]at hx2
    rw[List.getElem?_append_right (by omega),hl2]at hu
    exact n4 _ x2 u hx2 hu
  have hroom:¬ (l.length+l'.length<=c):=by omega
  have hr:=run_append_grow (P:=P) w st ty e ie zv hu i1 i3 ⟨blk,0,none⟩ l.length c (cur.toList.take (l.length*te.size)) olds (fun j u hu=>by rw[Addr.add_mid,Nat.zero_add,cell_of_row w blk j cur e2 (0,0) s1];exact oget j u hu) ad l'.length cc news (by rw[<- i5];exact n1) n2 (by omega) (by simp only[maxLen]at hlen;omega) (growslice_fits (by omega) (by rw[<- i6];exact hby))
  have hgc:=grownCap_ge w (l.length+l'.length) c e
  have hcm:=grownCap_le_maxLen w (l.length+l'.length) c e hlen
  obtain⟨C2,hC2⟩:∃ C2,C2=grownCap w (l.length+l'.length) c e:=⟨_,rfl⟩
  rw[<- hC2]at hr hgc hcm
  have hcurr:(cur.toList.take (l.length*te.size)).toArray++news.toArray++Builtin.zeroCells zv.cells (C2-(l.length+l'.length))=(cur.toList.take (l.length*te.size)++news++(Builtin.zeroCells zv.cells (C2-(l.length+l'.length))).toList).toArray:=by simp
  rw[hcurr]at hr
  obtain⟨rest',hrest⟩:∃ rest',rest'=(Builtin.zeroCells zv.cells (C2-(l.length+l'.length))).toList:=⟨_,rfl⟩
  have hzc:zv.cells.size=ie.size:=by
   rw[<- Array.length_toList,hzz,<- i5]
   exact(Xu hT hte).symm
  have hrl:rest'.length=(C2-(l.length+l'.length))*te.size:=by rw[hrest,Array.length_toList,size_zeroCells,hzc,<- i5]
  rw[<- hrest]at hr
  have hsize2:(cur.toList.take (l.length*te.size)++news++rest').length=C2*te.size:=by
   simp only[List.length_append,hl2,n1,hrl,<- Nat.add_mul];congr 1;omega
  have hd0:Mem g bx fr w.drew:=hm0.drew
  obtain⟨k1,k2⟩:=hd0.box0 (cur.toList.take (l.length*te.size)++news++rest') [.row (C2*te.size) (flat (l++l'))] e (by
    rw[hsize2];exact Kq (by have:=Nat.mul_le_mul_right te.size hgc;rw[hmul]at this;have:1<=l'.length*te.size:=Nat.mul_pos hpos' hpos;omega) (by rw[hfl2,n1,<- hmul];exact Nat.mul_le_mul_right _ hgc)) (fun j d v hd hv=>by
    rw[JZ]at hd
    have hjl:=(List.getElem?_eq_some_iff.1 hd).1
    rw[List.length_map,hfl2]at hjl
    rw[List.getElem?_append_left (by rw[List.length_append,hl2];exact hjl)]at hv
    obtain⟨x2,hx2,rfl⟩:=XC hd
    exact V.ofC (hnew j x2 v hx2 hv).drew)
  have e1:=Wl (hbx C2)
  rw[e1]at k2
  have hevo:=Evo.drew.trans k1
  refine⟨.slice (some ⟨w.heap.size,0,none⟩) (l.length+l'.length) C2,_,tm,bx2 C2,fr,_,.bsl m2 0 _ C2,by simp only[execOp,resolve,invoke,builtin,Sem.run_bind,Sem.run_pure,Result.andThen_ok,List.map_toArray,List.map_cons,List.map_nil,hxv,hyv,hr],⟨hi.size,hi.defers,k2,fun t=>(hi.tm t).evo hevo,hi.evo.trans hevo,hi.bd⟩,.bsl _ 0 _ C2 w.heap.size C2 ?_ hgc hcm (.inr rfl),k C2 hgc⟩
  have:=hm0.bl
  dsimp only at this
  show(g.ρ++[w.drew.heap.size])[m2]?=_
  rw[<- hm2,List.getElem?_append_right (by omega),this,Nat.sub_self]
  rfl) htd
theorem OL [Known][Dfr]{id:Nat}(m ja:Nat){t2:Nat}{l acts:List Oper}{oja:Oper}{lp lr:List Oper}{ys1 ys2:List Y}{dc:Nat->D}{bc:Nat->List (List D)}{fc:Nat->List Fr}{tm1 tmr:List (Nat × D)}{tmc:Nat->List (Nat × D)}(okc:Nat->Prop){c0:Nat}(hc0:okc c0)(hm:P.follows .mixedOrders=true)(hch:Wf l m=true)(hchk:Yt l=true)(hlk:Qa n l=true)(hE:QQ l=true)(hlen:Nat.beq (l.take m).length m=true)(hacts:nfl (l.drop m)=some acts)
  (hja:l[ja]?=some oja) (hjd:oja.dst=some t2) (htn:Nat.blt t2 n=true) (hjm:Nat.blt ja m=true) (hlp:nfl (l.take ja)=some lp) (hlr:nfl ((l.take m).drop (ja+1))=some lr)
  (h1:AE P l n 0 lp tm bx fr ys1 tm1 bx fr) (n1:KQ ys1=true) (hr:nfl (Z8 l oja tm1)=some tmr)
  (hJ:AL P l.toArray [oja] ⟨n,tmr,bx,fr,(bx.length,fr.length)⟩ (fun X S=>∃ c,okc c/\qY oja bx fr (.ef (dc c) (bc c) (fc c)) X S))
  (h2:∀ c,okc c->AE P l n (ja+1) lr ((t2,dc c)::tm1) (bc c) (fc c) ys2 (tmc c) (bc c) (fc c)) (n2:KQ ys2=true)
  (hO:∀ c,okc c->AOt P l n (l.take m) (ys1++.ef (dc c) (bc c) (fc c)::ys2) tm bx fr)
  (k:∀ c,okc c->AL P l.toArray acts ⟨n,tmc c,bc c,fc c,ee⟩ Q) :
  AW P (.region id l.toArray true) ⟨n,tm,bx,fr,ee⟩ Q:=
 Hl hc0 hm hchk hlk hE hch (Nat.eq_of_beq_eq_true hlen) (Yn hacts) hja hjd (by simpa[Nat.blt_eq]using htn) (by simpa[Nat.blt_eq]using hjm) n1 n2 (by rw[Yn hlp];exact h1) (by rw[Yn hr];exact hJ) (fun c hc=>by rw[Yn hlr];exact h2 c hc) hO k
theorem Rv [Known][Dfr]{o:Oper}{n t:Nat}{ee:Nat × Nat}{okc:Nat->Prop}{dc:Nat->D}{bc:Nat->List (List D)}{fc:Nat->List Fr}(c:Nat)(hc:okc c)(ho:o.dst=some t)(h:nf (look tm t)=some (dc c))(hb:bx'=bc c)(hf:fr'=fc c):(fun X S=>∃ c,okc c/\qY o bx fr (.ef (dc c) (bc c) (fc c)) X S) .norm ⟨n,tm,bx',fr',ee⟩:=⟨c,hc,by
 subst hb hf
 exact Y2 ho h⟩
theorem MG {okc:Nat->Prop}{R:Nat->Prop}(h:∀ c,okc c->R c):∀ c,okc c->R c:=h
end
end Go.Av
end
section
open Go.RowKit Go.Pl Go.Av
namespace Go.Proofs.YtchlgagdbflkmaaGreatDoor
set_option maxHeartbeats 4000000
structure Ln where
 e:EvV
 r:RyV
 told:Bool
 lost:Bool
abbrev lnL (x:Ln):List E:=[.int .u64 (x.e.now:Int),.int .i64 x.e.kd,.int .u64 (x.e.tok:Int),.int .i64 x.e.ses,.int .u64 (x.e.rq.id:Int),.int .i64 x.e.rq.kd,.bool x.e.rq.ep.i,.int .u64 (x.e.rq.ep.n:Int),.int .u64 (x.e.rq.ep.s:Int),.str x.e.rq.ep.h,.str x.e.rq.ep.d,.bool x.e.rq.ds.i,.int .u64 (x.e.rq.ds.n:Int),.int .u64 (x.e.rq.ds.s:Int),.str x.e.rq.ds.h,.str x.e.rq.ds.d,.int .i64 x.e.rq.pol,.int .i64 x.e.rq.num,.int .i64 x.e.rq.tik,.sl (x.e.rq.pay.map E.byte),.int .u64 (x.e.rq.life:Int),.int .u64 (x.e.rq.tok:Int),.bool x.e.rq.on,.sl (x.e.data.map E.byte),.int .u64 (x.r.id:Int),.int .i64 x.r.err,.int .i64 x.r.num,.int .i64 x.r.cnt,.int .u64 (x.r.tok:Int),.sl (x.r.data.map E.byte),.bool x.told,.bool x.lost]
abbrev lnC (x:Ln):List D:=[.int .u64 (x.e.now:Int),.int .i64 x.e.kd,.int .u64 (x.e.tok:Int),.int .i64 x.e.ses,.int .u64 (x.e.rq.id:Int),.int .i64 x.e.rq.kd,.bool x.e.rq.ep.i,.int .u64 (x.e.rq.ep.n:Int),.int .u64 (x.e.rq.ep.s:Int),.str x.e.rq.ep.h,.str x.e.rq.ep.d,.bool x.e.rq.ds.i,.int .u64 (x.e.rq.ds.n:Int),.int .u64 (x.e.rq.ds.s:Int),.str x.e.rq.ds.h,.str x.e.rq.ds.d,.int .i64 x.e.rq.pol,.int .i64 x.e.rq.num,.int .i64 x.e.rq.tik,byE x.e.rq.pay,.int .u64 (x.e.rq.life:Int),.int .u64 (x.e.rq.tok:Int),.bool x.e.rq.on,byE x.e.data,.int .u64 (x.r.id:Int),.int .i64 x.r.err,.int .i64 x.r.num,.int .i64 x.r.cnt,.int .u64 (x.r.tok:Int),byE x.r.data,.bool x.told,.bool x.lost]
abbrev lnE (x:Ln):E:=.agg (lnL x)
def Vb (x:Ln):Prop:=x.e.data.length<=3000/\x.e.rq.pay.length<=3000/\x.r.data.length<=3000
theorem Gt (l:List Ln):Uni 32 (l.map lnE):=Uni.map (f:=lnE) (fun _=>rfl) l
abbrev lnF (L:List Ln):List E:=flat (L.map lnE)
theorem Uz (x:Ln)(L:List Ln):lnF (x::L)=lnL x++lnF L:=rfl
theorem UR (L:List Ln):(lnF L).length=L.length*32:=by
 induction L with
 | nil=>rfl
 | cons x L ih=>rw[Uz,List.length_append,ih];show 32+L.length*32=(L.length+1)*32;omega
theorem KD (x:Ln):(lnL x).length=32:=rfl
theorem Ii:∀ {L:List Ln} {i:Nat} {x:Ln},L[i]?=some x->(lnF L).drop (i*32)=lnL x++(lnF (L.drop (i+1)))
 | [],i,x,h=>by simp at h
 | m::L,0,x,h=>by simp at h;subst h;rfl
 | m::L,i+1,x,h=>by
  have h2:L[i]?=some x:=by simpa using h
  have:=Ii h2
  rw[Uz,show(i+1)*32=(lnL m).length+i*32 by rw[KD];omega,List.drop_length_add_append,this]
  rfl
theorem J7 {L:List Ln}{i:Nat}{x:Ln}(j:Nat)(h:L[i]?=some x)(hj:j<32):(lnF L)[i*32+j]?=(lnL x)[j]? := by
 have:=Ii h
 rw[<- List.getElem?_drop,this,List.getElem?_append_left (by rw[KD];exact hj)]
theorem KE {L:List Ln}{i:Nat}{x:Ln}(h:L[i]?=some x):((lnF L).drop (i*32)).take 32=lnL x:=by
 rw[Ii h,List.take_append_of_le_length (by rw[KD];exact Nat.le_refl _)]
 rfl
theorem Jd (A B:List E)(o:Nat)(es:List E):WB (A++B) (A.length+o) es=A++WB B o es:=by
 unfold WB
 rw[List.take_length_add_append,show A.length+o+es.length=A.length+(o+es.length) by omega,List.drop_length_add_append];simp only[List.append_assoc]
theorem Tl:∀ {L:List Ln} {i:Nat} {x:Ln} (b:Bool),L[i]?=some x->WB (lnF L) (i*32+30) [.bool b]=lnF (L.set i ⟨x.e,x.r,b,x.lost⟩)
 | [],i,x,b,h=>by simp at h
 | m::L,0,x,b,h=>by simp at h;subst h;rfl
 | m::L,i+1,x,b,h=>by
  have h2:L[i]?=some x:=by simpa using h
  rw[List.set_cons_succ,Uz,Uz,<- Tl b h2,show(i+1)*32+30=(lnL m).length+(i*32+30) by rw[KD];omega,Jd]
theorem Tm:∀ {L:List Ln} {i:Nat} {x:Ln} (b:Bool),L[i]?=some x->WB (lnF L) (i*32+31) [.bool b]=lnF (L.set i ⟨x.e,x.r,x.told,b⟩)
 | [],i,x,b,h=>by simp at h
 | m::L,0,x,b,h=>by simp at h;subst h;rfl
 | m::L,i+1,x,b,h=>by
  have h2:L[i]?=some x:=by simpa using h
  rw[List.set_cons_succ,Uz,Uz,<- Tm b h2,show(i+1)*32+31=(lnL m).length+(i*32+31) by rw[KD];omega,Jd]
abbrev hsN:List (List D):=[[.bool true,.sl .nil [],.int .i64 0]]
abbrev hsR (L:List Ln)(s c:Nat):List (List D):=[[.bool true,.bsl 1 0 L.length c,.int .i64 (s:Int)],[.row (c*32) (lnF L)]]
end Go.Proofs.YtchlgagdbflkmaaGreatDoor
end
