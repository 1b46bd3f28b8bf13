/- Regions that draw their order, with effects: the rule. -/
import Derived.Test.YtchlgagdbflkmaaDoorS08
set_option linter.unusedSimpArgs false
set_option linter.unusedVariables false
section
open Go.RowKit Go.Pl
namespace Go.Av
def HD (n:Nat)(l:List Oper)(ds:List (Nat × D)):Prop:=∀(i:Nat) (o:Oper),l[i]?=some o->i<ds.length->∃ d,ds[i]?=some (Yc n i o,d)/\(o.dst=none->d=.junk)/\Vn n o=true
theorem HD.one {n:Nat}{l:List Oper}{ds:List (Nat × D)}(hchk:YB l=true)(hl:ds.length<=l.length)(hdst:HD n l ds):∀(i j:Nat) (p q:Nat × D),ds[i]?=some p->ds[j]?=some q->p.1=q.1->i=j:=fun x y p q hx hy e=>by
 by_cases hxy:x=y
 ·exact hxy
 ·exfalso
  have hxd:=(List.getElem?_eq_some_iff.1 hx).1
  have hxl:x<l.length:=Nat.lt_of_lt_of_le hxd hl
  have hyd:=(List.getElem?_eq_some_iff.1 hy).1
  have hyl:y<l.length:=Nat.lt_of_lt_of_le hyd hl
  have hc:=W1 hchk hxl hyl hxy
  obtain⟨d1,a1,_,a3⟩:=hdst x _ (List.getElem?_eq_getElem hxl) hxd
  obtain⟨d2,c1,_,c3⟩:=hdst y _ (List.getElem?_eq_getElem hyl) hyd
  rw[hx]at a1;injection a1 with a1
  rw[hy]at c1;injection c1 with c1
  rw[a1,c1]at e
  simp only[Wp,List.getElem?_eq_getElem hxl,List.getElem?_eq_getElem hyl]at hc
  simp only[Yc]at e
  simp only[Vn]at a3 c3
  cases h1:l[x].dst with
  | none=>
   cases h2:l[y].dst with
   | none=>simp[h1,h2]at e;omega
   | some t2=>
    simp[h1,h2]at e
    rw[h2]at c3
    have h9 : @LT.lt Nat instLTNat t2 n:=by have:=c3;simp only[Nat.blt_eq]at this;exact this
    (have e2 : @Eq Nat _ _:=e);omega
  | some t1=>
   rw[h1]at a3
   have h9 : @LT.lt Nat instLTNat t1 n:=by have:=a3;simp only[Nat.blt_eq]at this;exact this
   cases h2:l[y].dst with
   | none=>simp[h1,h2]at e;(have e2 : @Eq Nat _ _:=e);omega
   | some t2=>
    simp[h1,h2]at e
    simp[h1,h2,e]at hc
theorem Qg {n:Nat}{l:List Oper}{ds:List (Nat × D)}{tm:List (Nat × D)}{listed:Array Bool}(hchk:YB l=true)(hlk:Qf n l=true)(hl:ds.length<=l.length)(hdst:HD n l ds)
  (hcl:∀(m:Nat) (o:Oper),l[m]?=some o->listed.getD m false=true->∀ e ∈ o.after,Region.binds .any e=true->listed.getD e.on false=true)
  {i:Nat} {o:Oper} (hi:l[i]?=some o) (hni:listed.getD i false=false) (hr:∀ e ∈ o.after,Region.binds .any e=true->listed.getD e.on false=true) (hid:i<=ds.length) {t:Nat} (ht:t ∈ YQ l o) :
  cur l ds tm listed t=look ((ds.take i).reverse++tm) t:=by
 have hil:i<l.length:=(List.getElem?_eq_some_iff.1 hi).1
 have hN:=hdst.one hchk hl
 have htn:t<n:=by
  have h1:=List.all_eq_true.1 hlk o (List.mem_of_getElem? hi)
  exact(by simpa[Nat.blt_eq]using List.all_eq_true.1 h1 t ht)
 by_cases hex:∃(j:Nat) (d:D),ds[j]?=some (t,d)
 ·obtain⟨j,d,hj⟩:=hex
  have hjd:=(List.getElem?_eq_some_iff.1 hj).1
  have hjl:j<l.length:=Nat.lt_of_lt_of_le hjd hl
  rw[YG hN hl hj]
  have hoj:=List.getElem?_eq_getElem hjl
  obtain⟨d',a1,_,a3⟩:=hdst j _ hoj hjd
  rw[hj]at a1;injection a1 with a1;injection a1 with a1 _
  have a2:l[j].dst=some t:=by
   cases hd:l[j].dst with
   | none=>simp only[Yc,hd]at a1;omega
   | some t'=>simp only[Yc,hd]at a1;rw[a1]
  have hord:j ≠ i->(if j<i then up (Yr [] l) i j else up (Yr [] l) j i)=true:=fun hne=>by
   have hc:=W1 hchk hjl hil hne
   simp only[Wp,hoj,hi,a2,Bool.and_eq_true]at hc
   have h2:=hc.2
   rw[Bool.or_eq_true]at h2
   rcases h2 with h2|h2
   ·simp[ht]at h2
   ·exact h2
  have htake:∀(x:Nat) (p:Nat × D),(ds.take i)[x]?=some p->x<i/\ds[x]?=some p:=fun x p h=>by simpa[List.getElem?_take]using h
  rw[YV]
  by_cases hlist:listed.getD j false=true
  ·rw[if_pos hlist]
   have hne:j ≠ i:=fun e=>by subst e;rw[hni]at hlist;cases hlist
   have hlt:j<i:=by
    rcases Nat.lt_or_ge j i with h|h
    ·exact h
    ·exfalso
     have:=hord hne
     rw[if_neg (by omega)]at this
     have:=Wb hcl j _ hoj (hcl j _ hoj hlist) i this
     rw[hni]at this;cases this
   have hin:(ds.take i)[j]?=some (t,d):=by simp[List.getElem?_take,hlt,hj]
   rw[if_pos (by simp only[List.map_reverse,List.mem_reverse];exact List.mem_map.2 ⟨(t,d),List.mem_of_getElem? hin,rfl⟩)]
   have hN':∀(x y:Nat) (p q:Nat × D),(ds.take i).reverse[x]?=some p->(ds.take i).reverse[y]?=some q->p.1=q.1->x=y:=fun x y p q hx hy e=>by
    have lx:=(List.getElem?_eq_some_iff.1 hx).1
    have ly:=(List.getElem?_eq_some_iff.1 hy).1
    rw[List.getElem?_reverse (by simpa using lx)]at hx
    rw[List.getElem?_reverse (by simpa using ly)]at hy
    have:=hN _ _ p q (htake _ _ hx).2 (htake _ _ hy).2 e
    simp at lx ly this
    omega
   have hlen:(ds.take i).length=i:=by rw[List.length_take];omega
   refine(UZ hN' (i:=i-1-j) (t:=t) (d:=d) ?_).symm
   rw[List.getElem?_reverse (by rw[hlen];omega),hlen,show i-1-(i-1-j)=j from by omega]
   exact hin
  ·rw[if_neg hlist]
   have hge:¬ j<i:=fun hlt=>by
    have:=hord (by omega)
    rw[if_pos hlt]at this
    exact hlist (Wb hcl i o hi hr j this)
   rw[if_neg (fun hm=>by
    simp only[List.map_reverse,List.mem_reverse]at hm
    obtain⟨p,hp,he⟩:=List.mem_map.1 hm
    obtain⟨x,hx⟩:=List.getElem?_of_mem hp
    obtain⟨h1,h2⟩:=htake x p hx
    have:=hN x j p (t,d) h2 hj he
    omega)]
 ·have hno:∀(j:Nat) (p:Nat × D),ds[j]?=some p->p.1 ≠ t:=fun j p hj e=>hex ⟨j,p.2,by rw[hj,<- e]⟩
  rw[YT hno,YV,if_neg (fun hm=>by
   simp only[List.map_reverse,List.mem_reverse]at hm
   obtain⟨p,hp,he⟩:=List.mem_map.1 hm
   obtain⟨x,hx⟩:=List.getElem?_of_mem (List.mem_of_mem_take hp)
   exact hno x p hx he)]
section
variable {P:Program} {Q:X->St->Prop} {n:Nat} {ee:Nat × Nat} {tm tm':List (Nat × D)} {bx bx':List (List D)} {fr fr':List Fr} {b0:Bs} {g:G} {w:World} {a:Act} {ys:List Y}
structure MidE [Known][Dfr](b0:Bs) (ee:Nat × Nat) (n:Nat) (tm:List (Nat × D)) (s:List (List D) × List Fr) (l:List Oper) (ds:List (Nat × D)) (listed:Array Bool) (g:G) (a:Act) (w:World):Prop where
 bd:b0.g.ρ.length<=ee.1/\b0.fr.length<=ee.2
 size:a.tmps.size=n
 defers:a.defers=Dfr.l
 mem:Mem g s.1 s.2 w
 evo:Evo b0 ⟨g,s.2,w⟩
 tm:∀ t,V w g s.2 (cur l ds tm listed t) (a.tmps.getD t undef)
 closed:∀(m:Nat) (o:Oper),l[m]?=some o->listed.getD m false=true->∀ e ∈ o.after,Region.binds .any e=true->listed.getD e.on false=true
 len:listed.size=l.length
theorem Q5 [Known][Dfr]{l:List Oper}{ds:List (Nat × D)}{listed:Array Bool}{s:List (List D) × List Fr}{y:Y}(hchk:YB l=true)(hlk:Qf n l=true)(hl:ds.length<=l.length)(hdst:HD n l ds)
  (hM:MidE b0 ee n tm s l ds listed g a w) {i:Nat} {o:Oper} (ho':l[i]?=some o) (hi:i ∈ Region.ready .any l.toArray listed) (hids:i<ds.length) (hd:ds[i]?=some (Yc n i o,y.d))
  (hAL:AL P l.toArray [o] ⟨n,Yi l o ((ds.take i).reverse++tm),s.1,s.2,(s.1.length,s.2.length)⟩ (qY o s.1 s.2 y)) {K:Act->World->Prop} {Q2:Exit->Act->World->Prop} (hK:∀ g' a' w',MidE b0 ee n tm (y.aft s) l ds (listed.setIfInBounds i true) g' a' w'->K a' w') :
  wpOp P l.toArray Q2 i K a w:=by
 obtain⟨hn0,o2,ho,hr⟩:=mem_ready.1 hi
 have:o2=o:=by
  have h:l[i]?=some o2:=by simpa using ho
  rw[ho']at h;injection h with h;exact h.symm
 subst this
 have hil:i<l.length:=(List.getElem?_eq_some_iff.1 ho').1
 have hn:listed.getD i false=false:=by
  have:i<listed.size:=by rw[hM.len];exact hil
  simp[this]at hn0 ⊢;exact hn0
 have hN:=hdst.one hchk hl
 obtain⟨_,_,_,hok⟩:=hdst i o2 ho' hids
 have hinv:Inv ⟨g,s.2,w⟩ ⟨n,Yi l o2 ((ds.take i).reverse++tm),s.1,s.2,(s.1.length,s.2.length)⟩ g a w:=by
  refine⟨hM.size,hM.defers,hM.mem,fun x=>?_,Evo.refl _,by rw[hM.mem.bl];exact Nat.le_refl _,Nat.le_refl _⟩
  by_cases hx:x ∈ YQ l o2
  ·dsimp only
   rw[W0 _ hx,<- Qg hchk hlk hl hdst hM.closed ho' hn hr (Nat.le_of_lt hids) hx]
   exact hM.tm x
  ·dsimp only
   rw[YZ _ hx]
   exact .junk _
 have hrun:=hAL.run ⟨g,s.2,w⟩ g a w hinv
 have fin:∀ a' w',(∃ v,a'=a.put o2.dst v)->wpList P l.toArray (Ve ⟨g,s.2,w⟩ (qY o2 s.1 s.2 y)) [] a' w'->K a' w':=by
  rintro a' w' ⟨v,rfl⟩ h
  obtain⟨S',g',hi',hq⟩:=h
  obtain⟨n',tm2,bx2,fr2,ee'⟩:=S'
  have hn':n'=n:=by
   have h1:=hi'.size
   dsimp only at h1
   rw[<- h1,<- hM.size]
   cases hd':o2.dst<;>simp[Act.put,hd']
  subst hn'
  obtain⟨g',hmem,hevo,hdef,hval⟩:∃ g',Mem g' (y.aft s).1 (y.aft s).2 w'/\Evo ⟨g,s.2,w⟩ ⟨g',(y.aft s).2,w'⟩/\(a.put o2.dst v).defers=Dfr.l/\V w' g' (y.aft s).2 y.d ((a.put o2.dst v).tmps.getD (Yc n' i o2) undef):=by
   cases y with
   | ef d b f=>
    obtain⟨q1,q2,q3⟩:=hq
    dsimp only at q1 q2
    subst q1 q2
    refine⟨g',hi'.mem,hi'.evo,hi'.defers,?_⟩
    cases hds:o2.dst with
    | none=>rw[hds]at q3;simp only at q3;subst q3;exact .junk _
    | some t=>
     rw[hds]at q3
     dsimp only at q3
     have:=hi'.tm t
     rw[hds]at this
     dsimp only at this
     simp only[Yc,hds,Y.d]
     rw[<- q3];exact this
   | pu d=>
    cases hds:o2.dst with
    | none=>
     simp only[qY,hds]at hq
     obtain⟨rfl,q2,q3⟩:=hq
     subst q2 q3
     have h1:=hi'.defers
     rw[hds]at h1
     exact⟨g',hi'.mem,hi'.evo,h1,.junk _⟩
    | some t=>
     simp only[qY,hds]at hq
     have hdef:=hi'.defers
     rw[hds]at hdef
     rcases hq with⟨q1,q2,q3⟩ | ⟨q1,q2,q3,q4⟩
     ·dsimp only at q1 q2 q3
      subst q1 q2
      refine⟨g',hi'.mem,hi'.evo,hdef,?_⟩
      have:=hi'.tm t
      rw[hds]at this
      dsimp only at this
      simp only[Yc,hds,Y.d]
      rw[<- q3];exact this
     ·dsimp only at q1 q2 q3
      have h1:Inv ⟨g,s.2,w⟩ ⟨n',[(t,d)],bx2,fr2,(g.ρ.length,s.2.length)⟩ g' (a.put o2.dst v) w':=by
       refine⟨hi'.size,hi'.defers,hi'.mem,fun x=>?_,hi'.evo,Nat.le_refl _,Nat.le_refl _⟩
       by_cases hx:x=t
       ·subst hx
        have:=hi'.tm x
        dsimp only at this ⊢
        simp only[look,Nat.beq_refl]
        rcases q3 with q3|q3
        ·rw[<- q3];exact this
        ·rw[<- q3];exact this.wk
       ·have hb:Nat.beq t x=false:=by
         cases hb:Nat.beq t x with
         | false=>rfl
         | true=>exact(hx (Nat.eq_of_beq_eq_true hb).symm).elim
        simp only[look,hb]
        exact .junk _
      have h2:=h1.cut (k:=s.1.length) (m:=s.2.length) (by show g.ρ.length<=_;rw[hM.mem.bl];exact Nat.le_refl _) (Nat.le_refl _) (by simp only[JU,q4]) (by rw[q1];exact hM.mem.allLt)
      rw[q1,q2]at h2
      refine⟨_,h2.mem,h2.evo,hdef,?_⟩
      have:=h2.tm t
      rw[hds]at this
      dsimp only at this
      simp only[look,Nat.beq_refl]at this
      simp only[Yc,hds,Y.d]
      exact this
  refine hK g' _ _ ⟨hM.bd,hi'.size,hdef,hmem,hM.evo.trans hevo,fun x=>?_,fun m om hm hlm e he hb=>?_,by simp[hM.len]⟩
  ·by_cases hx:x=Yc n' i o2
   ·subst hx
    rw[YG hN hl hd,if_pos (by simp[hM.len,hil])]
    exact hval
   ·have hcur:cur l ds tm (listed.setIfInBounds i true) x=cur l ds tm listed x:=by
     by_cases hex:∃(j:Nat) (d:D),ds[j]?=some (x,d)
     ·obtain⟨j,dj,hj⟩:=hex
      have hne:i ≠ j:=fun e=>by
       subst e
       rw[hd]at hj;injection hj with hj;injection hj with hj
       exact hx hj.symm
      rw[YG hN hl hj,YG hN hl hj,getD_set_ne false hne]
     ·have hno:∀(j:Nat) (p:Nat × D),ds[j]?=some p->p.1 ≠ x:=fun j p hj e=>hex ⟨j,p.2,by rw[hj,<- e]⟩
      rw[YT hno,YT hno]
    rw[hcur]
    have htm:(a.put o2.dst v).tmps.getD x undef=a.tmps.getD x undef:=by
     cases hds:o2.dst with
     | none=>rfl
     | some t=>
      simp only[Yc,hds]at hx
      simp[Act.put,Array.getD_getElem?,Array.getElem?_setIfInBounds_ne (Ne.symm hx)]
    rw[htm]
    exact(hM.tm x).evo hevo
  ·by_cases hmi:m=i
   ·subst hmi
    rw[ho']at hm;injection hm with hm;subst hm
    exact getD_set_true (hr e he hb)
   ·rw[getD_set_ne false (Ne.symm hmi)]at hlm
    exact getD_set_true (hM.closed m om hm hlm e he hb)
 unfold wpOp
 simp only[ho]
 unfold wpList at hrun
 by_cases hw:Region.wanted o2 (yielded l.toArray a.tmps)=true
 ·rw[if_pos hw]at hrun
  rw[if_pos hw]
  have hL:LetsOut (Ve ⟨g,s.2,w⟩ (qY o2 s.1 s.2 y))->False:=fun⟨_,_,h⟩=>h
  rcases hrun with hrun|⟨_,hlo⟩
  ·refine .inl ?_
   have:=JV (Q2:=Q2) hrun hM.defers (fun a w h=>by obtain⟨S',g',hi',_⟩:=h;exact hi'.defers) (fun c a w h=>by obtain⟨_,_,_,_,_,_,_,hq⟩:=h;exact(by cases GU hq)) hL
   exact Oper.wp_mono (P:=P) (fun a' w' h=>fin a' w' h.1 h.2) this
  ·exact(hL hlo).elim
 ·rw[if_neg hw]at hrun
  rw[if_neg hw]
  exact fin _ _ ⟨undef,rfl⟩ hrun
theorem JY [Known][Dfr]{l:List Oper}{ds:List (Nat × D)}{listed:Array Bool}{s:List (List D) × List Fr}(hchk:YB l=true)(hl:ds.length<=l.length)(hdst:HD n l ds)
  (hM:MidE b0 ee n tm s l ds listed g a w) (hall:∀ i,i<ds.length->listed.getD i false=true):Inv b0 ⟨n,ds.reverse++tm,s.1,s.2,ee⟩ g a w:=by
 have hN:=hdst.one hchk hl
 refine⟨hM.size,hM.defers,hM.mem,fun x=>?_,hM.evo,hM.bd⟩
 have hx:=hM.tm x
 have hc:cur l ds tm listed x=look (ds.reverse++tm) x:=by
  rw[YV]
  by_cases hex:∃(j:Nat) (d:D),ds[j]?=some (x,d)
  ·obtain⟨j,dj,hj⟩:=hex
   have hjl:=(List.getElem?_eq_some_iff.1 hj).1
   rw[YG hN hl hj,if_pos (hall j hjl),if_pos (by simp only[List.map_reverse,List.mem_reverse];exact List.mem_map.2 ⟨(x,dj),List.mem_of_getElem? hj,rfl⟩)]
   have hN':∀(x y:Nat) (p q:Nat × D),ds.reverse[x]?=some p->ds.reverse[y]?=some q->p.1=q.1->x=y:=fun x y p q hx hy e=>by
    have lx:=(List.getElem?_eq_some_iff.1 hx).1
    have ly:=(List.getElem?_eq_some_iff.1 hy).1
    rw[List.getElem?_reverse (by simpa using lx)]at hx
    rw[List.getElem?_reverse (by simpa using ly)]at hy
    have:=hN _ _ p q hx hy e
    simp at lx ly
    omega
   refine(UZ hN' (i:=ds.length-1-j) ?_).symm
   rw[List.getElem?_reverse (by omega),show ds.length-1-(ds.length-1-j)=j from by omega]
   exact hj
  ·have hno:∀(j:Nat) (p:Nat × D),ds[j]?=some p->p.1 ≠ x:=fun j p hj e=>hex ⟨j,p.2,by rw[hj,<- e]⟩
   rw[YT hno,if_neg (fun hm=>by
    simp only[List.map_reverse,List.mem_reverse]at hm
    obtain⟨p,hp,he⟩:=List.mem_map.1 hm
    obtain⟨y,hy⟩:=List.getElem?_of_mem hp
    exact hno y p hy he)]
 rw[<- hc];exact hx
structure AOt [Known][Dfr](P:Program) (l:List Oper) (n:Nat) (rest:List Oper) (ys:List Y) (tm:List (Nat × D)) (bx:List (List D)) (fr:List Fr):Prop where
 out:∃ es sts,nfl (Vg 0 ys)=some es/\nfl (Ua 0 ys)=some sts/\GC l es=true/\AO P l n es ((0,bx,fr)::sts) 0 rest ys tm/\∀(i:Nat) (o:Oper) (y:Y),rest[i]?=some o->ys[i]?=some y->o.dst=none->y.d=.junk
def OQ:List Oper->List Y->Bool
 | o::l,y::ys=>(match o.dst,y.d with|none,.junk=>true|some _,_=>true|_,_=>false)&&OQ l ys
 | _,_=>true
theorem JZ:∀ {l:List Oper} {ys:List Y},OQ l ys=true->∀(i:Nat) (o:Oper) (y:Y),l[i]?=some o->ys[i]?=some y->o.dst=none->y.d=.junk
 | o0::l,y0::ys,h,0,o,y,h1,h2,h3=>by
  simp at h1 h2
  subst h1 h2
  simp only[OQ,Bool.and_eq_true]at h
  have h:=h.1
  rw[h3]at h
  cases hy:y0.d<;>simp[hy]at h ⊢
 | o0::l,y0::ys,h,i+1,o,y,h1,h2,h3=>by
  simp only[OQ,Bool.and_eq_true]at h
  exact JZ h.2 i o y (by simpa using h1) (by simpa using h2) h3
 | [],ys,h,i,o,y,h1,h2,h3=>by simp at h1
 | o0::l,[],h,i,o,y,h1,h2,h3=>by simp at h2
theorem Zx [Known][Dfr]{l rest:List Oper}{es:List Nat}{sts:List (Nat × List (List D) × List Fr)}(h1:nfl (Vg 0 ys)=some es)(h2:nfl (Ua 0 ys)=some sts)(h3:GC l es=true)(h4:OQ rest ys=true)(h:AO P l n es ((0,bx,fr)::sts) 0 rest ys tm):AOt P l n rest ys tm bx fr:=
 ⟨es,sts,h1,h2,h3,h,JZ h4⟩
structure AY [Known][Dfr](P:Program) (l:List Oper) (S:St) (Q:X->St->Prop):Prop where
 run:∀ b0 g a w,Inv b0 S g a w->wpAny P .any l.toArray (Ve b0 Q) l.toArray.size (Array.replicate l.toArray.size false) a { w with drawn:=w.drawn+1 }
theorem GV [Known][Dfr]{id:Nat}{l:List Oper}{S:St}(hm:P.follows .mixedOrders=true)(h:AY P l S Q):AW P (.region id l.toArray true) S Q:=⟨fun b0 g a w hi=>wp_region_any hm (h.run b0 g a w hi)⟩
theorem KW [Known][Dfr]{m:Nat}{l acts:List Oper}(hchk:YB l=true)(hlk:Qf n l=true)(hE:U9 l=true)(hch:Y0 l m=true)(hlen:(l.take m).length=m)(hacts:l.drop m=acts)(h:AE P l n 0 (l.take m) tm bx fr ys tm' bx' fr')(hO:AOt P l n (l.take m) ys tm bx fr)(k:AL P l.toArray acts ⟨n,tm',bx',fr',ee⟩ Q) :
  AY P l ⟨n,tm,bx,fr,ee⟩ Q:=by
 obtain⟨ds,h1,h1y,h2,hfin,h3⟩:=h.steps
 obtain⟨es,sts,e1,e2,hes,hAO,hJ⟩:=hO.out
 have e1:=Yq e1
 have e2:=Yq e2
 subst e1 e2
 have hml:m<=l.length:=by rw[List.length_take]at hlen;omega
 rw[hlen]at h1 h1y
 have hl:ds.length<=l.length:=by omega
 have htk:∀(i:Nat) (o:Oper),l[i]?=some o->i<m->(l.take m)[i]?=some o:=fun i o ho hi=>by rw[List.getElem?_take,if_pos hi];exact ho
 have hdst:HD n l ds:=fun i o ho hd=>by
  obtain⟨y,q1,q2,q3,_⟩:=h3 i o (htk i o ho (by omega))
  rw[Nat.zero_add]at q2
  exact⟨y.d,q2,hJ i o y (htk i o ho (by omega)) q1,q3⟩
 have hefl:∀ e,OO ys e->e<m:=fun e ⟨d,b,f,he⟩=>by have:=(List.getElem?_eq_some_iff.1 he).1;omega
 refine⟨fun b0 g a w hi=>?_⟩
 have main:∀(fuel:Nat) (listed:Array Bool) (g:G) (a:Act) (w:World),MidE b0 ee n tm (stg ys (bx,fr) (fun i=>listed.getD i false)) l ds listed g a w->(∀ i,m<=i->i<l.length->listed.getD i false=false)->left l listed=fuel->wpAny P .any l.toArray (Ve b0 Q) fuel listed a w:=by
  intro fuel
  have hend:∀(listed:Array Bool) (g:G) (a:Act) (w:World),MidE b0 ee n tm (stg ys (bx,fr) (fun i=>listed.getD i false)) l ds listed g a w->(∀ i,i<m->listed.getD i false=true)->AL P l.toArray acts ⟨n,tm',bx',fr',ee⟩ Q->wpList P l.toArray (Ve b0 Q) acts a w:=fun listed g a w hM hall k=>by
   have hinv:=JY hchk hl hdst hM fun i hi=>hall i (by omega)
   rw[<- h2]at hinv
   have:stg ys (bx,fr) (fun i=>listed.getD i false)=(bx',fr'):=by
    rw[<- hfin]
    exact Wc _ _ _ _ fun i hi=>hall i (hefl i hi)
   rw[this]at hinv
   exact k.run b0 g a w hinv
  induction fuel with
  | zero=>
   intro listed g a w hM hu h0
   have hml':l.length=m:=by
    rcases Nat.lt_or_ge m l.length with h|h
    ·have h5:=hu m (Nat.le_refl _) h
     have h6:=Yx h0 h
     rw[h5]at h6;cases h6
    ·omega
   exact Wt hE hch 0 m listed a w (by omega) (Nat.le_refl _) hM.len (fun i hi=>by rw[Yx h0 hi];simp;omega) (by rw[hacts];exact hend listed g a w hM (fun i hi=>Yx h0 (by omega)) k)
  | succ fuel ih=>
   intro listed g a w hM hu hf
   by_cases hall:∀ i,i<m->listed.getD i false=true
   ·have hls:∀ i,i<l.length->(listed.getD i false=true ↔ i<m):=fun i hi=>by
     rcases Nat.lt_or_ge i m with h|h
     ·simp[hall i h,h]
     ·rw[hu i h hi];simp;omega
    refine Wt hE hch (fuel+1) m listed a w (by rw[<- hf,VG hls];omega) (Nat.le_refl _) hM.len hls (by rw[hacts];exact hend listed g a w hM hall k)
   refine⟨fun he=>(V7 hE hM.len (by omega) he).elim,fun i hi=>?_⟩
   obtain⟨hn0,o,ho,hr⟩:=mem_ready.1 hi
   have ho':l[i]?=some o:=by simpa using ho
   have hil:i<l.length:=(List.getElem?_eq_some_iff.1 ho').1
   have hlt:i<listed.size:=by rw[hM.len];exact hil
   have hn:listed.getD i false=false:=by simp[hlt]at hn0 ⊢;exact hn0
   have hleft:=Qa hil hM.len hn
   by_cases him:i<m
   ·obtain⟨y,q1,q2,q3,q4⟩:=h3 i o (htk i o ho' him)
    rw[Nat.zero_add]at q2
    have hdown:∀ e ∈ Vg 0 ys,∀ e' ∈ Vg 0 ys,e<e'->listed.getD e' false=true->listed.getD e false=true:=fun e he e' he' hlt hp=>by
     have h1:=List.all_eq_true.1 (List.all_eq_true.1 hes e he) e' he'
     simp[hlt]at h1
     obtain⟨j,hj,hj'⟩:=YR.1 he'
     have hlt':e'<l.length:=by have:=hefl _ hj';omega
     have ho2:=List.getElem?_eq_getElem hlt'
     exact Wb hM.closed e' _ ho2 (hM.closed e' _ ho2 hp) e h1
    obtain⟨c,hc1,hc2⟩:=OP (p:=fun i=>listed.getD i false) (Vg 0 ys) hdown
    have hcs:stg ys (bx,fr) (fun i=>listed.getD i false)=stg ys (bx,fr) (fun j=>decide (j<c)):=Wc _ _ _ _ fun e he=>hc2 e (YR.2 ⟨e,by omega,he⟩)
    have hupi:∀ e,up (Yr [] l) i e=true->listed.getD e false=true:=fun e he=>Wb hM.closed i o ho' hr e he
    have hupe:∀ e ∈ Vg 0 ys,up (Yr [] l) e i=true->listed.getD e false=false:=fun e he hu'=>by
     cases hle:listed.getD e false with
     | false=>rfl
     | true=>
      obtain⟨j,hj,hj'⟩:=YR.1 he
      have hlt':e<l.length:=by have:=hefl _ hj';omega
      have ho2:=List.getElem?_eq_getElem hlt'
      have:=Wb hM.closed e _ ho2 (hM.closed e _ ho2 hle) i hu'
      rw[hn]at this;cases this
    have hsame:(∀ e ∈ Vg 0 ys,decide (e<c)=decide (e<i))->stg ys (bx,fr) (fun j=>decide (j<c))=stg ys (bx,fr) (fun j=>decide (j<i)):=fun h=>Wc _ _ _ _ fun e he=>h e (YR.2 ⟨e,by omega,he⟩)
    have hAL:AL P l.toArray [o] ⟨n,Yi l o ((ds.take i).reverse++tm),(stg ys (bx,fr) (fun i=>listed.getD i false)).1,(stg ys (bx,fr) (fun i=>listed.getD i false)).2,((stg ys (bx,fr) (fun i=>listed.getD i false)).1.length,(stg ys (bx,fr) (fun i=>listed.getD i false)).2.length)⟩ (qY o (stg ys (bx,fr) (fun i=>listed.getD i false)).1 (stg ys (bx,fr) (fun i=>listed.getD i false)).2 y):=by
     by_cases hown:∀ e ∈ Vg 0 ys,decide (e<c)=decide (e<i)
     ·rw[hcs,hsame hown];exact q4
     ·cases y with
      | ef d b f=>
       exfalso
       apply hown
       intro e he
       have hie:i ∈ Vg 0 ys:=YR.2 ⟨i,by omega,d,b,f,q1⟩
       rw[<- hc2 e he]
       rcases Nat.lt_trichotomy e i with hlt' | rfl|hgt
       ·have h1:=List.all_eq_true.1 (List.all_eq_true.1 hes e he) i hie
        simp[hlt']at h1
        rw[hupi e h1];simp[hlt']
       ·rw[hn];simp
       ·have h1:=List.all_eq_true.1 (List.all_eq_true.1 hes i hie) e he
        simp[hgt]at h1
        rw[hupe e he h1];simp;omega
      | pu d=>
       have hAs:=hAO.get (i:=i) (htk i o ho' him) q1 ds (fun j oj yj hj k1 k2=>by
        obtain⟨y',p1,p2,_⟩:=h3 j oj k1
        rw[k2]at p1;injection p1 with p1;subst p1
        exact p2) (by omega)
       rw[Nat.zero_add]at hAs
       have hmem:(c,(stg ys (bx,fr) (fun j=>decide (j<c))).1,(stg ys (bx,fr) (fun j=>decide (j<c))).2) ∈ ((0,bx,fr)::Ua 0 ys):=by
        rcases hc1 with rfl|⟨e,he,rfl,hpe⟩
        ·have:stg ys (bx,fr) (fun j=>decide (j<0))=(bx,fr):=WQ _ _ _ (by intro i _;simp)
         rw[this];simp
        ·obtain⟨j,hj,d',b,f,hy⟩:=YR.1 he
         rw[Nat.zero_add]at hj;subst hj
         rw[XS _ _ _ _ hy]
         have:=Uw (i0:=0) hy
         rw[Nat.zero_add]at this
         exact List.mem_cons_of_mem _ this
       rcases hAs.get hmem with hf|hA
       ·exfalso
        unfold IX at hf
        have h1:(!(List.all (Vg 0 ys) fun e=>decide (e<c)==decide (e<i)))=true:=by
         simp only[Bool.not_eq_true',Bool.eq_false_iff]
         intro hall'
         exact hown fun e he=>by simpa using List.all_eq_true.1 hall' e he
        rw[h1,Bool.true_and]at hf
        have h2:(List.all (Vg 0 ys) fun e=>(!up (Yr [] l) i e||decide (e<c))&&(!up (Yr [] l) e i||decide (c<=e)))=true:=List.all_eq_true.2 fun e he=>by
         rw[Bool.and_eq_true]
         constructor
         ·cases hu1:up (Yr [] l) i e with
          | false=>rfl
          | true=>
           have:=hupi e hu1
           have h9:=hc2 e he
           rw[this]at h9
           simpa using h9
         ·cases hu1:up (Yr [] l) e i with
          | false=>rfl
          | true=>
           have:=hupe e he hu1
           have h9:=hc2 e he
           rw[this]at h9
           simp at h9
           simpa using h9
        rw[h2]at hf;cases hf
       ·rw[hcs];exact hA
    refine Q5 hchk hlk hl hdst hM ho' hi (by omega) q2 hAL fun g' a' w' hM'=>ih _ g' a' w' ?_ (fun x hx hxl=>?_) (by omega)
    ·have:y.aft (stg ys (bx,fr) (fun i=>listed.getD i false))=stg ys (bx,fr) (fun j=>(listed.setIfInBounds i true).getD j false):=by
      cases y with
      | pu d=>
       show stg ys (bx,fr) (fun i=>listed.getD i false)=_
       refine Wc _ _ _ _ fun e ⟨d',b,f,he⟩=>?_
       have hne:i ≠ e:=fun e'=>by subst e';rw[q1]at he;cases he
       rw[getD_set_ne false hne]
      | ef d b f=>
       show(b,f)=_
       have hie:i ∈ Vg 0 ys:=YR.2 ⟨i,by omega,d,b,f,q1⟩
       have e3:stg ys (bx,fr) (fun j=>(listed.setIfInBounds i true).getD j false)=stg ys (bx,fr) (fun j=>decide (j<i+1)):=Wc _ _ _ _ fun e he=>by
        have hee:=YR.2 ⟨e,(Nat.zero_add e).symm,he⟩
        rcases Nat.lt_trichotomy e i with hlt' | rfl|hgt
        ·rw[getD_set_ne false (by omega)]
         have h1:=List.all_eq_true.1 (List.all_eq_true.1 hes e hee) i hie
         simp[hlt']at h1
         rw[hupi e h1];simp;omega
        ·simp[hlt]
        ·rw[getD_set_ne false (by omega)]
         have h1:=List.all_eq_true.1 (List.all_eq_true.1 hes i hie) e hee
         simp[hgt]at h1
         rw[hupe e hee h1];simp;omega
       rw[e3,XS _ _ _ _ q1]
       rfl
     rw[<- this];exact hM'
    ·rw[getD_set_ne false (by omega)]
     exact hu x hx hxl
   ·exact(hall fun x hx=>Wb hM.closed i o ho' hr x (Wq hch (by omega) hil (by omega))).elim
 have hsz:l.toArray.size=l.length:=by simp
 rw[hsz]
 have hfresh:∀ i,(Array.replicate l.length false).getD i false=false:=fun i=>by
  rcases Nat.lt_or_ge i l.length with h|h<;>simp[h]
 have hs0:stg ys (bx,fr) (fun i=>(Array.replicate l.length false).getD i false)=(bx,fr):=WQ _ _ _ fun i _=>hfresh i
 refine main l.length _ g a _ ?_ (fun i _ _=>hfresh i) ?_
 ·rw[hs0]
  refine⟨hi.bd,hi.size,hi.defers,hi.mem.drew,hi.evo.trans Evo.drew,fun t=>?_,fun m o hm hl=>?_,by simp⟩
  ·have:cur l ds tm (Array.replicate l.length false) t=look tm t:=by
    unfold cur
    have hf:(List.range l.length).find? (fun i=>(Array.replicate l.length false).getD i false&&((ds[i]?).map (·.1)==some t))=none:=by
     apply List.find?_eq_none.2
     intro i _
     rw[hfresh];simp
    rw[hf]
   rw[this]
   exact(hi.tm t).drew
  ·rw[hfresh]at hl;cases hl
 ·unfold left
  rw[List.countP_eq_length.2 (fun i _=>by rw[hfresh];rfl),List.length_range]
theorem KX [Known][Dfr]{id m:Nat}{l acts:List Oper}(hm:P.follows .mixedOrders=true)(hchk:YB l=true)(hlk:Qf n l=true)(hE:U9 l=true)(hch:Y0 l m=true)(hlen:(l.take m).length=m)(hacts:l.drop m=acts)(h:AE P l n 0 (l.take m) tm bx fr ys tm' bx' fr')(hO:AOt P l n (l.take m) ys tm bx fr)(k:AL P l.toArray acts ⟨n,tm',bx',fr',ee⟩ Q) :
  AW P (.region id l.toArray true) ⟨n,tm,bx,fr,ee⟩ Q:=GV hm (KW hchk hlk hE hch hlen hacts h hO k)
theorem Zo [Known][Dfr]{id:Nat}(m:Nat){l acts:List Oper}(hm:P.follows .mixedOrders=true)(hch:Y0 l m=true)(hchk:YB l=true)(hlk:Qf n l=true)(hE:U9 l=true)(hlen:Nat.beq (l.take m).length m=true)(hacts:nfl (l.drop m)=some acts)(h:AE P l n 0 (l.take m) tm bx fr ys tm' bx' fr')(hO:AOt P l n (l.take m) ys tm bx fr)(k:AL P l.toArray acts ⟨n,tm',bx',fr',ee⟩ Q) :
  AW P (.region id l.toArray true) ⟨n,tm,bx,fr,ee⟩ Q:=KX hm hchk hlk hE hch (Nat.eq_of_beq_eq_true hlen) (Yq hacts) h hO k
structure AEk [Known][Dfr](P:Program) (l:List Oper) (n:Nat) (i:Nat) (o:Oper) (rest:List Oper) (y:Y) (tm:List (Nat × D)) (bx:List (List D)) (fr:List Fr) (ys:List Y) (tm':List (Nat × D)) (bx':List (List D)) (fr':List Fr):Prop where
 out:AE P l n (i+1) rest ((Yc n i o,y.d)::tm) (y.aft (bx,fr)).1 (y.aft (bx,fr)).2 ys tm' bx' fr'
theorem IY [Known][Dfr]{l:List Oper}{i:Nat}{o:Oper}{rest:List Oper}{y:Y}{tm2:List (Nat × D)}(ht:Vn n o=true)(h2:nfl (Yi l o tm)=some tm2)
  (h:AL P l.toArray [o] ⟨n,tm2,bx,fr,(bx.length,fr.length)⟩ (qY o bx fr y)) (k:AEk P l n i o rest y tm bx fr ys tm' bx' fr'):AE P l n i (o::rest) tm bx fr (y::ys) tm' bx' fr':=
 .cons i o rest tm bx fr y ys tm' bx' fr' ht (by rw[Yq h2];exact h) k.out
theorem GW [Known][Dfr]{l:List Oper}{i t:Nat}{o:Oper}{rest:List Oper}{d:D}(ht:Yc n i o=t)(k:AE P l n (i+1) rest ((t,d)::tm) bx fr ys tm' bx' fr'):AEk P l n i o rest (.pu d) tm bx fr ys tm' bx' fr':=⟨by rw[ht];exact k⟩
theorem VV [Known][Dfr]{l:List Oper}{i t:Nat}{o:Oper}{rest:List Oper}{d:D}{b:List (List D)}{f:List Fr}(ht:Yc n i o=t)(k:AE P l n (i+1) rest ((t,d)::tm) b f ys tm' bx' fr'):AEk P l n i o rest (.ef d b f) tm bx fr ys tm' bx' fr':=⟨by rw[ht];exact k⟩
theorem Qh [Known][Dfr]{l:List Oper}{es:List Nat}{sts:List (Nat × List (List D) × List Fr)}{i t:Nat}{o:Oper}{rest:List Oper}{d:D}{b:List (List D)}{f:List Fr}(ht:Yc n i o=t)(k:AO P l n es sts (i+1) rest ys ((t,d)::tm)):AO P l n es sts i (o::rest) (.ef d b f::ys) tm:=.ef i o rest d b f ys tm (by rw[ht];exact k)
theorem Ho [Known][Dfr]{l:List Oper}{es:List Nat}{sts:List (Nat × List (List D) × List Fr)}{i t:Nat}{o:Oper}{rest:List Oper}{d:D}(ht:Yc n i o=t)(h:AOs P l n es i o tm d sts)(k:AO P l n es sts (i+1) rest ys ((t,d)::tm)):AO P l n es sts i (o::rest) (.pu d::ys) tm:=.pu i o rest d ys tm h (by rw[ht];exact k)
theorem Zq [Known][Dfr]{l:List Oper}{es:List Nat}{i c:Nat}{o:Oper}{d:D}{sts:List (Nat × List (List D) × List Fr)}(h:IX l es i c=false)(k:AOs P l n es i o tm d sts):AOs P l n es i o tm d ((c,bx,fr)::sts):=.skip c bx fr sts h k
theorem GX [Known][Dfr]{l:List Oper}{es:List Nat}{i c:Nat}{o:Oper}{d:D}{sts:List (Nat × List (List D) × List Fr)}{tm2:List (Nat × D)}(h2:nfl (Yi l o tm)=some tm2)(h:AL P l.toArray [o] ⟨n,tm2,bx,fr,(bx.length,fr.length)⟩ (qY o bx fr (.pu d)))(k:AOs P l n es i o tm d sts):AOs P l n es i o tm d ((c,bx,fr)::sts):=.go c bx fr sts (by rw[Yq h2];exact h) k
theorem ZM {o:Oper}{t n:Nat}{ee:Nat × Nat}{d:D}(ho:o.dst=some t)(h:nf (look tm t)=some d):qY o bx fr (.pu d) .norm ⟨n,tm,bx,fr,ee⟩:=by
 simp only[qY,ho];exact Yn h
theorem WE {o:Oper}{t n:Nat}{ee:Nat × Nat}{d:D}(ho:o.dst=some t)(hb:nfb (bx'.take bx.length)=some bx)(hf:nfl (fr'.take fr.length)=some fr)(h:nf (look tm t).wk=some d)(hd:D.lt bx.length fr.length d=true):qY o bx fr (.pu d) .norm ⟨n,tm,bx',fr',ee⟩:=by
 simp only[qY,ho];exact Hn hb hf h hd
theorem YM {o:Oper}{t n:Nat}{ee:Nat × Nat}{d:D}(ho:o.dst=some t)(h:nf (look tm t)=some d):qY o bx fr (.ef d bx' fr') .norm ⟨n,tm,bx',fr',ee⟩:=by
 unfold qY;rw[ho];exact⟨rfl,rfl,Yj h⟩
theorem Ux {o:Oper}{n:Nat}{ee:Nat × Nat}(ho:o.dst=none):qY o bx fr (.ef .junk bx' fr') .norm ⟨n,tm,bx',fr',ee⟩:=by
 unfold qY;rw[ho];exact⟨rfl,rfl,rfl⟩
end
end Go.Av
end
section
open Go.RowKit Go.Pl
namespace Go.Av
def GY:List Nat:=[0,1,2,3,4,5,6,7,8,9,10,11,12,13,14,15,16,17,18,19,20,21,22,23,24,25,26,27,28,29,30,31,32,33,34,35,36,37,38,39,40,41,42,43,44,45,46,47,48,49,50,51,52,53,54,55,56,57,58,59,60,61,62,63]
def XT {α:Type}:List α->List Nat->Option Nat
 | [],k::_=>some k
 | _::l,_::ks=>XT l ks
 | _,[]=>none
abbrev Vo {α:Type}(l:List α):Option Nat:=XT l GY
theorem Ku {α:Type}:∀ {l:List α} {ks:List Nat} {b k:Nat},(∀(i x:Nat),ks[i]?=some x->x=b+i)->XT l ks=some k->b+l.length=k
 | [],[],b,k,h,e=>by simp[XT]at e
 | [],x::ks,b,k,h,e=>by
  simp[XT]at e
  have:=h 0 x rfl
  simp;omega
 | _::l,[],b,k,h,e=>by simp[XT]at e
 | _::l,x::ks,b,k,h,e=>by
  simp only[XT]at e
  have:=Ku (b:=b+1) (fun i y hy=>by have:=h (i+1) y (by simpa using hy);omega) e
  simp;omega
theorem IZ:∀(i x:Nat),GY[i]?=some x->x=0+i:=fun i x h=>by
 have hl:GY=List.range 64:=by decide
 rw[hl]at h
 obtain⟨h1,h2⟩:=List.getElem?_eq_some_iff.1 h
 simp at h2
 omega
theorem YU {α:Type}{l:List α}{k:Nat}(h:Vo l=some k):l.length=k:=by have:=Ku IZ h;omega
section
variable {P:Program} {Q:X->St->Prop} {n:Nat} {ee:Nat × Nat} {tm tm':List (Nat × D)} {bx bx':List (List D)} {fr fr':List Fr} {b0:Bs} {g:G} {w:World} {a:Act} {T:Tab}
variable {ops:Array Oper} {rest:List Oper} {t ty:Nat} {pos:String} {after:Array Edge} {ys:List Y}
theorem I0 [Known][Dfr]{x:Operand}{e:TypeId}{d:D}{m:Nat}(hx:nf (ev tm x)=some d)(ho:D.ones d.cellsOf=true)(hb:nfb (bx++[d.cellsOf])=some bx')(hm:Vo bx=some m)(htd:Nat.blt t n=true)
  (k:AL P ops rest ⟨n,(t,.ptr m 0)::tm,bx',fr,ee⟩ Q):AL P ops (⟨some t,.box e x,ty,pos,after,none⟩::rest) ⟨n,tm,bx,fr,ee⟩ Q:=GL hx ho hb (YU hm) htd k
theorem KY [Known][Dfr](hT:chk P T=true){e:TypeId}{ti:Ti}{m:Nat}(ht:tl T e=some ti)(hb:nfb (bx++[ti.zero.map ZK.d])=some bx')(hm:Vo bx=some m)(htd:Nat.blt t n=true)
  (k:AL P ops rest ⟨n,(t,.ptr m 0)::tm,bx',fr,ee⟩ Q):AL P ops (⟨some t,.alloc e,ty,pos,after,none⟩::rest) ⟨n,tm,bx,fr,ee⟩ Q:=OE hT ht hb (YU hm) htd k
theorem Yd [Known][Dfr](hT:chk P T=true){st len e:Nat}{ds:List D}{es:List E}{ti te:Ti}{m:Nat}{parts:Array (Nat × Operand)}(ht:tl T st=some ti)(hk:ti.kd=.slice e)(hte:tl T e=some te)(hp:parts.toList.map (·.1)=List.range len)
  (hds:nfs (parts.toList.map fun p=>ev tm p.2)=some ds) (hes:D.toEl ds=some es) (hU:XP te.size es=true) (hpos:Nat.blt 0 te.size=true) (hsm:Nat.ble (len*te.size) 16777216=true) (hm:Vo fr=some m) (hf:nfl (fr++[⟨len,te.size,e⟩])=some fr') (htd:Nat.blt t n=true)
  (k:AL P ops rest ⟨n,(t,.sl (.own m) es)::tm,bx,fr',ee⟩ Q):AL P ops (⟨some t,.buildSlice st len parts,ty,pos,after,none⟩::rest) ⟨n,tm,bx,fr,ee⟩ Q:=
 Q3 hT ht hk hte hp hds hes hU hpos hsm (YU hm) hf htd k
theorem XU [Known][Dfr](hT:chk P T=true){x y:Operand}{st e i k2:Nat}{l l' l2:List E}{tk:Tok}{ti te:Ti}{f:Fr}(ht:tl T st=some ti)(hk:ti.kd=.slice e)(hte:tl T e=some te)(hx:ev tm x=.sl (.own i) l)(hy:ev tm y=.sl tk l')
  (hl2:nfl (l++l')=some l2) (hk2:Vo l2=some k2) (hf:fr[i]?=some f) (hfn:f.n=l.length) (hfs:f.sz=te.size) (hfe:f.e=e) (hU:Uni te.size l) (hU':Uni te.size l') (hne:l' ≠ []) (hlen:Nat.ble k2 maxLen=true) (hby:Nat.ble (k2*te.bytes) 140737488355328=true)
  (hfr:nfl (fr.set i ⟨k2,te.size,e⟩)=some fr') (htd:Nat.blt t n=true)
  (k:AL P ops rest ⟨n,(t,.sl (.own i) l2)::tm,bx,fr',ee⟩ Q):AL P ops (⟨some t,.call { callee:=.builtin .append,args := #[x,y],argTypes := #[st,st] },ty,pos,after,none⟩::rest) ⟨n,tm,bx,fr,ee⟩ Q:=by
 have e2:=Yq hl2
 have e3:=YU hk2
 have e4:l.length+l'.length=k2:=by rw[<- e3,<- e2,List.length_append]
 have e5:=Nat.le_of_ble_eq_true hlen
 have e6:=Nat.le_of_ble_eq_true hby
 refine ZS hT ht hk hte hx hy hf hfn hfs hfe hU hU' hne (by rw[e4];exact e5) (by rw[e4];exact e6) (by rw[e4];exact hfr) htd (by rw[e2];exact k)
theorem YN [Known][Dfr](hT:chk P T=true){x y:Operand}{st e m k2:Nat}{l':List E}{tk:Tok}{ti te:Ti}(ht:tl T st=some ti)(hk:ti.kd=.slice e)(hte:tl T e=some te)(hx:ev tm x=.sl .nil [])(hy:ev tm y=.sl tk l')
  (hpos:Nat.blt 0 te.size=true) (hU':Uni te.size l') (hne:l' ≠ []) (hk2:Vo l'=some k2) (hlen:Nat.ble k2 maxLen=true) (hby:Nat.ble (k2*te.bytes) 140737488355328=true)
  (hm:Vo fr=some m) (hfr:nfl (fr++[⟨k2,te.size,e⟩])=some fr') (htd:Nat.blt t n=true)
  (k:AL P ops rest ⟨n,(t,.sl (.own m) l')::tm,bx,fr',ee⟩ Q):AL P ops (⟨some t,.call { callee:=.builtin .append,args := #[x,y],argTypes := #[st,st] },ty,pos,after,none⟩::rest) ⟨n,tm,bx,fr,ee⟩ Q:=by
 have e3:=YU hk2
 subst e3
 exact Ya hT ht hk hte hx hy hpos hU' hne (Nat.le_of_ble_eq_true hlen) (Nat.le_of_ble_eq_true hby) (YU hm) hfr htd k
theorem Zr [Known][Dfr]{l:List Oper}{i p q:Nat}{o:Oper}{rest:List Oper}{y:Y}{tm2:List (Nat × D)}(ht:Vn n o=true)(h2:nfl (Yi l o tm)=some tm2)(hp:Vo bx=some p)(hq:Vo fr=some q)
  (h:AL P l.toArray [o] ⟨n,tm2,bx,fr,(p,q)⟩ (qY o bx fr y)) (k:AEk P l n i o rest y tm bx fr ys tm' bx' fr'):AE P l n i (o::rest) tm bx fr (y::ys) tm' bx' fr':=
 IY ht h2 (by rw[YU hp,YU hq];exact h) k
theorem ZY [Known][Dfr]{l:List Oper}{es:List Nat}{i c p q:Nat}{o:Oper}{d:D}{sts:List (Nat × List (List D) × List Fr)}{tm2:List (Nat × D)}(h2:nfl (Yi l o tm)=some tm2)(hp:Vo bx=some p)(hq:Vo fr=some q)(h:AL P l.toArray [o] ⟨n,tm2,bx,fr,(p,q)⟩ (qY o bx fr (.pu d)))(k:AOs P l n es i o tm d sts):AOs P l n es i o tm d ((c,bx,fr)::sts):=
 GX h2 (by rw[YU hp,YU hq];exact h) k
theorem Zt [Known][Dfr]{l:List Oper}{i t:Nat}{o:Oper}{rest:List Oper}{d:D}(ho:o.dst=some t)(k:AE P l n (i+1) rest ((t,d)::tm) bx fr ys tm' bx' fr'):AEk P l n i o rest (.pu d) tm bx fr ys tm' bx' fr':=GW (by simp[Yc,ho]) k
theorem Z4 [Known][Dfr]{l:List Oper}{i t:Nat}{o:Oper}{rest:List Oper}{d:D}{b:List (List D)}{f:List Fr}(ho:o.dst=some t)(k:AE P l n (i+1) rest ((t,d)::tm) b f ys tm' bx' fr'):AEk P l n i o rest (.ef d b f) tm bx fr ys tm' bx' fr':=VV (by simp[Yc,ho]) k
theorem Yl [Known][Dfr]{l:List Oper}{es:List Nat}{sts:List (Nat × List (List D) × List Fr)}{i t:Nat}{o:Oper}{rest:List Oper}{d:D}{b:List (List D)}{f:List Fr}(ho:o.dst=some t)(k:AO P l n es sts (i+1) rest ys ((t,d)::tm)):AO P l n es sts i (o::rest) (.ef d b f::ys) tm:=Qh (by simp[Yc,ho]) k
theorem Zz [Known][Dfr]{l:List Oper}{es:List Nat}{sts:List (Nat × List (List D) × List Fr)}{i t:Nat}{o:Oper}{rest:List Oper}{d:D}(ho:o.dst=some t)(h:AOs P l n es i o tm d sts)(k:AO P l n es sts (i+1) rest ys ((t,d)::tm)):AO P l n es sts i (o::rest) (.pu d::ys) tm:=Ho (by simp[Yc,ho]) h k
end
end Go.Av
end
