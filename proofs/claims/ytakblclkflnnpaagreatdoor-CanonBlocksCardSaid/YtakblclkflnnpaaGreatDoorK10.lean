/- Regions that draw their order, in which one operation panics. -/
import Derived.Test.YtakblclkflnnpaaGreatDoorK09
import Derived.Test.YtakblclkflnnpaaGreatDoorK03
import Derived.Test.YtakblclkflnnpaaGreatDoorProg
set_option linter.unusedSimpArgs false
set_option linter.unusedVariables false
section
open Go.RowKit Go.Pl
namespace Go.Av
section
variable {P:Program} {Q:X->St->Prop} {n:Nat} {ee:Nat × Nat} {tm tm':List (Nat × D)} {bx bx':List (List D)} {fr fr':List Fr} {b0:Bs} {g:G} {w:World} {a:Act}
theorem Zlc [Known][Dfr]{l:List Oper}{ds:List (Nat × D)}{listed:Array Bool}(hchk:ZbT l=true)(hE:ZkB l=true)(hl:ds.length<=l.length)
  (hdst:∀(i:Nat) (o:Oper),l[i]?=some o->i<ds.length->∃ t d,ds[i]?=some (t,d)/\o.dst=some t)
  (hM:Mid b0 ee n tm bx fr l ds listed g a w) {i:Nat} (hi:i ∈ Region.ready .any l.toArray listed) (hids:i<ds.length) (hst:∀ o,l[i]?=some o->∃ t d,ds[i]?=some (t,d)/\o.dst=some t/\Nat.blt t n=true/\AL P l.toArray [o] ⟨n,ZbB l o ((ds.take i).reverse++tm),bx,fr,(bx.length,fr.length)⟩ (qp t d bx fr)) {K:Act->World->Prop} {Q2:Exit->Act->World->Prop} (hK:∀ g' a' w',Mid b0 ee n tm bx fr l ds (listed.setIfInBounds i true) g' a' w'->K a' w') :
  wpOp P l.toArray Q2 i K a w:=by
 obtain⟨hn0,o,ho,hr⟩:=mem_ready.1 hi
 have ho':l[i]?=some o:=by simpa using ho
 have hil:i<l.length:=(List.getElem?_eq_some_iff.1 ho').1
 have hn:listed.getD i false=false:=by
  have:i<listed.size:=by rw[hM.len];exact hil
  simp[this]at hn0 ⊢;exact hn0
 obtain⟨t,d,e1,e2,e3,hAL⟩:=hst o ho'
 have hN:∀(i j:Nat) (p q:Nat × D),ds[i]?=some p->ds[j]?=some q->p.1=q.1->i=j:=fun x y p q hx hy e=>by
  by_cases hxy:x=y
  ·exact hxy
  ·exfalso
   have hxd:=(List.getElem?_eq_some_iff.1 hx).1
   have hxl:x<l.length:=Nat.lt_of_lt_of_le hxd hl
   have hyd:=(List.getElem?_eq_some_iff.1 hy).1
   have hyl:y<l.length:=Nat.lt_of_lt_of_le hyd hl
   have hc:=Zdx hchk hxl hyl hxy
   obtain⟨t1,d1,a1,a2⟩:=hdst x _ (List.getElem?_eq_getElem hxl) hxd
   obtain⟨t2,d2,c1,c2⟩:=hdst y _ (List.getElem?_eq_getElem hyl) hyd
   rw[hx]at a1;injection a1 with a1
   rw[hy]at c1;injection c1 with c1
   simp only[ZcV,List.getElem?_eq_getElem hxl,List.getElem?_eq_getElem hyl,a2,c2,Bool.and_eq_true,bne_iff_ne,ne_eq,Option.some.injEq]at hc
   rw[a1,c1]at e
   exact hc.1 e.symm
 have hinv:Inv ⟨g,fr,w⟩ ⟨n,ZbB l o ((ds.take i).reverse++tm),bx,fr,(bx.length,fr.length)⟩ g a w:=by
  refine⟨hM.size,hM.defers,hM.mem,fun x=>?_,Evo.refl _,by rw[hM.mem.bl];exact Nat.le_refl _,Nat.le_refl _⟩
  by_cases hx:x ∈ ZcD l o
  ·dsimp only
   rw[Zcx _ hx,<- Zfv hchk hl hdst hM.closed ho' hn hr (Nat.le_of_lt hids) hx]
   exact hM.tm x
  ·dsimp only
   rw[ZbH _ hx]
   exact .junk _
 have hrun:=hAL.run ⟨g,fr,w⟩ g a w hinv
 have fin:∀ a' w',(∃ v,a'=a.put o.dst v)->wpList P l.toArray (Ze5 ⟨g,fr,w⟩ (qp t d bx fr)) [] a' w'->K a' w':=by
  rintro a' w' ⟨v,rfl⟩ h
  obtain⟨S',g',hi',hq⟩:=h
  obtain⟨n',tm2,bx2,fr2,ee'⟩:=S'
  have hn':n'=n:=by
   have h1:=hi'.size
   dsimp only at h1
   rw[<- h1,<- hM.size]
   cases hd':o.dst<;>simp[Act.put,hd']
  subst hn'
  obtain⟨tm3,g',hi',q3⟩:∃ tm3 g',Inv ⟨g,fr,w⟩ ⟨n',tm3,bx,fr,(g.ρ.length,fr.length)⟩ g' (a.put o.dst v) w'/\look tm3 t=d:=by
   rcases hq with⟨q1,q2,q3⟩ | ⟨q1,q2,q3,q4⟩
   ·dsimp only at q1 q2 q3
    subst q1 q2
    exact⟨tm2,g',⟨hi'.size,hi'.defers,hi'.mem,hi'.tm,hi'.evo,Nat.le_refl _,Nat.le_refl _⟩,q3⟩
   ·dsimp only at q1 q2 q3
    have h1:Inv ⟨g,fr,w⟩ ⟨n',[(t,d)],bx2,fr2,(g.ρ.length,fr.length)⟩ g' (a.put o.dst v) w':=by
     refine⟨hi'.size,hi'.defers,hi'.mem,fun x=>?_,hi'.evo,Nat.le_refl _,Nat.le_refl _⟩
     by_cases hx:x=t
     ·subst hx
      have:=hi'.tm x
      dsimp only at this ⊢
      simp only[look,Nat.beq_refl]
      rcases q3 with q3|q3
      ·rw[<- q3];exact this
      ·rw[<- q3];exact this.wk
     ·have hb:Nat.beq t x=false:=by
       cases hb:Nat.beq t x with
       | false=>rfl
       | true=>exact(hx (Nat.eq_of_beq_eq_true hb).symm).elim
      simp only[look,hb]
      exact .junk _
    have h2:=h1.cut (k:=bx.length) (m:=fr.length) (by show g.ρ.length<=_;rw[hM.mem.bl];exact Nat.le_refl _) (Nat.le_refl _) (by simp only[ZmB,q4]) (by rw[q1];exact hM.mem.allLt)
    rw[q1,q2]at h2
    exact⟨_,_,h2,by simp[look]⟩
  refine hK g' _ _ ⟨hM.bd,hi'.size,hi'.defers,hi'.mem,hM.evo.trans hi'.evo,fun x=>?_,fun m om hm hlm e he hb=>?_,by simp[hM.len]⟩
  ·by_cases hx:x=t
   ·subst hx
    rw[ZbZ hN hl e1,if_pos (by simp[hM.len,hil])]
    have:=hi'.tm x
    dsimp only at this
    rw[q3]at this
    exact this
   ·have hcur:cur l ds tm (listed.setIfInBounds i true) x=cur l ds tm listed x:=by
     by_cases hex:∃(j:Nat) (d:D),ds[j]?=some (x,d)
     ·obtain⟨j,dj,hj⟩:=hex
      have hne:i ≠ j:=fun e=>by
       subst e
       rw[e1]at hj;injection hj with hj;injection hj with hj
       exact hx hj.symm
      rw[ZbZ hN hl hj,ZbZ hN hl hj,getD_set_ne false hne]
     ·have hno:∀(j:Nat) (p:Nat × D),ds[j]?=some p->p.1 ≠ x:=fun j p hj e=>hex ⟨j,p.2,by rw[hj,<- e]⟩
      rw[Zce hno,Zce hno]
    rw[hcur]
    have htm:(a.put o.dst v).tmps.getD x undef=a.tmps.getD x undef:=by
     rw[e2]
     simp[Act.put,Array.getD_getElem?,Array.getElem?_setIfInBounds_ne (Ne.symm hx)]
    rw[htm]
    exact(hM.tm x).evo hi'.evo
  ·by_cases hmi:m=i
   ·subst hmi
    rw[ho']at hm;injection hm with hm;subst hm
    exact getD_set_true (hr e he hb)
   ·rw[getD_set_ne false (Ne.symm hmi)]at hlm
    exact getD_set_true (hM.closed m om hm hlm e he hb)
 unfold wpOp
 simp only[ho]
 unfold wpList at hrun
 by_cases hw:Region.wanted o (yielded l.toArray a.tmps)=true
 ·rw[if_pos hw]at hrun
  rw[if_pos hw]
  have hL:LetsOut (Ze5 ⟨g,fr,w⟩ (qp t d bx fr))->False:=fun⟨_,_,h⟩=>h
  rcases hrun with hrun|⟨_,hlo⟩
  ·refine .inl ?_
   have:=ZgI (Q2:=Q2) hrun hM.defers (fun a w h=>by obtain⟨S',g',hi',_⟩:=h;exact hi'.defers) (fun c a w h=>by obtain⟨_,_,_,_,_,_,_,hq⟩:=h;exact hq) hL
   exact Oper.wp_mono (P:=P) (fun a' w' h=>fin a' w' h.1 h.2) this
  ·exact(hL hlo).elim
 ·rw[if_neg hw]at hrun
  rw[if_neg hw]
  exact fin _ _ ⟨undef,rfl⟩ hrun
def qx (p:D)(bx:List (List D)):X->St->Prop
 | .pan d,S=>d=p/\bx.length<=S.bx.length
 | _,_=>False
theorem Zgg {p d:D}{tm2:List (Nat × D)}{bx2:List (List D)}{fr2:List Fr}(hd:d=p)(h:bx.length<=bx2.length):qx p bx (.pan d) ⟨n,tm2,bx2,fr2,ee⟩:=⟨hd,h⟩
theorem ZmN {o:Oper}{K K':Act->World->Prop}{Q' Q2:Exit->Act->World->Prop}{r:Result Next}(h:o.upon P a K Q' r)(hK:∀ a w,K a w->False)(hQ:∀ c w,Q' (.panic c) a w->Q2 (.panic c) a w)(hL:LetsOut Q'->False) :
  o.upon P a K' Q2 r:=by
 cases r with
 | ok nx w'=>
  cases nx<;>simp only[Oper.upon]at h ⊢
  case value v=>exact(hK _ _ h).elim
  case skip=>exact(hK _ _ h).elim
  case defer d=>exact(hK _ _ h).elim
  case enter f args=>
   refine Calls.mono h (fun e w'' he=>?_)
   cases e with
   | returned u=>exact(hK _ _ he).elim
   | panicked c=>exact hQ _ _ he
   | outgrown=>exact(hL he).elim
  case row row args=>exact Rows.mono h fun u w'' he=>(hK _ _ he).elim
 | halt x w'=>
  cases x<;>simp only[Oper.upon]at h ⊢
  case panic u=>exact hQ _ _ h
theorem Zol [Known][Dfr]{l:List Oper}{ds:List (Nat × D)}{listed:Array Bool}{p:D}(hchk:ZbT l=true)(hl:ds.length<=l.length)
  (hdst:∀(i:Nat) (o:Oper),l[i]?=some o->i<ds.length->∃ t d,ds[i]?=some (t,d)/\o.dst=some t)
  (hM:Mid b0 ee n tm bx fr l ds listed g a w) {i:Nat} (hi:i ∈ Region.ready .any l.toArray listed) (hids:i<ds.length)
  (hst:∀ o,l[i]?=some o->AL P l.toArray [o] ⟨n,ZbB l o ((ds.take i).reverse++tm),bx,fr,(bx.length,fr.length)⟩ (qx p bx))
  (hQ:∀ tm2 bx2 fr2,bx.length<=bx2.length->Q (.pan p) ⟨n,tm2,bx2,fr2,ee⟩) {K:Act->World->Prop}:wpOp P l.toArray (Ze5 b0 Q) i K a w:=by
 obtain⟨hn0,o,ho,hr⟩:=mem_ready.1 hi
 have ho':l[i]?=some o:=by simpa using ho
 have hil:i<l.length:=(List.getElem?_eq_some_iff.1 ho').1
 have hn:listed.getD i false=false:=by
  have:i<listed.size:=by rw[hM.len];exact hil
  simp[this]at hn0 ⊢;exact hn0
 have hAL:=hst o ho'
 have hinv:Inv ⟨g,fr,w⟩ ⟨n,ZbB l o ((ds.take i).reverse++tm),bx,fr,(bx.length,fr.length)⟩ g a w:=by
  refine⟨hM.size,hM.defers,hM.mem,fun x=>?_,Evo.refl _,by rw[hM.mem.bl];exact Nat.le_refl _,Nat.le_refl _⟩
  by_cases hx:x ∈ ZcD l o
  ·dsimp only
   rw[Zcx _ hx,<- Zfv hchk hl hdst hM.closed ho' hn hr (Nat.le_of_lt hids) hx]
   exact hM.tm x
  ·dsimp only
   rw[ZbH _ hx]
   exact .junk _
 have hrun:=hAL.run ⟨g,fr,w⟩ g a w hinv
 have hK:∀ a w,wpList P l.toArray (Ze5 ⟨g,fr,‹World›⟩ (qx p bx)) [] a w->False:=fun a w h=>by
  obtain⟨_,_,_,h⟩:=h;exact h
 have hL:LetsOut (Ze5 ⟨g,fr,‹World›⟩ (qx p bx))->False:=fun⟨_,_,h⟩=>h
 unfold wpOp
 simp only[ho]
 unfold wpList at hrun
 by_cases hw:Region.wanted o (yielded l.toArray a.tmps)=true
 ·rw[if_pos hw]at hrun
  rw[if_pos hw]
  rcases hrun with hrun|⟨_,hlo⟩
  ·refine .inl ?_
   refine ZmN hrun (fun a w h=>by obtain⟨_,_,_,h⟩:=h;exact h) (fun c w' h=>?_) (fun⟨_,_,h⟩=>h)
   obtain⟨S',g',v,d,hi',hc,hv,hd,hle⟩:=h
   obtain⟨n',tm2,bx2,fr2,ee'⟩:=S'
   have hn':n'=n:=by rw[<- hM.size];exact hi'.size.symm
   subst hn' hd
   exact⟨⟨n',tm2,bx2,fr2,ee⟩,g',v,d,⟨hi'.size,hi'.defers,hi'.mem,hi'.tm,hM.evo.trans hi'.evo,hM.bd⟩,hc,hv,hQ tm2 bx2 fr2 hle⟩
  ·obtain⟨_,_,h⟩:=hlo;exact h.elim
 ·rw[if_neg hw]at hrun
  obtain⟨_,_,_,h⟩:=hrun;exact h.elim
inductive ADX [Known][Dfr](P:Program) (l:List Oper) (n:Nat) (bx:List (List D)) (fr:List Fr) (j:Nat) (p:D):Nat->List Oper->List (Nat × D)->Prop
 | nil (i:Nat) (tm:List (Nat × D)):ADX P l n bx fr j p i [] tm
 | pu (i:Nat) (o:Oper) (rest:List Oper) (t:Nat) (d:D) (tm:List (Nat × D)) (hd:o.dst=some t) (ht:Nat.blt t n=true) (hne:Nat.beq i j=false) (h:AL P l.toArray [o] ⟨n,ZbB l o tm,bx,fr,(bx.length,fr.length)⟩ (qp t d bx fr)) (k:ADX P l n bx fr j p (i+1) rest ((t,d)::tm)):ADX P l n bx fr j p i (o::rest) tm
 | dead (i:Nat) (o:Oper) (rest:List Oper) (t:Nat) (tm:List (Nat × D)) (hd:o.dst=some t) (hu:up (ZbY [] l) i j=true) (k:ADX P l n bx fr j p (i+1) rest ((t,.junk)::tm)):ADX P l n bx fr j p i (o::rest) tm
 | pan (o:Oper) (rest:List Oper) (t:Nat) (tm:List (Nat × D)) (hd:o.dst=some t) (h:AL P l.toArray [o] ⟨n,ZbB l o tm,bx,fr,(bx.length,fr.length)⟩ (qx p bx)) (k:ADX P l n bx fr j p (j+1) rest ((t,.junk)::tm)):ADX P l n bx fr j p j (o::rest) tm
theorem ADX.steps [Known][Dfr]{l:List Oper}{j:Nat}{p:D}{i0:Nat}{rest:List Oper}(h:ADX P l n bx fr j p i0 rest tm):∃ ds:List (Nat × D),ds.length=rest.length/\∀(i:Nat) (o:Oper),rest[i]?=some o->∃ t d,ds[i]?=some (t,d)/\o.dst=some t /\
  ((i0+i ≠ j/\Nat.blt t n=true/\AL P l.toArray [o] ⟨n,ZbB l o ((ds.take i).reverse++tm),bx,fr,(bx.length,fr.length)⟩ (qp t d bx fr))\/up (ZbY [] l) (i0+i) j=true\/(i0+i=j/\AL P l.toArray [o] ⟨n,ZbB l o ((ds.take i).reverse++tm),bx,fr,(bx.length,fr.length)⟩ (qx p bx))):=by
 induction h with
 | nil i tm=>exact⟨[],rfl,fun i o h=>by simp at h⟩
 | pu i o rest t d tm hd ht hne h k ih=>
  obtain⟨ds,h1,h2⟩:=ih
  refine⟨(t,d)::ds,by simp[h1],fun x o' hx=>?_⟩
  cases x with
  | zero=>
   simp at hx;subst hx
   exact⟨t,d,rfl,hd,.inl ⟨fun e=>by rw[Nat.add_zero]at e;subst e;simp at hne,ht,h⟩⟩
  | succ x=>
   obtain⟨t',d',q1,q2,q3⟩:=h2 x o' (by simpa using hx)
   refine⟨t',d',by simpa using q1,q2,?_⟩
   rw[show i+(x+1)=i+1+x by omega]
   simpa using q3
 | dead i o rest t tm hd hu k ih=>
  obtain⟨ds,h1,h2⟩:=ih
  refine⟨(t,.junk)::ds,by simp[h1],fun x o' hx=>?_⟩
  cases x with
  | zero=>simp at hx;subst hx;exact⟨t,_,rfl,hd,.inr (.inl hu)⟩
  | succ x=>
   obtain⟨t',d',q1,q2,q3⟩:=h2 x o' (by simpa using hx)
   refine⟨t',d',by simpa using q1,q2,?_⟩
   rw[show i+(x+1)=i+1+x by omega]
   simpa using q3
 | pan o rest t tm hd h k ih=>
  obtain⟨ds,h1,h2⟩:=ih
  refine⟨(t,.junk)::ds,by simp[h1],fun x o' hx=>?_⟩
  cases x with
  | zero=>simp at hx;subst hx;exact⟨t,_,rfl,hd,.inr (.inr ⟨rfl,h⟩)⟩
  | succ x=>
   obtain⟨t',d',q1,q2,q3⟩:=h2 x o' (by simpa using hx)
   refine⟨t',d',by simpa using q1,q2,?_⟩
   rw[show j+(x+1)=j+1+x by omega]
   simpa using q3
def Zom (l:List Oper)(j m:Nat):Bool:=(List.range l.length).all fun i=>Nat.blt i m||up (ZbY [] l) i j
theorem ZdM [Known][Dfr]{id:Nat}(m j:Nat){p:D}{l:List Oper}(hm:P.follows .mixedOrders=true)(hchk:ZbT l=true)(hE:ZkB l=true)(hdead:Zom l j m=true)(hjm:Nat.blt j m=true)(hlen:Nat.beq (l.take m).length m=true)(h:ADX P l n bx fr j p 0 (l.take m) tm)
  (hQ:∀ tm2 bx2 fr2,bx.length<=bx2.length->Q (.pan p) ⟨n,tm2,bx2,fr2,ee⟩):AW P (.region id l.toArray true) ⟨n,tm,bx,fr,ee⟩ Q:=by
 obtain⟨ds,h1,h3⟩:=h.steps
 have hlen:=Nat.eq_of_beq_eq_true hlen
 have hjm:j<m:=by simpa using hjm
 have hml:m<=l.length:=by rw[List.length_take]at hlen;omega
 rw[hlen]at h1
 have hl:ds.length<=l.length:=by omega
 have hst:∀(i:Nat) (o:Oper),l[i]?=some o->i<ds.length->_:=fun i o ho hi=>h3 i o (by rw[List.getElem?_take,if_pos (by omega)];exact ho)
 have hdst:∀(i:Nat) (o:Oper),l[i]?=some o->i<ds.length->∃ t d,ds[i]?=some (t,d)/\o.dst=some t:=fun i o h hd=>by
  obtain⟨t,d,h1,h2,_⟩:=hst i o h hd;exact⟨t,d,h1,h2⟩
 have hjl:j<l.length:=by omega
 refine⟨fun b0 g a w hi=>wp_region_any hm ?_⟩
 have main:∀(fuel:Nat) (listed:Array Bool) (g:G) (a:Act) (w:World),Mid b0 ee n tm bx fr l ds listed g a w->listed.getD j false=false->left l listed=fuel->wpAny P .any l.toArray (Ze5 b0 Q) fuel listed a w:=by
  intro fuel
  induction fuel with
  | zero=>
   intro listed g a w hM hj h0
   have:=ZbF h0 hjl
   rw[hj]at this;cases this
  | succ fuel ih=>
   intro listed g a w hM hj hf
   refine⟨fun he=>(Zd8 hE hM.len (by omega) he).elim,fun i hi=>?_⟩
   obtain⟨hn0,o,ho,hr⟩:=mem_ready.1 hi
   have ho':l[i]?=some o:=by simpa using ho
   have hil:i<l.length:=(List.getElem?_eq_some_iff.1 ho').1
   have hlt:i<listed.size:=by rw[hM.len];exact hil
   have hn:listed.getD i false=false:=by simp[hlt]at hn0 ⊢;exact hn0
   have hleft:=Ze6 hil hM.len hn
   have nodead:up (ZbY [] l) i j=true->False:=fun hu=>by
    have:=ZcO hM.closed i o ho' hr j hu
    rw[hj]at this;cases this
   by_cases him:i<m
   ·obtain⟨t,d,e1,e2,hc⟩:=hst i o ho' (by omega)
    rcases hc with⟨hne,hbt,hAL⟩ | hu|⟨hij,hAL⟩
    ·refine Zlc hchk hE hl hdst hM hi (by omega) (fun o1 ho1=>?_) fun g' a' w' hM'=>ih _ g' a' w' hM' ?_ (by omega)
     ·rw[ho']at ho1;injection ho1 with ho1;subst ho1
      exact⟨t,d,e1,e2,hbt,hAL⟩
     ·rw[getD_set_ne false (by omega)];exact hj
    ·exact(nodead (by simpa using hu)).elim
    ·refine Zol hchk hl hdst hM hi (by omega) (fun o1 ho1=>?_) hQ
     rw[ho']at ho1;injection ho1 with ho1;subst ho1
     exact hAL
   ·have:=List.all_eq_true.1 hdead i (List.mem_range.2 hil)
    simp only[Bool.or_eq_true,Nat.blt_eq]at this
    exact(nodead (this.resolve_left him)).elim
 have hsz:l.toArray.size=l.length:=by simp
 rw[hsz]
 have hfresh:∀ i,(Array.replicate l.length false).getD i false=false:=fun i=>by
  rcases Nat.lt_or_ge i l.length with h|h<;>simp[h]
 refine main l.length _ g a _ ⟨hi.bd,hi.size,hi.defers,hi.mem.drew,hi.evo.trans Evo.drew,fun t=>?_,fun m o hm hl=>?_,by simp⟩ (hfresh j) ?_
 ·have:cur l ds tm (Array.replicate l.length false) t=look tm t:=by
   unfold cur
   have hf:(List.range l.length).find? (fun i=>(Array.replicate l.length false).getD i false&&((ds[i]?).map (·.1)==some t))=none:=by
    apply List.find?_eq_none.2
    intro i _
    rw[hfresh];simp
   rw[hf]
  rw[this]
  exact(hi.tm t).drew
 ·rw[hfresh]at hl;cases hl
 ·unfold left
  rw[List.countP_eq_length.2 (fun i _=>by rw[hfresh];rfl),List.length_range]
theorem Zgh [Known][Dfr]{l:List Oper}{j i t:Nat}{p d:D}{o:Oper}{rest:List Oper}{tm2:List (Nat × D)}(hd:o.dst=some t)(ht:Nat.blt t n=true)(hne:Nat.beq i j=false)(h2:nfl (ZbB l o tm)=some tm2)
  (h:AL P l.toArray [o] ⟨n,tm2,bx,fr,(bx.length,fr.length)⟩ (qp t d bx fr)) (k:ADX P l n bx fr j p (i+1) rest ((t,d)::tm)):ADX P l n bx fr j p i (o::rest) tm:=
 .pu i o rest t d tm hd ht hne (by rw[ZbS h2];exact h) k
theorem ZdN [Known][Dfr]{l:List Oper}{j i t:Nat}{p:D}{o:Oper}{rest:List Oper}(hu:up (ZbY [] l) i j=true)(hd:o.dst=some t)(k:ADX P l n bx fr j p (i+1) rest ((t,.junk)::tm)):ADX P l n bx fr j p i (o::rest) tm:=.dead i o rest t tm hd hu k
theorem Zez [Known][Dfr]{l:List Oper}{j i t:Nat}{p:D}{o:Oper}{rest:List Oper}{tm2:List (Nat × D)}(hij:Nat.beq i j=true)(hd:o.dst=some t)(h2:nfl (ZbB l o tm)=some tm2)
  (h:AL P l.toArray [o] ⟨n,tm2,bx,fr,(bx.length,fr.length)⟩ (qx p bx)) (k:ADX P l n bx fr j p (i+1) rest ((t,.junk)::tm)):ADX P l n bx fr j p i (o::rest) tm:=by
 obtain rfl:=Nat.eq_of_beq_eq_true hij
 exact .pan o rest t tm hd (by rw[ZbS h2];exact h) k
end
end Go.Av
end
section
open Go.RowKit Go.Pl Go.Av
namespace Go.Proofs.YtakblclkflnnpaaGreatDoor
def tt:Tab:=[(1,Ti.mk Kd.func 1 8 [ZK.f]),
 (2,Ti.mk (Kd.int IntKind.i64) 1 8 [ZK.i IntKind.i64]),
 (3,Ti.mk (Kd.int IntKind.i64) 1 8 [ZK.i IntKind.i64]),
 (4,Ti.mk Kd.bool 1 1 [ZK.b]),
 (5,Ti.mk (Kd.int IntKind.u8) 1 1 [ZK.i IntKind.u8]),
 (6,Ti.mk (Kd.int IntKind.u8) 1 1 [ZK.i IntKind.u8]),
 (7,Ti.mk (Kd.struct [Av.Fd.mk 0 1 Bool.false 2,Av.Fd.mk 1 1 Bool.false 3,Av.Fd.mk 2 1 Bool.false 4,Av.Fd.mk 3 1 Bool.false 6]) 4 24 [ZK.i IntKind.i64,ZK.i IntKind.i64,ZK.b,ZK.i IntKind.u8]),
 (8,Ti.mk (Kd.struct [Av.Fd.mk 0 1 Bool.false 2,Av.Fd.mk 1 1 Bool.false 3,Av.Fd.mk 2 1 Bool.false 4,Av.Fd.mk 3 1 Bool.false 6]) 4 24 [ZK.i IntKind.i64,ZK.i IntKind.i64,ZK.b,ZK.i IntKind.u8]),
 (9,Ti.mk Kd.str 1 16 [ZK.s]),
 (10,Ti.mk Kd.str 1 16 [ZK.s]),
 (11,Ti.mk Kd.str 1 16 [ZK.s]),
 (12,Ti.mk (Kd.int IntKind.u64) 1 8 [ZK.i IntKind.u64]),
 (13,Ti.mk (Kd.struct [Av.Fd.mk 0 1 Bool.false 9,Av.Fd.mk 1 1 Bool.false 12]) 2 24 [ZK.s,ZK.i IntKind.u64]),
 (14,Ti.mk (Kd.struct [Av.Fd.mk 0 1 Bool.false 9,Av.Fd.mk 1 1 Bool.false 12]) 2 24 [ZK.s,ZK.i IntKind.u64]),
 (15,Ti.mk (Kd.ptr 299) 1 8 [ZK.p]),
 (16,Ti.mk (Kd.ptr 302) 1 8 [ZK.p]),
 (17,Ti.mk (Kd.ptr 311) 1 8 [ZK.p]),
 (18,Ti.mk (Kd.struct [Av.Fd.mk 0 1 Bool.false 17]) 1 8 [ZK.p]),
 (19,Ti.mk (Kd.struct [Av.Fd.mk 0 1 Bool.false 17]) 1 8 [ZK.p]),
 (20,Ti.mk Kd.iface 1 16 [ZK.n]),
 (21,Ti.mk (Kd.int IntKind.i32) 1 4 [ZK.i IntKind.i32]),
 (22,Ti.mk (Kd.int IntKind.u64) 1 8 [ZK.i IntKind.u64]),
 (23,Ti.mk (Kd.struct [Av.Fd.mk 0 1 Bool.false 4,Av.Fd.mk 1 1 Bool.false 22,Av.Fd.mk 2 1 Bool.false 22,Av.Fd.mk 3 1 Bool.false 9,Av.Fd.mk 4 1 Bool.false 9]) 5 56 [ZK.b,ZK.i IntKind.u64,ZK.i IntKind.u64,ZK.s,ZK.s]),
 (24,Ti.mk (Kd.struct [Av.Fd.mk 0 1 Bool.false 4,Av.Fd.mk 1 1 Bool.false 22,Av.Fd.mk 2 1 Bool.false 22,Av.Fd.mk 3 1 Bool.false 9,Av.Fd.mk 4 1 Bool.false 9]) 5 56 [ZK.b,ZK.i IntKind.u64,ZK.i IntKind.u64,ZK.s,ZK.s]),
 (25,Ti.mk (Kd.struct [Av.Fd.mk 0 5 Bool.true 24,Av.Fd.mk 5 1 Bool.false 22,Av.Fd.mk 6 1 Bool.false 22]) 7 72 [ZK.b,ZK.i IntKind.u64,ZK.i IntKind.u64,ZK.s,ZK.s,ZK.i IntKind.u64,ZK.i IntKind.u64]),
 (26,Ti.mk (Kd.struct [Av.Fd.mk 0 5 Bool.true 24,Av.Fd.mk 5 1 Bool.false 22,Av.Fd.mk 6 1 Bool.false 22]) 7 72 [ZK.b,ZK.i IntKind.u64,ZK.i IntKind.u64,ZK.s,ZK.s,ZK.i IntKind.u64,ZK.i IntKind.u64]),
 (27,Ti.mk (Kd.struct [Av.Fd.mk 0 1 Bool.false 22,Av.Fd.mk 1 1 Bool.false 3,Av.Fd.mk 2 5 Bool.true 24,Av.Fd.mk 7 5 Bool.true 24,Av.Fd.mk 12 7 Bool.true 26,Av.Fd.mk 19 1 Bool.false 22]) 20 208 [ZK.i IntKind.u64,ZK.i IntKind.i64,ZK.b,ZK.i IntKind.u64,ZK.i IntKind.u64,ZK.s,ZK.s,ZK.b,ZK.i IntKind.u64,ZK.i IntKind.u64,ZK.s,ZK.s,ZK.b,ZK.i IntKind.u64,ZK.i IntKind.u64,ZK.s,ZK.s,ZK.i IntKind.u64,ZK.i IntKind.u64,ZK.i IntKind.u64]),
 (28,Ti.mk (Kd.struct [Av.Fd.mk 0 1 Bool.false 22,Av.Fd.mk 1 1 Bool.false 3,Av.Fd.mk 2 5 Bool.true 24,Av.Fd.mk 7 5 Bool.true 24,Av.Fd.mk 12 7 Bool.true 26,Av.Fd.mk 19 1 Bool.false 22]) 20 208 [ZK.i IntKind.u64,ZK.i IntKind.i64,ZK.b,ZK.i IntKind.u64,ZK.i IntKind.u64,ZK.s,ZK.s,ZK.b,ZK.i IntKind.u64,ZK.i IntKind.u64,ZK.s,ZK.s,ZK.b,ZK.i IntKind.u64,ZK.i IntKind.u64,ZK.s,ZK.s,ZK.i IntKind.u64,ZK.i IntKind.u64,ZK.i IntKind.u64]),
 (29,Ti.mk (Kd.slice 5) 1 24 [ZK.l]),
 (30,Ti.mk (Kd.slice 32) 1 24 [ZK.l]),
 (31,Ti.mk (Kd.struct [Av.Fd.mk 0 1 Bool.false 3,Av.Fd.mk 1 1 Bool.false 22,Av.Fd.mk 2 1 Bool.false 29,Av.Fd.mk 3 1 Bool.false 30]) 4 64 [ZK.i IntKind.i64,ZK.i IntKind.u64,ZK.l,ZK.l]),
 (32,Ti.mk (Kd.struct [Av.Fd.mk 0 1 Bool.false 3,Av.Fd.mk 1 1 Bool.false 22,Av.Fd.mk 2 1 Bool.false 29,Av.Fd.mk 3 1 Bool.false 30]) 4 64 [ZK.i IntKind.i64,ZK.i IntKind.u64,ZK.l,ZK.l]),
 (33,Ti.mk Kd.func 1 8 [ZK.f]),
 (34,Ti.mk Kd.func 1 8 [ZK.f]),
 (35,Ti.mk Kd.func 1 8 [ZK.f]),
 (36,Ti.mk (Kd.struct [Av.Fd.mk 0 1 Bool.false 4,Av.Fd.mk 1 1 Bool.false 22,Av.Fd.mk 2 1 Bool.false 22,Av.Fd.mk 3 1 Bool.false 9,Av.Fd.mk 4 1 Bool.false 9]) 5 56 [ZK.b,ZK.i IntKind.u64,ZK.i IntKind.u64,ZK.s,ZK.s]),
 (37,Ti.mk (Kd.struct [Av.Fd.mk 0 5 Bool.true 36,Av.Fd.mk 5 1 Bool.false 22,Av.Fd.mk 6 1 Bool.false 22]) 7 72 [ZK.b,ZK.i IntKind.u64,ZK.i IntKind.u64,ZK.s,ZK.s,ZK.i IntKind.u64,ZK.i IntKind.u64]),
 (38,Ti.mk (Kd.struct [Av.Fd.mk 0 5 Bool.true 36,Av.Fd.mk 5 1 Bool.false 22,Av.Fd.mk 6 1 Bool.false 22]) 7 72 [ZK.b,ZK.i IntKind.u64,ZK.i IntKind.u64,ZK.s,ZK.s,ZK.i IntKind.u64,ZK.i IntKind.u64]),
 (39,Ti.mk (Kd.struct [Av.Fd.mk 0 1 Bool.false 22,Av.Fd.mk 1 1 Bool.false 3,Av.Fd.mk 2 5 Bool.true 36,Av.Fd.mk 7 5 Bool.true 36,Av.Fd.mk 12 7 Bool.true 38,Av.Fd.mk 19 1 Bool.false 22]) 20 208 [ZK.i IntKind.u64,ZK.i IntKind.i64,ZK.b,ZK.i IntKind.u64,ZK.i IntKind.u64,ZK.s,ZK.s,ZK.b,ZK.i IntKind.u64,ZK.i IntKind.u64,ZK.s,ZK.s,ZK.b,ZK.i IntKind.u64,ZK.i IntKind.u64,ZK.s,ZK.s,ZK.i IntKind.u64,ZK.i IntKind.u64,ZK.i IntKind.u64]),
 (40,Ti.mk (Kd.struct [Av.Fd.mk 0 1 Bool.false 22,Av.Fd.mk 1 1 Bool.false 3,Av.Fd.mk 2 5 Bool.true 36,Av.Fd.mk 7 5 Bool.true 36,Av.Fd.mk 12 7 Bool.true 38,Av.Fd.mk 19 1 Bool.false 22]) 20 208 [ZK.i IntKind.u64,ZK.i IntKind.i64,ZK.b,ZK.i IntKind.u64,ZK.i IntKind.u64,ZK.s,ZK.s,ZK.b,ZK.i IntKind.u64,ZK.i IntKind.u64,ZK.s,ZK.s,ZK.b,ZK.i IntKind.u64,ZK.i IntKind.u64,ZK.s,ZK.s,ZK.i IntKind.u64,ZK.i IntKind.u64,ZK.i IntKind.u64]),
 (41,Ti.mk Kd.func 1 8 [ZK.f]),
 (42,Ti.mk (Kd.int IntKind.i64) 1 8 [ZK.i IntKind.i64]),
 (44,Ti.mk Kd.func 1 8 [ZK.f]),
 (46,Ti.mk Kd.func 1 8 [ZK.f]),
 (48,Ti.mk Kd.func 1 8 [ZK.f]),
 (49,Ti.mk (Kd.slice 51) 1 24 [ZK.l]),
 (50,Ti.mk (Kd.struct [Av.Fd.mk 0 1 Bool.false 3,Av.Fd.mk 1 1 Bool.false 22,Av.Fd.mk 2 1 Bool.false 29,Av.Fd.mk 3 1 Bool.false 49]) 4 64 [ZK.i IntKind.i64,ZK.i IntKind.u64,ZK.l,ZK.l]),
 (51,Ti.mk (Kd.struct [Av.Fd.mk 0 1 Bool.false 3,Av.Fd.mk 1 1 Bool.false 22,Av.Fd.mk 2 1 Bool.false 29,Av.Fd.mk 3 1 Bool.false 49]) 4 64 [ZK.i IntKind.i64,ZK.i IntKind.u64,ZK.l,ZK.l]),
 (52,Ti.mk Kd.func 1 8 [ZK.f]),
 (53,Ti.mk Kd.func 1 8 [ZK.f]),
 (54,Ti.mk Kd.func 1 8 [ZK.f]),
 (55,Ti.mk Kd.func 1 8 [ZK.f]),
 (56,Ti.mk Kd.func 1 8 [ZK.f]),
 (57,Ti.mk (Kd.struct [Av.Fd.mk 0 1 Bool.false 22,Av.Fd.mk 1 1 Bool.false 22,Av.Fd.mk 2 1 Bool.false 22,Av.Fd.mk 3 1 Bool.false 3,Av.Fd.mk 4 1 Bool.false 29]) 5 56 [ZK.i IntKind.u64,ZK.i IntKind.u64,ZK.i IntKind.u64,ZK.i IntKind.i64,ZK.l]),
 (58,Ti.mk (Kd.struct [Av.Fd.mk 0 1 Bool.false 22,Av.Fd.mk 1 1 Bool.false 22,Av.Fd.mk 2 1 Bool.false 22,Av.Fd.mk 3 1 Bool.false 3,Av.Fd.mk 4 1 Bool.false 29]) 5 56 [ZK.i IntKind.u64,ZK.i IntKind.u64,ZK.i IntKind.u64,ZK.i IntKind.i64,ZK.l]),
 (59,Ti.mk (Kd.struct [Av.Fd.mk 0 1 Bool.false 22,Av.Fd.mk 1 1 Bool.false 22,Av.Fd.mk 2 1 Bool.false 22,Av.Fd.mk 3 1 Bool.false 3,Av.Fd.mk 4 1 Bool.false 29]) 5 56 [ZK.i IntKind.u64,ZK.i IntKind.u64,ZK.i IntKind.u64,ZK.i IntKind.i64,ZK.l]),
 (60,Ti.mk Kd.func 1 8 [ZK.f]),
 (61,Ti.mk Kd.func 1 8 [ZK.f]),
 (63,Ti.mk Kd.func 1 8 [ZK.f]),
 (65,Ti.mk Kd.func 1 8 [ZK.f]),
 (66,Ti.mk Kd.func 1 8 [ZK.f]),
 (67,Ti.mk Kd.func 1 8 [ZK.f]),
 (68,Ti.mk Kd.func 1 8 [ZK.f]),
 (69,Ti.mk Kd.func 1 8 [ZK.f]),
 (70,Ti.mk Kd.func 1 8 [ZK.f]),
 (71,Ti.mk Kd.func 1 8 [ZK.f]),
 (73,Ti.mk Kd.func 1 8 [ZK.f]),
 (75,Ti.mk Kd.func 1 8 [ZK.f]),
 (77,Ti.mk Kd.func 1 8 [ZK.f]),
 (78,Ti.mk Kd.func 1 8 [ZK.f]),
 (80,Ti.mk Kd.func 1 8 [ZK.f]),
 (82,Ti.mk Kd.func 1 8 [ZK.f]),
 (84,Ti.mk Kd.func 1 8 [ZK.f]),
 (85,Ti.mk Kd.func 1 8 [ZK.f]),
 (86,Ti.mk Kd.func 1 8 [ZK.f]),
 (87,Ti.mk Kd.func 1 8 [ZK.f]),
 (88,Ti.mk Kd.func 1 8 [ZK.f]),
 (89,Ti.mk Kd.func 1 8 [ZK.f]),
 (91,Ti.mk Kd.func 1 8 [ZK.f]),
 (92,Ti.mk Kd.func 1 8 [ZK.f]),
 (93,Ti.mk Kd.func 1 8 [ZK.f]),
 (94,Ti.mk (Kd.struct [Av.Fd.mk 0 1 Bool.false 4,Av.Fd.mk 1 1 Bool.false 4,Av.Fd.mk 2 1 Bool.false 4,Av.Fd.mk 3 1 Bool.false 22,Av.Fd.mk 4 1 Bool.false 22,Av.Fd.mk 5 7 Bool.true 26]) 12 96 [ZK.b,ZK.b,ZK.b,ZK.i IntKind.u64,ZK.i IntKind.u64,ZK.b,ZK.i IntKind.u64,ZK.i IntKind.u64,ZK.s,ZK.s,ZK.i IntKind.u64,ZK.i IntKind.u64]),
 (95,Ti.mk (Kd.struct [Av.Fd.mk 0 1 Bool.false 4,Av.Fd.mk 1 1 Bool.false 4,Av.Fd.mk 2 1 Bool.false 4,Av.Fd.mk 3 1 Bool.false 22,Av.Fd.mk 4 1 Bool.false 22,Av.Fd.mk 5 7 Bool.true 26]) 12 96 [ZK.b,ZK.b,ZK.b,ZK.i IntKind.u64,ZK.i IntKind.u64,ZK.b,ZK.i IntKind.u64,ZK.i IntKind.u64,ZK.s,ZK.s,ZK.i IntKind.u64,ZK.i IntKind.u64]),
 (96,Ti.mk Kd.func 1 8 [ZK.f]),
 (97,Ti.mk (Kd.struct [Av.Fd.mk 0 1 Bool.false 4,Av.Fd.mk 1 1 Bool.false 4,Av.Fd.mk 2 1 Bool.false 4,Av.Fd.mk 3 1 Bool.false 22,Av.Fd.mk 4 1 Bool.false 22,Av.Fd.mk 5 7 Bool.true 38]) 12 96 [ZK.b,ZK.b,ZK.b,ZK.i IntKind.u64,ZK.i IntKind.u64,ZK.b,ZK.i IntKind.u64,ZK.i IntKind.u64,ZK.s,ZK.s,ZK.i IntKind.u64,ZK.i IntKind.u64]),
 (98,Ti.mk (Kd.struct [Av.Fd.mk 0 1 Bool.false 4,Av.Fd.mk 1 1 Bool.false 4,Av.Fd.mk 2 1 Bool.false 4,Av.Fd.mk 3 1 Bool.false 22,Av.Fd.mk 4 1 Bool.false 22,Av.Fd.mk 5 7 Bool.true 38]) 12 96 [ZK.b,ZK.b,ZK.b,ZK.i IntKind.u64,ZK.i IntKind.u64,ZK.b,ZK.i IntKind.u64,ZK.i IntKind.u64,ZK.s,ZK.s,ZK.i IntKind.u64,ZK.i IntKind.u64]),
 (99,Ti.mk Kd.func 1 8 [ZK.f]),
 (101,Ti.mk Kd.func 1 8 [ZK.f]),
 (103,Ti.mk Kd.func 1 8 [ZK.f]),
 (105,Ti.mk Kd.func 1 8 [ZK.f]),
 (106,Ti.mk Kd.func 1 8 [ZK.f]),
 (107,Ti.mk Kd.func 1 8 [ZK.f]),
 (108,Ti.mk Kd.func 1 8 [ZK.f]),
 (109,Ti.mk Kd.func 1 8 [ZK.f]),
 (110,Ti.mk (Kd.slice 58) 1 24 [ZK.l]),
 (111,Ti.mk (Kd.struct [Av.Fd.mk 0 20 Bool.true 28,Av.Fd.mk 20 1 Bool.false 110]) 21 232 [ZK.i IntKind.u64,ZK.i IntKind.i64,ZK.b,ZK.i IntKind.u64,ZK.i IntKind.u64,ZK.s,ZK.s,ZK.b,ZK.i IntKind.u64,ZK.i IntKind.u64,ZK.s,ZK.s,ZK.b,ZK.i IntKind.u64,ZK.i IntKind.u64,ZK.s,ZK.s,ZK.i IntKind.u64,ZK.i IntKind.u64,ZK.i IntKind.u64,ZK.l]),
 (112,Ti.mk (Kd.struct [Av.Fd.mk 0 20 Bool.true 28,Av.Fd.mk 20 1 Bool.false 110]) 21 232 [ZK.i IntKind.u64,ZK.i IntKind.i64,ZK.b,ZK.i IntKind.u64,ZK.i IntKind.u64,ZK.s,ZK.s,ZK.b,ZK.i IntKind.u64,ZK.i IntKind.u64,ZK.s,ZK.s,ZK.b,ZK.i IntKind.u64,ZK.i IntKind.u64,ZK.s,ZK.s,ZK.i IntKind.u64,ZK.i IntKind.u64,ZK.i IntKind.u64,ZK.l]),
 (113,Ti.mk Kd.func 1 8 [ZK.f]),
 (114,Ti.mk Kd.func 1 8 [ZK.f]),
 (115,Ti.mk (Kd.slice 59) 1 24 [ZK.l]),
 (116,Ti.mk (Kd.struct [Av.Fd.mk 0 20 Bool.true 40,Av.Fd.mk 20 1 Bool.false 115]) 21 232 [ZK.i IntKind.u64,ZK.i IntKind.i64,ZK.b,ZK.i IntKind.u64,ZK.i IntKind.u64,ZK.s,ZK.s,ZK.b,ZK.i IntKind.u64,ZK.i IntKind.u64,ZK.s,ZK.s,ZK.b,ZK.i IntKind.u64,ZK.i IntKind.u64,ZK.s,ZK.s,ZK.i IntKind.u64,ZK.i IntKind.u64,ZK.i IntKind.u64,ZK.l]),
 (117,Ti.mk (Kd.struct [Av.Fd.mk 0 20 Bool.true 40,Av.Fd.mk 20 1 Bool.false 115]) 21 232 [ZK.i IntKind.u64,ZK.i IntKind.i64,ZK.b,ZK.i IntKind.u64,ZK.i IntKind.u64,ZK.s,ZK.s,ZK.b,ZK.i IntKind.u64,ZK.i IntKind.u64,ZK.s,ZK.s,ZK.b,ZK.i IntKind.u64,ZK.i IntKind.u64,ZK.s,ZK.s,ZK.i IntKind.u64,ZK.i IntKind.u64,ZK.i IntKind.u64,ZK.l]),
 (119,Ti.mk Kd.func 1 8 [ZK.f]),
 (121,Ti.mk Kd.func 1 8 [ZK.f]),
 (122,Ti.mk Kd.func 1 8 [ZK.f]),
 (123,Ti.mk Kd.func 1 8 [ZK.f]),
 (124,Ti.mk Kd.func 1 8 [ZK.f]),
 (126,Ti.mk Kd.func 1 8 [ZK.f]),
 (127,Ti.mk Kd.func 1 8 [ZK.f]),
 (128,Ti.mk Kd.func 1 8 [ZK.f]),
 (130,Ti.mk Kd.func 1 8 [ZK.f]),
 (131,Ti.mk Kd.func 1 8 [ZK.f]),
 (132,Ti.mk Kd.func 1 8 [ZK.f]),
 (133,Ti.mk Kd.func 1 8 [ZK.f]),
 (134,Ti.mk Kd.func 1 8 [ZK.f]),
 (135,Ti.mk Kd.func 1 8 [ZK.f]),
 (136,Ti.mk Kd.func 1 8 [ZK.f]),
 (138,Ti.mk Kd.func 1 8 [ZK.f]),
 (139,Ti.mk Kd.func 1 8 [ZK.f]),
 (140,Ti.mk Kd.func 1 8 [ZK.f]),
 (141,Ti.mk Kd.func 1 8 [ZK.f]),
 (142,Ti.mk Kd.func 1 8 [ZK.f]),
 (144,Ti.mk Kd.func 1 8 [ZK.f]),
 (145,Ti.mk Kd.func 1 8 [ZK.f]),
 (146,Ti.mk Kd.func 1 8 [ZK.f]),
 (147,Ti.mk Kd.func 1 8 [ZK.f]),
 (148,Ti.mk Kd.func 1 8 [ZK.f]),
 (149,Ti.mk Kd.func 1 8 [ZK.f]),
 (151,Ti.mk Kd.func 1 8 [ZK.f]),
 (152,Ti.mk Kd.func 1 8 [ZK.f]),
 (154,Ti.mk Kd.func 1 8 [ZK.f]),
 (155,Ti.mk Kd.func 1 8 [ZK.f]),
 (156,Ti.mk Kd.func 1 8 [ZK.f]),
 (158,Ti.mk Kd.func 1 8 [ZK.f]),
 (159,Ti.mk Kd.func 1 8 [ZK.f]),
 (160,Ti.mk Kd.func 1 8 [ZK.f]),
 (161,Ti.mk (Kd.slice 22) 1 24 [ZK.l]),
 (162,Ti.mk Kd.func 1 8 [ZK.f]),
 (163,Ti.mk Kd.func 1 8 [ZK.f]),
 (165,Ti.mk Kd.func 1 8 [ZK.f]),
 (166,Ti.mk Kd.func 1 8 [ZK.f]),
 (167,Ti.mk Kd.func 1 8 [ZK.f]),
 (168,Ti.mk Kd.func 1 8 [ZK.f]),
 (169,Ti.mk Kd.func 1 8 [ZK.f]),
 (170,Ti.mk Kd.func 1 8 [ZK.f]),
 (171,Ti.mk Kd.func 1 8 [ZK.f]),
 (172,Ti.mk Kd.func 1 8 [ZK.f]),
 (174,Ti.mk Kd.func 1 8 [ZK.f]),
 (175,Ti.mk Kd.func 1 8 [ZK.f]),
 (176,Ti.mk Kd.func 1 8 [ZK.f]),
 (177,Ti.mk Kd.func 1 8 [ZK.f]),
 (178,Ti.mk Kd.func 1 8 [ZK.f]),
 (179,Ti.mk Kd.func 1 8 [ZK.f]),
 (180,Ti.mk Kd.func 1 8 [ZK.f]),
 (181,Ti.mk Kd.func 1 8 [ZK.f]),
 (182,Ti.mk Kd.func 1 8 [ZK.f]),
 (184,Ti.mk Kd.func 1 8 [ZK.f]),
 (186,Ti.mk Kd.func 1 8 [ZK.f]),
 (187,Ti.mk Kd.func 1 8 [ZK.f]),
 (188,Ti.mk Kd.func 1 8 [ZK.f]),
 (189,Ti.mk Kd.func 1 8 [ZK.f]),
 (190,Ti.mk Kd.func 1 8 [ZK.f]),
 (191,Ti.mk Kd.func 1 8 [ZK.f]),
 (192,Ti.mk Kd.func 1 8 [ZK.f]),
 (193,Ti.mk Kd.func 1 8 [ZK.f]),
 (194,Ti.mk Kd.func 1 8 [ZK.f]),
 (195,Ti.mk Kd.func 1 8 [ZK.f]),
 (196,Ti.mk Kd.func 1 8 [ZK.f]),
 (197,Ti.mk Kd.func 1 8 [ZK.f]),
 (198,Ti.mk Kd.func 1 8 [ZK.f]),
 (199,Ti.mk Kd.func 1 8 [ZK.f]),
 (200,Ti.mk Kd.func 1 8 [ZK.f]),
 (201,Ti.mk Kd.func 1 8 [ZK.f]),
 (202,Ti.mk Kd.func 1 8 [ZK.f]),
 (203,Ti.mk Kd.func 1 8 [ZK.f]),
 (204,Ti.mk Kd.func 1 8 [ZK.f]),
 (205,Ti.mk Kd.func 1 8 [ZK.f]),
 (206,Ti.mk Kd.func 1 8 [ZK.f]),
 (207,Ti.mk Kd.func 1 8 [ZK.f]),
 (208,Ti.mk Kd.func 1 8 [ZK.f]),
 (209,Ti.mk Kd.func 1 8 [ZK.f]),
 (211,Ti.mk Kd.func 1 8 [ZK.f]),
 (212,Ti.mk Kd.func 1 8 [ZK.f]),
 (213,Ti.mk Kd.func 1 8 [ZK.f]),
 (214,Ti.mk Kd.func 1 8 [ZK.f]),
 (215,Ti.mk Kd.func 1 8 [ZK.f]),
 (216,Ti.mk Kd.func 1 8 [ZK.f]),
 (217,Ti.mk Kd.func 1 8 [ZK.f]),
 (218,Ti.mk Kd.func 1 8 [ZK.f]),
 (219,Ti.mk (Kd.int IntKind.u32) 1 4 [ZK.i IntKind.u32]),
 (220,Ti.mk (Kd.int IntKind.u16) 1 2 [ZK.i IntKind.u16]),
 (221,Ti.mk Kd.func 1 8 [ZK.f]),
 (222,Ti.mk Kd.func 1 8 [ZK.f]),
 (223,Ti.mk Kd.func 1 8 [ZK.f]),
 (224,Ti.mk Kd.func 1 8 [ZK.f]),
 (226,Ti.mk Kd.func 1 8 [ZK.f]),
 (228,Ti.mk Kd.func 1 8 [ZK.f]),
 (229,Ti.mk (Kd.struct [Av.Fd.mk 0 1 Bool.false 3,Av.Fd.mk 1 1 Bool.false 22,Av.Fd.mk 2 1 Bool.false 4]) 3 24 [ZK.i IntKind.i64,ZK.i IntKind.u64,ZK.b]),
 (230,Ti.mk (Kd.struct [Av.Fd.mk 0 1 Bool.false 3,Av.Fd.mk 1 1 Bool.false 22,Av.Fd.mk 2 1 Bool.false 4]) 3 24 [ZK.i IntKind.i64,ZK.i IntKind.u64,ZK.b]),
 (231,Ti.mk Kd.func 1 8 [ZK.f]),
 (232,Ti.mk Kd.func 1 8 [ZK.f]),
 (233,Ti.mk (Kd.slice 4) 1 24 [ZK.l]),
 (234,Ti.mk (Kd.struct [Av.Fd.mk 0 1 Bool.false 42]) 1 8 [ZK.i IntKind.i64]),
 (235,Ti.mk (Kd.struct [Av.Fd.mk 0 1 Bool.false 42]) 1 8 [ZK.i IntKind.i64]),
 (237,Ti.mk (Kd.ptr 239) 1 8 [ZK.p]),
 (238,Ti.mk (Kd.struct [Av.Fd.mk 0 1 Bool.false 29,Av.Fd.mk 1 1 Bool.false 3,Av.Fd.mk 2 1 Bool.false 3]) 3 40 [ZK.l,ZK.i IntKind.i64,ZK.i IntKind.i64]),
 (239,Ti.mk (Kd.struct [Av.Fd.mk 0 1 Bool.false 29,Av.Fd.mk 1 1 Bool.false 3,Av.Fd.mk 2 1 Bool.false 3]) 3 40 [ZK.l,ZK.i IntKind.i64,ZK.i IntKind.i64]),
 (240,Ti.mk Kd.func 1 8 [ZK.f]),
 (241,Ti.mk Kd.func 1 8 [ZK.f]),
 (242,Ti.mk Kd.func 1 8 [ZK.f]),
 (243,Ti.mk Kd.func 1 8 [ZK.f]),
 (244,Ti.mk Kd.func 1 8 [ZK.f]),
 (245,Ti.mk (Kd.int IntKind.u64) 1 8 [ZK.i IntKind.u64]),
 (247,Ti.mk Kd.func 1 8 [ZK.f]),
 (249,Ti.mk Kd.func 1 8 [ZK.f]),
 (250,Ti.mk Kd.func 1 8 [ZK.f]),
 (252,Ti.mk Kd.func 1 8 [ZK.f]),
 (253,Ti.mk Kd.func 1 8 [ZK.f]),
 (254,Ti.mk Kd.func 1 8 [ZK.f]),
 (255,Ti.mk Kd.func 1 8 [ZK.f]),
 (257,Ti.mk Kd.func 1 8 [ZK.f]),
 (258,Ti.mk Kd.func 1 8 [ZK.f]),
 (259,Ti.mk Kd.func 1 8 [ZK.f]),
 (260,Ti.mk Kd.func 1 8 [ZK.f]),
 (261,Ti.mk (Kd.struct [Av.Fd.mk 0 1 Bool.false 3,Av.Fd.mk 1 1 Bool.false 22,Av.Fd.mk 2 1 Bool.false 4]) 3 24 [ZK.i IntKind.i64,ZK.i IntKind.u64,ZK.b]),
 (262,Ti.mk Kd.func 1 8 [ZK.f]),
 (263,Ti.mk Kd.func 1 8 [ZK.f]),
 (264,Ti.mk Kd.func 1 8 [ZK.f]),
 (265,Ti.mk Kd.func 1 8 [ZK.f]),
 (266,Ti.mk Kd.func 1 8 [ZK.f]),
 (267,Ti.mk Kd.func 1 8 [ZK.f]),
 (269,Ti.mk Kd.func 1 8 [ZK.f]),
 (270,Ti.mk Kd.func 1 8 [ZK.f]),
 (271,Ti.mk Kd.func 1 8 [ZK.f]),
 (272,Ti.mk Kd.func 1 8 [ZK.f]),
 (273,Ti.mk Kd.func 1 8 [ZK.f]),
 (274,Ti.mk Kd.func 1 8 [ZK.f]),
 (276,Ti.mk Kd.func 1 8 [ZK.f]),
 (277,Ti.mk Kd.func 1 8 [ZK.f]),
 (278,Ti.mk Kd.func 1 8 [ZK.f]),
 (279,Ti.mk Kd.func 1 8 [ZK.f]),
 (280,Ti.mk Kd.func 1 8 [ZK.f]),
 (281,Ti.mk Kd.func 1 8 [ZK.f]),
 (282,Ti.mk Kd.func 1 8 [ZK.f]),
 (283,Ti.mk (Kd.slice 3) 1 24 [ZK.l]),
 (285,Ti.mk Kd.func 1 8 [ZK.f]),
 (286,Ti.mk Kd.func 1 8 [ZK.f]),
 (287,Ti.mk Kd.func 1 8 [ZK.f]),
 (288,Ti.mk (Kd.array 256 5) 256 256 [ZK.i IntKind.u8,ZK.i IntKind.u8,ZK.i IntKind.u8,ZK.i IntKind.u8,ZK.i IntKind.u8,ZK.i IntKind.u8,ZK.i IntKind.u8,ZK.i IntKind.u8,ZK.i IntKind.u8,ZK.i IntKind.u8,ZK.i IntKind.u8,ZK.i IntKind.u8,ZK.i IntKind.u8,ZK.i IntKind.u8,ZK.i IntKind.u8,ZK.i IntKind.u8,ZK.i IntKind.u8,ZK.i IntKind.u8,ZK.i IntKind.u8,ZK.i IntKind.u8,ZK.i IntKind.u8,ZK.i IntKind.u8,ZK.i IntKind.u8,ZK.i IntKind.u8,ZK.i IntKind.u8,ZK.i IntKind.u8,ZK.i IntKind.u8,ZK.i IntKind.u8,ZK.i IntKind.u8,ZK.i IntKind.u8,ZK.i IntKind.u8,ZK.i IntKind.u8,ZK.i IntKind.u8,ZK.i IntKind.u8,ZK.i IntKind.u8,ZK.i IntKind.u8,ZK.i IntKind.u8,ZK.i IntKind.u8,ZK.i IntKind.u8,ZK.i IntKind.u8,ZK.i IntKind.u8,ZK.i IntKind.u8,ZK.i IntKind.u8,ZK.i IntKind.u8,ZK.i IntKind.u8,ZK.i IntKind.u8,ZK.i IntKind.u8,ZK.i IntKind.u8,ZK.i IntKind.u8,ZK.i IntKind.u8,ZK.i IntKind.u8,ZK.i IntKind.u8,ZK.i IntKind.u8,ZK.i IntKind.u8,ZK.i IntKind.u8,ZK.i IntKind.u8,ZK.i IntKind.u8,ZK.i IntKind.u8,ZK.i IntKind.u8,ZK.i IntKind.u8,ZK.i IntKind.u8,ZK.i IntKind.u8,ZK.i IntKind.u8,ZK.i IntKind.u8,ZK.i IntKind.u8,ZK.i IntKind.u8,ZK.i IntKind.u8,ZK.i IntKind.u8,ZK.i IntKind.u8,ZK.i IntKind.u8,ZK.i IntKind.u8,ZK.i IntKind.u8,ZK.i IntKind.u8,ZK.i IntKind.u8,ZK.i IntKind.u8,ZK.i IntKind.u8,ZK.i IntKind.u8,ZK.i IntKind.u8,ZK.i IntKind.u8,ZK.i IntKind.u8,ZK.i IntKind.u8,ZK.i IntKind.u8,ZK.i IntKind.u8,ZK.i IntKind.u8,ZK.i IntKind.u8,ZK.i IntKind.u8,ZK.i IntKind.u8,ZK.i IntKind.u8,ZK.i IntKind.u8,ZK.i IntKind.u8,ZK.i IntKind.u8,ZK.i IntKind.u8,ZK.i IntKind.u8,ZK.i IntKind.u8,ZK.i IntKind.u8,ZK.i IntKind.u8,ZK.i IntKind.u8,ZK.i IntKind.u8,ZK.i IntKind.u8,ZK.i IntKind.u8,ZK.i IntKind.u8,ZK.i IntKind.u8,ZK.i IntKind.u8,ZK.i IntKind.u8,ZK.i IntKind.u8,ZK.i IntKind.u8,ZK.i IntKind.u8,ZK.i IntKind.u8,ZK.i IntKind.u8,ZK.i IntKind.u8,ZK.i IntKind.u8,ZK.i IntKind.u8,ZK.i IntKind.u8,ZK.i IntKind.u8,ZK.i IntKind.u8,ZK.i IntKind.u8,ZK.i IntKind.u8,ZK.i IntKind.u8,ZK.i IntKind.u8,ZK.i IntKind.u8,ZK.i IntKind.u8,ZK.i IntKind.u8,ZK.i IntKind.u8,ZK.i IntKind.u8,ZK.i IntKind.u8,ZK.i IntKind.u8,ZK.i IntKind.u8,ZK.i IntKind.u8,ZK.i IntKind.u8,ZK.i IntKind.u8,ZK.i IntKind.u8,ZK.i IntKind.u8,ZK.i IntKind.u8,ZK.i IntKind.u8,ZK.i IntKind.u8,ZK.i IntKind.u8,ZK.i IntKind.u8,ZK.i IntKind.u8,ZK.i IntKind.u8,ZK.i IntKind.u8,ZK.i IntKind.u8,ZK.i IntKind.u8,ZK.i IntKind.u8,ZK.i IntKind.u8,ZK.i IntKind.u8,ZK.i IntKind.u8,ZK.i IntKind.u8,ZK.i IntKind.u8,ZK.i IntKind.u8,ZK.i IntKind.u8,ZK.i IntKind.u8,ZK.i IntKind.u8,ZK.i IntKind.u8,ZK.i IntKind.u8,ZK.i IntKind.u8,ZK.i IntKind.u8,ZK.i IntKind.u8,ZK.i IntKind.u8,ZK.i IntKind.u8,ZK.i IntKind.u8,ZK.i IntKind.u8,ZK.i IntKind.u8,ZK.i IntKind.u8,ZK.i IntKind.u8,ZK.i IntKind.u8,ZK.i IntKind.u8,ZK.i IntKind.u8,ZK.i IntKind.u8,ZK.i IntKind.u8,ZK.i IntKind.u8,ZK.i IntKind.u8,ZK.i IntKind.u8,ZK.i IntKind.u8,ZK.i IntKind.u8,ZK.i IntKind.u8,ZK.i IntKind.u8,ZK.i IntKind.u8,ZK.i IntKind.u8,ZK.i IntKind.u8,ZK.i IntKind.u8,ZK.i IntKind.u8,ZK.i IntKind.u8,ZK.i IntKind.u8,ZK.i IntKind.u8,ZK.i IntKind.u8,ZK.i IntKind.u8,ZK.i IntKind.u8,ZK.i IntKind.u8,ZK.i IntKind.u8,ZK.i IntKind.u8,ZK.i IntKind.u8,ZK.i IntKind.u8,ZK.i IntKind.u8,ZK.i IntKind.u8,ZK.i IntKind.u8,ZK.i IntKind.u8,ZK.i IntKind.u8,ZK.i IntKind.u8,ZK.i IntKind.u8,ZK.i IntKind.u8,ZK.i IntKind.u8,ZK.i IntKind.u8,ZK.i IntKind.u8,ZK.i IntKind.u8,ZK.i IntKind.u8,ZK.i IntKind.u8,ZK.i IntKind.u8,ZK.i IntKind.u8,ZK.i IntKind.u8,ZK.i IntKind.u8,ZK.i IntKind.u8,ZK.i IntKind.u8,ZK.i IntKind.u8,ZK.i IntKind.u8,ZK.i IntKind.u8,ZK.i IntKind.u8,ZK.i IntKind.u8,ZK.i IntKind.u8,ZK.i IntKind.u8,ZK.i IntKind.u8,ZK.i IntKind.u8,ZK.i IntKind.u8,ZK.i IntKind.u8,ZK.i IntKind.u8,ZK.i IntKind.u8,ZK.i IntKind.u8,ZK.i IntKind.u8,ZK.i IntKind.u8,ZK.i IntKind.u8,ZK.i IntKind.u8,ZK.i IntKind.u8,ZK.i IntKind.u8,ZK.i IntKind.u8,ZK.i IntKind.u8,ZK.i IntKind.u8,ZK.i IntKind.u8,ZK.i IntKind.u8,ZK.i IntKind.u8,ZK.i IntKind.u8,ZK.i IntKind.u8,ZK.i IntKind.u8,ZK.i IntKind.u8,ZK.i IntKind.u8,ZK.i IntKind.u8,ZK.i IntKind.u8,ZK.i IntKind.u8,ZK.i IntKind.u8,ZK.i IntKind.u8,ZK.i IntKind.u8,ZK.i IntKind.u8,ZK.i IntKind.u8,ZK.i IntKind.u8,ZK.i IntKind.u8,ZK.i IntKind.u8,ZK.i IntKind.u8,ZK.i IntKind.u8]),
 (289,Ti.mk (Kd.struct [Av.Fd.mk 0 1 Bool.false 5,Av.Fd.mk 1 1 Bool.false 5]) 2 2 [ZK.i IntKind.u8,ZK.i IntKind.u8]),
 (290,Ti.mk (Kd.struct [Av.Fd.mk 0 1 Bool.false 5,Av.Fd.mk 1 1 Bool.false 5]) 2 2 [ZK.i IntKind.u8,ZK.i IntKind.u8]),
 (291,Ti.mk (Kd.array 16 290) 32 32 [ZK.i IntKind.u8,ZK.i IntKind.u8,ZK.i IntKind.u8,ZK.i IntKind.u8,ZK.i IntKind.u8,ZK.i IntKind.u8,ZK.i IntKind.u8,ZK.i IntKind.u8,ZK.i IntKind.u8,ZK.i IntKind.u8,ZK.i IntKind.u8,ZK.i IntKind.u8,ZK.i IntKind.u8,ZK.i IntKind.u8,ZK.i IntKind.u8,ZK.i IntKind.u8,ZK.i IntKind.u8,ZK.i IntKind.u8,ZK.i IntKind.u8,ZK.i IntKind.u8,ZK.i IntKind.u8,ZK.i IntKind.u8,ZK.i IntKind.u8,ZK.i IntKind.u8,ZK.i IntKind.u8,ZK.i IntKind.u8,ZK.i IntKind.u8,ZK.i IntKind.u8,ZK.i IntKind.u8,ZK.i IntKind.u8,ZK.i IntKind.u8,ZK.i IntKind.u8]),
 (292,Ti.mk Kd.func 1 8 [ZK.f]),
 (293,Ti.mk Kd.func 1 8 [ZK.f]),
 (294,Ti.mk Kd.func 1 8 [ZK.f]),
 (296,Ti.mk Kd.func 1 8 [ZK.f]),
 (297,Ti.mk Kd.func 1 8 [ZK.f]),
 (298,Ti.mk (Kd.struct [Av.Fd.mk 0 1 Bool.false 17,Av.Fd.mk 1 1 Bool.false 17,Av.Fd.mk 2 1 Bool.false 17,Av.Fd.mk 3 1 Bool.false 9]) 4 40 [ZK.p,ZK.p,ZK.p,ZK.s]),
 (299,Ti.mk (Kd.struct [Av.Fd.mk 0 1 Bool.false 17,Av.Fd.mk 1 1 Bool.false 17,Av.Fd.mk 2 1 Bool.false 17,Av.Fd.mk 3 1 Bool.false 9]) 4 40 [ZK.p,ZK.p,ZK.p,ZK.s]),
 (300,Ti.mk (Kd.array 0 16) 0 0 []),
 (301,Ti.mk (Kd.struct [Av.Fd.mk 0 0 Bool.true 300]) 0 0 []),
 (302,Ti.mk (Kd.struct [Av.Fd.mk 0 0 Bool.true 300]) 0 0 []),
 (303,Ti.mk Kd.func 1 8 [ZK.f]),
 (304,Ti.mk (Kd.int IntKind.u8) 1 1 [ZK.i IntKind.u8]),
 (305,Ti.mk (Kd.int IntKind.u8) 1 1 [ZK.i IntKind.u8]),
 (306,Ti.mk Kd.func 1 8 [ZK.f]),
 (307,Ti.mk (Kd.ptr 5) 1 8 [ZK.p]),
 (308,Ti.mk (Kd.int IntKind.i32) 1 4 [ZK.i IntKind.i32]),
 (309,Ti.mk (Kd.int IntKind.i32) 1 4 [ZK.i IntKind.i32]),
 (310,Ti.mk (Kd.struct [Av.Fd.mk 0 1 Bool.false 12,Av.Fd.mk 1 1 Bool.false 12,Av.Fd.mk 2 1 Bool.false 219,Av.Fd.mk 3 1 Bool.false 304,Av.Fd.mk 4 1 Bool.false 5,Av.Fd.mk 5 1 Bool.false 5,Av.Fd.mk 6 1 Bool.false 305,Av.Fd.mk 7 1 Bool.false 306,Av.Fd.mk 8 1 Bool.false 307,Av.Fd.mk 9 1 Bool.false 308,Av.Fd.mk 10 1 Bool.false 309]) 11 48 [ZK.i IntKind.u64,ZK.i IntKind.u64,ZK.i IntKind.u32,ZK.i IntKind.u8,ZK.i IntKind.u8,ZK.i IntKind.u8,ZK.i IntKind.u8,ZK.f,ZK.p,ZK.i IntKind.i32,ZK.i IntKind.i32]),
 (311,Ti.mk (Kd.struct [Av.Fd.mk 0 1 Bool.false 12,Av.Fd.mk 1 1 Bool.false 12,Av.Fd.mk 2 1 Bool.false 219,Av.Fd.mk 3 1 Bool.false 304,Av.Fd.mk 4 1 Bool.false 5,Av.Fd.mk 5 1 Bool.false 5,Av.Fd.mk 6 1 Bool.false 305,Av.Fd.mk 7 1 Bool.false 306,Av.Fd.mk 8 1 Bool.false 307,Av.Fd.mk 9 1 Bool.false 308,Av.Fd.mk 10 1 Bool.false 309]) 11 48 [ZK.i IntKind.u64,ZK.i IntKind.u64,ZK.i IntKind.u32,ZK.i IntKind.u8,ZK.i IntKind.u8,ZK.i IntKind.u8,ZK.i IntKind.u8,ZK.f,ZK.p,ZK.i IntKind.i32,ZK.i IntKind.i32])]
theorem Zab:chk Tryz.prog tt=true:=by kernel_rfl
theorem ZaL:Tryz.prog.follows .mixedOrders=true:=by kernel_rfl
abbrev byE (l:List UInt8):D:=.sl .ext (l.map E.byte)
theorem Zbm (l:List UInt8):Uni 1 (l.map E.byte):=Uni.map (f:=E.byte) (fun _=>rfl) l
end Go.Proofs.YtakblclkflnnpaaGreatDoor
end
