/- Regions that draw their order, in which one operation panics. -/
import Derived.Test.YtmljabhmajehnaaDoorN09
import Derived.Test.YtmljabhmajehnaaDoorN01
set_option linter.unusedSimpArgs false
set_option linter.unusedVariables false
section
open Go.RowKit Go.Pl
namespace Go.Av
section
variable {P:Program} {Q:X->St->Prop} {n:Nat} {ee:Nat × Nat} {tm tm':List (Nat × D)} {bx bx':List (List D)} {fr fr':List Fr} {b0:Bs} {g:G} {w:World} {a:Act}
theorem Gd [Known][Dfr]{l:List Oper}{ds:List (Nat × D)}{listed:Array Bool}(hchk:Yy l=true)(hE:U6 l=true)(hl:ds.length<=l.length)
  (hdst:∀(i:Nat) (o:Oper),l[i]?=some o->i<ds.length->∃ t d,ds[i]?=some (t,d)/\o.dst=some t)
  (hM:Mid b0 ee n tm bx fr l ds listed g a w) {i:Nat} (hi:i ∈ Region.ready .any l.toArray listed) (hids:i<ds.length) (hst:∀ o,l[i]?=some o->∃ t d,ds[i]?=some (t,d)/\o.dst=some t/\Nat.blt t n=true/\AL P l.toArray [o] ⟨n,Z3 l o ((ds.take i).reverse++tm),bx,fr,(bx.length,fr.length)⟩ (qp t d bx fr)) {K:Act->World->Prop} {Q2:Exit->Act->World->Prop} (hK:∀ g' a' w',Mid b0 ee n tm bx fr l ds (listed.setIfInBounds i true) g' a' w'->K a' w') :
  wpOp P l.toArray Q2 i K a w:=by
 obtain⟨hn0,o,ho,hr⟩:=mem_ready.1 hi
 have ho':l[i]?=some o:=by simpa using ho
 have hil:i<l.length:=(List.getElem?_eq_some_iff.1 ho').1
 have hn:listed.getD i false=false:=by
  have:i<listed.size:=by rw[hM.len];exact hil
  simp[this]at hn0 ⊢;exact hn0
 obtain⟨t,d,e1,e2,e3,hAL⟩:=hst o ho'
 have hN:∀(i j:Nat) (p q:Nat × D),ds[i]?=some p->ds[j]?=some q->p.1=q.1->i=j:=fun x y p q hx hy e=>by
  by_cases hxy:x=y
  ·exact hxy
  ·exfalso
   have hxd:=(List.getElem?_eq_some_iff.1 hx).1
   have hxl:x<l.length:=Nat.lt_of_lt_of_le hxd hl
   have hyd:=(List.getElem?_eq_some_iff.1 hy).1
   have hyl:y<l.length:=Nat.lt_of_lt_of_le hyd hl
   have hc:=Vl hchk hxl hyl hxy
   obtain⟨t1,d1,a1,a2⟩:=hdst x _ (List.getElem?_eq_getElem hxl) hxd
   obtain⟨t2,d2,c1,c2⟩:=hdst y _ (List.getElem?_eq_getElem hyl) hyd
   rw[hx]at a1;injection a1 with a1
   rw[hy]at c1;injection c1 with c1
   simp only[WQ,List.getElem?_eq_getElem hxl,List.getElem?_eq_getElem hyl,a2,c2,Bool.and_eq_true,bne_iff_ne,ne_eq,Option.some.injEq]at hc
   rw[a1,c1]at e
   exact hc.1 e.symm
 have hinv:Inv ⟨g,fr,w⟩ ⟨n,Z3 l o ((ds.take i).reverse++tm),bx,fr,(bx.length,fr.length)⟩ g a w:=by
  refine⟨hM.size,hM.defers,hM.mem,fun x=>?_,Evo.refl _,by rw[hM.mem.bl];exact Nat.le_refl _,Nat.le_refl _⟩
  by_cases hx:x ∈ YQ l o
  ·dsimp only
   rw[WK _ hx,<- QB hchk hl hdst hM.closed ho' hn hr (Nat.le_of_lt hids) hx]
   exact hM.tm x
  ·dsimp only
   rw[YR _ hx]
   exact .junk _
 have hrun:=hAL.run ⟨g,fr,w⟩ g a w hinv
 have fin:∀ a' w',(∃ v,a'=a.put o.dst v)->wpList P l.toArray (WH ⟨g,fr,w⟩ (qp t d bx fr)) [] a' w'->K a' w':=by
  rintro a' w' ⟨v,rfl⟩ h
  obtain⟨S',g',hi',hq⟩:=h
  obtain⟨n',tm2,bx2,fr2,ee'⟩:=S'
  have hn':n'=n:=by
   have h1:=hi'.size
   dsimp only at h1
   rw[<- h1,<- hM.size]
   cases hd':o.dst<;>simp[Act.put,hd']
  subst hn'
  obtain⟨tm3,g',hi',q3⟩:∃ tm3 g',Inv ⟨g,fr,w⟩ ⟨n',tm3,bx,fr,(g.ρ.length,fr.length)⟩ g' (a.put o.dst v) w'/\look tm3 t=d:=by
   rcases hq with⟨q1,q2,q3⟩ | ⟨q1,q2,q3,q4⟩
   ·dsimp only at q1 q2 q3
    subst q1 q2
    exact⟨tm2,g',⟨hi'.size,hi'.defers,hi'.mem,hi'.tm,hi'.evo,Nat.le_refl _,Nat.le_refl _⟩,q3⟩
   ·dsimp only at q1 q2 q3
    have h1:Inv ⟨g,fr,w⟩ ⟨n',[(t,d)],bx2,fr2,(g.ρ.length,fr.length)⟩ g' (a.put o.dst v) w':=by
     refine⟨hi'.size,hi'.defers,hi'.mem,fun x=>?_,hi'.evo,Nat.le_refl _,Nat.le_refl _⟩
     by_cases hx:x=t
     ·subst hx
      have:=hi'.tm x
      dsimp only at this ⊢
      simp only[look,Nat.beq_refl]
      rcases q3 with q3|q3
      ·rw[<- q3];exact this
      ·rw[<- q3];exact this.wk
     ·have hb:Nat.beq t x=false:=by
       cases hb:Nat.beq t x with
       | false=>rfl
       | true=>exact(hx (Nat.eq_of_beq_eq_true hb).symm).elim
      simp only[look,hb]
      exact .junk _
    have h2:=h1.cut (k:=bx.length) (m:=fr.length) (by show g.ρ.length<=_;rw[hM.mem.bl];exact Nat.le_refl _) (Nat.le_refl _) (by simp only[X1,q4]) (by rw[q1];exact hM.mem.allLt)
    rw[q1,q2]at h2
    exact⟨_,_,h2,by simp[look]⟩
  refine hK g' _ _ ⟨hM.bd,hi'.size,hi'.defers,hi'.mem,hM.evo.trans hi'.evo,fun x=>?_,fun m om hm hlm e he hb=>?_,by simp[hM.len]⟩
  ·by_cases hx:x=t
   ·subst hx
    rw[Yu hN hl e1,if_pos (by simp[hM.len,hil])]
    have:=hi'.tm x
    dsimp only at this
    rw[q3]at this
    exact this
   ·have hcur:cur l ds tm (listed.setIfInBounds i true) x=cur l ds tm listed x:=by
     by_cases hex:∃(j:Nat) (d:D),ds[j]?=some (x,d)
     ·obtain⟨j,dj,hj⟩:=hex
      have hne:i ≠ j:=fun e=>by
       subst e
       rw[e1]at hj;injection hj with hj;injection hj with hj
       exact hx hj.symm
      rw[Yu hN hl hj,Yu hN hl hj,getD_set_ne false hne]
     ·have hno:∀(j:Nat) (p:Nat × D),ds[j]?=some p->p.1 ≠ x:=fun j p hj e=>hex ⟨j,p.2,by rw[hj,<- e]⟩
      rw[YM hno,YM hno]
    rw[hcur]
    have htm:(a.put o.dst v).tmps.getD x undef=a.tmps.getD x undef:=by
     rw[e2]
     simp[Act.put,Array.getD_getElem?,Array.getElem?_setIfInBounds_ne (Ne.symm hx)]
    rw[htm]
    exact(hM.tm x).evo hi'.evo
  ·by_cases hmi:m=i
   ·subst hmi
    rw[ho']at hm;injection hm with hm;subst hm
    exact getD_set_true (hr e he hb)
   ·rw[getD_set_ne false (Ne.symm hmi)]at hlm
    exact getD_set_true (hM.closed m om hm hlm e he hb)
 unfold wpOp
 simp only[ho]
 unfold wpList at hrun
 by_cases hw:Region.wanted o (yielded l.toArray a.tmps)=true
 ·rw[if_pos hw]at hrun
  rw[if_pos hw]
  have hL:LetsOut (WH ⟨g,fr,w⟩ (qp t d bx fr))->False:=fun⟨_,_,h⟩=>h
  rcases hrun with hrun|⟨_,hlo⟩
  ·refine .inl ?_
   have:=Jp (Q2:=Q2) hrun hM.defers (fun a w h=>by obtain⟨S',g',hi',_⟩:=h;exact hi'.defers) (fun c a w h=>by obtain⟨_,_,_,_,_,_,_,hq⟩:=h;exact hq) hL
   exact Oper.wp_mono (P:=P) (fun a' w' h=>fin a' w' h.1 h.2) this
  ·exact(hL hlo).elim
 ·rw[if_neg hw]at hrun
  rw[if_neg hw]
  exact fin _ _ ⟨undef,rfl⟩ hrun
def qx (p:D)(bx:List (List D)):X->St->Prop
 | .pan d,S=>d=p/\bx.length<=S.bx.length
 | _,_=>False
theorem QD {p d:D}{tm2:List (Nat × D)}{bx2:List (List D)}{fr2:List Fr}(hd:d=p)(h:bx.length<=bx2.length):qx p bx (.pan d) ⟨n,tm2,bx2,fr2,ee⟩:=⟨hd,h⟩
theorem Hr {o:Oper}{K K':Act->World->Prop}{Q' Q2:Exit->Act->World->Prop}{r:Result Next}(h:o.upon P a K Q' r)(hK:∀ a w,K a w->False)(hQ:∀ c w,Q' (.panic c) a w->Q2 (.panic c) a w)(hL:LetsOut Q'->False) :
  o.upon P a K' Q2 r:=by
 cases r with
 | ok nx w'=>
  cases nx<;>simp only[Oper.upon]at h ⊢
  case value v=>exact(hK _ _ h).elim
  case skip=>exact(hK _ _ h).elim
  case defer d=>exact(hK _ _ h).elim
  case enter f args=>
   refine Calls.mono h (fun e w'' he=>?_)
   cases e with
   | returned u=>exact(hK _ _ he).elim
   | panicked c=>exact hQ _ _ he
   | outgrown=>exact(hL he).elim
  case row row args=>exact Rows.mono h fun u w'' he=>(hK _ _ he).elim
 | halt x w'=>
  cases x<;>simp only[Oper.upon]at h ⊢
  case panic u=>exact hQ _ _ h
theorem TE [Known][Dfr]{l:List Oper}{ds:List (Nat × D)}{listed:Array Bool}{p:D}(hchk:Yy l=true)(hl:ds.length<=l.length)
  (hdst:∀(i:Nat) (o:Oper),l[i]?=some o->i<ds.length->∃ t d,ds[i]?=some (t,d)/\o.dst=some t)
  (hM:Mid b0 ee n tm bx fr l ds listed g a w) {i:Nat} (hi:i ∈ Region.ready .any l.toArray listed) (hids:i<ds.length)
  (hst:∀ o,l[i]?=some o->AL P l.toArray [o] ⟨n,Z3 l o ((ds.take i).reverse++tm),bx,fr,(bx.length,fr.length)⟩ (qx p bx))
  (hQ:∀ tm2 bx2 fr2,bx.length<=bx2.length->Q (.pan p) ⟨n,tm2,bx2,fr2,ee⟩) {K:Act->World->Prop}:wpOp P l.toArray (WH b0 Q) i K a w:=by
 obtain⟨hn0,o,ho,hr⟩:=mem_ready.1 hi
 have ho':l[i]?=some o:=by simpa using ho
 have hil:i<l.length:=(List.getElem?_eq_some_iff.1 ho').1
 have hn:listed.getD i false=false:=by
  have:i<listed.size:=by rw[hM.len];exact hil
  simp[this]at hn0 ⊢;exact hn0
 have hAL:=hst o ho'
 have hinv:Inv ⟨g,fr,w⟩ ⟨n,Z3 l o ((ds.take i).reverse++tm),bx,fr,(bx.length,fr.length)⟩ g a w:=by
  refine⟨hM.size,hM.defers,hM.mem,fun x=>?_,Evo.refl _,by rw[hM.mem.bl];exact Nat.le_refl _,Nat.le_refl _⟩
  by_cases hx:x ∈ YQ l o
  ·dsimp only
   rw[WK _ hx,<- QB hchk hl hdst hM.closed ho' hn hr (Nat.le_of_lt hids) hx]
   exact hM.tm x
  ·dsimp only
   rw[YR _ hx]
   exact .junk _
 have hrun:=hAL.run ⟨g,fr,w⟩ g a w hinv
 have hK:∀ a w,wpList P l.toArray (WH ⟨g,fr,‹World›⟩ (qx p bx)) [] a w->False:=fun a w h=>by
  obtain⟨_,_,_,h⟩:=h;exact h
 have hL:LetsOut (WH ⟨g,fr,‹World›⟩ (qx p bx))->False:=fun⟨_,_,h⟩=>h
 unfold wpOp
 simp only[ho]
 unfold wpList at hrun
 by_cases hw:Region.wanted o (yielded l.toArray a.tmps)=true
 ·rw[if_pos hw]at hrun
  rw[if_pos hw]
  rcases hrun with hrun|⟨_,hlo⟩
  ·refine .inl ?_
   refine Hr hrun (fun a w h=>by obtain⟨_,_,_,h⟩:=h;exact h) (fun c w' h=>?_) (fun⟨_,_,h⟩=>h)
   obtain⟨S',g',v,d,hi',hc,hv,hd,hle⟩:=h
   obtain⟨n',tm2,bx2,fr2,ee'⟩:=S'
   have hn':n'=n:=by rw[<- hM.size];exact hi'.size.symm
   subst hn' hd
   exact⟨⟨n',tm2,bx2,fr2,ee⟩,g',v,d,⟨hi'.size,hi'.defers,hi'.mem,hi'.tm,hM.evo.trans hi'.evo,hM.bd⟩,hc,hv,hQ tm2 bx2 fr2 hle⟩
  ·obtain⟨_,_,h⟩:=hlo;exact h.elim
 ·rw[if_neg hw]at hrun
  obtain⟨_,_,_,h⟩:=hrun;exact h.elim
inductive ADX [Known][Dfr](P:Program) (l:List Oper) (n:Nat) (bx:List (List D)) (fr:List Fr) (j:Nat) (p:D):Nat->List Oper->List (Nat × D)->Prop
 | nil (i:Nat) (tm:List (Nat × D)):ADX P l n bx fr j p i [] tm
 | pu (i:Nat) (o:Oper) (rest:List Oper) (t:Nat) (d:D) (tm:List (Nat × D)) (hd:o.dst=some t) (ht:Nat.blt t n=true) (hne:Nat.beq i j=false) (h:AL P l.toArray [o] ⟨n,Z3 l o tm,bx,fr,(bx.length,fr.length)⟩ (qp t d bx fr)) (k:ADX P l n bx fr j p (i+1) rest ((t,d)::tm)):ADX P l n bx fr j p i (o::rest) tm
 | dead (i:Nat) (o:Oper) (rest:List Oper) (t:Nat) (tm:List (Nat × D)) (hd:o.dst=some t) (hu:up (Z9 [] l) i j=true) (k:ADX P l n bx fr j p (i+1) rest ((t,.junk)::tm)):ADX P l n bx fr j p i (o::rest) tm
 | pan (o:Oper) (rest:List Oper) (t:Nat) (tm:List (Nat × D)) (hd:o.dst=some t) (h:AL P l.toArray [o] ⟨n,Z3 l o tm,bx,fr,(bx.length,fr.length)⟩ (qx p bx)) (k:ADX P l n bx fr j p (j+1) rest ((t,.junk)::tm)):ADX P l n bx fr j p j (o::rest) tm
theorem ADX.steps [Known][Dfr]{l:List Oper}{j:Nat}{p:D}{i0:Nat}{rest:List Oper}(h:ADX P l n bx fr j p i0 rest tm):∃ ds:List (Nat × D),ds.length=rest.length/\∀(i:Nat) (o:Oper),rest[i]?=some o->∃ t d,ds[i]?=some (t,d)/\o.dst=some t /\
  ((i0+i ≠ j/\Nat.blt t n=true/\AL P l.toArray [o] ⟨n,Z3 l o ((ds.take i).reverse++tm),bx,fr,(bx.length,fr.length)⟩ (qp t d bx fr))\/up (Z9 [] l) (i0+i) j=true\/(i0+i=j/\AL P l.toArray [o] ⟨n,Z3 l o ((ds.take i).reverse++tm),bx,fr,(bx.length,fr.length)⟩ (qx p bx))):=by
 induction h with
 | nil i tm=>exact⟨[],rfl,fun i o h=>by simp at h⟩
 | pu i o rest t d tm hd ht hne h k ih=>
  obtain⟨ds,h1,h2⟩:=ih
  refine⟨(t,d)::ds,by simp[h1],fun x o' hx=>?_⟩
  cases x with
  | zero=>
   simp at hx;subst hx
   exact⟨t,d,rfl,hd,.inl ⟨fun e=>by rw[Nat.add_zero]at e;subst e;simp at hne,ht,h⟩⟩
  | succ x=>
   obtain⟨t',d',q1,q2,q3⟩:=h2 x o' (by simpa using hx)
   refine⟨t',d',by simpa using q1,q2,?_⟩
   rw[show i+(x+1)=i+1+x by omega]
   simpa using q3
 | dead i o rest t tm hd hu k ih=>
  obtain⟨ds,h1,h2⟩:=ih
  refine⟨(t,.junk)::ds,by simp[h1],fun x o' hx=>?_⟩
  cases x with
  | zero=>simp at hx;subst hx;exact⟨t,_,rfl,hd,.inr (.inl hu)⟩
  | succ x=>
   obtain⟨t',d',q1,q2,q3⟩:=h2 x o' (by simpa using hx)
   refine⟨t',d',by simpa using q1,q2,?_⟩
   rw[show i+(x+1)=i+1+x by omega]
   simpa using q3
 | pan o rest t tm hd h k ih=>
  obtain⟨ds,h1,h2⟩:=ih
  refine⟨(t,.junk)::ds,by simp[h1],fun x o' hx=>?_⟩
  cases x with
  | zero=>simp at hx;subst hx;exact⟨t,_,rfl,hd,.inr (.inr ⟨rfl,h⟩)⟩
  | succ x=>
   obtain⟨t',d',q1,q2,q3⟩:=h2 x o' (by simpa using hx)
   refine⟨t',d',by simpa using q1,q2,?_⟩
   rw[show j+(x+1)=j+1+x by omega]
   simpa using q3
def TF (l:List Oper)(j m:Nat):Bool:=(List.range l.length).all fun i=>Nat.blt i m||up (Z9 [] l) i j
theorem VI [Known][Dfr]{id:Nat}(m j:Nat){p:D}{l:List Oper}(hm:P.follows .mixedOrders=true)(hchk:Yy l=true)(hE:U6 l=true)(hdead:TF l j m=true)(hjm:Nat.blt j m=true)(hlen:Nat.beq (l.take m).length m=true)(h:ADX P l n bx fr j p 0 (l.take m) tm)
  (hQ:∀ tm2 bx2 fr2,bx.length<=bx2.length->Q (.pan p) ⟨n,tm2,bx2,fr2,ee⟩):AW P (.region id l.toArray true) ⟨n,tm,bx,fr,ee⟩ Q:=by
 obtain⟨ds,h1,h3⟩:=h.steps
 have hlen:=Nat.eq_of_beq_eq_true hlen
 have hjm:j<m:=by simpa using hjm
 have hml:m<=l.length:=by rw[List.length_take]at hlen;omega
 rw[hlen]at h1
 have hl:ds.length<=l.length:=by omega
 have hst:∀(i:Nat) (o:Oper),l[i]?=some o->i<ds.length->_:=fun i o ho hi=>h3 i o (by rw[List.getElem?_take,if_pos (by omega)];exact ho)
 have hdst:∀(i:Nat) (o:Oper),l[i]?=some o->i<ds.length->∃ t d,ds[i]?=some (t,d)/\o.dst=some t:=fun i o h hd=>by
  obtain⟨t,d,h1,h2,_⟩:=hst i o h hd;exact⟨t,d,h1,h2⟩
 have hjl:j<l.length:=by omega
 refine⟨fun b0 g a w hi=>wp_region_any hm ?_⟩
 have main:∀(fuel:Nat) (listed:Array Bool) (g:G) (a:Act) (w:World),Mid b0 ee n tm bx fr l ds listed g a w->listed.getD j false=false->left l listed=fuel->wpAny P .any l.toArray (WH b0 Q) fuel listed a w:=by
  intro fuel
  induction fuel with
  | zero=>
   intro listed g a w hM hj h0
   have:=Yk h0 hjl
   rw[hj]at this;cases this
  | succ fuel ih=>
   intro listed g a w hM hj hf
   refine⟨fun he=>(VD hE hM.len (by omega) he).elim,fun i hi=>?_⟩
   obtain⟨hn0,o,ho,hr⟩:=mem_ready.1 hi
   have ho':l[i]?=some o:=by simpa using ho
   have hil:i<l.length:=(List.getElem?_eq_some_iff.1 ho').1
   have hlt:i<listed.size:=by rw[hM.len];exact hil
   have hn:listed.getD i false=false:=by simp[hlt]at hn0 ⊢;exact hn0
   have hleft:=Ui hil hM.len hn
   have nodead:up (Z9 [] l) i j=true->False:=fun hu=>by
    have:=Y3 hM.closed i o ho' hr j hu
    rw[hj]at this;cases this
   by_cases him:i<m
   ·obtain⟨t,d,e1,e2,hc⟩:=hst i o ho' (by omega)
    rcases hc with⟨hne,hbt,hAL⟩ | hu|⟨hij,hAL⟩
    ·refine Gd hchk hE hl hdst hM hi (by omega) (fun o1 ho1=>?_) fun g' a' w' hM'=>ih _ g' a' w' hM' ?_ (by omega)
     ·rw[ho']at ho1;injection ho1 with ho1;subst ho1
      exact⟨t,d,e1,e2,hbt,hAL⟩
     ·rw[getD_set_ne false (by omega)];exact hj
    ·exact(nodead (by simpa using hu)).elim
    ·refine TE hchk hl hdst hM hi (by omega) (fun o1 ho1=>?_) hQ
     rw[ho']at ho1;injection ho1 with ho1;subst ho1
     exact hAL
   ·have:=List.all_eq_true.1 hdead i (List.mem_range.2 hil)
    simp only[Bool.or_eq_true,Nat.blt_eq]at this
    exact(nodead (this.resolve_left him)).elim
 have hsz:l.toArray.size=l.length:=by simp
 rw[hsz]
 have hfresh:∀ i,(Array.replicate l.length false).getD i false=false:=fun i=>by
  rcases Nat.lt_or_ge i l.length with h|h<;>simp[h]
 refine main l.length _ g a _ ⟨hi.bd,hi.size,hi.defers,hi.mem.drew,hi.evo.trans Evo.drew,fun t=>?_,fun m o hm hl=>?_,by simp⟩ (hfresh j) ?_
 ·have:cur l ds tm (Array.replicate l.length false) t=look tm t:=by
   unfold cur
   have hf:(List.range l.length).find? (fun i=>(Array.replicate l.length false).getD i false&&((ds[i]?).map (·.1)==some t))=none:=by
    apply List.find?_eq_none.2
    intro i _
    rw[hfresh];simp
   rw[hf]
  rw[this]
  exact(hi.tm t).drew
 ·rw[hfresh]at hl;cases hl
 ·unfold left
  rw[List.countP_eq_length.2 (fun i _=>by rw[hfresh];rfl),List.length_range]
theorem QE [Known][Dfr]{l:List Oper}{j i t:Nat}{p d:D}{o:Oper}{rest:List Oper}{tm2:List (Nat × D)}(hd:o.dst=some t)(ht:Nat.blt t n=true)(hne:Nat.beq i j=false)(h2:nfl (Z3 l o tm)=some tm2)
  (h:AL P l.toArray [o] ⟨n,tm2,bx,fr,(bx.length,fr.length)⟩ (qp t d bx fr)) (k:ADX P l n bx fr j p (i+1) rest ((t,d)::tm)):ADX P l n bx fr j p i (o::rest) tm:=
 .pu i o rest t d tm hd ht hne (by rw[Yd h2];exact h) k
theorem VJ [Known][Dfr]{l:List Oper}{j i t:Nat}{p:D}{o:Oper}{rest:List Oper}(hu:up (Z9 [] l) i j=true)(hd:o.dst=some t)(k:ADX P l n bx fr j p (i+1) rest ((t,.junk)::tm)):ADX P l n bx fr j p i (o::rest) tm:=.dead i o rest t tm hd hu k
theorem Uw [Known][Dfr]{l:List Oper}{j i t:Nat}{p:D}{o:Oper}{rest:List Oper}{tm2:List (Nat × D)}(hij:Nat.beq i j=true)(hd:o.dst=some t)(h2:nfl (Z3 l o tm)=some tm2)
  (h:AL P l.toArray [o] ⟨n,tm2,bx,fr,(bx.length,fr.length)⟩ (qx p bx)) (k:ADX P l n bx fr j p (i+1) rest ((t,.junk)::tm)):ADX P l n bx fr j p i (o::rest) tm:=by
 obtain rfl:=Nat.eq_of_beq_eq_true hij
 exact .pan o rest t tm hd (by rw[Yd h2];exact h) k
end
end Go.Av
end
section
open Go.RowKit Go.Pl
namespace Go.Proofs.YtmljabhmajehnaaDoor
abbrev Hd:=Int × Nat × Bool
def hv (h:Hd):Value:=.agg #[.int .i64 h.1,.int .u64 (h.2.1:Int),.bool h.2.2]
def QF (m:Int):Bool:=decide (2<=m/\m<=5\/m=7)
def ZV (h:Hd):Bool:=if h.2.2 then decide (h.2.1=0)&&QF h.1 else decide (0<=h.1/\h.1<=7)
def ZA (n:Nat):Nat:=if n<24 then 0 else if n<256 then 1 else if n<65536 then 2 else if n<4294967296 then 4 else 8
def Yr (n:Nat):Nat:=if n<24 then n else if n<256 then 24 else if n<65536 then 25 else if n<4294967296 then 26 else 27
def Ua (h:Hd):Nat:=if ZV h then(if h.2.2 then 1 else 1+ZA h.2.1) else 0
def beN (n k:Nat):List UInt8:=(List.range k).map (fun i=>UInt8.ofNat (n/256 ^ (k-1-i)))
def WL (m i:Nat):UInt8:=UInt8.ofNat (32*m+i)
def ZQ (h:Hd):List UInt8:=if h.2.2 then [WL h.1.toNat 31] else WL h.1.toNat (Yr h.2.1)::beN h.2.1 (ZA h.2.1)
theorem Ju (n:Nat):ZA n<=8:=by
 unfold ZA
 repeat' split
 all_goals omega
theorem KJ (n:Nat):Yr n<=27:=by
 unfold Yr
 repeat' split
 all_goals omega
theorem M4 (M i:Nat)(hM:M<=7)(hi:i<32):bits .or .u8 ((M:Int)*32) (i:Int)=((32*M+i:Nat):Int):=by
 have h:=u8_or ((M:Int)*32) (i:Int) (by omega) (by omega) (by omega) (by omega)
 rw[h,show((M:Int)*32).toNat=32*M from by omega,Int.toNat_natCast]
 rw[nat_join 5 (32*M) i (by omega) (by omega)]
theorem Yw (n k:Nat):(beN n k).length=k:=by simp[beN]
theorem UL (n k i:Nat)(h:i<k):(beN n k).take (i+1)=(beN n k).take i++[UInt8.ofNat (n/256 ^ (k-1-i))]:=by
 rw[List.take_succ_eq_append_getElem (by rw[Yw];exact h)]
 simp[beN]
def Wk (l:List UInt8):Nat:=l.foldl (fun a c=>256*a+c.toNat) 0
def Yx (b:List UInt8)(p:Nat):Hd × Nat × Nat:=
 match b.drop p with
 | []=>((0,0,false),0,8)
 | c::r=>
  if c.toNat % 32<24 then(((c.toNat/32:Nat),c.toNat % 32,false),p+1,0)
  else if c.toNat % 32=31/\QF (c.toNat/32:Nat)=true then(((c.toNat/32:Nat),0,true),p+1,0)
  else if 27<c.toNat % 32 then((0,0,false),0,3)
  else if r.length<2 ^ (c.toNat % 32-24) then((0,0,false),0,8)
  else(((c.toNat/32:Nat),Wk (r.take (2 ^ (c.toNat % 32-24))),false),p+1+2 ^ (c.toNat % 32-24),0)
theorem UU (l:List UInt8)(c:UInt8):Wk (l++[c])=256*Wk l+c.toNat:=by simp[Wk]
theorem OJ (l:List UInt8):∀ a,l.foldl (fun a c=>256*a+c.toNat) a<(a+1)*256 ^ l.length:=by
 induction l with
 | nil=>intro a;simp
 | cons c l ih=>
  intro a
  have h1:=ih (256*a+c.toNat)
  have h2:=c.toNat_lt
  have h3:(256*a+c.toNat+1)*256 ^ l.length<=((a+1)*256)*256 ^ l.length:=Nat.mul_le_mul_right _ (by omega)
  simp only[List.foldl_cons,List.length_cons]
  rw[Nat.pow_succ,Nat.mul_comm (256 ^ l.length) 256,<- Nat.mul_assoc]
  omega
theorem Jv (l:List UInt8):Wk l<256 ^ l.length:=by
 have:=OJ l 0
 unfold Wk
 omega
theorem OK (v:Nat)(c:UInt8)(hv:v<72057594037927936):IntKind.u64.wrap ((v:Int)*256)=(v:Int)*256/\bits .or .u64 ((v:Int)*256) (c.toNat:Int)=((256*v+c.toNat:Nat):Int):=by
 have hc:=c.toNat_lt
 refine⟨by rw[IntKind.wrap_u64];omega,?_⟩
 have h:=u64_or_nat (256*v) c.toNat (by omega) (by omega)
 rw[nat_join 8 (256*v) c.toNat (by omega) (by omega)]at h
 rw[<- h]
 congr 1
 omega
theorem Ge (r:List UInt8)(i:Nat)(h:i<r.length):Wk (r.take (i+1))=256*Wk (r.take i)+r[i].toNat:=by
 rw[List.take_succ_eq_append_getElem h,UU]
theorem J8 (r:List UInt8)(i:Nat)(h:i<8):Wk (r.take i)<72057594037927936:=by
 have h1:=Jv (r.take i)
 have h2:256 ^ (r.take i).length<=256 ^ 7:=Nat.pow_le_pow_right (by decide) (by rw[List.length_take];omega)
 omega
def Jw (b:List UInt8)(p:Int):Hd × Nat × Nat:=if p<0\/(b.length:Int)<p then((0,0,false),0,1) else Yx b p.toNat
theorem MB (c:UInt8):bits .and .u8 (c.toNat:Int) 31=((c.toNat % 32:Nat):Int):=by
 have h:=u8_and_nat c.toNat 31 c.toNat_lt (by decide)
 rw[show((31:Nat):Int)=31 from rfl]at h
 rw[h]
 congr 1
 exact Nat.and_two_pow_sub_one_eq_mod c.toNat 5
theorem KK (l:List UInt8)(p:Nat):(Yx l p).2.1<=l.length/\(Yx l p).1.2.1<18446744073709551616/\((Yx l p).2.2=0->p<(Yx l p).2.1):=by
 unfold Yx
 split
 ·exact⟨Nat.zero_le _,by decide,fun h=>by simp at h⟩
 ·rename_i c r hd
  have hl:l.length-p=r.length+1:=by
   have:=congrArg List.length hd
   simpa using this
  have hc:=c.toNat_lt
  split
  ·exact⟨by dsimp only;omega,by dsimp only;omega,fun _=>by dsimp only;omega⟩
  split
  ·exact⟨by dsimp only;omega,by dsimp only;omega,fun _=>by dsimp only;omega⟩
  split
  ·exact⟨Nat.zero_le _,by decide,fun h=>by simp at h⟩
  split
  ·exact⟨Nat.zero_le _,by decide,fun h=>by simp at h⟩
  ·rename_i h1 h2 h3 h4
   have hk:2 ^ (c.toNat % 32-24)<=8:=by
    have:2 ^ (c.toNat % 32-24)<=2 ^ 3:=Nat.pow_le_pow_right (by decide) (by omega)
    omega
   have h0:=Nat.two_pow_pos (c.toNat % 32-24)
   refine⟨by dsimp only;omega,?_,fun _=>by dsimp only;omega⟩
   have h5:=Jv (r.take (2 ^ (c.toNat % 32-24)))
   have h6:256 ^ (r.take (2 ^ (c.toNat % 32-24))).length<=256 ^ 8:=Nat.pow_le_pow_right (by decide) (by rw[List.length_take];omega)
   dsimp only
   omega
theorem Hs (h:Hd):Ua h<=9:=by
 unfold Ua
 have:=Ju h.2.1
 split
 ·split<;>omega
 ·omega
theorem YW (m i:Nat)(hm:m<=7)(hi:i<32):(WL m i).toNat=32*m+i:=Jl (by omega)
theorem Gf (n k:Nat)(h:n<256 ^ k):Wk (beN n k)=n:=by
 have key:∀ i,i<=k->Wk ((beN n k).take i)=n/256 ^ (k-i):=by
  intro i
  induction i with
  | zero=>intro _;simp[Wk];exact(Nat.div_eq_of_lt h).symm
  | succ i ih=>
   intro hi
   rw[UL n k i (by omega),UU,ih (by omega),UInt8.toNat_ofNat']
   have e:256 ^ (k-i)=256 ^ (k-1-i)*256:=by rw[<- Nat.pow_succ];congr 1;omega
   rw[e,<- Nat.div_div_eq_div_mul,show k-(i+1)=k-1-i from by omega]
   omega
 have:=key k (Nat.le_refl _)
 rwa [List.take_of_length_le (by rw[Yw];exact Nat.le_refl _),Nat.sub_self,Nat.pow_zero,Nat.div_one]at this
theorem Gg (l:List UInt8):beN (Wk l) l.length=l:=by
 have key:∀(l:List UInt8) (m:Nat),(l.length=m)->beN (Wk l) m=l:=by
  intro l
  induction hk:l.length generalizing l with
  | zero=>intro m hm;have:l=[]:=List.eq_nil_of_length_eq_zero hk;subst this;subst hm;rfl
  | succ k ih=>
   intro m hm
   obtain⟨l',c,rfl⟩:∃ l' c,l=l'++[c]:=⟨l.dropLast,l.getLast (by rintro rfl;simp at hk),(List.dropLast_concat_getLast _).symm⟩
   have hl':l'.length=k:=by simpa using hk
   have h1:=ih l' hl' k rfl
   subst hm
   rw[UU]
   unfold beN at h1 ⊢
   have hc:=c.toNat_lt
   rw[List.range_succ,List.map_append]
   congr 1
   ·rw[<- h1]
    apply List.map_congr_left
    intro i hi
    have hi:i<k:=by simpa using hi
    congr 1
    have e:256 ^ (k+1-1-i)=256*256 ^ (k-1-i):=by rw[Nat.mul_comm,<- Nat.pow_succ];congr 1;omega
    rw[e,<- Nat.div_div_eq_div_mul,h1]
    congr 1
    omega
   ·simp only[List.map_cons,List.map_nil]
    congr 1
    rw[show k+1-1-k=0 from by omega,Nat.pow_zero,Nat.div_one]
    apply UInt8.toNat_inj.1
    rw[UInt8.toNat_ofNat']
    omega
 exact key l _ rfl
theorem Qa (n:Nat)(hn:n<18446744073709551616):(n<24/\ZA n=0/\Yr n=n)\/(24<=n/\ZA n=2 ^ (Yr n-24)/\24<=Yr n/\Yr n<=27/\n<256 ^ ZA n):=by
 unfold ZA Yr
 by_cases h1:n<24
 ·simp[h1]
 right
 refine⟨by omega,?_⟩
 by_cases h2:n<256
 ·simp[h1,h2]
 by_cases h3:n<65536
 ·simp[h1,h2,h3]
 by_cases h4:n<4294967296
 ·simp[h1,h2,h3,h4]
 ·simp[h1,h2,h3,h4];omega
theorem YA (h:Hd)(hr:ZV h=true):(ZQ h).length=Ua h:=by
 unfold ZQ Ua
 rw[if_pos hr]
 split
 ·rfl
 ·simp[Yw];omega
theorem QX {h:Hd}(hr:ZV h=true):0<=h.1/\h.1<=7:=by
 obtain⟨m,n,o⟩:=h
 cases o<;>simp[ZV,QF]at hr<;>dsimp only<;>omega
theorem Qc {m:Int}{n:Nat}(hr:ZV (m,n,true)=true):n=0/\QF m=true:=by
 simpa[ZV]using hr
theorem OL (h:Hd)(hr:ZV h=true)(hn:h.2.1<18446744073709551616)(a c:List UInt8):Yx (a++ZQ h++c) a.length=(h,a.length+(ZQ h).length,0):=by
 obtain⟨m,n,o⟩:=h
 obtain⟨hm0,hm7⟩:=QX hr
 dsimp only at hn hm0 hm7
 obtain⟨M,rfl⟩:∃ M:Nat,m=(M:Int):=⟨m.toNat,by omega⟩
 have hM:M<=7:=by omega
 unfold Yx
 rw[List.append_assoc,List.drop_left]
 cases o with
 | true=>
  obtain⟨rfl,hmay⟩:=Qc hr
  simp only[ZQ,if_true,Int.toNat_natCast,List.cons_append,List.nil_append]
  rw[YW M 31 hM (by decide)]
  rw[if_neg (by omega),show(32*M+31)/32=M from by omega,if_pos ⟨by omega,hmay⟩]
  rfl
 | false=>
  have hw:ZQ ((M:Int),n,false)=WL M (Yr n)::beN n (ZA n):=by simp[ZQ]
  rw[hw]
  simp only[List.cons_append]
  rcases Qa n hn with⟨h1,h2,h3⟩ | ⟨h1,h2,h3,h4,h5⟩
  ·rw[YW M (Yr n) hM (by omega),h3,h2]
   rw[if_pos (by omega),show(32*M+n)/32=M from by omega,show(32*M+n) % 32=n from by omega]
   simp[beN]
  ·rw[YW M (Yr n) hM (by omega)]
   have e1:(32*M+Yr n)/32=M:=by omega
   have e2:(32*M+Yr n) % 32=Yr n:=by omega
   rw[e1,e2,if_neg (by omega),if_neg (by omega),if_neg (by omega),<- h2]
   rw[if_neg (by rw[List.length_append,Yw];omega)]
   rw[List.take_append_of_le_length (by rw[Yw];exact Nat.le_refl _),List.take_of_length_le (by rw[Yw];exact Nat.le_refl _),Gf n _ h5]
   rw[List.length_cons,Yw]
   congr 2
   omega
theorem OM (b:List UInt8)(p:Nat)(h0:(Yx b p).2.2=0):ZV (Yx b p).1=true/\(ZQ (Yx b p).1).length<=(Yx b p).2.1-p /\
  ((Ua (Yx b p).1=(Yx b p).2.1-p) ↔ ZQ (Yx b p).1=(b.drop p).take ((Yx b p).2.1-p)):=by
 have hbd:=KK b p
 obtain⟨h,x,y,hr⟩:∃(h:Hd) (x y:Nat),Yx b p=(h,x,y):=⟨_,_,_,rfl⟩
 rw[hr]at h0 hbd ⊢
 dsimp only at h0 hbd ⊢
 subst h0
 have key:∀(hrt:ZV h=true) (hlen:(ZQ h).length<=x-p) (heq:(ZQ h).length=x-p->ZQ h=(b.drop p).take (x-p)),ZV h=true/\(ZQ h).length<=x-p/\(Ua h=x-p ↔ ZQ h=(b.drop p).take (x-p)):=by
  intro hrt hlen heq
  refine⟨hrt,hlen,fun e=>heq (by rw[YA h hrt];exact e),fun e=>?_⟩
  rw[<- YA h hrt,e,List.length_take,List.length_drop]
  have:=hbd.1
  omega
 unfold Yx at hr
 split at hr
 ·simp at hr
 ·rename_i c r hd
  have hc:=c.toNat_lt
  have hl:b.length-p=r.length+1:=by
   have:=congrArg List.length hd
   simpa using this
  split at hr
  ·rename_i h1
   simp only[Prod.mk.injEq]at hr
   obtain⟨rfl,rfl,_⟩:=hr
   have hinfo:Yr (c.toNat % 32)=c.toNat % 32/\ZA (c.toNat % 32)=0:=by unfold Yr ZA;rw[if_pos h1,if_pos h1];exact⟨rfl,rfl⟩
   have hw:ZQ (((c.toNat/32:Nat):Int),c.toNat % 32,false)=[c]:=by
    simp only[ZQ,Bool.false_eq_true,if_false,Int.toNat_natCast,hinfo.1,hinfo.2]
    congr 1
    apply UInt8.toNat_inj.1
    rw[YW _ _ (by omega) (by omega)]
    omega
   refine key (by simp[ZV];omega) (by rw[hw];simp;try omega) fun _=>?_
   rw[hw,hd,show p+1-p=1 from by omega]
   rfl
  split at hr
  ·rename_i h1 h2
   simp only[Prod.mk.injEq]at hr
   obtain⟨rfl,rfl,_⟩:=hr
   have hw:ZQ (((c.toNat/32:Nat):Int),0,true)=[c]:=by
    simp only[ZQ,if_true,Int.toNat_natCast]
    congr 1
    apply UInt8.toNat_inj.1
    rw[YW _ _ (by omega) (by omega)]
    omega
   refine key (by simp[ZV];exact h2.2) (by rw[hw];simp;try omega) fun _=>?_
   rw[hw,hd,show p+1-p=1 from by omega]
   rfl
  split at hr
  ·simp at hr
  split at hr
  ·simp at hr
  ·rename_i h1 h2 h3 h4
   simp only[Prod.mk.injEq]at hr
   obtain⟨rfl,rfl,_⟩:=hr
   obtain⟨K,hK⟩:∃ K,2 ^ (c.toNat % 32-24)=K:=⟨_,rfl⟩
   rw[hK]at h4 hbd key ⊢
   have hK8:K=1/\c.toNat % 32=24\/K=2/\c.toNat % 32=25\/K=4/\c.toNat % 32=26\/K=8/\c.toNat % 32=27:=by
    have hk:c.toNat % 32=24\/c.toNat % 32=25\/c.toNat % 32=26\/c.toNat % 32=27:=by omega
    rcases hk with hk|hk|hk|hk<;>rw[hk]at hK<;>simp at hK<;>omega
   have hlt:=Jv (r.take K)
   rw[List.length_take,Nat.min_eq_left (by omega)]at hlt
   obtain⟨n,hn⟩:∃ n,n=Wk (r.take K):=⟨_,rfl⟩
   rw[<- hn]at hlt key ⊢
   have hfol:ZA n<=K/\(ZA n=K->Yr n=c.toNat % 32):=by
    unfold ZA Yr
    rcases hK8 with⟨rfl,hk⟩ | ⟨rfl,hk⟩ | ⟨rfl,hk⟩ | ⟨rfl,hk⟩
    all_goals
     rw[hk]
     simp only[Nat.reducePow]at hlt
     refine⟨by(repeat' split)<;>omega,fun e=>by(repeat' split at e)<;>(repeat' split)<;>omega⟩
   have hw:ZQ (((c.toNat/32:Nat):Int),n,false)=WL (c.toNat/32) (Yr n)::beN n (ZA n):=by simp only[ZQ,Bool.false_eq_true,if_false,Int.toNat_natCast]
   refine key (by simp[ZV];omega) (by rw[hw];simp[Yw];omega) fun e=>?_
   rw[hw,List.length_cons,Yw]at e
   have hfk:ZA n=K:=by omega
   rw[hw,hfol.2 hfk,hfk,hd,show p+1+K-p=K+1 from by omega,List.take_succ_cons]
   congr 1
   ·apply UInt8.toNat_inj.1
    rw[YW _ _ (by omega) (by omega)]
    omega
   ·have:=Gg (r.take K)
    rw[List.length_take,Nat.min_eq_left (by omega),<- hn]at this
    exact this
end Go.Proofs.YtmljabhmajehnaaDoor
end
section
open Go.RowKit Go.Pl
namespace Go.Proofs.YtmljabhmajehnaaDoor
def inB (c lo hi:Nat):Bool:=decide (lo<=c)&&decide (c<=hi)
def ptN (c:Nat):Nat:=if c<128 then 1 else if inB c 194 223 then 2 else if inB c 224 239 then 3 else if inB c 240 244 then 4 else 0
def YX (c:Nat):Nat:=if c=224 then 160 else if c=240 then 144 else 128
def YY (c:Nat):Nat:=if c=237 then 159 else if c=244 then 143 else 191
def pt:List UInt8->Nat
 | []=>0
 | c::r=>match ptN c.toNat with
  | 1=>1
  | 2=>(match r with|c1::_=>if inB c1.toNat (YX c.toNat) (YY c.toNat) then 2 else 0|_=>0)
  | 3=>(match r with|c1::c2::_=>if inB c1.toNat (YX c.toNat) (YY c.toNat)&&inB c2.toNat 128 191 then 3 else 0|_=>0)
  | 4=>(match r with|c1::c2::c3::_=>if inB c1.toNat (YX c.toNat) (YY c.toNat)&&(inB c2.toNat 128 191&&inB c3.toNat 128 191) then 4 else 0|_=>0)
  | _=>0
def Uk:Nat->List UInt8->Bool
 | _,[]=>true
 | 0,_=>false
 | f+1,c::r=>match pt (c::r) with
  | 0=>false
  | k+1=>Uk f (r.drop k)
def ZD (b:List UInt8):Bool:=Uk b.length b
theorem QY:∀(f g:Nat) (b:List UInt8),b.length<=f->b.length<=g->Uk f b=Uk g b
 | _,_,[],_,_=>by simp[Uk]
 | 0,_,c::r,h,_=>by simp at h
 | _+1,0,c::r,_,h=>by simp at h
 | f+1,g+1,c::r,h1,h2=>by
  simp only[Uk]
  split
  ·rfl
  ·rename_i k _
   simp at h1 h2
   exact QY f g _ (by simp;omega) (by simp;omega)
theorem Yp (c:UInt8)(r:List UInt8):ZD (c::r)=match pt (c::r) with|0=>false|k+1=>ZD (r.drop k):=by
 show Uk (r.length+1) (c::r)=_
 rw[Uk]
 split
 ·rfl
 ·exact QY _ _ _ (by simp) (Nat.le_refl _)
theorem MC (b:List UInt8):pt b<=b.length:=by
 unfold pt
 repeat' split
 all_goals simp
theorem Gh (a b:List UInt8)(h:pt a ≠ 0):pt (a++b)=pt a:=by
 match a with
 | []=>simp[pt]at h
 | [c]=>simp only[pt]at h ⊢;revert h;simp only[List.singleton_append,List.cons_append,List.nil_append];split<;>simp
 | [c,c1]=>simp only[pt]at h ⊢;revert h;simp only[List.cons_append,List.nil_append];split<;>simp
 | [c,c1,c2]=>simp only[pt]at h ⊢;revert h;simp only[List.cons_append,List.nil_append];split<;>simp
 | c::c1::c2::c3::r=>simp only[pt,List.cons_append]
theorem UM:∀(n:Nat) (a b:List UInt8),a.length<=n->ZD a=true->ZD (a++b)=ZD b
 | n,[],b,_,_=>rfl
 | 0,c::r,b,h,_=>by simp at h
 | n+1,c::r,b,h,ha=>by
  rw[Yp]at ha
  have hp:pt (c::r) ≠ 0:=by intro e;rw[e]at ha;simp at ha
  have hl:=MC (c::r)
  rw[List.cons_append,Yp,<- List.cons_append,Gh _ _ hp]
  obtain⟨k,hk⟩:∃ k,pt (c::r)=k+1:=⟨pt (c::r)-1,by omega⟩
  rw[hk]at ha hl ⊢
  simp at h hl ha ⊢
  rw[List.drop_append_of_le_length (by omega)]
  exact UM n _ b (by simp;omega) ha
inductive It where
 | mk (k:Int) (n:Nat) (b:List UInt8) (l:List It)
 deriving Inhabited
def It.k:It->Int | .mk k _ _ _=>k
def It.n:It->Nat | .mk _ n _ _=>n
def It.b:It->List UInt8 | .mk _ _ b _=>b
def It.l:It->List It | .mk _ _ _ l=>l
mutual
def It.beq:It->It->Bool
 | .mk k n b l,.mk k' n' b' l'=>(k==k')&&((n==n')&&((b==b')&&It.beqs l l'))
def It.beqs:List It->List It->Bool
 | [],[]=>true
 | x::l,y::l'=>match It.beq x y with|true=>It.beqs l l' | false=>false
 | _,_=>false
end
mutual
theorem It.beq_iff:∀ {x y:It},It.beq x y=true ↔ x=y
 | .mk k n b l,.mk k' n' b' l'=>by
  simp only[It.beq,Bool.and_eq_true,beq_iff_eq,It.mk.injEq]
  rw[It.beqs_iff]
theorem It.beqs_iff:∀ {l l':List It},It.beqs l l'=true ↔ l=l'
 | [],[]=>by simp[It.beqs]
 | [],y::l'=>by simp[It.beqs]
 | x::l,[]=>by simp[It.beqs]
 | x::l,y::l'=>by
  simp only[It.beqs,List.cons.injEq]
  cases h:It.beq x y with
  | true=>simp only[It.beq_iff.1 h,true_and];exact It.beqs_iff
  | false=>simp only[Bool.false_eq_true,false_iff,not_and];intro e;rw[It.beq_iff.2 e]at h;cases h
end
instance:DecidableEq It:=fun x y=>if h:It.beq x y=true then .isTrue (It.beq_iff.1 h) else .isFalse fun e=>h (It.beq_iff.2 e)
def WV (k:Int)(n:Nat)(b:List UInt8)(l:List It):Bool:=
 if k=0 then b.isEmpty&&l.isEmpty else if k=2 then decide (n=0)&&l.isEmpty else if k=3 then decide (n=0)&&(l.isEmpty&&ZD b) else if k=4 then decide (n=0)&&b.isEmpty else false
mutual
def YS:It->Nat->Nat->Option Nat
 | .mk k n b l,d,m=>if 6<d then none else if m<1 then none else match WV k n b l with
  | false=>none
  | true=>Ym l (d+1) (m-1)
def Ym:List It->Nat->Nat->Option Nat
 | [],_,m=>some m
 | y::l,d,m=>match YS y d m with
  | none=>none
  | some r=>Ym l d r
end
def ZI (x:It):Bool:=(YS x 1 256).isSome
mutual
def wfI:It->Prop
 | .mk _ n b l=>n<18446744073709551616/\b.length<=140737488351232/\l.length<=2199023255488/\wfs l
def wfs:List It->Prop
 | []=>True
 | x::l=>wfI x/\wfs l
end
def It.hn:It->Nat | .mk k n b l=>if k=2 then b.length else if k=3 then b.length else if k=4 then l.length else n
mutual
def ZG:It->List UInt8
 | .mk k n b l=>(if ZV (k,(It.mk k n b l).hn,false) then ZQ (k,(It.mk k n b l).hn,false) else [])++(b++ZJ l)
def ZJ:List It->List UInt8
 | []=>[]
 | x::l=>ZG x++ZJ l
end
abbrev Res (α:Type):=Except Nat α
def rdS:List UInt8->Res (Hd × List UInt8)
 | []=>.error 8
 | c::r=>
  if c.toNat % 32<24 then .ok (((c.toNat/32:Nat),c.toNat % 32,false),r)
  else if c.toNat % 32=31/\QF (c.toNat/32:Nat)=true then .ok (((c.toNat/32:Nat),0,true),r)
  else if 27<c.toNat % 32 then .error 3
  else if r.length<2 ^ (c.toNat % 32-24) then .error 8
  else .ok (((c.toNat/32:Nat),Wk (r.take (2 ^ (c.toNat % 32-24))),false),r.drop (2 ^ (c.toNat % 32-24)))
def We (h:Hd)(s:List UInt8):Res (List UInt8 × List UInt8):=
 if h.2.1<=s.length then(if h.1=3/\ZD (s.take h.2.1)=false then .error 3 else .ok (s.take h.2.1,s.drop h.2.1)) else .error 8
def UG:List UInt8->Bool
 | c::_=>c==255
 | []=>false
def Jx (m:Int):Nat->List UInt8->List UInt8->Res (List UInt8 × List UInt8)
 | 0,_,_=>.error 99
 | f+1,acc,s=>match UG s with
  | true=>.ok (acc,s.tail)
  | false=>match rdS s with
   | .error e=>.error e
   | .ok (p,r)=>if p.1=m/\p.2.2=false then(match We p r with
     | .error e=>.error e
     | .ok (c,r2)=>Jx m f (acc++c) r2) else .error 3
def UH (it:Nat->List UInt8->Res (It × List UInt8 × Nat)):Nat->List It->Nat->List UInt8->Res (List It × List UInt8 × Nat)
 | 0,acc,m,s=>.ok (acc,s,m)
 | f+1,acc,m,s=>match it m s with
  | .error e=>.error e
  | .ok (x,r,m')=>UH it f (acc++[x]) m' r
def Jy (it:Nat->List UInt8->Res (It × List UInt8 × Nat)):Nat->List It->Nat->List UInt8->Res (List It × List UInt8 × Nat)
 | 0,_,_,_=>.error 99
 | f+1,acc,m,s=>match UG s with
  | true=>.ok (acc,s.tail,m)
  | false=>match it m s with
   | .error e=>.error e
   | .ok (x,r,m')=>Jy it f (acc++[x]) m' r
def okK (k:Int):Bool:=k==0||(k==2||(k==3||k==4))
def Qf (h:Hd)(r:List UInt8):Res (List UInt8 × List UInt8):=match h.2.2 with
 | true=>Jx h.1 (r.length+1) [] r
 | false=>We h r
def Jz (it:Nat->List UInt8->Res (It × List UInt8 × Nat))(h:Hd)(m:Nat)(r:List UInt8):Res (List It × List UInt8 × Nat):=match h.2.2 with
 | true=>Jy it (r.length+1) [] m r
 | false=>if h.2.1<=r.length then UH it h.2.1 [] m r else .error 8
def Wq (it:Nat->List UInt8->Res (It × List UInt8 × Nat))(h:Hd)(m:Nat)(r:List UInt8):Res (It × List UInt8 × Nat):=
 if h.1=0 then .ok (.mk 0 h.2.1 [] [],r,m)
 else if h.1=4 then(match Jz it h m r with
  | .error e=>.error e
  | .ok (l,r2,m2)=>.ok (.mk 4 0 [] l,r2,m2))
 else match Qf h r with
  | .error e=>.error e
  | .ok (c,r2)=>.ok (.mk h.1 0 c [],r2,m)
def ZZ:Nat->Nat->List UInt8->Res (It × List UInt8 × Nat)
 | 0,m,s=>match rdS s with
  | .error e=>.error e
  | .ok (h,r)=>if okK h.1=false then .error 3 else .error 9
 | d+1,m,s=>match rdS s with
  | .error e=>.error e
  | .ok (h,r)=>if okK h.1=false then .error 3 else if m=0 then .error 2 else Wq (ZZ d) h (m-1) r
def Ys (b:List UInt8)(p:Int):It × Nat × Nat:=
 if p<0\/(b.length:Int)<p then(.mk 0 0 [] [],0,1) else match ZZ 6 256 (b.drop p.toNat) with
  | .error e=>(.mk 0 0 [] [],0,e)
  | .ok (x,r,_)=>(x,b.length-r.length,0)
def Wx (b:List UInt8):Bool:=match ZZ 6 256 b with
 | .error _=>false
 | .ok (x,r,_)=>r.isEmpty&&ZG x==b
end Go.Proofs.YtmljabhmajehnaaDoor
end
