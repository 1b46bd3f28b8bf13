/- Names read out of texts: plain laws, no program in sight. -/
import Derived.Test.YtmljabhmajehnaaGreatDoorO22
import Derived.Test.YtmljabhmajehnaaGreatDoorO35
import Derived.Lib.ParseIntBCases
import Derived.Test.YtmljabhmajehnaaGreatDoorO24
set_option linter.unusedVariables false
set_option linter.unusedSimpArgs false
section
open Go.RowKit Go.Pl Go.Av
namespace Go.Proofs.YtmljabhmajehnaaGreatDoor
set_option maxHeartbeats 4000000
def puN (s:List UInt8):Nat:=match Lib.parseUintB 32 s with
 | .ok u=>u
 | .range=>4294967295
 | _=>0
def puB (s:List UInt8):Bool:=match Lib.parseUintB 32 s with
 | .ok _=>true
 | _=>false
theorem NE {M:Nat}:∀ {l r:List UInt8} {acc v:Nat},Lib.parseUintM M acc l=.ok v->Lib.parseUintM M acc (l++r)=Lib.parseUintM M v r
 | [],r,acc,v,h=>by
  rw[Lib.parseUintM]at h
  injection h with h
  rw[List.nil_append,h]
 | c::l,r,acc,v,h=>by
  rw[Lib.parseUintM]at h
  rw[List.cons_append,Lib.parseUintM]
  split at h
  ·rename_i h1
   rw[if_pos h1]
   split at h
   ·cases h
   ·rename_i h2
    rw[if_neg h2]
    split at h
    ·cases h
    ·rename_i h3
     rw[if_neg h3]
     exact NE h
  ·cases h
theorem Jg {k:Nat}(h:k<10):(UInt8.ofNat (48+k)).toNat=48+k:=by
 rw[UInt8.toNat_ofNat'];omega
theorem SV:∀(u:Nat),u<=4294967295->Lib.parseUintM 4294967295 0 (Lib.decDigits u)=.ok u:=by
 intro u
 induction u using Nat.strongRecOn with
 | _ u ih=>
  intro hu
  rw[Lib.decDigits]
  by_cases h:u<10
  ·rw[dif_pos h,Lib.parseUintM,Jg h,if_pos (by omega),if_neg (by omega),if_neg (by omega),Lib.parseUintM]
   congr 1;omega
  ·rw[dif_neg h,NE (ih (u/10) (by omega) (by omega)),Lib.parseUintM,Jg (by omega),if_pos (by omega),if_neg (by omega),if_neg (by omega),Lib.parseUintM]
   congr 1;omega
theorem B5 (u:Nat):Lib.decDigits u ≠ []:=by
 intro h
 have:=congrArg List.length h
 rw[Lib.decDigits_length]at this
 have:=Lib.nDigits_pos u
 simp at *;omega
theorem IV {u:Nat}(h:u<=4294967295):puN (Lib.decDigits u)=u/\puB (Lib.decDigits u)=true:=by
 have e:Lib.parseUintB 32 (Lib.decDigits u)=.ok u:=by
  unfold Lib.parseUintB
  rw[if_neg (B5 u)]
  exact SV u h
 unfold puN puB
 rw[e]
 exact⟨rfl,rfl⟩
theorem Ih:∀(u:Nat) (c:UInt8),c ∈ Lib.decDigits u->48<=c.toNat/\c.toNat<=57:=by
 intro u
 induction u using Nat.strongRecOn with
 | _ u ih=>
  intro c hc
  rw[Lib.decDigits]at hc
  by_cases h:u<10
  ·rw[dif_pos h]at hc
   rw[List.mem_singleton]at hc
   subst hc
   have:=Jg h
   rw[this];omega
  ·rw[dif_neg h]at hc
   rcases List.mem_append.1 hc with hc|hc
   ·exact ih (u/10) (by omega) c hc
   ·rw[List.mem_singleton]at hc
    subst hc
    have:=Jg (k:=u % 10) (by omega)
    rw[this];omega
def pnV (s:List UInt8):EidV × Bool:=
 (⟨true,puN (WM 46 s).1,puN (WM 46 s).2.1,[],[]⟩,(WM 46 s).2.2&&(puB (WM 46 s).1&&(puB (WM 46 s).2.1&&(ZE ⟨true,puN (WM 46 s).1,puN (WM 46 s).2.1,[],[]⟩&&(Lib.decDigits (puN (WM 46 s).1)==(WM 46 s).1&&Lib.decDigits (puN (WM 46 s).2.1)==(WM 46 s).2.1)))))
def Yc (s:List UInt8):EidV × Bool:=
 if s==Ut then(Wm,true)
 else if(Vc Vw s).2 then pnV (Vc Vw s).1
 else if(Vc Uz s).2 then ppV (Vc Uz s).1
 else(Wm,false)
theorem VM {s:List UInt8}(h:(Yc s).2=true):ZE (Yc s).1=true/\WT (Yc s).1=s:=by
 unfold Yc at h ⊢
 by_cases h0:(s==Ut)=true
 ·rw[if_pos h0]
  refine⟨by decide,?_⟩
  rw[beq_iff_eq.1 h0];decide
 rw[if_neg h0]at h ⊢
 by_cases h1:(Vc Vw s).2=true
 ·rw[if_pos h1]at h ⊢
  have e1:=Jd h1
  generalize (Vc Vw s).1=r at *
  unfold pnV at h ⊢
  dsimp only at h ⊢
  simp only[Bool.and_eq_true,beq_iff_eq]at h
  obtain⟨h2,h3,h4,h5,h6,h7⟩:=h
  refine⟨h5,?_⟩
  unfold WT
  rw[if_neg (by simp[isZ]),if_pos rfl,h6,h7,e1]
  have:=Jc h2
  conv=>rhs;rw[this]
  simp[Vw]
 rw[if_neg h1]at h ⊢
 by_cases h2:(Vc Uz s).2=true
 ·rw[if_pos h2]at h ⊢
  have e1:=Jd h2
  generalize (Vc Uz s).1=r at *
  unfold ppV at h ⊢
  dsimp only at h ⊢
  simp only[Bool.and_eq_true,bne_iff_ne]at h
  obtain⟨h3,h4,h5,h6⟩:=h
  have e2:=Jd h3
  generalize (Vc [47,47] r).1=q at *
  refine⟨h6,?_⟩
  unfold WT
  rw[if_neg (by rw[Vx];intro e;exact h5 (congrArg EidV.h e)),if_neg (by simp),e1,e2]
  have:=Jc h4
  conv=>rhs;rw[this]
  simp[Y5,Uz]
 ·rw[if_neg h2]at h;cases h
theorem Hq {c:UInt8}(h:c.toNat<48\/57<c.toNat)(u:Nat):c ∉ Lib.decDigits u:=fun hm=>by
 have:=Ih u c hm
 omega
theorem JF {x:EidV}(h:ZE x=true):Yc (WT x)=(x,true):=by
 unfold WT
 cases hz:isZ x with
 | true=>
  rw[if_pos rfl]
  rw[Vx.1 hz]
  decide
 | false=>
  rw[if_neg (by simp)]
  cases hi:x.i with
  | true=>
   obtain⟨b1,b2,b3,b4,b5⟩:=Wx h hz hi
   rw[if_pos rfl]
   have e1:[105,112,110,58]++Lib.decDigits x.n++[46]++Lib.decDigits x.s=Vw++(Lib.decDigits x.n++46::Lib.decDigits x.s):=by simp[Vw]
   rw[e1]
   unfold Yc
   have e2:(Vw++(Lib.decDigits x.n++46::Lib.decDigits x.s)==Ut)=false:=by simp[Vw,Ut]
   rw[e2,QO,if_neg (by simp),if_pos rfl]
   unfold pnV
   dsimp only
   rw[Uj (Hq (by decide) x.n)]
   dsimp only
   rw[(IV b1).1,(IV b1).2,(IV b2).1,(IV b2).2]
   have ex:(⟨true,x.n,x.s,[],[]⟩:EidV)=x:=by
    obtain⟨i,n,s,hh,d⟩:=x
    simp only at hi b3 b4
    rw[hi,b3,b4]
   rw[ex,h]
   simp
  | false=>
   obtain⟨b1,b2,b3,b4,b5,b6,b7⟩:=Y6 h hz hi
   rw[if_neg (by simp)]
   have e1:[100,116,110,58]++Y5 x=Uz++([47,47]++(x.h++47::x.d)):=by simp[Y5,Uz]
   rw[e1]
   unfold Yc
   have e2:(Uz++([47,47]++(x.h++47::x.d))==Ut)=false:=by simp[Uz,Ut]
   have e3:Vc Vw (Uz++([47,47]++(x.h++47::x.d)))=(Uz++([47,47]++(x.h++47::x.d)),false):=No (by simp[Uz,Vw])
   rw[e2,e3,QO,if_neg (by simp),if_neg (by simp),if_pos rfl]
   unfold ppV
   rw[QO]
   dsimp only
   rw[Uj (JD b6 (by decide))]
   dsimp only
   have ex:(⟨false,0,0,x.h,x.d⟩:EidV)=x:=by
    obtain⟨i,n,s,hh,d⟩:=x
    simp only at hi b1 b2
    rw[hi,b1,b2]
   rw[ex,h]
   have:(x.h != [])=true:=by
    rw[bne_iff_ne]
    intro e
    rw[e]at b3
    simp at b3
   rw[this]
   rfl
theorem Hr:∀(l r:List UInt8) (f a:Nat),l.all isD=true->l.length<=f->Wu f a (l++r)=((Wu (f-l.length) (l.foldl (fun a c=>10*a+(c.toNat-48)) a) r).1,(Wu (f-l.length) (l.foldl (fun a c=>10*a+(c.toNat-48)) a) r).2+l.length)
 | [],r,f,a,_,_=>by simp
 | c::l,r,0,a,_,h=>by simp at h
 | c::l,r,f+1,a,ha,h=>by
  rw[List.all_cons,Bool.and_eq_true]at ha
  rw[List.cons_append,Wu,if_pos ha.1,Hr l r f _ ha.2 (by simpa using h),List.foldl_cons]
  simp[Nat.add_assoc]
theorem SW (u:Nat):(Lib.decDigits u).all isD=true:=List.all_eq_true.2 fun c hc=>Ko.2 (Ih u c hc)
theorem Rn:∀ u:Nat,(Lib.decDigits u).foldl (fun a c=>10*a+(c.toNat-48)) 0=u:=by
 intro u
 induction u using Nat.strongRecOn with
 | _ u ih=>
  rw[Lib.decDigits]
  by_cases h:u<10
  ·rw[dif_pos h,List.foldl_cons,List.foldl_nil,Jg h];omega
  ·rw[dif_neg h,List.foldl_append,ih (u/10) (by omega),List.foldl_cons,List.foldl_nil,Jg (by omega)];omega
theorem Hs {u:Nat}(hu:u<=4294967295)(r:List UInt8)(hr:∀ c t,r=c::t->isD c=false):Wu 11 0 (Lib.decDigits u++r)=(u,(Lib.decDigits u).length):=by
 have hl:=Tx 9 u (by omega)
 rw[Hr _ _ _ _ (SW u) (by omega),Rn]
 have e:∀ f,Wu f u r=(u,0):=fun f=>by
  match f,r,hr with
  | 0,r,_=>rfl
  | f+1,[],_=>rfl
  | f+1,c::t,hr=>rw[Wu,hr c t rfl];rfl
 rw[e]
 simp
def X4 (r:List UInt8):EidV:=⟨true,(Wu 11 0 r).1,if 4+(Wu 11 0 r).2<4+r.length then(Wu 11 0 (r.drop ((Wu 11 0 r).2+1))).1 else 0,[],[]⟩
theorem Kp:WT Wm=Ut:=by decide
theorem JG {y:EidV}(h:ZE y=true)(hz:isZ y=false):(y.i=true/\WT y=Vw++(Lib.decDigits y.n++46::Lib.decDigits y.s)/\y.n<=4294967295/\y.s<=4294967295/\y.h=[]/\y.d=[])\/(y.i=false/\WT y=[100,116,110,58,47,47]++(y.h++47::y.d)/\y.n=0/\y.s=0/\y.h ≠ []/\(47:UInt8) ∉ y.h):=by
 cases hi:y.i with
 | true=>
  obtain⟨b1,b2,b3,b4,b5⟩:=Wx h hz hi
  refine .inl ⟨rfl,?_,b1,b2,b3,b4⟩
  unfold WT
  rw[hz,if_neg (by simp),hi,if_pos rfl]
  simp[Vw]
 | false=>
  obtain⟨b1,b2,b3,b4,b5,b6,b7⟩:=Y6 h hz hi
  refine .inr ⟨rfl,?_,b1,b2,fun e=>(by rw[e]at b3;simp at b3),JD b6 (by decide)⟩
  unfold WT
  rw[hz,if_neg (by simp),hi,if_neg (by simp)]
  simp[Y5]
theorem Ro {r:List UInt8}(h:(Yc (Vw++r)).2=true):X4 r=(Yc (Vw++r)).1:=by
 obtain⟨h1,h2⟩:=VM h
 generalize (Yc (Vw++r)).1=y at *
 cases hz:isZ y with
 | true=>rw[Vx.1 hz,Kp]at h2;exact absurd h2 (by simp[Ut,Vw])
 | false=>
  rcases JG h1 hz with⟨hi,ht,b1,b2,b3,b4⟩ | ⟨hi,ht,b⟩
  ·rw[ht]at h2
   have hr:r=Lib.decDigits y.n++46::Lib.decDigits y.s:=(List.append_cancel_left h2).symm
   have e1:=Hs b1 (46::Lib.decDigits y.s) (fun c t hc=>by cases hc;decide)
   have e2:=Hs b2 [] (fun c t hc=>by cases hc)
   rw[List.append_nil]at e2
   unfold X4
   rw[hr,e1]
   have e3:(Lib.decDigits y.n++46::Lib.decDigits y.s).drop ((Lib.decDigits y.n).length+1)=Lib.decDigits y.s:=by
    rw[List.drop_append,List.drop_of_length_le (by omega)];simp
   dsimp only
   rw[e3,e2,if_pos (by simp)]
   obtain⟨i,n,s,hh,dd⟩:=y
   simp only at hi b3 b4
   rw[hi,b3,b4]
  ·rw[ht]at h2;exact absurd h2 (by simp[Vw])
theorem Rp {h d:List UInt8}(hn:(47:UInt8) ∉ h)(hp:(Yc ([100,116,110,58,47,47]++(h++47::d))).2=true):(⟨false,0,0,h,d⟩:EidV)=(Yc ([100,116,110,58,47,47]++(h++47::d))).1:=by
 obtain⟨h1,h2⟩:=VM hp
 generalize (Yc ([100,116,110,58,47,47]++(h++47::d))).1=y at *
 cases hz:isZ y with
 | true=>rw[Vx.1 hz,Kp]at h2;exact absurd h2 (by simp[Ut])
 | false=>
  rcases JG h1 hz with⟨hi,ht,b⟩ | ⟨hi,ht,b1,b2,b3,b4⟩
  ·rw[ht]at h2;exact absurd h2 (by simp[Vw])
  ·rw[ht]at h2
   have e:=List.append_cancel_left h2
   have e1:=Uj (b:=y.d) b4
   rw[e,Uj hn]at e1
   obtain⟨i,n,s,hh,dd⟩:=y
   simp only[Prod.mk.injEq,and_true]at e1
   simp only at hi b1 b2
   rw[e1.1,e1.2,hi,b1,b2]
theorem Ht {s:List UInt8}(h0:s ≠ Ut)(h1:∀ r,r ≠ []->s ≠ Vw++r)(h2:∀ h d,(47:UInt8) ∉ h->s ≠ [100,116,110,58,47,47]++(h++47::d)):(Yc s).2=false:=by
 cases hp:(Yc s).2 with
 | false=>rfl
 | true=>
  obtain⟨k1,k2⟩:=VM hp
  generalize (Yc s).1=y at *
  cases hz:isZ y with
  | true=>rw[Vx.1 hz,Kp]at k2;exact absurd k2.symm h0
  | false=>
   rcases JG k1 hz with⟨hi,ht,b⟩ | ⟨hi,ht,b1,b2,b3,b4⟩
   ·exact absurd (k2.symm.trans ht) (h1 _ (by intro e;have:=congrArg List.length e;simp at this))
   ·exact absurd (k2.symm.trans ht) (h2 _ _ b4)
abbrev JH (s:List UInt8):D:=.tup [.agg (eC (match(Yc s).2 with|true=>(Yc s).1|false=>Wm)),.bool (Yc s).2]
theorem U0 {s:List UInt8}(h:(Yc s).2=false):JH s=.tup [.agg (eC Wm),.bool false]:=by unfold JH;rw[h]
theorem K2 {s:List UInt8}{y:EidV}(h:Yc s=(y,true)):JH s=.tup [.agg (eC y),.bool true]:=by unfold JH;rw[h]
theorem B6 {s:List UInt8}{c:EidV}(h0:s ≠ Ut)(hc:(Yc s).2=true->c=(Yc s).1)(hk:decide (YT c<1)=true):(Yc s).2=false:=by
 cases hp:(Yc s).2 with
 | false=>rfl
 | true=>
  obtain⟨k1,k2⟩:=VM hp
  rw[<- hc hp]at k1 k2
  rw[Kn,k1]at hk
  simp only[Bool.not_true,Bool.false_or]at hk
  rw[Vx.1 hk,Kp]at k2
  exact absurd k2.symm h0
theorem B7 {s:List UInt8}{c:EidV}(hc:(Yc s).2=true->c=(Yc s).1)(ht:(WT c != s)=true):(Yc s).2=false:=by
 cases hp:(Yc s).2 with
 | false=>rfl
 | true=>
  obtain⟨k1,k2⟩:=VM hp
  rw[<- hc hp]at k2
  rw[bne_iff_ne]at ht
  exact absurd k2 ht
theorem B8 {s:List UInt8}{c:EidV}(hk:decide (YT c<1)=false)(ht:(WT c != s)=false):Yc s=(c,true):=by
 rw[Kn]at hk
 simp only[Bool.or_eq_false_iff,Bool.not_eq_false']at hk
 have e:WT c=s:=by simpa using ht
 rw[<- e,JF hk.1]
theorem XH {x:EidV}(h:ZE x=true):Fit x:=by
 cases hz:isZ x with
 | true=>rw[Vx.1 hz];exact⟨by decide,by decide⟩
 | false=>
  cases hi:x.i with
  | true=>
   obtain⟨_,_,h1,h2,_⟩:=Wx h hz hi
   unfold Fit;rw[h1,h2];exact⟨by decide,by decide⟩
  | false=>
   obtain⟨_,_,_,h1,h2,_⟩:=Y6 h hz hi
   exact⟨by omega,by omega⟩
theorem Rq {x:EidV}(h:isZ x=true):YT x=0:=by rw[Vx.1 h];decide
theorem Rr {x:EidV}(h:ZE x=true)(hi:x.i=true):YT x=1:=by unfold YT;rw[hi,h];rfl
theorem Rt {x:EidV}(h:ZE x=true)(hz:isZ x=false)(hi:x.i=false):YT x=2:=by unfold YT;rw[hi,hz,h];rfl
theorem JI [Known](x:EidV)(h:ZE x=true):AP Tryz.prog 179 [.agg (eC x)] (.str (WT x)) []:=by
 have hK:=WZ x (XH h)
 unfold WT
 cases hz:isZ x with
 | true=>
  rw[Rq hz]at hK
  rw[if_pos rfl]
  refine AP.ofA (Zl Tryz.func179 U Tryz.ntmps179 U U ?_)
  repeat'(first|(apply Zb (hK);kernel_rfl;(iterate 4 exact U))|(apply Zh Za;exact U)|(apply Zg Za;exact U)|(apply Zo Za;exact U)|refine Zd U Qt ?_)
  all_goals exact Qe
 | false=>
  rw[if_neg (by simp)]
  cases hi:x.i with
  | true=>
   obtain⟨b1,b2,_⟩:=Wx h hz hi
   rw[Rr h hi]at hK
   rw[if_pos rfl]
   have d1:=ND x.n (by omega)
   have d2:=ND x.s (by omega)
   have hD1:=Ig x.n (by omega)
   have hD2:=Ig x.s (by omega)
   have l1:[(105:UInt8),112,110,58].length+(Lib.decDigits x.n).length<=maxLen:=by simp;unfold maxLen;omega
   have l2:([(105:UInt8),112,110,58]++Lib.decDigits x.n).length + [(46:UInt8)].length<=maxLen:=by simp;unfold maxLen;omega
   have l3:([(105:UInt8),112,110,58]++Lib.decDigits x.n++[46]).length+(Lib.decDigits x.s).length<=maxLen:=by simp;unfold maxLen;omega
   refine AP.ofA (Zl Tryz.func179 U Tryz.ntmps179 U U ?_)
   repeat'(first|(apply Zb (hK);kernel_rfl;(iterate 4 exact U))|(apply Zb (hD1);kernel_rfl;(iterate 4 exact U))|(apply Zb (hD2);kernel_rfl;(iterate 4 exact U))|(apply QB;exact U;exact U;(first|exact l1|exact l2|exact l3);exact U)|(apply Zh Za;exact U)|(apply Zg Za;exact U)|refine Zd U Qt ?_|refine Zf U Qt ?_|(apply ZY 8 ZF;decide +kernel;kernel_rfl;kernel_rfl;exact U;exact U)|(apply Z8;(iterate 3 exact U))|refine AD.nil _|exact Yu rfl)
   all_goals exact Qe
  | false=>
   obtain⟨_,_,_,b1,b2,_⟩:=Y6 h hz hi
   rw[Rt h hz hi]at hK
   rw[if_neg (by simp)]
   have l1:[(100:UInt8),116,110,58,47,47].length+x.h.length<=maxLen:=by simp;unfold maxLen;omega
   have l2:([(100:UInt8),116,110,58,47,47]++x.h).length + [(47:UInt8)].length<=maxLen:=by simp;unfold maxLen;omega
   have l3:([(100:UInt8),116,110,58,47,47]++x.h++[47]).length+x.d.length<=maxLen:=by simp;unfold maxLen;omega
   refine AP.ofA (Zl Tryz.func179 U Tryz.ntmps179 U U ?_)
   repeat'(first|(apply Zb (hK);kernel_rfl;(iterate 4 exact U))|(apply QB;exact U;exact U;(first|exact l1|exact l2|exact l3);exact U)|(apply Zh Za;exact U)|(apply Zg Za;exact U)|refine Zf U Qt ?_)
   all_goals exact Qe
theorem Hu:∀(f a:Nat) (r:List UInt8),(Wu f a r).2<=r.length/\(Wu f a r).2<=f
 | 0,a,r=>by simp[Wu]
 | f+1,a,[]=>by simp[Wu]
 | f+1,a,c::r=>by
  rw[Wu]
  split
  ·have:=Hu f (10*a+(c.toNat-48)) r
   simp;omega
  ·simp
theorem Ii [Known](s:List UInt8)(at0:Nat)(hs:s.length<=1099511627776)(h0:at0<=s.length):AP Tryz.prog 178 [.str s,.int .i64 (at0:Int)] (.tup [.int .u64 ((Wu 11 0 (s.drop at0)).1:Int),.int .i64 ((at0+(Wu 11 0 (s.drop at0)).2:Nat):Int)]) []:=by
 refine AP.ofA (Zl Tryz.func178 U Tryz.ntmps178 U U ?_)
 repeat'(first|(apply Zg Za;exact U))
 refine ZJ (fun k tm bx fr=>∃(i n a:Nat),k+i=11/\n<10 ^ i/\a<=s.length/\(Wu k n (s.drop a)).1=(Wu 11 0 (s.drop at0)).1/\a+(Wu k n (s.drop a)).2=at0+(Wu 11 0 (s.drop at0)).2/\tm=[(0,.str s),(1,.int .i64 (a:Int)),(4,.int .u64 0),(5,.int .i64 0),(6,.int .u64 (n:Int)),(7,.int .i64 (i:Int))]/\bx=[]/\fr=[]) 12 (Lands.mk' (m:=11) (by omega) ⟨0,0,at0,rfl,by decide,h0,rfl,rfl,rfl,rfl,rfl⟩ ?_ rfl rfl rfl rfl rfl rfl) ?_
 ·exact .cons rfl (.cons rfl (.cons rfl (.cons rfl (.cons rfl (.cons rfl .nil)))))
 rintro k tm bx fr ⟨i,n,a,hk,hn,ha,hv,hc,rfl,rfl,rfl⟩
 have hnb:n<100000000000:=Nat.lt_of_lt_of_le hn (Nat.pow_le_pow_right (by decide) (by omega:i<=11))
 cases k with
 | zero=>
  have t1:decide ((i:Int)<11)=false:=decide_eq_false (by omega)
  repeat'(first|(apply Zh Za;exact U)|(apply Zg Za;exact U)|(apply Zo Za;exact U)|refine Zr U U U Qt ?_|refine Zi U Qt U U ?_|refine Zf U Qt ?_)
  all_goals(apply Zp [];(apply Zc Za;exact U);(iterate 4 exact U))
  ·rw[<- hv,<- hc];rfl
  all_goals rfl
 | succ k=>
  have t1:decide ((i:Int)<11)=true:=decide_eq_true (by omega)
  rcases Nat.lt_or_ge a s.length with hlt|hge
  ·have t2:decide ((a:Int)<(s.length:Int))=true:=decide_eq_true (by omega)
   obtain⟨c,hsc⟩:∃ c,s[a]?=some c:=⟨_,List.getElem?_eq_getElem hlt⟩
   have hidx:s[((a:Nat):Int).toNat]?=some c:=by simpa using hsc
   have hdr:s.drop a=c::s.drop (a+1):=by
    rw[List.drop_eq_getElem_cons hlt];congr 1
    exact(List.getElem?_eq_some_iff.1 hsc).2
   rw[hdr,Wu]at hv hc
   by_cases h48:48<=c.toNat
   ·have t3:decide ((c.toNat:Int) ≥ 48)=true:=decide_eq_true (by omega)
    by_cases h57:c.toNat<=57
    ·have t4:decide ((c.toNat:Int)<=57)=true:=decide_eq_true (by omega)
     rw[if_pos (Ko.2 ⟨h48,h57⟩)]at hv hc
     have e1:IntKind.u64.wrap (10*(n:Int))=((10*n:Nat):Int):=by rw[IntWalk.u64_in _ (by omega)];omega
     have e2:IntKind.u64.wrap (c.toNat:Int)=(c.toNat:Int):=IntWalk.u64_in _ (by omega)
     have e3:IntKind.u64.wrap (((10*n:Nat):Int)+(c.toNat:Int))=((10*n+c.toNat:Nat):Int):=by rw[IntWalk.u64_in _ (by omega)];omega
     have e4:IntKind.u64.wrap (((10*n+c.toNat:Nat):Int)-48)=((10*n+(c.toNat-48):Nat):Int):=by rw[IntWalk.u64_in _ (by omega)];omega
     have e5:IntKind.i64.wrap ((a:Int)+1)=((a+1:Nat):Int):=by rw[IntWalk.i64_in _ (by omega)];omega
     have e6:IntKind.i64.wrap ((i:Int)+1)=((i+1:Nat):Int):=by rw[IntWalk.i64_in _ (by omega)];omega
     repeat'(first|rw[e1]|rw[e2]|rw[e3]|rw[e4]|rw[e5]|rw[e6]|refine V0 Za U U U U U (Int.natCast_nonneg _) hidx ?_|(apply Zh Za;exact U)|(apply Zg Za;exact U)|(apply Zo Za;exact U)|refine Ze U U U Qt ?_|refine Zk U Qt U U ?_|refine Zd U Qt ?_|refine Yh Za U U U U ?_)
     refine Lands.mk' (m:=k) (by omega) ⟨i+1,10*n+(c.toNat-48),a+1,by omega,by rw[Nat.pow_succ];omega,by omega,hv,by omega,rfl,rfl,rfl⟩ ?_ rfl rfl rfl rfl rfl rfl
     exact .cons rfl (.cons rfl (.cons rfl (.cons rfl (.cons rfl (.cons rfl .nil)))))
    ·have t4:decide ((c.toNat:Int)<=57)=false:=decide_eq_false (by omega)
     rw[if_neg (fun h=>h57 (Ko.1 h).2)]at hv hc
     repeat'(first|refine V0 Za U U U U U (Int.natCast_nonneg _) hidx ?_|(apply Zh Za;exact U)|(apply Zg Za;exact U)|(apply Zo Za;exact U)|refine Ze U U U Qt ?_|refine Zk U Qt U U ?_|refine Zf U Qt ?_|refine Yh Za U U U U ?_)
     all_goals(apply Zp [];(apply Zc Za;exact U);(iterate 4 exact U))
     ·rw[<- hv,<- hc];rfl
     all_goals rfl
   ·have t3:decide ((c.toNat:Int) ≥ 48)=false:=decide_eq_false (by omega)
    rw[if_neg (fun h=>h48 (Ko.1 h).1)]at hv hc
    repeat'(first|refine V0 Za U U U U U (Int.natCast_nonneg _) hidx ?_|(apply Zh Za;exact U)|(apply Zg Za;exact U)|(apply Zo Za;exact U)|refine Ze U U U Qt ?_|refine Zr U U U Qt ?_|refine Zk U Qt U U ?_|refine Zi U Qt U U ?_|refine Zf U Qt ?_|refine Yh Za U U U U ?_)
    all_goals(apply Zp [];(apply Zc Za;exact U);(iterate 4 exact U))
    ·rw[<- hv,<- hc];rfl
    all_goals rfl
  ·have t2:decide ((a:Int)<(s.length:Int))=false:=decide_eq_false (by omega)
   rw[List.drop_of_length_le hge,Wu]at hv hc
   repeat'(first|(apply Zh Za;exact U)|(apply Zg Za;exact U)|(apply Zo Za;exact U)|refine Ze U U U Qt ?_|refine Zr U U U Qt ?_|refine Zk U Qt U U ?_|refine Zi U Qt U U ?_|refine Zf U Qt ?_|refine Yh Za U U U U ?_)
   all_goals(apply Zp [];(apply Zc Za;exact U);(iterate 4 exact U))
   ·rw[<- hv,<- hc];rfl
   all_goals rfl
abbrev K3 (z4 z5 i:Bool)(n s:Nat)(h d:List UInt8):D:=match z4,z5 with
 | false,false=>.tup [.agg [.bool i,.int .u64 (n:Int),.int .u64 (s:Int),.str h,.str d],.bool true]
 | _,_=>.tup [.agg [.bool false,.int .u64 0,.int .u64 0,.str [],.str []],.bool false]
theorem Fz [Known](s:List UInt8)(h0:(s==[100,116,110,58,110,111,110,101])=true):AP Tryz.prog 152 [.str s] (.tup [.agg [.bool false,.int .u64 0,.int .u64 0,.str [],.str []],.bool true]) []:=by
 refine AP.ofA (Zl Tryz.func152 U Tryz.ntmps152 U U ?_)
 repeat'(first|(apply Zg Za;exact U)|(apply Zo Za;exact U)|refine Zd U Qt ?_)
 all_goals exact Qe
theorem FA [Known](s:List UInt8)(h0:(s==[100,116,110,58,110,111,110,101])=false)
  (h1:decide ((s.length:Int)>4)=false\/decide ((s.length:Int)>4)=true/\4<=s.length/\((s.take (Int.toNat 4)).drop 0==[105,112,110,58])=false) (h2:decide ((s.length:Int)>6)=false\/decide ((s.length:Int)>6)=true/\6<=s.length/\((s.take (Int.toNat 6)).drop 0==[100,116,110,58,47,47])=false)
  (hK:AP Tryz.prog 87 [.agg [.bool false,.int .u64 0,.int .u64 0,.str [],.str []]] (.int .i64 0) []) :
  AP Tryz.prog 152 [.str s] (.tup [.agg [.bool false,.int .u64 0,.int .u64 0,.str [],.str []],.bool false]) []:=by
 rcases h1 with t1|⟨t1,b1,t2⟩<;>rcases h2 with t3|⟨t3,b3,t4⟩
 all_goals
  refine AP.ofA (Zl Tryz.func152 U Tryz.ntmps152 U U ?_)
  repeat'(first|(apply Zb (hK);kernel_rfl;(iterate 4 exact U))|(apply YN Za;(iterate 4 exact U);exact .dft _;exact .lit _ _ _ _ rfl (by decide);exact Nat.zero_le _;(first|exact b1|exact b3);exact U)|(apply Zh Za;exact U)|(apply Zg Za;exact U)|(apply Zo Za;exact U)|refine Ze U U U Qt ?_|refine Zr U U U Qt ?_|refine Zn U U U Qt ?_|refine Zk U Qt U U ?_|refine Zi U Qt U U ?_|refine Zd U Qt ?_|refine Zf U Qt ?_|refine Yh Za U U U U ?_)
  all_goals exact Qe
theorem FB [Known](s:List UInt8)(a b p q:Nat)(κ:Int)(t:List UInt8)(z3 z4 z5:Bool)(h0:(s==[100,116,110,58,110,111,110,101])=false)
  (t1:decide ((s.length:Int)>4)=true) (b1:4<=s.length) (t2:((s.take (Int.toNat 4)).drop 0==[105,112,110,58])=true)
  (hC1:AP Tryz.prog 178 [.str s,.int .i64 4] (.tup [.int .u64 (a:Int),.int .i64 (p:Int)]) [])
  (t3:decide ((p:Int)<(s.length:Int))=z3) (e3:IntKind.i64.wrap ((p:Int)+1)=((p+1:Nat):Int))
  (hC2:z3=true->AP Tryz.prog 178 [.str s,.int .i64 ((p+1:Nat):Int)] (.tup [.int .u64 (b:Int),.int .i64 (q:Int)]) []) (hb0:z3=false->b=0)
  (hK:AP Tryz.prog 87 [.agg [.bool true,.int .u64 (a:Int),.int .u64 (b:Int),.str [],.str []]] (.int .i64 κ) []) (t4:decide (κ<1)=z4)
  (hT:z4=false->AP Tryz.prog 179 [.agg [.bool true,.int .u64 (a:Int),.int .u64 (b:Int),.str [],.str []]] (.str t) []) (t5:(t != s)=z5) :
  AP Tryz.prog 152 [.str s] (K3 z4 z5 true a b [] []) []:=by
 cases z3 with
 | false=>
  obtain rfl:=hb0 rfl
  clear hC2
  cases z4 with
  | true=>
   clear hT
   cases z5
   all_goals
    refine AP.ofA (Zl Tryz.func152 U Tryz.ntmps152 U U ?_)
    repeat'(first|(apply Zb (hC1);kernel_rfl;(iterate 4 exact U))|(apply Zb (hK);kernel_rfl;(iterate 4 exact U))|refine YN Za U U U U (.dft _) (.lit _ _ _ _ rfl (by decide)) (Nat.zero_le _) b1 U ?_|(apply Zh Za;exact U)|(apply Zg Za;exact U)|(apply Zo Za;exact U)|refine Ze U U U Qt ?_|refine Zn U U U Qt ?_|refine Zk U Qt U U ?_|refine Zd U Qt ?_|refine Zf U Qt ?_|refine Yh Za U U U U ?_)
    all_goals exact Qe
  | false=>
   have hT:=hT rfl
   cases z5
   all_goals
    refine AP.ofA (Zl Tryz.func152 U Tryz.ntmps152 U U ?_)
    repeat'(first|(apply Zb (hC1);kernel_rfl;(iterate 4 exact U))|(apply Zb (hK);kernel_rfl;(iterate 4 exact U))|(apply Zb (hT);kernel_rfl;(iterate 4 exact U))|refine YN Za U U U U (.dft _) (.lit _ _ _ _ rfl (by decide)) (Nat.zero_le _) b1 U ?_|(apply Zh Za;exact U)|(apply Zg Za;exact U)|(apply Zo Za;exact U)|refine Ze U U U Qt ?_|refine Zk U Qt U U ?_|refine Zi U Qt U U ?_|refine Zd U Qt ?_|refine Zf U Qt ?_|refine Yh Za U U U U ?_)
    all_goals exact Qe
 | true=>
  have hC2:=hC2 rfl
  clear hb0
  cases z4 with
  | true=>
   clear hT
   cases z5
   all_goals
    refine AP.ofA (Zl Tryz.func152 U Tryz.ntmps152 U U ?_)
    repeat'(first|rw[e3]|(apply Zb (hC1);kernel_rfl;(iterate 4 exact U))|(apply Zb (hC2);kernel_rfl;(iterate 4 exact U))|(apply Zb (hK);kernel_rfl;(iterate 4 exact U))|refine YN Za U U U U (.dft _) (.lit _ _ _ _ rfl (by decide)) (Nat.zero_le _) b1 U ?_|(apply Zh Za;exact U)|(apply Zg Za;exact U)|(apply Zo Za;exact U)|refine Ze U U U Qt ?_|refine Zn U U U Qt ?_|refine Zk U Qt U U ?_|refine Zd U Qt ?_|refine Zf U Qt ?_|refine Yh Za U U U U ?_)
    all_goals exact Qe
  | false=>
   have hT:=hT rfl
   cases z5
   all_goals
    refine AP.ofA (Zl Tryz.func152 U Tryz.ntmps152 U U ?_)
    repeat'(first|rw[e3]|(apply Zb (hC1);kernel_rfl;(iterate 4 exact U))|(apply Zb (hC2);kernel_rfl;(iterate 4 exact U))|(apply Zb (hK);kernel_rfl;(iterate 4 exact U))|(apply Zb (hT);kernel_rfl;(iterate 4 exact U))|refine YN Za U U U U (.dft _) (.lit _ _ _ _ rfl (by decide)) (Nat.zero_le _) b1 U ?_|(apply Zh Za;exact U)|(apply Zg Za;exact U)|(apply Zo Za;exact U)|refine Ze U U U Qt ?_|refine Zk U Qt U U ?_|refine Zi U Qt U U ?_|refine Zd U Qt ?_|refine Zf U Qt ?_|refine Yh Za U U U U ?_)
    all_goals exact Qe
theorem D2 [Known](s:List UInt8)(m:Nat)(h d:List UInt8)(κ:Int)(t:List UInt8)(z4 z5:Bool)(h0:(s==[100,116,110,58,110,111,110,101])=false)(hsl:s.length<=4398046511104)
  (t1:decide ((s.length:Int)>4)=true) (b1:4<=s.length) (t2:((s.take (Int.toNat 4)).drop 0==[105,112,110,58])=false)
  (t3:decide ((s.length:Int)>6)=true) (b3:6<=s.length) (t6:((s.take (Int.toNat 6)).drop 0==[100,116,110,58,47,47])=true)
  (m6:6<=m) (ml:m<=s.length) (hm1:∀ i,6<=i->i<m->∃ c,s[i]?=some c/\c.toNat ≠ 47) (hm2:m<s.length->∃ c,s[m]?=some c/\c.toNat=47)
  (hh:(s.take m).drop 6=h) (hd:s.drop (m+1)=d)
  (hK:AP Tryz.prog 87 [.agg [.bool false,.int .u64 0,.int .u64 0,.str h,.str d]] (.int .i64 κ) []) (t4:decide (κ<1)=z4)
  (hT:z4=false->AP Tryz.prog 179 [.agg [.bool false,.int .u64 0,.int .u64 0,.str h,.str d]] (.str t) []) (t5:(t != s)=z5) :
  AP Tryz.prog 152 [.str s] (if m<s.length then K3 z4 z5 false 0 0 h d else .tup [.agg [.bool false,.int .u64 0,.int .u64 0,.str [],.str []],.bool false]) []:=by
 refine AP.ofA (Zl Tryz.func152 U Tryz.ntmps152 U U ?_)
 repeat'(first|(apply YN Za;(iterate 4 exact U);exact .dft _;exact .lit _ _ _ _ rfl (by decide);exact Nat.zero_le _;(first|exact b1|exact b3);exact U)|(apply Zh Za;exact U)|(apply Zg Za;exact U)|(apply Zo Za;exact U)|refine Ze U U U Qt ?_|refine Zk U Qt U U ?_|refine Zd U Qt ?_|refine Zf U Qt ?_|refine Yh Za U U U U ?_)
 refine ZJ (fun k tm bx fr=>∃(a:Nat),k+a=m/\6<=a/\tm=[(0,.str s),(2,.ptr 0 0),(3,.bool false),(4,.ptr 1 0),(8,.int .i64 (a:Int))]/\bx=[[.bool false,.int .u64 0,.int .u64 0,.str [],.str []],[.bool false,.int .u64 0,.int .u64 0,.str [],.str []]]/\fr=[]) (m+1) (Lands.mk' (m:=m-6) (by omega) ⟨6,by omega,Nat.le_refl _,rfl,rfl,rfl⟩ ?_ rfl rfl rfl rfl rfl rfl) ?_
 ·exact .cons rfl (.cons rfl (.cons rfl (.cons rfl (.cons rfl .nil))))
 rintro k tm bx fr ⟨a,hk,ha,rfl,rfl,rfl⟩
 rcases Nat.lt_or_ge a m with hlt|hge
 ·have t7:decide ((a:Int)<(s.length:Int))=true:=decide_eq_true (by omega)
  obtain⟨c,hc,hne⟩:=hm1 a ha hlt
  have hidx:s[((a:Nat):Int).toNat]?=some c:=by simpa using hc
  have t8:((c.toNat:Int) != 47)=true:=by simp;omega
  have e5:IntKind.i64.wrap ((a:Int)+1)=((a+1:Nat):Int):=by rw[IntWalk.i64_in _ (by omega)];omega
  repeat'(first|rw[e5]|refine V0 Za U U U U U (Int.natCast_nonneg _) hidx ?_|(apply Zh Za;exact U)|(apply Zg Za;exact U)|(apply Zo Za;exact U)|refine Ze U U U Qt ?_|refine Zk U Qt U U ?_|refine Zd U Qt ?_|refine Z6 ?_|refine Yh Za U U U U ?_)
  refine Lands.mk' (m:=k-1) (by omega) ⟨a+1,by omega,by omega,rfl,rfl,rfl⟩ ?_ rfl rfl rfl rfl rfl rfl
  exact .cons rfl (.cons rfl (.cons rfl (.cons rfl (.cons rfl .nil))))
 ·obtain rfl:a=m:=by omega
  rcases Nat.lt_or_ge a s.length with hl|hl
  ·have t7:decide ((a:Int)<(s.length:Int))=true:=decide_eq_true (by omega)
   obtain⟨c,hc,hne⟩:=hm2 hl
   have hidx:s[((a:Nat):Int).toNat]?=some c:=by simpa using hc
   have t8:((c.toNat:Int) != 47)=false:=by simp;omega
   have t9:((a:Int)==(s.length:Int))=false:=by simp;omega
   have e5:IntKind.i64.wrap ((a:Int)+1)=((a+1:Nat):Int):=by rw[IntWalk.i64_in _ (by omega)];omega
   have q1:Int.toNat 6<=((a:Nat):Int).toNat:=by omega
   have q2:((a:Nat):Int).toNat<=s.length:=by omega
   have q3:((a+1:Nat):Int).toNat<=s.length:=by omega
   have s1:(s.take ((a:Nat):Int).toNat).drop (Int.toNat 6)=h:=by rw[<- hh];rfl
   have s2:(s.take s.length).drop ((a+1:Nat):Int).toNat=d:=by rw[List.take_length,<- hd];rfl
   rw[if_pos hl]
   clear hm1 hm2
   cases z4 with
   | true=>
    clear hT
    cases z5
    all_goals
     repeat'(first|rw[e5]|(apply Zb (hK);kernel_rfl;(iterate 4 exact U))|refine V0 Za U U U U U (Int.natCast_nonneg _) hidx ?_|refine YN Za U U U U (.lit _ _ _ _ rfl (by decide)) (.lit _ _ _ _ rfl (Int.natCast_nonneg _)) q1 q2 s1 ?_|refine YN Za U U U U (.lit _ _ _ _ rfl (Int.natCast_nonneg _)) (.dft _) q3 (Nat.le_refl _) s2 ?_|(apply Zh Za;exact U)|(apply Zg Za;exact U)|(apply Zo Za;exact U)|refine Ze U U U Qt ?_|refine Zn U U U Qt ?_|refine Zk U Qt U U ?_|refine Zd U Qt ?_|refine Zf U Qt ?_|refine Yh Za U U U U ?_|(apply Zq 7 ZF;decide +kernel;kernel_rfl;kernel_rfl;kernel_rfl;exact U;exact U)|(apply Zt;(iterate 4 exact U))|exact AE.nil _ _ _ _|(apply Zw;exact U)|(apply Zz;exact U;exact U;decide +kernel;exact U)|(apply ZA;exact U)|exact AO.nil _ _ _|(apply Zs;(decide +kernel))|exact AOs.nil|exact ZI rfl rfl)
     all_goals exact Qe
   | false=>
    have hT:=hT rfl
    cases z5
    all_goals
     repeat'(first|rw[e5]|(apply Zb (hK);kernel_rfl;(iterate 4 exact U))|(apply Zb (hT);kernel_rfl;(iterate 4 exact U))|refine V0 Za U U U U U (Int.natCast_nonneg _) hidx ?_|refine YN Za U U U U (.lit _ _ _ _ rfl (by decide)) (.lit _ _ _ _ rfl (Int.natCast_nonneg _)) q1 q2 s1 ?_|refine YN Za U U U U (.lit _ _ _ _ rfl (Int.natCast_nonneg _)) (.dft _) q3 (Nat.le_refl _) s2 ?_|(apply Zh Za;exact U)|(apply Zg Za;exact U)|(apply Zo Za;exact U)|refine Ze U U U Qt ?_|refine Zk U Qt U U ?_|refine Zi U Qt U U ?_|refine Zd U Qt ?_|refine Zf U Qt ?_|refine Yh Za U U U U ?_|(apply Zq 7 ZF;decide +kernel;kernel_rfl;kernel_rfl;kernel_rfl;exact U;exact U)|(apply Zt;(iterate 4 exact U))|exact AE.nil _ _ _ _|(apply Zw;exact U)|(apply Zz;exact U;exact U;decide +kernel;exact U)|(apply ZA;exact U)|exact AO.nil _ _ _|(apply Zs;(decide +kernel))|exact AOs.nil|exact ZI rfl rfl)
     all_goals exact Qe
  ·have t7:decide ((a:Int)<(s.length:Int))=false:=decide_eq_false (by omega)
   have t9:((a:Int)==(s.length:Int))=true:=by simp;omega
   rw[if_neg (by omega)]
   repeat'(first|(apply Zh Za;exact U)|(apply Zg Za;exact U)|(apply Zo Za;exact U)|refine Zr U U U Qt ?_|refine Zi U Qt U U ?_|refine Zd U Qt ?_|refine Zf U Qt ?_|refine Yh Za U U U U ?_)
   all_goals exact Qe
end Go.Proofs.YtmljabhmajehnaaGreatDoor
end
