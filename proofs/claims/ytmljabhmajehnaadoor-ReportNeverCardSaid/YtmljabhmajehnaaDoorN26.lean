/- Package canon: which first blocks may be. -/
import Derived.Test.YtmljabhmajehnaaDoorN25
import Derived.Test.YtmljabhmajehnaaDoorN19
import Derived.Test.YtmljabhmajehnaaDoorN23
set_option linter.unusedVariables false
set_option linter.unusedSimpArgs false
section
open Go.RowKit Go.Pl Go.Av
namespace Go.Proofs.YtmljabhmajehnaaDoor
set_option maxHeartbeats 4000000
structure PriV where
 fl:Nat
 sum:Int
 dest:EidV
 rep:EidV
 src:EidV
 t:Nat
 q:Nat
 life:Nat
abbrev prC (p:PriV):List D:=[.int .u64 (p.fl:Int),.int .i64 p.sum,.bool p.dest.i,.int .u64 (p.dest.n:Int),.int .u64 (p.dest.s:Int),.str p.dest.h,.str p.dest.d,.bool p.rep.i,.int .u64 (p.rep.n:Int),.int .u64 (p.rep.s:Int),.str p.rep.h,.str p.rep.d,.bool p.src.i,.int .u64 (p.src.n:Int),.int .u64 (p.src.s:Int),.str p.src.h,.str p.src.d,.int .u64 (p.t:Int),.int .u64 (p.q:Int),.int .u64 (p.life:Int)]
def W0 (p:PriV):Bool:=(bits .andNot .u64 (p.fl:Int) 409638==0)&&(decide (p.sum ≥ 0)&&(decide (p.sum<=2)&&(Z8 p.dest&&(Z8 p.rep&&(Y0 p.src p.t p.q&&decide ((p.life:Int)<=1099511627776))))))
theorem XJ [Known](p:PriV):AP Tryd.prog 50 [.agg (prC p)] (.bool (W0 p)) []:=by
 have hD:=Vc p.dest
 have hR:=Vc p.rep
 have hI:=QK p.src p.t p.q
 unfold W0
 generalize Z8 p.dest=e1 at *
 generalize Z8 p.rep=e2 at *
 generalize Y0 p.src p.t p.q=e3 at *
 obtain⟨fl,sum,⟨di,dn,ds,dh,dd⟩,⟨ri,rn,rs,rh,rd⟩,⟨xi,xn,xs,xh,xd⟩,t,q,life⟩:=p
 dsimp only at *
 cases t1:(bits .andNot .u64 (fl:Int) 409638==0) with
 | false=>
  refine AP.ofA (Zl Tryd.func50 Z Tryd.ntmps50 Z Z ?_)
  repeat'(first|(apply Zg Za;exact Z)|(apply Zf Za;exact Z)|refine Zt Z Z Z Qt ?_|refine Zi Z Qt Z Z ?_)
  all_goals exact Qe
 | true=>
 cases t2:decide (sum ≥ 0) with
 | false=>
  refine AP.ofA (Zl Tryd.func50 Z Tryd.ntmps50 Z Z ?_)
  repeat'(first|(apply Zg Za;exact Z)|(apply Zf Za;exact Z)|refine Ze Z Z Z Qt ?_|refine Zt Z Z Z Qt ?_|refine Zk Z Qt Z Z ?_|refine Zi Z Qt Z Z ?_)
  all_goals exact Qe
 | true=>
 cases t3:decide (sum<=2) with
 | false=>
  refine AP.ofA (Zl Tryd.func50 Z Tryd.ntmps50 Z Z ?_)
  repeat'(first|(apply Zg Za;exact Z)|(apply Zf Za;exact Z)|refine Ze Z Z Z Qt ?_|refine Zt Z Z Z Qt ?_|refine Zk Z Qt Z Z ?_|refine Zi Z Qt Z Z ?_)
  all_goals exact Qe
 | true=>
 cases e1
 ·refine AP.ofA ?_
  refine Zl Tryd.func50 rfl Tryd.ntmps50 rfl rfl ?_
  repeat'(first|(apply Zb (hD);kernel_rfl;(iterate 4 exact Z))|(apply Zg Za;exact Z)|(apply Zf Za;exact Z)|refine Ze Z Z Z Qt ?_|refine Zt Z Z Z Qt ?_|refine Zk Z Qt Z Z ?_|refine Zi Z Qt Z Z ?_)
  all_goals exact Qe
 cases e2
 ·refine AP.ofA ?_
  refine Zl Tryd.func50 rfl Tryd.ntmps50 rfl rfl ?_
  repeat'(first|(apply Zb (hD);kernel_rfl;(iterate 4 exact Z))|(apply Zb (hR);kernel_rfl;(iterate 4 exact Z))|(apply Zg Za;exact Z)|(apply Zf Za;exact Z)|refine Ze Z Z Z Qt ?_|refine Zt Z Z Z Qt ?_|refine Zk Z Qt Z Z ?_|refine Zi Z Qt Z Z ?_)
  all_goals exact Qe
 cases e3
 ·refine AP.ofA ?_
  refine Zl Tryd.func50 rfl Tryd.ntmps50 rfl rfl ?_
  repeat'(first|(apply Zb (hD);kernel_rfl;(iterate 4 exact Z))|(apply Zb (hR);kernel_rfl;(iterate 4 exact Z))|(apply Zb (hI);kernel_rfl;(iterate 4 exact Z))|(apply Zg Za;exact Z)|(apply Zf Za;exact Z)|refine Ze Z Z Z Qt ?_|refine Zt Z Z Z Qt ?_|refine Zk Z Qt Z Z ?_|refine Zi Z Qt Z Z ?_)
  all_goals exact Qe
 refine AP.ofA (Zl Tryd.func50 Z Tryd.ntmps50 Z Z ?_)
 repeat'(first|(apply Zb (hD);kernel_rfl;(iterate 4 exact Z))|(apply Zb (hR);kernel_rfl;(iterate 4 exact Z))|(apply Zb (hI);kernel_rfl;(iterate 4 exact Z))|(apply Zg Za;exact Z)|(apply Zf Za;exact Z)|refine Ze Z Z Z Qt ?_|refine Zk Z Qt Z Z ?_)
 all_goals exact Qe
def Vo (p:PriV):List It:=[.mk 0 7 [] [],.mk 0 p.fl [] [],.mk 0 p.sum.toNat [] [],Yt p.dest,Yt p.src,Yt p.rep,.mk 4 0 [] [.mk 0 p.t [] [],.mk 0 p.q [] []],.mk 0 p.life [] []]
def WE (p:PriV):It × Int:=match W0 p with
 | true=>Vk (Vo p) 2
 | false=>(z0,3)
theorem Qq {p:PriV}(h:W0 p=true):0<=p.sum/\p.sum<=2/\Z8 p.dest=true/\Z8 p.rep=true/\Y0 p.src p.t p.q=true/\p.life<=1099511627776:=by
 unfold W0 at h
 simp only[Bool.and_eq_true,decide_eq_true_eq]at h
 obtain⟨_,h1,h2,h3,h4,h5,h6⟩:=h
 exact⟨h1,h2,h3,h4,h5,by omega⟩
theorem Ny {p:PriV}(h:W0 p=true)(hfl:p.fl<18446744073709551616):wfs (Vo p):=by
 obtain⟨h1,h2,h3,h4,h5,h6⟩:=Qq h
 obtain⟨i1,i2,i3⟩:=Y8.1 h5
 refine⟨?_,?_,?_,Up h3,Up i1,Up h4,?_,?_,trivial⟩
 all_goals first|(simp[wfI,wfs];done)|(simp[wfI,wfs];omega)
theorem GA [Known][KnownU8](p:PriV)(hfl:p.fl<18446744073709551616)(hlim:∀ s,s=1\/s=2->(ZG (Yc s (Vo p))).length<=1000000000):AP Tryd.prog 36 [.agg (prC p)] (Qo (WE p)) []:=by
 have hR:=XJ p
 unfold WE
 cases hr:W0 p with
 | false=>
  rw[hr]at hR
  obtain⟨fl,sum,⟨di,dn,ds,dh,dd⟩,⟨ri,rn,rs,rh,rd⟩,⟨xi,xn,xs,xh,xd⟩,t,q,life⟩:=p
  dsimp only[z0]at *
  refine AP.ofA (Zl Tryd.func36 Z Tryd.ntmps36 Z Z ?_)
  repeat'(first|(apply Zb (hR);kernel_rfl;(iterate 4 exact Z))|(apply Zg Za;exact Z)|(apply Zf Za;exact Z)|(apply Zs Za;exact Z)|refine Zd Z Qt ?_)
  all_goals exact Qe
 | true=>
  rw[hr]at hR
  obtain⟨h1,h2,h3,h4,h5,h6⟩:=Qq hr
  have hS:=IQ (Vo p) 2 (Ny hr hfl) (by simp[Vo]) hlim
  have hD:=QJ p.dest
  have hP:=QJ p.rep
  have hI:=QL p.src p.t p.q
  rw[if_pos h3,if_pos h3]at hD
  rw[if_pos h4,if_pos h4]at hP
  rw[if_pos h5,if_pos h5]at hI
  have hN:=Yq 7
  have hF:=Yq p.fl
  have hM:=Yq p.sum.toNat
  have hL:=Yq p.life
  dsimp only
  generalize Vk (Vo p) 2=r at *
  unfold Vo at hS
  unfold YD at hI
  obtain⟨fl,sum,⟨di,dn,ds,dh,dd⟩,⟨ri,rn,rs,rh,rd⟩,⟨xi,xn,xs,xh,xd⟩,t,q,life⟩:=p
  dsimp only at *
  generalize Yt ⟨di,dn,ds,dh,dd⟩=I1 at *
  generalize Yt ⟨ri,rn,rs,rh,rd⟩=I2 at *
  generalize Yt ⟨xi,xn,xs,xh,xd⟩=I3 at *
  obtain⟨ak,an,ab,al⟩:=I1
  obtain⟨bk,bn,bb,bl⟩:=I2
  obtain⟨ck,cn,cb,cl⟩:=I3
  obtain⟨⟨k,n,b,l⟩,e⟩:=r
  have es:IntKind.u64.wrap sum=((sum.toNat:Nat):Int):=by rw[IntWalk.u64_in _ (by omega)];omega
  have hU:=Y2 [It.mk ck cn cb cl,.mk 4 0 [] [.mk 0 t [] [],.mk 0 q [] []]]
  have hv0:(Zz [It.mk ck cn cb cl,.mk 4 0 [] [.mk 0 t [] [],.mk 0 q [] []]])[(0:Int).toNat]?=some (.agg [.int .i64 ck,.int .u64 (cn:Int),.sl (cb.map E.byte),.sl (Zz cl)]):=rfl
  have hv1:(Zz [It.mk ck cn cb cl,.mk 4 0 [] [.mk 0 t [] [],.mk 0 q [] []]])[(1:Int).toNat]?=some (.agg [.int .i64 4,.int .u64 0,.sl [],.sl [nmE t,nmE q]]):=rfl
  generalize hLe:Zz [It.mk ck cn cb cl,.mk 4 0 [] [.mk 0 t [] [],.mk 0 q [] []]]=LL at *
  replace hI:AP Tryd.prog 25 [.agg (iC ⟨xi,xn,xs,xh,xd⟩ t q)] (.tup [.agg [.int .i64 4,.int .u64 0,.sl .ext [],.sl .ext LL],.int .i64 0]) []:=by rw[<- hLe];exact hI
  replace hS:AP Tryd.prog 51 [.sl .ext [nmE 7,nmE fl,nmE sum.toNat,.agg [.int .i64 ak,.int .u64 (an:Int),.sl (ab.map E.byte),.sl (Zz al)],.agg [.int .i64 ck,.int .u64 (cn:Int),.sl (cb.map E.byte),.sl (Zz cl)],.agg [.int .i64 bk,.int .u64 (bn:Int),.sl (bb.map E.byte),.sl (Zz bl)],.agg [.int .i64 4,.int .u64 0,.sl [],.sl [nmE t,nmE q]],nmE life],.int .i64 2] (Qo (.mk k n b l,e)) []:=hS
  refine AP.ofA (Zl Tryd.func36 Z Tryd.ntmps36 Z Z ?_)
  repeat'(first|(apply Zb (hR);kernel_rfl;(iterate 4 exact Z))|rw[es]|(apply Zb (hD);kernel_rfl;(iterate 4 exact Z))|(apply Zb (hP);kernel_rfl;(iterate 4 exact Z))|(apply Zb (hI);kernel_rfl;(iterate 4 exact Z))|(apply Zb (hN);kernel_rfl;(iterate 4 exact Z))|(apply Zb (hF);kernel_rfl;(iterate 4 exact Z))|(apply Zb (hM);kernel_rfl;(iterate 4 exact Z))|(apply Zb (hL);kernel_rfl;(iterate 4 exact Z))|(apply Zb (hS);kernel_rfl;(iterate 4 exact Z))|(apply Zg Za;exact Z)|(apply Zf Za;exact Z)|(apply Zs Za;exact Z)|refine Zh Z Qt ?_|refine ZX Za Z Z Z Z Z Z Z Z Z Z Z Z ?_|(apply Zm 21 ZF;decide +kernel;kernel_rfl;kernel_rfl;kernel_rfl;exact Z;exact Z)|(apply Zq;(iterate 4 exact Z))|exact AE.nil _ _ _ _|(apply Zu;exact Z)|(apply ZB;exact Z;exact Z;decide +kernel;exact Z)|(apply ZC;exact Z)|exact AO.nil _ _ _|(apply Zp;(decide +kernel))|exact AOs.nil|exact ZH rfl rfl|(apply Zx Za;(iterate 6 exact Z);(first|exact Qt|rotate_left);(first|with_reducible assumption|decide +kernel|exact Z);(first|exact Zj rfl|with_reducible assumption|decide +kernel|rotate_left)))
  all_goals exact Qe
end Go.Proofs.YtmljabhmajehnaaDoor
end
section
open Go.RowKit Go.Pl Go.Av
namespace Go.Proofs.YtmljabhmajehnaaDoor
mutual
def Vp:It->Nat
 | .mk _ _ _ l=>1+Vq l
def Vq:List It->Nat
 | []=>0
 | x::l=>Vp x+Vq l
end
mutual
def Q4:It->Bool
 | .mk k n b l=>WV k n b l&&Q5 l
def Q5:List It->Bool
 | []=>true
 | x::l=>Q4 x&&Q5 l
end
mutual
theorem Og:∀(x:It) (d m:Nat),YS x d m=if W2 x (7-d)=true/\Vp x<=m/\Q4 x=true then some (m-Vp x) else none
 | .mk k n b l,d,m=>by
  rw[YS]
  split
  ·rename_i h
   rw[if_neg]
   rintro⟨h1,_⟩
   rw[show 7-d=0 by omega,W2]at h1
   cases h1
  rename_i hd
  rw[show 7-d=(7-(d+1))+1 by omega,W2,Vp,Q4]
  split
  ·rename_i h
   rw[if_neg]
   rintro⟨_,h1,_⟩
   omega
  rename_i hm
  cases ho:WV k n b l with
  | false=>
   dsimp only
   rw[if_neg]
   rintro⟨_,_,h1⟩
   simp at h1
  | true=>
   dsimp only
   rw[XK l (d+1) (m-1),Bool.true_and]
   by_cases h:W3 l (7-(d+1))=true/\Vq l<=m-1/\Q5 l=true
   ·rw[if_pos h,if_pos ⟨h.1,by omega,h.2.2⟩]
    congr 1;omega
   ·rw[if_neg h,if_neg]
    exact fun⟨a,b,c⟩=>h ⟨a,by omega,c⟩
theorem XK:∀(l:List It) (d m:Nat),Ym l d m=if W3 l (7-d)=true/\Vq l<=m/\Q5 l=true then some (m-Vq l) else none
 | [],d,m=>by rw[Ym,if_pos ⟨by rw[W3],by rw[Vq];omega,by rw[Q5]⟩,Vq];rfl
 | x::l,d,m=>by
  rw[Ym,Og x d m,W3,Vq,Q5]
  by_cases h:W2 x (7-d)=true/\Vp x<=m/\Q4 x=true
  ·rw[if_pos h]
   dsimp only
   rw[XK l d (m-Vp x),h.1,h.2.2,Bool.true_and,Bool.true_and]
   by_cases h2:W3 l (7-d)=true/\Vq l<=m-Vp x/\Q5 l=true
   ·rw[if_pos h2,if_pos ⟨h2.1,by omega,h2.2.2⟩]
    congr 1;omega
   ·rw[if_neg h2,if_neg]
    exact fun⟨a,b,c⟩=>h2 ⟨a,by omega,c⟩
  ·rw[if_neg h]
   dsimp only
   rw[if_neg]
   rintro⟨a,b,c⟩
   rw[Bool.and_eq_true]at a c
   exact h ⟨a.1,by omega,c.1⟩
end
theorem XL (x:It):ZI x=(W2 x 6&&(decide (Vp x<=256)&&Q4 x)):=by
 unfold ZI
 rw[Og]
 split
 ·rename_i h
  obtain⟨a,b,c⟩:=h
  rw[show 7-1=6 from rfl]at a
  simp[a,b,c]
 ·rename_i h
  rw[show 7-1=6 from rfl]at h
  show false=_
  cases h2:(W2 x 6&&(decide (Vp x<=256)&&Q4 x)) with
  | false=>rfl
  | true=>
   simp only[Bool.and_eq_true,decide_eq_true_eq]at h2
   exact absurd ⟨h2.1,h2.2.1,h2.2.2⟩ h
mutual
theorem OZ:∀(x:It) (d e:Nat),W2 x d=true->d<=e->W2 x e=true
 | .mk k n b l,0,e,h,_=>by rw[W2]at h;cases h
 | .mk k n b l,d+1,0,h,hle=>by omega
 | .mk k n b l,d+1,e+1,h,hle=>by
  rw[W2]at h ⊢
  exact JS l d e h (by omega)
theorem JS:∀(l:List It) (d e:Nat),W3 l d=true->d<=e->W3 l e=true
 | [],_,_,_,_=>by rw[W3]
 | x::l,d,e,h,hle=>by
  rw[W3,Bool.and_eq_true]at h ⊢
  exact⟨OZ x d e h.1 hle,JS l d e h.2 hle⟩
end
mutual
theorem O0:∀(x:It) (d:Nat) (m:Int),0<=YT x d m->(Vp x:Int)=m-YT x d m
 | .mk k n b l,d,m,h=>by
  rw[YT]at h ⊢
  split at h
  ·omega
  split at h
  ·omega
  rename_i h1 h2
  rw[if_neg h1,if_neg h2,Vp]
  have:=Q6 l (d+1) (m-1) h
  omega
theorem Q6:∀(l:List It) (d:Nat) (m:Int),0<=Wf l d m->(Vq l:Int)=m-Wf l d m
 | [],d,m,h=>by rw[Wf,Vq];omega
 | x::l,d,m,h=>by
  rw[Wf]at h ⊢
  split at h
  ·omega
  rename_i h1
  rw[if_neg h1,Vq]
  have h0:0<=YT x d m:=by
   rcases Int.lt_or_le (YT x d m) 0 with hlt|hge
   ·have:=UB l d (YT x d m) (by have:=UA x d m (by omega);omega);omega
   ·exact hge
  have a:=O0 x d m h0
  have b:=Q6 l d _ h
  omega
end
end Go.Proofs.YtmljabhmajehnaaDoor
end
section
open Go.RowKit Go.Pl Go.Av
namespace Go.Proofs.YtmljabhmajehnaaDoor
set_option maxHeartbeats 4000000
theorem O1 {x:It}(hw:wfI x)(hr:ZI x=true):Ys (ZG x) 0=(x,(ZG x).length,0):=by
 have h:=XI hw hr []
 rw[List.append_nil]at h
 exact h
theorem JT (b:List UInt8)(hb:b.length<=140737488351232):(∃ e:Nat,e ≠ 0/\Ys b 0=(.mk 0 0 [] [],0,e)/\Wx b=false)\/(∃(y:It) (n:Nat),Ys b 0=(y,n,0)/\wfI y/\ZI y=true/\n<=b.length):=by
 have e:Ys b 0=match ZZ 6 256 b with
   | .error e=>(.mk 0 0 [] [],0,e)
   | .ok (x,r,_)=>(x,b.length-r.length,0):=by rw[Ys,if_neg (by omega)];rfl
 unfold Wx
 rw[e]
 cases hx:ZZ 6 256 b with
 | error c=>exact .inl ⟨c,Qm _ _ _ _ hx,rfl,rfl⟩
 | ok y=>
  obtain⟨y,r,m1⟩:=y
  obtain⟨hwk,hwf,pre,hpre,_,_⟩:=Qh 6 (Nat.le_refl _) _ _ _ _ _ hx (by omega)
  refine .inr ⟨y,b.length-r.length,rfl,hwf,?_,by omega⟩
  have hwk:YS y 1 256=some m1:=hwk
  unfold ZI;rw[hwk];rfl
theorem GB (b:List UInt8)(hb:b.length<4294967296):(∃ e:Nat,e ≠ 0/\Ys b 0=(.mk 0 0 [] [],0,e)/\Wx b=false)\/(∃(y:It) (n:Nat),Ys b 0=(y,n,0)/\wfI y/\ZI y=true/\(ZG y).length<=n/\n<=b.length):=by
 have e:Ys b 0=match ZZ 6 256 b with
   | .error e=>(.mk 0 0 [] [],0,e)
   | .ok (x,r,_)=>(x,b.length-r.length,0):=by rw[Ys,if_neg (by omega)];rfl
 unfold Wx
 rw[e]
 cases hx:ZZ 6 256 b with
 | error c=>exact .inl ⟨c,Qm _ _ _ _ hx,rfl,rfl⟩
 | ok y=>
  obtain⟨y,r,m1⟩:=y
  obtain⟨hwk,hwf,pre,hpre,_,hlen⟩:=Qh 6 (Nat.le_refl _) _ _ _ _ _ hx (by omega)
  have hle:=hlen.1 ⟨Nat.le_refl _,hb⟩
  have hpl:=congrArg List.length hpre
  rw[List.length_append]at hpl
  refine .inr ⟨y,b.length-r.length,rfl,hwf,?_,by omega,by omega⟩
  have hwk:YS y 1 256=some m1:=hwk
  unfold ZI;rw[hwk];rfl
structure BlkV where
 ty:Nat
 num:Nat
 fl:Nat
 sum:Int
 data:List UInt8
abbrev bkC (b:BlkV):List D:=[.int .u64 (b.ty:Int),.int .u64 (b.num:Int),.int .u64 (b.fl:Int),.int .i64 b.sum,byE b.data]
theorem H1 (d:List UInt8)(hd:d.length<=140737488351232):wfI (Ys d 0).1:=by
 rcases JT d (by omega) with⟨e,_,h,_⟩ | ⟨y,n,h,hw,_⟩
 ·rw[h];exact⟨by decide,by simp,by simp,trivial⟩
 ·rw[h];exact hw
theorem Kg [Known][KnownU8](d:List UInt8)(hd:d.length<=140737488351232):AP Tryd.prog 90 [byE d] (.tup [itD (Ys d 0).1,.bool (Wx d)]) []:=by
 have hR:=JM d 0 (by omega)
 have hS:=Kc d (by omega)
 rcases JT d (by omega) with⟨e,he,h,hs⟩ | ⟨⟨k,n,b,l⟩,m,h,hw,hr,_⟩
 ·rw[h]at hR ⊢
  rw[hs]at hS ⊢
  replace hR:AP Tryd.prog _ _ (.tup [.agg [.int .i64 0,.int .u64 0,.sl .ext [],.sl .ext []],.int .i64 0,.int .i64 (e:Int)]) []:=hR
  have t1:((e:Int)==0)=false:=by rw[beq_eq_false_iff_ne];omega
  refine AP.ofA (Zl Tryd.func90 Z Tryd.ntmps90 Z Z ?_)
  repeat'(first|(apply Zb (hR);kernel_rfl;(iterate 4 exact Z))|(apply Zg Za;exact Z)|(apply Zf Za;exact Z)|refine Zt Z Z Z Qt ?_|refine Zi Z Qt Z Z ?_|(apply Zm 8 ZF;decide +kernel;kernel_rfl;kernel_rfl;kernel_rfl;exact Z;exact Z)|(apply Zq;(iterate 4 exact Z))|exact AE.nil _ _ _ _|(apply Zu;exact Z)|(apply Uj;exact Z)|(apply ZB;exact Z;exact Z;decide +kernel;exact Z)|(apply ZC;exact Z)|(apply QW;exact Z)|exact AO.nil _ _ _|(apply Zp;(decide +kernel))|(apply Z1;(iterate 3 exact Z))|exact AOs.nil|exact ZH rfl rfl|exact UT rfl)
  all_goals exact Qe
 ·rw[h]at hR ⊢
  replace hR:AP Tryd.prog _ _ (.tup [.agg (itC k n b l),.int .i64 (m:Int),.int .i64 0]) []:=hR
  refine AP.ofA (Zl Tryd.func90 Z Tryd.ntmps90 Z Z ?_)
  repeat'(first|(apply Zb (hR);kernel_rfl;(iterate 4 exact Z))|(apply Zb (hS);kernel_rfl;(iterate 4 exact Z))|(apply Zg Za;exact Z)|(apply Zf Za;exact Z)|refine Ze Z Z Z Qt ?_|refine Zk Z Qt Z Z ?_|(apply Zm 8 ZF;decide +kernel;kernel_rfl;kernel_rfl;kernel_rfl;exact Z;exact Z)|(apply Zq;(iterate 4 exact Z))|exact AE.nil _ _ _ _|(apply Zu;exact Z)|(apply Uj;exact Z)|(apply ZB;exact Z;exact Z;decide +kernel;exact Z)|(apply ZC;exact Z)|(apply QW;exact Z)|exact AO.nil _ _ _|(apply Zp;(decide +kernel))|(apply Z1;(iterate 3 exact Z))|exact AOs.nil|exact ZH rfl rfl|exact UT rfl)
  all_goals exact Qe
def XM (d:List UInt8):EidV × Bool:=((match(YL (Ys d 0).1).2 with|true=>(YL (Ys d 0).1).1|false=>Yl),Wx d&&(YL (Ys d 0).1).2)
theorem Oh [Known][KnownU8](d:List UInt8)(hd:d.length<=140737488351232):AP Tryd.prog 71 [byE d] (.tup [.agg (eC (XM d).1),.bool (XM d).2]) []:=by
 have hI:=Kg d hd
 have hR:=K0 (Ys d 0).1 (H1 d hd)
 unfold XM
 dsimp only
 generalize (Ys d 0).1=x at *
 generalize YL x=r at *
 obtain⟨⟨zi,zn,zs,zh,zd⟩,ok⟩:=r
 obtain⟨k,n,b,l⟩:=x
 unfold OT at hR
 cases ok with
 | false=>
  replace hR:AP Tryd.prog _ _ (.tup [.agg [.bool false,.int .u64 0,.int .u64 0,.str [],.str []],.int .i64 3]) []:=hR
  cases hs:Wx d<;>rw[hs]at hI
  all_goals
   refine AP.ofA (Zl Tryd.func71 Z Tryd.ntmps71 Z Z ?_)
   repeat'(first|(apply Zb (hI);kernel_rfl;(iterate 4 exact Z))|(apply Zb (hR);kernel_rfl;(iterate 4 exact Z))|(apply Zg Za;exact Z)|(apply Zf Za;exact Z)|refine Ze Z Z Z Qt ?_|refine Zt Z Z Z Qt ?_|refine Zk Z Qt Z Z ?_|refine Zi Z Qt Z Z ?_)
   all_goals exact Qe
 | true=>
  replace hR:AP Tryd.prog _ _ (.tup [.agg [.bool zi,.int .u64 (zn:Int),.int .u64 (zs:Int),.str zh,.str zd],.int .i64 0]) []:=hR
  cases hs:Wx d<;>rw[hs]at hI
  all_goals
   refine AP.ofA (Zl Tryd.func71 Z Tryd.ntmps71 Z Z ?_)
   repeat'(first|(apply Zb (hI);kernel_rfl;(iterate 4 exact Z))|(apply Zb (hR);kernel_rfl;(iterate 4 exact Z))|(apply Zg Za;exact Z)|(apply Zf Za;exact Z)|refine Ze Z Z Z Qt ?_|refine Zt Z Z Z Qt ?_|refine Zk Z Qt Z Z ?_|refine Zi Z Qt Z Z ?_)
   all_goals exact Qe
def GC (d:List UInt8):Nat × Bool:=((Ys d 0).1.n,Wx d&&(It.beq (Ys d 0).1 (.mk 0 (Ys d 0).1.n [] [])&&decide (((Ys d 0).1.n:Int)<=1099511627776)))
theorem Mc [Known][KnownU8](d:List UInt8)(hd:d.length<=140737488351232):AP Tryd.prog 72 [byE d] (.tup [.int .u64 ((GC d).1:Int),.bool (GC d).2]) []:=by
 have hI:=Kg d hd
 have hw:=H1 d hd
 unfold GC
 dsimp only
 generalize (Ys d 0).1=x at *
 obtain⟨k,n,b,l⟩:=x
 have hS:=Qj (.mk k n b l) hw (.mk 0 n [] []) ⟨hw.1,by simp,by simp,trivial⟩
 have hN:=Yq n
 dsimp only[It.n]
 cases hs:Wx d with
 | false=>
  rw[hs]at hI
  refine AP.ofA (Zl Tryd.func72 Z Tryd.ntmps72 Z Z ?_)
  repeat'(first|(apply Zb (hI);kernel_rfl;(iterate 4 exact Z))|(apply Zg Za;exact Z)|(apply Zf Za;exact Z)|refine Zt Z Z Z Qt ?_|refine Zi Z Qt Z Z ?_|(apply Zm 16 ZF;decide +kernel;kernel_rfl;kernel_rfl;kernel_rfl;exact Z;exact Z)|(apply Zq;(iterate 4 exact Z))|exact AE.nil _ _ _ _|(apply Zu;exact Z)|(apply ZB;exact Z;exact Z;decide +kernel;exact Z)|(apply ZC;exact Z)|exact AO.nil _ _ _|(apply Zp;(decide +kernel))|exact AOs.nil|exact ZH rfl rfl)
  all_goals exact Qe
 | true=>
 rw[hs]at hI
 cases t1:It.beq (.mk k n b l) (.mk 0 n [] []) with
 | false=>
  rw[t1]at hS
  refine AP.ofA (Zl Tryd.func72 Z Tryd.ntmps72 Z Z ?_)
  repeat'(first|(apply Zb (hI);kernel_rfl;(iterate 4 exact Z))|(apply Zb (hS);kernel_rfl;(iterate 4 exact Z))|(apply Zb (hN);kernel_rfl;(iterate 4 exact Z))|(apply Zg Za;exact Z)|(apply Zf Za;exact Z)|refine Ze Z Z Z Qt ?_|refine Zt Z Z Z Qt ?_|refine Zk Z Qt Z Z ?_|refine Zi Z Qt Z Z ?_|(apply Zm 16 ZF;decide +kernel;kernel_rfl;kernel_rfl;kernel_rfl;exact Z;exact Z)|(apply Zq;(iterate 4 exact Z))|exact AE.nil _ _ _ _|(apply Zu;exact Z)|(apply ZB;exact Z;exact Z;decide +kernel;exact Z)|(apply ZC;exact Z)|exact AO.nil _ _ _|(apply Zp;(decide +kernel))|exact AOs.nil|exact ZH rfl rfl)
  all_goals exact Qe
 | true=>
 rw[t1]at hS
 cases t2:decide ((n:Int)<=1099511627776)
 all_goals
  refine AP.ofA (Zl Tryd.func72 Z Tryd.ntmps72 Z Z ?_)
  repeat'(first|(apply Zb (hI);kernel_rfl;(iterate 4 exact Z))|(apply Zb (hS);kernel_rfl;(iterate 4 exact Z))|(apply Zb (hN);kernel_rfl;(iterate 4 exact Z))|(apply Zg Za;exact Z)|(apply Zf Za;exact Z)|refine Ze Z Z Z Qt ?_|refine Zk Z Qt Z Z ?_|(apply Zm 16 ZF;decide +kernel;kernel_rfl;kernel_rfl;kernel_rfl;exact Z;exact Z)|(apply Zq;(iterate 4 exact Z))|exact AE.nil _ _ _ _|(apply Zu;exact Z)|(apply ZB;exact Z;exact Z;decide +kernel;exact Z)|(apply ZC;exact Z)|exact AO.nil _ _ _|(apply Zp;(decide +kernel))|exact AOs.nil|exact ZH rfl rfl)
  all_goals exact Qe
def Nz (ok:Bool)(x:It):Nat × Nat × Bool:=match ok with
 | false=>(0,0,false)
 | true=>match x with
  | .mk k n b l=>match k==4 with
   | false=>(0,0,false)
   | true=>match l with
    | [.mk k1 n1 b1 l1,.mk k2 n2 b2 l2]=>(n1,n2,It.beq (.mk k n b [.mk k1 n1 b1 l1,.mk k2 n2 b2 l2]) (.mk 4 0 [] [.mk 0 n1 [] [],.mk 0 n2 [] []])&&(decide ((n1:Int) ≥ 1)&&(decide ((n1:Int)<=255)&&decide ((n2:Int)<=(n1:Int)))))
    | _=>(0,0,false)
def Q7 (d:List UInt8):Nat × Nat × Bool:=Nz (Wx d) (Ys d 0).1
theorem Lc [Known][KnownU8](d:List UInt8)(k:Int)(n:Nat)(b:List UInt8)(l:List It)(hI:AP Tryd.prog 90 [byE d] (.tup [itD (.mk k n b l),.bool false]) []):AP Tryd.prog 73 [byE d] (.tup [.int .u64 0,.int .u64 0,.bool false]) []:=by
 refine AP.ofA (Zl Tryd.func73 Z Tryd.ntmps73 Z Z ?_)
 repeat'(first|(apply Zb (hI);kernel_rfl;(iterate 4 exact Z))|(apply Zg Za;exact Z)|(apply Zf Za;exact Z)|(apply Zs Za;exact Z)|refine Zo Z Z Z Qt ?_|refine Zk Z Qt Z Z ?_|refine Zd Z Qt ?_)
 all_goals exact Qe
theorem Ld [Known][KnownU8](d:List UInt8)(k:Int)(n:Nat)(b:List UInt8)(l:List It)(hI:AP Tryd.prog 90 [byE d] (.tup [itD (.mk k n b l),.bool true]) [])(tk:(k==4)=false):AP Tryd.prog 73 [byE d] (.tup [.int .u64 0,.int .u64 0,.bool false]) []:=by
 have tk2:(k != 4)=true:=by rw[bne,tk];rfl
 refine AP.ofA (Zl Tryd.func73 Z Tryd.ntmps73 Z Z ?_)
 repeat'(first|(apply Zb (hI);kernel_rfl;(iterate 4 exact Z))|(apply Zg Za;exact Z)|(apply Zf Za;exact Z)|(apply Zs Za;exact Z)|refine Ze Z Z Z Qt ?_|refine Zo Z Z Z Qt ?_|refine Zk Z Qt Z Z ?_|refine Zi Z Qt Z Z ?_|refine Zd Z Qt ?_)
 all_goals exact Qe
theorem Md [Known][KnownU8](d:List UInt8)(k:Int)(n:Nat)(b:List UInt8)(l:List It)(hI:AP Tryd.prog 90 [byE d] (.tup [itD (.mk k n b l),.bool true]) [])(tk:(k==4)=true)(h2:l.length ≠ 2):AP Tryd.prog 73 [byE d] (.tup [.int .u64 0,.int .u64 0,.bool false]) []:=by
 have tk2:(k != 4)=false:=by rw[bne,tk];rfl
 have hlen:=Zw l
 have t2:(((Zz l).length:Int) != 2)=true:=by rw[hlen];simp;omega
 refine AP.ofA (Zl Tryd.func73 Z Tryd.ntmps73 Z Z ?_)
 repeat'(first|(apply Zb (hI);kernel_rfl;(iterate 4 exact Z))|(apply Zg Za;exact Z)|(apply Zf Za;exact Z)|(apply Zs Za;exact Z)|refine Ze Z Z Z Qt ?_|refine Zi Z Qt Z Z ?_|refine Zd Z Qt ?_|refine Zn Za Z Z Z Z ?_)
 all_goals exact Qe
theorem Le [Known][KnownU8](d:List UInt8)(k:Int)(n:Nat)(b:List UInt8)(L:List E)(k1:Int)(n1:Nat)(b1:List UInt8)(l1:List It)(k2:Int)(n2:Nat)(b2:List UInt8)(l2:List It)(s:Bool)(N:D)
  (hI:AP Tryd.prog 90 [byE d] (.tup [.agg [.int .i64 k,.int .u64 (n:Int),byE b,.sl .ext L],.bool true]) []) (tk2:(k != 4)=false) (t2:((L.length:Int) != 2)=false) (hU:Uni 4 L)
  (hv0:L[(0:Int).toNat]?=some (.agg [.int .i64 k1,.int .u64 (n1:Int),.sl (b1.map E.byte),.sl (Zz l1)])) (hv1:L[(1:Int).toNat]?=some (.agg [.int .i64 k2,.int .u64 (n2:Int),.sl (b2.map E.byte),.sl (Zz l2)]))
  (hN:AP Tryd.prog 52 [.sl .ext [.int .u64 (n1:Int),.int .u64 (n2:Int)]] (.agg [.int .i64 4,.int .u64 0,.sl .ext [],.sl .ext [nmE n1,nmE n2]]) []) (hS:AP Tryd.prog 42 [.agg [.int .i64 k,.int .u64 (n:Int),byE b,.sl .ext L],.agg [.int .i64 4,.int .u64 0,.sl .ext [],.sl .ext [nmE n1,nmE n2]]] (.bool s) []) (ts:s=false) :
  AP Tryd.prog 73 [byE d] (.tup [.int .u64 (n1:Int),.int .u64 (n2:Int),.bool false]) []:=by
 subst ts
 refine AP.ofA (Zl Tryd.func73 Z Tryd.ntmps73 Z Z ?_)
 repeat'(first|(apply Zb (hI);kernel_rfl;(iterate 4 exact Z))|(apply Zb (hS);kernel_rfl;(iterate 4 exact Z))|(apply Zb (hN);kernel_rfl;(iterate 4 exact Z))|(apply Zg Za;exact Z)|(apply Zf Za;exact Z)|(apply Zs Za;exact Z)|refine Ze Z Z Z Qt ?_|refine Zt Z Z Z Qt ?_|refine Zi Z Qt Z Z ?_|refine Zh Z Qt ?_|refine Zn Za Z Z Z Z ?_|refine ZX Za Z Z Z Z Z Z Z Z Z Z Z Z ?_|(apply Zm 11 ZF;decide +kernel;kernel_rfl;kernel_rfl;kernel_rfl;exact Z;exact Z)|(apply Zm 23 ZF;decide +kernel;kernel_rfl;kernel_rfl;kernel_rfl;exact Z;exact Z)|(apply Zq;(iterate 4 exact Z))|exact AE.nil _ _ _ _|(apply Zu;exact Z)|(apply ZB;exact Z;exact Z;decide +kernel;exact Z)|(apply ZC;exact Z)|exact AO.nil _ _ _|(apply Zp;(decide +kernel))|exact AOs.nil|exact ZH rfl rfl|exact Wj rfl rfl rfl rfl rfl|(apply Zx Za;(iterate 6 exact Z);(first|exact Qt|rotate_left);(first|with_reducible assumption|decide +kernel|exact Z);(first|exact Zj rfl|with_reducible assumption|decide +kernel|rotate_left)))
 all_goals exact Qe
theorem Lf [Known][KnownU8](d:List UInt8)(k:Int)(n:Nat)(b:List UInt8)(L:List E)(k1:Int)(n1:Nat)(b1:List UInt8)(l1:List It)(k2:Int)(n2:Nat)(b2:List UInt8)(l2:List It)(s:Bool)(N:D)
  (hI:AP Tryd.prog 90 [byE d] (.tup [.agg [.int .i64 k,.int .u64 (n:Int),byE b,.sl .ext L],.bool true]) []) (tk2:(k != 4)=false) (t2:((L.length:Int) != 2)=false) (hU:Uni 4 L)
  (hv0:L[(0:Int).toNat]?=some (.agg [.int .i64 k1,.int .u64 (n1:Int),.sl (b1.map E.byte),.sl (Zz l1)])) (hv1:L[(1:Int).toNat]?=some (.agg [.int .i64 k2,.int .u64 (n2:Int),.sl (b2.map E.byte),.sl (Zz l2)]))
  (hN:AP Tryd.prog 52 [.sl .ext [.int .u64 (n1:Int),.int .u64 (n2:Int)]] (.agg [.int .i64 4,.int .u64 0,.sl .ext [],.sl .ext [nmE n1,nmE n2]]) []) (hS:AP Tryd.prog 42 [.agg [.int .i64 k,.int .u64 (n:Int),byE b,.sl .ext L],.agg [.int .i64 4,.int .u64 0,.sl .ext [],.sl .ext [nmE n1,nmE n2]]] (.bool s) []) (ts:s=true) (t4:decide ((n1:Int) ≥ 1)=false) :
  AP Tryd.prog 73 [byE d] (.tup [.int .u64 (n1:Int),.int .u64 (n2:Int),.bool false]) []:=by
 subst ts
 refine AP.ofA (Zl Tryd.func73 Z Tryd.ntmps73 Z Z ?_)
 repeat'(first|(apply Zb (hI);kernel_rfl;(iterate 4 exact Z))|(apply Zb (hS);kernel_rfl;(iterate 4 exact Z))|(apply Zb (hN);kernel_rfl;(iterate 4 exact Z))|(apply Zg Za;exact Z)|(apply Zf Za;exact Z)|(apply Zs Za;exact Z)|refine Ze Z Z Z Qt ?_|refine Zt Z Z Z Qt ?_|refine Zk Z Qt Z Z ?_|refine Zi Z Qt Z Z ?_|refine Zh Z Qt ?_|refine Zn Za Z Z Z Z ?_|refine ZX Za Z Z Z Z Z Z Z Z Z Z Z Z ?_|(apply Zm 11 ZF;decide +kernel;kernel_rfl;kernel_rfl;kernel_rfl;exact Z;exact Z)|(apply Zm 23 ZF;decide +kernel;kernel_rfl;kernel_rfl;kernel_rfl;exact Z;exact Z)|(apply Zq;(iterate 4 exact Z))|exact AE.nil _ _ _ _|(apply Zu;exact Z)|(apply ZB;exact Z;exact Z;decide +kernel;exact Z)|(apply ZC;exact Z)|exact AO.nil _ _ _|(apply Zp;(decide +kernel))|exact AOs.nil|exact ZH rfl rfl|exact Wj rfl rfl rfl rfl rfl|(apply Zx Za;(iterate 6 exact Z);(first|exact Qt|rotate_left);(first|with_reducible assumption|decide +kernel|exact Z);(first|exact Zj rfl|with_reducible assumption|decide +kernel|rotate_left)))
 all_goals exact Qe
theorem Lg [Known][KnownU8](d:List UInt8)(k:Int)(n:Nat)(b:List UInt8)(L:List E)(k1:Int)(n1:Nat)(b1:List UInt8)(l1:List It)(k2:Int)(n2:Nat)(b2:List UInt8)(l2:List It)(s:Bool)(N:D)
  (hI:AP Tryd.prog 90 [byE d] (.tup [.agg [.int .i64 k,.int .u64 (n:Int),byE b,.sl .ext L],.bool true]) []) (tk2:(k != 4)=false) (t2:((L.length:Int) != 2)=false) (hU:Uni 4 L)
  (hv0:L[(0:Int).toNat]?=some (.agg [.int .i64 k1,.int .u64 (n1:Int),.sl (b1.map E.byte),.sl (Zz l1)])) (hv1:L[(1:Int).toNat]?=some (.agg [.int .i64 k2,.int .u64 (n2:Int),.sl (b2.map E.byte),.sl (Zz l2)]))
  (hN:AP Tryd.prog 52 [.sl .ext [.int .u64 (n1:Int),.int .u64 (n2:Int)]] (.agg [.int .i64 4,.int .u64 0,.sl .ext [],.sl .ext [nmE n1,nmE n2]]) []) (hS:AP Tryd.prog 42 [.agg [.int .i64 k,.int .u64 (n:Int),byE b,.sl .ext L],.agg [.int .i64 4,.int .u64 0,.sl .ext [],.sl .ext [nmE n1,nmE n2]]] (.bool s) []) (ts:s=true) (t4:decide ((n1:Int) ≥ 1)=true) (t5:decide ((n1:Int)<=255)=false) :
  AP Tryd.prog 73 [byE d] (.tup [.int .u64 (n1:Int),.int .u64 (n2:Int),.bool false]) []:=by
 subst ts
 refine AP.ofA (Zl Tryd.func73 Z Tryd.ntmps73 Z Z ?_)
 repeat'(first|(apply Zb (hI);kernel_rfl;(iterate 4 exact Z))|(apply Zb (hS);kernel_rfl;(iterate 4 exact Z))|(apply Zb (hN);kernel_rfl;(iterate 4 exact Z))|(apply Zg Za;exact Z)|(apply Zf Za;exact Z)|(apply Zs Za;exact Z)|refine Ze Z Z Z Qt ?_|refine Zt Z Z Z Qt ?_|refine Zk Z Qt Z Z ?_|refine Zi Z Qt Z Z ?_|refine Zh Z Qt ?_|refine Zn Za Z Z Z Z ?_|refine ZX Za Z Z Z Z Z Z Z Z Z Z Z Z ?_|(apply Zm 11 ZF;decide +kernel;kernel_rfl;kernel_rfl;kernel_rfl;exact Z;exact Z)|(apply Zm 23 ZF;decide +kernel;kernel_rfl;kernel_rfl;kernel_rfl;exact Z;exact Z)|(apply Zq;(iterate 4 exact Z))|exact AE.nil _ _ _ _|(apply Zu;exact Z)|(apply ZB;exact Z;exact Z;decide +kernel;exact Z)|(apply ZC;exact Z)|exact AO.nil _ _ _|(apply Zp;(decide +kernel))|exact AOs.nil|exact ZH rfl rfl|exact Wj rfl rfl rfl rfl rfl|(apply Zx Za;(iterate 6 exact Z);(first|exact Qt|rotate_left);(first|with_reducible assumption|decide +kernel|exact Z);(first|exact Zj rfl|with_reducible assumption|decide +kernel|rotate_left)))
 all_goals exact Qe
theorem Lh [Known][KnownU8](d:List UInt8)(k:Int)(n:Nat)(b:List UInt8)(L:List E)(k1:Int)(n1:Nat)(b1:List UInt8)(l1:List It)(k2:Int)(n2:Nat)(b2:List UInt8)(l2:List It)(s:Bool)(N:D)
  (hI:AP Tryd.prog 90 [byE d] (.tup [.agg [.int .i64 k,.int .u64 (n:Int),byE b,.sl .ext L],.bool true]) []) (tk2:(k != 4)=false) (t2:((L.length:Int) != 2)=false) (hU:Uni 4 L)
  (hv0:L[(0:Int).toNat]?=some (.agg [.int .i64 k1,.int .u64 (n1:Int),.sl (b1.map E.byte),.sl (Zz l1)])) (hv1:L[(1:Int).toNat]?=some (.agg [.int .i64 k2,.int .u64 (n2:Int),.sl (b2.map E.byte),.sl (Zz l2)]))
  (hN:AP Tryd.prog 52 [.sl .ext [.int .u64 (n1:Int),.int .u64 (n2:Int)]] (.agg [.int .i64 4,.int .u64 0,.sl .ext [],.sl .ext [nmE n1,nmE n2]]) []) (hS:AP Tryd.prog 42 [.agg [.int .i64 k,.int .u64 (n:Int),byE b,.sl .ext L],.agg [.int .i64 4,.int .u64 0,.sl .ext [],.sl .ext [nmE n1,nmE n2]]] (.bool s) []) (ts:s=true) (t4:decide ((n1:Int) ≥ 1)=true) (t5:decide ((n1:Int)<=255)=true) :
  AP Tryd.prog 73 [byE d] (.tup [.int .u64 (n1:Int),.int .u64 (n2:Int),.bool (decide ((n2:Int)<=(n1:Int)))]) []:=by
 subst ts
 refine AP.ofA (Zl Tryd.func73 Z Tryd.ntmps73 Z Z ?_)
 repeat'(first|(apply Zb (hI);kernel_rfl;(iterate 4 exact Z))|(apply Zb (hS);kernel_rfl;(iterate 4 exact Z))|(apply Zb (hN);kernel_rfl;(iterate 4 exact Z))|(apply Zg Za;exact Z)|(apply Zf Za;exact Z)|(apply Zs Za;exact Z)|refine Ze Z Z Z Qt ?_|refine Zk Z Qt Z Z ?_|refine Zi Z Qt Z Z ?_|refine Zh Z Qt ?_|refine Zn Za Z Z Z Z ?_|refine ZX Za Z Z Z Z Z Z Z Z Z Z Z Z ?_|(apply Zm 11 ZF;decide +kernel;kernel_rfl;kernel_rfl;kernel_rfl;exact Z;exact Z)|(apply Zm 23 ZF;decide +kernel;kernel_rfl;kernel_rfl;kernel_rfl;exact Z;exact Z)|(apply Zq;(iterate 4 exact Z))|exact AE.nil _ _ _ _|(apply Zu;exact Z)|(apply ZB;exact Z;exact Z;decide +kernel;exact Z)|(apply ZC;exact Z)|exact AO.nil _ _ _|(apply Zp;(decide +kernel))|exact AOs.nil|exact ZH rfl rfl|exact Wj rfl rfl rfl rfl rfl|(apply Zx Za;(iterate 6 exact Z);(first|exact Qt|rotate_left);(first|with_reducible assumption|decide +kernel|exact Z);(first|exact Zj rfl|with_reducible assumption|decide +kernel|rotate_left)))
 all_goals exact Qe
end Go.Proofs.YtmljabhmajehnaaDoor
end
