/- Package report: a report's bytes. -/
import Derived.Test.YtmljabhmajehnaaDoorN25
import Derived.Test.YtmljabhmajehnaaDoorN27
import Derived.Test.YtmljabhmajehnaaDoorN22
import Derived.Test.YtmljabhmajehnaaDoorN12
import Derived.Test.YtmljabhmajehnaaDoorN26
import Derived.Test.YtmljabhmajehnaaDoorN19
set_option linter.unusedVariables false
set_option linter.unusedSimpArgs false
section
open Go.RowKit Go.Pl Go.Av
namespace Go.Proofs.YtmljabhmajehnaaDoor
set_option maxHeartbeats 4000000
def Yj (r:RepV):It:=.mk 4 0 [] [.mk 0 1 [] [],.mk 4 0 [] [Qp r.a r.b r.c,.mk 0 r.rs [] [],.mk 0 r.tm [] [],YD r.of r.t r.q]]
def YH (r:RepV):List UInt8 × Int:=match YG r with
 | true=>(ZG (Yj r),0)
 | false=>([],3)
theorem VQ {r:RepV}(h:YG r=true):r.rs<=255/\r.tm<=1099511627776/\Y0 r.of r.t r.q=true:=by
 unfold YG at h
 simp only[Bool.and_eq_true,decide_eq_true_eq]at h
 obtain⟨_,h1,h2,h3⟩:=h
 exact⟨by omega,by omega,h3⟩
theorem H6 (b:Bool):nb b<=1:=by cases b<;>decide
theorem Me (a b c:Bool):wfI (Qp a b c):=by
 have h1:=H6 a
 have h2:=H6 b
 have h3:=H6 c
 unfold Qp
 simp[wfI,wfs]
 omega
theorem XP {r:RepV}(h:YG r=true):wfs [Qp r.a r.b r.c,.mk 0 r.rs [] [],.mk 0 r.tm [] [],YD r.of r.t r.q]:=by
 obtain⟨h1,h2,h3⟩:=VQ h
 have hn:=K2 h3
 have hy:=Me r.a r.b r.c
 refine⟨hy,?_,?_,hn,trivial⟩
 ·simp[wfI,wfs];omega
 ·simp[wfI,wfs];omega
theorem Qr {r:RepV}(h:YG r=true):wfI (Yj r):=
 ⟨by decide,by simp,by simp,⟨⟨by decide,by simp,by simp,trivial⟩,⟨by decide,by simp,by simp,XP h⟩,trivial⟩⟩
theorem Vs {r:RepV}(h:YG r=true):ZI (Yj r)=true:=by
 obtain⟨h1,h2,h3⟩:=VQ h
 obtain⟨i1,_,_⟩:=Y8.1 h3
 have hr:=QZ i1
 have f1:Q4 (Yt r.of)=true:=by
  rw[XL]at hr
  simp only[Bool.and_eq_true]at hr
  exact hr.2.2
 have e1:W2 (Yt r.of) 3=true/\Vp (Yt r.of)<=5:=by
  unfold Yt
  repeat' split
  all_goals simp[W2,W3,Vp,Vq]
 obtain⟨d1,s1⟩:=e1
 rw[XL]
 simp only[Bool.and_eq_true,decide_eq_true_eq]
 refine⟨?_,?_,?_⟩
 ·simp[Yj,YD,Qp,W2,W3,d1]
 ·simp[Yj,YD,Qp,Vp,Vq];omega
 ·simp[Yj,YD,Qp,Q4,Q5,WV,f1]
theorem O5 {x:EidV}(h:Z8 x=true):(ZG (Yt x)).length<=80:=by
 unfold Yt
 repeat' split
 ·exact Nat.le_trans (V2 1 0) (by decide)
 ·have h0:=Z5 4 0 [] [.mk 0 2 [] [],Oj x.n x.s]
  have h1:=Z7 2
  have h2:=V2 x.n x.s
  simp only[ZJ,List.length_append,List.length_nil,Nat.add_zero,Nat.zero_add]at h0
  exact Nat.le_trans h0 (by omega)
 ·have h0:=Z5 4 0 [] [.mk 0 1 [] [],.mk 3 0 (Y7 x) []]
  have h1:=Z7 1
  have h2:=Z5 3 0 (Y7 x) []
  rename_i hz hi
  have h3:(Y7 x).length<=43:=by
   have ht:=WO h (by simpa using hz) (by simpa using hi)
   simp only[Y7,List.length_append,List.length_cons,List.length_nil]
   omega
  simp only[ZJ,List.length_append,List.length_nil,Nat.add_zero,Nat.zero_add]at h0 h2
  exact Nat.le_trans h0 (by omega)
theorem UC {r:RepV}(h:YG r=true):(ZG (Yj r)).length<=200:=by
 obtain⟨h1,h2,h3⟩:=VQ h
 obtain⟨i1,_,_⟩:=Y8.1 h3
 have n4:=O5 i1
 have n1:=Z7 1
 have n2:=Z7 r.rs
 have n3:=Z7 r.tm
 have n5:=Z7 (nb r.a)
 have n6:=Z7 (nb r.b)
 have n7:=Z7 (nb r.c)
 have n8:=V2 r.t r.q
 have p1:=Z5 4 0 [] [.mk 0 (nb r.a) [] [],.mk 0 (nb r.b) [] [],.mk 0 (nb r.c) [] []]
 have p2:=Z5 4 0 [] [Yt r.of,Oj r.t r.q]
 have p3:=Z5 4 0 [] [Qp r.a r.b r.c,.mk 0 r.rs [] [],.mk 0 r.tm [] [],YD r.of r.t r.q]
 have p4:=Z5 4 0 [] [.mk 0 1 [] [],.mk 4 0 [] [Qp r.a r.b r.c,.mk 0 r.rs [] [],.mk 0 r.tm [] [],YD r.of r.t r.q]]
 have e1:Qp r.a r.b r.c=.mk 4 0 [] [.mk 0 (nb r.a) [] [],.mk 0 (nb r.b) [] [],.mk 0 (nb r.c) [] []]:=rfl
 have e2:YD r.of r.t r.q=.mk 4 0 [] [Yt r.of,Oj r.t r.q]:=rfl
 rw[<- e1]at p1
 rw[<- e2]at p2
 have e3:Yj r=.mk 4 0 [] [.mk 0 1 [] [],.mk 4 0 [] [Qp r.a r.b r.c,.mk 0 r.rs [] [],.mk 0 r.tm [] [],YD r.of r.t r.q]]:=rfl
 rw[<- e3]at p4
 simp only[ZJ,List.length_append,List.length_nil,Nat.add_zero,Nat.zero_add]at p1 p2 p3 p4
 omega
theorem UD [Known][KnownU8](r:RepV):AP Tryd.prog 14 [.agg (OY r)] (.tup [byE (YH r).1,.int .i64 (YH r).2]) []:=by
 have hI:=QL r.of r.t r.q
 have hR:=Gz r
 unfold YH
 cases hr:YG r with
 | false=>
  rw[hr]at hR
  obtain⟨a,b,c,rs,tm,⟨i,n,s,h,d⟩,t,q⟩:=r
  dsimp only at *
  cases hi:Y0 ⟨i,n,s,h,d⟩ t q with
  | false=>
   rw[hi,if_neg (by simp),if_neg (by simp)]at hI
   refine AP.ofA (Zl Tryd.func14 Z Tryd.ntmps14 Z Z ?_)
   repeat'(first|(apply Zb (hI);kernel_rfl;(iterate 4 exact Z))|(apply Zg Za;exact Z)|(apply Zf Za;exact Z)|(apply Zs Za;exact Z)|(apply Zo;(iterate 3 exact Z);(first|with_reducible assumption|decide +kernel|(solve|simp only[bn])))|(apply Zk;exact Z;(first|with_reducible assumption|decide +kernel|(solve|simp only[bn]));exact Z;exact Z)|(apply Zd;exact Z;(first|with_reducible assumption|decide +kernel|(solve|simp only[bn]))))
   all_goals exact Qe
  | true=>
   rw[hi,if_pos rfl,if_pos rfl]at hI
   unfold YD at hI
   refine AP.ofA (Zl Tryd.func14 Z Tryd.ntmps14 Z Z ?_)
   repeat'(first|(apply Zb (hR);kernel_rfl;(iterate 4 exact Z))|(apply Zb (hI);kernel_rfl;(iterate 4 exact Z))|(apply Zg Za;exact Z)|(apply Zf Za;exact Z)|(apply Zs Za;exact Z)|(apply Ze;(iterate 3 exact Z);(first|with_reducible assumption|decide +kernel|(solve|simp only[bn])))|(apply Zi;exact Z;(first|with_reducible assumption|decide +kernel|(solve|simp only[bn]));exact Z;exact Z)|(apply Zd;exact Z;(first|with_reducible assumption|decide +kernel|(solve|simp only[bn]))))
   all_goals exact Qe
 | true=>
  rw[hr]at hR
  have hps:=XP hr
  have hW:=Q1 (Yj r) (Qr hr) (by have:=UC hr;omega) (Vs hr)
  obtain⟨h1,h2,h3⟩:=VQ hr
  rw[h3,if_pos rfl,if_pos rfl]at hI
  have hn1:=Yq 1
  have hn2:=Yq r.rs
  have hn3:=Yq r.tm
  have hY:=Mb r.a r.b r.c
  have hL1:=WS [Qp r.a r.b r.c,.mk 0 r.rs [] [],.mk 0 r.tm [] [],YD r.of r.t r.q] (by simp) hps
  have hL2:=WS [.mk 0 1 [] [],.mk 4 0 [] [Qp r.a r.b r.c,.mk 0 r.rs [] [],.mk 0 r.tm [] [],YD r.of r.t r.q]] (by simp) ⟨⟨by decide,by simp,by simp,trivial⟩,⟨by decide,by simp,by simp,hps⟩,trivial⟩
  dsimp only
  unfold Yj at hW ⊢
  unfold YD at *
  obtain⟨a,b,c,rs,tm,⟨i,n,s,h,d⟩,t,q⟩:=r
  dsimp only at *
  generalize ZG _=PB at *
  generalize Yt ⟨i,n,s,h,d⟩=I1 at *
  obtain⟨ak,an,ab,al⟩:=I1
  refine AP.ofA (Zl Tryd.func14 Z Tryd.ntmps14 Z Z ?_)
  repeat'(first|(apply Zb (hR);kernel_rfl;(iterate 4 exact Z))|(apply Zb (hI);kernel_rfl;(iterate 4 exact Z))|(apply Zb (hn1);kernel_rfl;(iterate 4 exact Z))|(apply Zb (hn2);kernel_rfl;(iterate 4 exact Z))|(apply Zb (hn3);kernel_rfl;(iterate 4 exact Z))|(apply Zb (hY);kernel_rfl;(iterate 4 exact Z))|(apply Zb (hL1);kernel_rfl;(iterate 4 exact Z))|(apply Zb (hL2);kernel_rfl;(iterate 4 exact Z))|(apply Zb (hW);kernel_rfl;(iterate 4 exact Z))|(apply Zg Za;exact Z)|(apply Zf Za;exact Z)|(apply Zs Za;exact Z)|(apply Ze;(iterate 3 exact Z);(first|with_reducible assumption|decide +kernel|(solve|simp only[bn])))|(apply Zi;exact Z;(first|with_reducible assumption|decide +kernel|(solve|simp only[bn]));exact Z;exact Z)|(apply Zh;exact Z;(first|with_reducible assumption|decide +kernel|(solve|simp only[bn])))|refine ZX Za Z Z Z Z Z Z Z Z Z Z Z Z ?_|(apply Zm 23 ZF;decide +kernel;kernel_rfl;kernel_rfl;kernel_rfl;exact Z;exact Z)|(apply Zq;(iterate 4 exact Z))|exact AE.nil _ _ _ _|(apply Zu;exact Z)|(apply ZB;exact Z;exact Z;decide +kernel;exact Z)|(apply ZC;exact Z)|exact AO.nil _ _ _|(apply Zp;(decide +kernel))|exact AOs.nil|exact ZH rfl rfl|exact Wj rfl rfl rfl rfl rfl)
  all_goals exact Qe
theorem Li [Known](x:List UInt8)(m e:Int)(kx:Int)(nx:Nat)(bx lx:List E)
  (hR:AP Tryd.prog 21 [byE x,.int .i64 0] (.tup [.agg [.int .i64 kx,.int .u64 (nx:Int),.sl .ext bx,.sl .ext lx],.int .i64 m,.int .i64 e]) [])
  (te:(e != 0)=true) :
  AP Tryd.prog 16 [byE x] (.tup [.agg [.bool false,.bool false,.bool false,.int .u64 0,.int .u64 0,.bool false,.int .u64 0,.int .u64 0,.str [],.str [],.int .u64 0,.int .u64 0],.int .i64 3]) []:=by
 refine AP.ofA (Zl Tryd.func16 Z Tryd.ntmps16 Z Z ?_)
 repeat'(first|(apply Zb (hR);kernel_rfl;(iterate 4 exact Z))|(apply Zg Za;exact Z)|(apply Zf Za;exact Z)|(apply Zs Za;exact Z)|(apply Zo;(iterate 3 exact Z);(first|with_reducible assumption|decide +kernel|(solve|simp only[bn])))|(apply Zk;exact Z;(first|with_reducible assumption|decide +kernel|(solve|simp only[bn]));exact Z;exact Z)|(apply Zd;exact Z;(first|with_reducible assumption|decide +kernel|(solve|simp only[bn]))))
 all_goals exact Qe
theorem Mf [Known](x:List UInt8)(m e:Int)(kx:Int)(nx:Nat)(bx lx:List E)
  (hR:AP Tryd.prog 21 [byE x,.int .i64 0] (.tup [.agg [.int .i64 kx,.int .u64 (nx:Int),.sl .ext bx,.sl .ext lx],.int .i64 m,.int .i64 e]) [])
  (te:(e != 0)=false)
  (t2:((lx.length:Int) != 2)=true) :
  AP Tryd.prog 16 [byE x] (.tup [.agg [.bool false,.bool false,.bool false,.int .u64 0,.int .u64 0,.bool false,.int .u64 0,.int .u64 0,.str [],.str [],.int .u64 0,.int .u64 0],.int .i64 3]) []:=by
 refine AP.ofA (Zl Tryd.func16 Z Tryd.ntmps16 Z Z ?_)
 repeat'(first|(apply Zb (hR);kernel_rfl;(iterate 4 exact Z))|(apply Zg Za;exact Z)|(apply Zf Za;exact Z)|(apply Zs Za;exact Z)|(apply Ze;(iterate 3 exact Z);(first|with_reducible assumption|decide +kernel|(solve|simp only[bn])))|(apply Zo;(iterate 3 exact Z);(first|with_reducible assumption|decide +kernel|(solve|simp only[bn])))|(apply Zk;exact Z;(first|with_reducible assumption|decide +kernel|(solve|simp only[bn]));exact Z;exact Z)|(apply Zi;exact Z;(first|with_reducible assumption|decide +kernel|(solve|simp only[bn]));exact Z;exact Z)|(apply Zd;exact Z;(first|with_reducible assumption|decide +kernel|(solve|simp only[bn])))|refine Zn Za Z Z Z Z ?_)
 all_goals exact Qe
theorem Lj [Known](x:List UInt8)(m e:Int)(kx k1:Int)(nx n1:Nat)(bx lx b1 l1:List E)
  (hR:AP Tryd.prog 21 [byE x,.int .i64 0] (.tup [.agg [.int .i64 kx,.int .u64 (nx:Int),.sl .ext bx,.sl .ext lx],.int .i64 m,.int .i64 e]) [])
  (te:(e != 0)=false)
  (hU:Uni 4 lx)
  (t2:((lx.length:Int) != 2)=false)
  (hv1:lx[(1:Int).toNat]?=some (.agg [.int .i64 k1,.int .u64 (n1:Int),.sl b1,.sl l1]))
  (t4:((l1.length:Int) != 4)=true) :
  AP Tryd.prog 16 [byE x] (.tup [.agg [.bool false,.bool false,.bool false,.int .u64 0,.int .u64 0,.bool false,.int .u64 0,.int .u64 0,.str [],.str [],.int .u64 0,.int .u64 0],.int .i64 3]) []:=by
 refine AP.ofA (Zl Tryd.func16 Z Tryd.ntmps16 Z Z ?_)
 repeat'(first|(apply Zb (hR);kernel_rfl;(iterate 4 exact Z))|(apply Zg Za;exact Z)|(apply Zf Za;exact Z)|(apply Zs Za;exact Z)|(apply Ze;(iterate 3 exact Z);(first|with_reducible assumption|decide +kernel|(solve|simp only[bn])))|(apply Zo;(iterate 3 exact Z);(first|with_reducible assumption|decide +kernel|(solve|simp only[bn])))|(apply Zk;exact Z;(first|with_reducible assumption|decide +kernel|(solve|simp only[bn]));exact Z;exact Z)|(apply Zi;exact Z;(first|with_reducible assumption|decide +kernel|(solve|simp only[bn]));exact Z;exact Z)|(apply Zd;exact Z;(first|with_reducible assumption|decide +kernel|(solve|simp only[bn])))|refine Zn Za Z Z Z Z ?_|(apply Zx Za;(iterate 6 exact Z);(first|exact Qt|rotate_left);(first|with_reducible assumption|decide +kernel|exact Z);(first|exact Zj rfl|with_reducible assumption|decide +kernel|rotate_left)))
 all_goals exact Qe
theorem Lk [Known](x:List UInt8)(m e:Int)(kx k1 k2:Int)(nx n1 n2:Nat)(bx lx b1 l1 b2 l2:List E)
  (hR:AP Tryd.prog 21 [byE x,.int .i64 0] (.tup [.agg [.int .i64 kx,.int .u64 (nx:Int),.sl .ext bx,.sl .ext lx],.int .i64 m,.int .i64 e]) [])
  (te:(e != 0)=false)
  (hU:Uni 4 lx)
  (t2:((lx.length:Int) != 2)=false)
  (hv1:lx[(1:Int).toNat]?=some (.agg [.int .i64 k1,.int .u64 (n1:Int),.sl b1,.sl l1]))
  (hU1:Uni 4 l1)
  (t4:((l1.length:Int) != 4)=false)
  (hv2:l1[(0:Int).toNat]?=some (.agg [.int .i64 k2,.int .u64 (n2:Int),.sl b2,.sl l2]))
  (t3:((l2.length:Int) != 3)=true) :
  AP Tryd.prog 16 [byE x] (.tup [.agg [.bool false,.bool false,.bool false,.int .u64 0,.int .u64 0,.bool false,.int .u64 0,.int .u64 0,.str [],.str [],.int .u64 0,.int .u64 0],.int .i64 3]) []:=by
 refine AP.ofA (Zl Tryd.func16 Z Tryd.ntmps16 Z Z ?_)
 repeat'(first|(apply Zb (hR);kernel_rfl;(iterate 4 exact Z))|(apply Zg Za;exact Z)|(apply Zf Za;exact Z)|(apply Zs Za;exact Z)|(apply Ze;(iterate 3 exact Z);(first|with_reducible assumption|decide +kernel|(solve|simp only[bn])))|(apply Zi;exact Z;(first|with_reducible assumption|decide +kernel|(solve|simp only[bn]));exact Z;exact Z)|(apply Zd;exact Z;(first|with_reducible assumption|decide +kernel|(solve|simp only[bn])))|refine Zn Za Z Z Z Z ?_|(apply Zx Za;(iterate 6 exact Z);(first|exact Qt|rotate_left);(first|with_reducible assumption|decide +kernel|exact Z);(first|exact Zj rfl|with_reducible assumption|decide +kernel|rotate_left)))
 all_goals exact Qe
theorem Ll [Known](x:List UInt8)(m e:Int)(kx k1 k2 k3:Int)(nx n1 n2 n3:Nat)(bx lx b1 l1 b2 l2 b3 l3:List E)(ii:Bool)(jn js jt jq:Nat)(jh jd:List UInt8)(ie:Int)
  (hR:AP Tryd.prog 21 [byE x,.int .i64 0] (.tup [.agg [.int .i64 kx,.int .u64 (nx:Int),.sl .ext bx,.sl .ext lx],.int .i64 m,.int .i64 e]) [])
  (te:(e != 0)=false)
  (hU:Uni 4 lx)
  (t2:((lx.length:Int) != 2)=false)
  (hv1:lx[(1:Int).toNat]?=some (.agg [.int .i64 k1,.int .u64 (n1:Int),.sl b1,.sl l1]))
  (hU1:Uni 4 l1)
  (t4:((l1.length:Int) != 4)=false)
  (hv2:l1[(0:Int).toNat]?=some (.agg [.int .i64 k2,.int .u64 (n2:Int),.sl b2,.sl l2]))
  (hU2:Uni 4 l2)
  (t3:((l2.length:Int) != 3)=false)
  (hv3:l1[(3:Int).toNat]?=some (.agg [.int .i64 k3,.int .u64 (n3:Int),.sl b3,.sl l3]))
  (hI:AP Tryd.prog 32 [.agg [.int .i64 k3,.int .u64 (n3:Int),.sl .ext b3,.sl .ext l3]] (.tup [.agg [.bool ii,.int .u64 (jn:Int),.int .u64 (js:Int),.str jh,.str jd,.int .u64 (jt:Int),.int .u64 (jq:Int)],.int .i64 ie]) [])
  (ti:(ie != 0)=true) :
  AP Tryd.prog 16 [byE x] (.tup [.agg [.bool false,.bool false,.bool false,.int .u64 0,.int .u64 0,.bool false,.int .u64 0,.int .u64 0,.str [],.str [],.int .u64 0,.int .u64 0],.int .i64 3]) []:=by
 refine AP.ofA (Zl Tryd.func16 Z Tryd.ntmps16 Z Z ?_)
 repeat'(first|(apply Zb (hR);kernel_rfl;(iterate 4 exact Z))|(apply Zb (hI);kernel_rfl;(iterate 4 exact Z))|(apply Zg Za;exact Z)|(apply Zf Za;exact Z)|(apply Zs Za;exact Z)|(apply Ze;(iterate 3 exact Z);(first|with_reducible assumption|decide +kernel|(solve|simp only[bn])))|(apply Zi;exact Z;(first|with_reducible assumption|decide +kernel|(solve|simp only[bn]));exact Z;exact Z)|(apply Zd;exact Z;(first|with_reducible assumption|decide +kernel|(solve|simp only[bn])))|(apply Zh;exact Z;(first|with_reducible assumption|decide +kernel|(solve|simp only[bn])))|refine Zn Za Z Z Z Z ?_|(apply Zx Za;(iterate 6 exact Z);(first|exact Qt|rotate_left);(first|with_reducible assumption|decide +kernel|exact Z);(first|exact Zj rfl|with_reducible assumption|decide +kernel|rotate_left)))
 all_goals exact Qe
theorem Lm [Known](x:List UInt8)(m e:Int)(kx k1 k2 k3 k5 k6 k7 k8 k9:Int)(nx n1 n2 n3 n5 n6 n7 n8 n9:Nat)(bx lx b1 l1 b2 l2 b3 l3 b5 l5 b6 l6 b7 l7 b8 l8 b9 l9:List E)(ii:Bool)(jn js jt jq:Nat)(jh jd:List UInt8)(ie:Int)(wb:List UInt8)(we:Int)
  (hR:AP Tryd.prog 21 [byE x,.int .i64 0] (.tup [.agg [.int .i64 kx,.int .u64 (nx:Int),.sl .ext bx,.sl .ext lx],.int .i64 m,.int .i64 e]) [])
  (te:(e != 0)=false)
  (hU:Uni 4 lx)
  (t2:((lx.length:Int) != 2)=false)
  (hv1:lx[(1:Int).toNat]?=some (.agg [.int .i64 k1,.int .u64 (n1:Int),.sl b1,.sl l1]))
  (hU1:Uni 4 l1)
  (t4:((l1.length:Int) != 4)=false)
  (hv2:l1[(0:Int).toNat]?=some (.agg [.int .i64 k2,.int .u64 (n2:Int),.sl b2,.sl l2]))
  (hU2:Uni 4 l2)
  (t3:((l2.length:Int) != 3)=false)
  (hv3:l1[(3:Int).toNat]?=some (.agg [.int .i64 k3,.int .u64 (n3:Int),.sl b3,.sl l3]))
  (hI:AP Tryd.prog 32 [.agg [.int .i64 k3,.int .u64 (n3:Int),.sl .ext b3,.sl .ext l3]] (.tup [.agg [.bool ii,.int .u64 (jn:Int),.int .u64 (js:Int),.str jh,.str jd,.int .u64 (jt:Int),.int .u64 (jq:Int)],.int .i64 ie]) [])
  (ti:(ie != 0)=false)
  (hv5:l2[(0:Int).toNat]?=some (.agg [.int .i64 k5,.int .u64 (n5:Int),.sl b5,.sl l5]))
  (hv6:l2[(1:Int).toNat]?=some (.agg [.int .i64 k6,.int .u64 (n6:Int),.sl b6,.sl l6]))
  (hv7:l2[(2:Int).toNat]?=some (.agg [.int .i64 k7,.int .u64 (n7:Int),.sl b7,.sl l7]))
  (hv8:l1[(1:Int).toNat]?=some (.agg [.int .i64 k8,.int .u64 (n8:Int),.sl b8,.sl l8]))
  (hv9:l1[(2:Int).toNat]?=some (.agg [.int .i64 k9,.int .u64 (n9:Int),.sl b9,.sl l9]))
  (hW:AP Tryd.prog 14 [.agg [.bool ((n5:Int)==1),.bool ((n6:Int)==1),.bool ((n7:Int)==1),.int .u64 (n8:Int),.int .u64 (n9:Int),.bool ii,.int .u64 (jn:Int),.int .u64 (js:Int),.str jh,.str jd,.int .u64 (jt:Int),.int .u64 (jq:Int)]] (.tup [byE wb,.int .i64 we]) [])
  (hE:AP Tryd.prog 33 [byE wb,byE x] (.bool (wb==x)) [])
  (tw:(we != 0)=true) :
  AP Tryd.prog 16 [byE x] (.tup [.agg [.bool false,.bool false,.bool false,.int .u64 0,.int .u64 0,.bool false,.int .u64 0,.int .u64 0,.str [],.str [],.int .u64 0,.int .u64 0],.int .i64 3]) []:=by
 refine AP.ofA (Zl Tryd.func16 Z Tryd.ntmps16 Z Z ?_)
 repeat'(first|(apply Zb (hR);kernel_rfl;(iterate 4 exact Z))|(apply Zb (hI);kernel_rfl;(iterate 4 exact Z))|(apply Zb (hW);kernel_rfl;(iterate 4 exact Z))|(apply Zg Za;exact Z)|(apply Zf Za;exact Z)|(apply Zs Za;exact Z)|(apply Ze;(iterate 3 exact Z);(first|with_reducible assumption|decide +kernel|(solve|simp only[bn])))|(apply Zo;(iterate 3 exact Z);(first|with_reducible assumption|decide +kernel|(solve|simp only[bn])))|(apply Zk;exact Z;(first|with_reducible assumption|decide +kernel|(solve|simp only[bn]));exact Z;exact Z)|(apply Zi;exact Z;(first|with_reducible assumption|decide +kernel|(solve|simp only[bn]));exact Z;exact Z)|(apply Zd;exact Z;(first|with_reducible assumption|decide +kernel|(solve|simp only[bn])))|(apply Zh;exact Z;(first|with_reducible assumption|decide +kernel|(solve|simp only[bn])))|refine Zn Za Z Z Z Z ?_|(apply Zm 35 ZF;decide +kernel;kernel_rfl;kernel_rfl;kernel_rfl;exact Z;exact Z)|(apply Zq;(iterate 4 exact Z))|exact AE.nil _ _ _ _|(apply Zu;exact Z)|(apply Ye;exact Z)|(apply ZB;exact Z;exact Z;decide +kernel;exact Z)|(apply ZC;exact Z)|(apply YF;exact Z)|exact AO.nil _ _ _|(apply Zp;(decide +kernel))|(apply Z1;(iterate 3 exact Z))|exact AOs.nil|exact ZH rfl rfl|exact Y4 rfl rfl|(apply Zx Za;(iterate 6 exact Z);(first|exact Qt|rotate_left);(first|with_reducible assumption|decide +kernel|exact Z);(first|exact Zj rfl|with_reducible assumption|decide +kernel|rotate_left)))
 all_goals exact Qe
theorem Ln [Known](x:List UInt8)(m e:Int)(kx k1 k2 k3 k5 k6 k7 k8 k9:Int)(nx n1 n2 n3 n5 n6 n7 n8 n9:Nat)(bx lx b1 l1 b2 l2 b3 l3 b5 l5 b6 l6 b7 l7 b8 l8 b9 l9:List E)(ii:Bool)(jn js jt jq:Nat)(jh jd:List UInt8)(ie:Int)(wb:List UInt8)(we:Int)
  (hR:AP Tryd.prog 21 [byE x,.int .i64 0] (.tup [.agg [.int .i64 kx,.int .u64 (nx:Int),.sl .ext bx,.sl .ext lx],.int .i64 m,.int .i64 e]) [])
  (te:(e != 0)=false)
  (hU:Uni 4 lx)
  (t2:((lx.length:Int) != 2)=false)
  (hv1:lx[(1:Int).toNat]?=some (.agg [.int .i64 k1,.int .u64 (n1:Int),.sl b1,.sl l1]))
  (hU1:Uni 4 l1)
  (t4:((l1.length:Int) != 4)=false)
  (hv2:l1[(0:Int).toNat]?=some (.agg [.int .i64 k2,.int .u64 (n2:Int),.sl b2,.sl l2]))
  (hU2:Uni 4 l2)
  (t3:((l2.length:Int) != 3)=false)
  (hv3:l1[(3:Int).toNat]?=some (.agg [.int .i64 k3,.int .u64 (n3:Int),.sl b3,.sl l3]))
  (hI:AP Tryd.prog 32 [.agg [.int .i64 k3,.int .u64 (n3:Int),.sl .ext b3,.sl .ext l3]] (.tup [.agg [.bool ii,.int .u64 (jn:Int),.int .u64 (js:Int),.str jh,.str jd,.int .u64 (jt:Int),.int .u64 (jq:Int)],.int .i64 ie]) [])
  (ti:(ie != 0)=false)
  (hv5:l2[(0:Int).toNat]?=some (.agg [.int .i64 k5,.int .u64 (n5:Int),.sl b5,.sl l5]))
  (hv6:l2[(1:Int).toNat]?=some (.agg [.int .i64 k6,.int .u64 (n6:Int),.sl b6,.sl l6]))
  (hv7:l2[(2:Int).toNat]?=some (.agg [.int .i64 k7,.int .u64 (n7:Int),.sl b7,.sl l7]))
  (hv8:l1[(1:Int).toNat]?=some (.agg [.int .i64 k8,.int .u64 (n8:Int),.sl b8,.sl l8]))
  (hv9:l1[(2:Int).toNat]?=some (.agg [.int .i64 k9,.int .u64 (n9:Int),.sl b9,.sl l9]))
  (hW:AP Tryd.prog 14 [.agg [.bool ((n5:Int)==1),.bool ((n6:Int)==1),.bool ((n7:Int)==1),.int .u64 (n8:Int),.int .u64 (n9:Int),.bool ii,.int .u64 (jn:Int),.int .u64 (js:Int),.str jh,.str jd,.int .u64 (jt:Int),.int .u64 (jq:Int)]] (.tup [byE wb,.int .i64 we]) [])
  (hE:AP Tryd.prog 33 [byE wb,byE x] (.bool (wb==x)) [])
  (tw:(we != 0)=false)
  (hb:(wb==x)=false) :
  AP Tryd.prog 16 [byE x] (.tup [.agg [.bool false,.bool false,.bool false,.int .u64 0,.int .u64 0,.bool false,.int .u64 0,.int .u64 0,.str [],.str [],.int .u64 0,.int .u64 0],.int .i64 3]) []:=by
 rw[hb]at hE
 refine AP.ofA (Zl Tryd.func16 Z Tryd.ntmps16 Z Z ?_)
 repeat'(first|(apply Zb (hR);kernel_rfl;(iterate 4 exact Z))|(apply Zb (hI);kernel_rfl;(iterate 4 exact Z))|(apply Zb (hW);kernel_rfl;(iterate 4 exact Z))|(apply Zb (hE);kernel_rfl;(iterate 4 exact Z))|(apply Zg Za;exact Z)|(apply Zf Za;exact Z)|(apply Zs Za;exact Z)|(apply Ze;(iterate 3 exact Z);(first|with_reducible assumption|decide +kernel|(solve|simp only[bn])))|(apply Zi;exact Z;(first|with_reducible assumption|decide +kernel|(solve|simp only[bn]));exact Z;exact Z)|(apply Zd;exact Z;(first|with_reducible assumption|decide +kernel|(solve|simp only[bn])))|(apply Zh;exact Z;(first|with_reducible assumption|decide +kernel|(solve|simp only[bn])))|refine Zn Za Z Z Z Z ?_|(apply Zm 35 ZF;decide +kernel;kernel_rfl;kernel_rfl;kernel_rfl;exact Z;exact Z)|(apply Zq;(iterate 4 exact Z))|exact AE.nil _ _ _ _|(apply Zu;exact Z)|(apply Ye;exact Z)|(apply ZB;exact Z;exact Z;decide +kernel;exact Z)|(apply ZC;exact Z)|(apply YF;exact Z)|exact AO.nil _ _ _|(apply Zp;(decide +kernel))|(apply Z1;(iterate 3 exact Z))|exact AOs.nil|exact ZH rfl rfl|exact Y4 rfl rfl|(apply Zx Za;(iterate 6 exact Z);(first|exact Qt|rotate_left);(first|with_reducible assumption|decide +kernel|exact Z);(first|exact Zj rfl|with_reducible assumption|decide +kernel|rotate_left)))
 all_goals exact Qe
theorem MY [Known](x:List UInt8)(m e:Int)(kx k1 k2 k3 k5 k6 k7 k8 k9:Int)(nx n1 n2 n3 n5 n6 n7 n8 n9:Nat)(bx lx b1 l1 b2 l2 b3 l3 b5 l5 b6 l6 b7 l7 b8 l8 b9 l9:List E)(ii:Bool)(jn js jt jq:Nat)(jh jd:List UInt8)(ie:Int)(wb:List UInt8)(we:Int)
  (hR:AP Tryd.prog 21 [byE x,.int .i64 0] (.tup [.agg [.int .i64 kx,.int .u64 (nx:Int),.sl .ext bx,.sl .ext lx],.int .i64 m,.int .i64 e]) [])
  (te:(e != 0)=false)
  (hU:Uni 4 lx)
  (t2:((lx.length:Int) != 2)=false)
  (hv1:lx[(1:Int).toNat]?=some (.agg [.int .i64 k1,.int .u64 (n1:Int),.sl b1,.sl l1]))
  (hU1:Uni 4 l1)
  (t4:((l1.length:Int) != 4)=false)
  (hv2:l1[(0:Int).toNat]?=some (.agg [.int .i64 k2,.int .u64 (n2:Int),.sl b2,.sl l2]))
  (hU2:Uni 4 l2)
  (t3:((l2.length:Int) != 3)=false)
  (hv3:l1[(3:Int).toNat]?=some (.agg [.int .i64 k3,.int .u64 (n3:Int),.sl b3,.sl l3]))
  (hI:AP Tryd.prog 32 [.agg [.int .i64 k3,.int .u64 (n3:Int),.sl .ext b3,.sl .ext l3]] (.tup [.agg [.bool ii,.int .u64 (jn:Int),.int .u64 (js:Int),.str jh,.str jd,.int .u64 (jt:Int),.int .u64 (jq:Int)],.int .i64 ie]) [])
  (ti:(ie != 0)=false)
  (hv5:l2[(0:Int).toNat]?=some (.agg [.int .i64 k5,.int .u64 (n5:Int),.sl b5,.sl l5]))
  (hv6:l2[(1:Int).toNat]?=some (.agg [.int .i64 k6,.int .u64 (n6:Int),.sl b6,.sl l6]))
  (hv7:l2[(2:Int).toNat]?=some (.agg [.int .i64 k7,.int .u64 (n7:Int),.sl b7,.sl l7]))
  (hv8:l1[(1:Int).toNat]?=some (.agg [.int .i64 k8,.int .u64 (n8:Int),.sl b8,.sl l8]))
  (hv9:l1[(2:Int).toNat]?=some (.agg [.int .i64 k9,.int .u64 (n9:Int),.sl b9,.sl l9]))
  (hW:AP Tryd.prog 14 [.agg [.bool ((n5:Int)==1),.bool ((n6:Int)==1),.bool ((n7:Int)==1),.int .u64 (n8:Int),.int .u64 (n9:Int),.bool ii,.int .u64 (jn:Int),.int .u64 (js:Int),.str jh,.str jd,.int .u64 (jt:Int),.int .u64 (jq:Int)]] (.tup [byE wb,.int .i64 we]) [])
  (hE:AP Tryd.prog 33 [byE wb,byE x] (.bool (wb==x)) [])
  (tw:(we != 0)=false)
  (hb:(wb==x)=true) :
  AP Tryd.prog 16 [byE x] (.tup [.agg [.bool ((n5:Int)==1),.bool ((n6:Int)==1),.bool ((n7:Int)==1),.int .u64 (n8:Int),.int .u64 (n9:Int),.bool ii,.int .u64 (jn:Int),.int .u64 (js:Int),.str jh,.str jd,.int .u64 (jt:Int),.int .u64 (jq:Int)],.int .i64 0]) []:=by
 rw[hb]at hE
 refine AP.ofA (Zl Tryd.func16 Z Tryd.ntmps16 Z Z ?_)
 repeat'(first|(apply Zb (hR);kernel_rfl;(iterate 4 exact Z))|(apply Zb (hI);kernel_rfl;(iterate 4 exact Z))|(apply Zb (hW);kernel_rfl;(iterate 4 exact Z))|(apply Zb (hE);kernel_rfl;(iterate 4 exact Z))|(apply Zg Za;exact Z)|(apply Zf Za;exact Z)|(apply Zs Za;exact Z)|(apply Ze;(iterate 3 exact Z);(first|with_reducible assumption|decide +kernel|(solve|simp only[bn])))|(apply Zi;exact Z;(first|with_reducible assumption|decide +kernel|(solve|simp only[bn]));exact Z;exact Z)|(apply Zh;exact Z;(first|with_reducible assumption|decide +kernel|(solve|simp only[bn])))|refine Zn Za Z Z Z Z ?_|(apply Zm 35 ZF;decide +kernel;kernel_rfl;kernel_rfl;kernel_rfl;exact Z;exact Z)|(apply Zq;(iterate 4 exact Z))|exact AE.nil _ _ _ _|(apply Zu;exact Z)|(apply Ye;exact Z)|(apply ZB;exact Z;exact Z;decide +kernel;exact Z)|(apply ZC;exact Z)|(apply YF;exact Z)|exact AO.nil _ _ _|(apply Zp;(decide +kernel))|(apply Z1;(iterate 3 exact Z))|exact AOs.nil|exact ZH rfl rfl|exact Y4 rfl rfl|(apply Zx Za;(iterate 6 exact Z);(first|exact Qt|rotate_left);(first|with_reducible assumption|decide +kernel|exact Z);(first|exact Zj rfl|with_reducible assumption|decide +kernel|rotate_left)))
 all_goals exact Qe
def rp0:RepV:=⟨false,false,false,0,0,Yl,0,0⟩
def W4 (m1 m2 m3 y1 y2 y3:It):RepV:=⟨(m1.n:Int)==1,(m2.n:Int)==1,(m3.n:Int)==1,y1.n,y2.n,(Wg y3).1,(Wg y3).2.1,(Wg y3).2.2.1⟩
def Jj (x:It)(b:List UInt8):RepV × Int:=match x.l with
 | [_,x1]=>(match x1.l with
  | [z0,y1,y2,y3]=>(match z0.l with
   | [m1,m2,m3]=>(match(Wg y3).2.2.2 with
    | false=>(rp0,3)
    | true=>match(YH (W4 m1 m2 m3 y1 y2 y3)).2 != 0 with
     | true=>(rp0,3)
     | false=>match(YH (W4 m1 m2 m3 y1 y2 y3)).1==b with
      | false=>(rp0,3)
      | true=>(W4 m1 m2 m3 y1 y2 y3,0))
   | _=>(rp0,3))
  | _=>(rp0,3))
 | _=>(rp0,3)
def V3 (b:List UInt8):RepV × Int:=match((Ys b 0).2.2:Int) != 0 with
 | true=>(rp0,3)
 | false=>Jj (Ys b 0).1 b
theorem Ol [Known][KnownU8](b:List UInt8)(hb:b.length<=3000):AP Tryd.prog 16 [byE b] (.tup [.agg (OY (V3 b).1),.int .i64 (V3 b).2]) []:=by
 have hR:=JM b 0 (by omega)
 unfold V3
 rcases GB b (by omega) with⟨e,he,h,_⟩ | ⟨y,n,h,hw,_,_,_⟩
 ·rw[h]at hR ⊢
  have te:((e:Int) != 0)=true:=by simpa using he
  dsimp only
  rw[te]
  exact Li b _ _ _ _ _ _ hR te
 rw[h]at hR ⊢
 have te:(((0:Nat):Int) != 0)=false:=rfl
 dsimp only
 rw[te]
 dsimp only
 clear h
 have hws:wfs y.l:=by obtain⟨k,n1,b1,l⟩:=y;exact hw.2.2.2
 obtain⟨k,n1,b1,l⟩:=y
 unfold Jj
 dsimp only[It.l]at hws ⊢
 have hlen:=Zw l
 rcases l with _|⟨x0,_|⟨x1,_|⟨x2,l⟩⟩⟩
 ·exact Mf b _ _ _ _ _ _ hR te (by rw[hlen];rfl)
 ·exact Mf b _ _ _ _ _ _ hR te (by rw[hlen];rfl)
 ·have hU:=Y2 [x0,x1]
  have hw1:=hws.2.1
  obtain⟨k0,n0,b0,l0⟩:=x0
  obtain⟨k1,n1',b1',l1⟩:=x1
  have hw1:wfs l1:=hw1.2.2.2
  have hlen1:=Zw l1
  have hU1:=Y2 l1
  rcases l1 with _|⟨z0,_|⟨z1,_|⟨z2,_|⟨z3,_|⟨z4,l1⟩⟩⟩⟩⟩
  case cons.cons.cons.cons.nil=>
   obtain⟨kz,nz,bz,lz⟩:=z0
   have hlenz:=Zw lz
   have hUz:=Y2 lz
   have hI:=H5 z3 hw1.2.2.2.1
   rcases lz with _|⟨m1,_|⟨m2,_|⟨m3,_|⟨m4,lz⟩⟩⟩⟩
   case cons.cons.cons.nil=>
    have hW:=UD (W4 m1 m2 m3 z1 z2 z3)
    have hE:=OR (YH (W4 m1 m2 m3 z1 z2 z3)).1 b
    dsimp only
    unfold W4 at *
    obtain⟨k5,n5,b5,l5⟩:=m1
    obtain⟨k6,n6,b6,l6⟩:=m2
    obtain⟨k7,n7,b7,l7⟩:=m3
    obtain⟨k8,n8,b8,l8⟩:=z1
    obtain⟨k9,n9,b9,l9⟩:=z2
    generalize Wg z3=I at *
    obtain⟨⟨ii,jn,js,jh,jd⟩,jt,jq,ok⟩:=I
    obtain⟨k3,n3,b3,l3⟩:=z3
    dsimp only[It.n]at *
    cases ok with
    | false=>exact Ll (x:=b) (hR:=hR) (te:=te) (hU:=hU) (t2:=rfl) (hv1:=rfl) (hU1:=hU1) (t4:=rfl) (hv2:=rfl) (hU2:=hUz) (t3:=rfl) (hv3:=rfl) (hI:=hI) (ti:=rfl) ..
    | true=>
     generalize YH _=w at *
     obtain⟨wb,we⟩:=w
     dsimp only at *
     cases tw:(we != 0) with
     | true=>exact Lm (x:=b) (hR:=hR) (te:=te) (hU:=hU) (t2:=rfl) (hv1:=rfl) (hU1:=hU1) (t4:=rfl) (hv2:=rfl) (hU2:=hUz) (t3:=rfl) (hv3:=rfl) (hI:=hI) (ti:=rfl) (hv5:=rfl) (hv6:=rfl) (hv7:=rfl) (hv8:=rfl) (hv9:=rfl) (hW:=hW) (hE:=hE) (tw:=tw) ..
     | false=>
      cases hbb:(wb==b) with
      | false=>exact Ln (x:=b) (hR:=hR) (te:=te) (hU:=hU) (t2:=rfl) (hv1:=rfl) (hU1:=hU1) (t4:=rfl) (hv2:=rfl) (hU2:=hUz) (t3:=rfl) (hv3:=rfl) (hI:=hI) (ti:=rfl) (hv5:=rfl) (hv6:=rfl) (hv7:=rfl) (hv8:=rfl) (hv9:=rfl) (hW:=hW) (hE:=hE) (tw:=tw) (hb:=hbb) ..
      | true=>exact MY (x:=b) (hR:=hR) (te:=te) (hU:=hU) (t2:=rfl) (hv1:=rfl) (hU1:=hU1) (t4:=rfl) (hv2:=rfl) (hU2:=hUz) (t3:=rfl) (hv3:=rfl) (hI:=hI) (ti:=rfl) (hv5:=rfl) (hv6:=rfl) (hv7:=rfl) (hv8:=rfl) (hv9:=rfl) (hW:=hW) (hE:=hE) (tw:=tw) (hb:=hbb) ..
   all_goals exact Lk (x:=b) (hR:=hR) (te:=te) (hU:=hU) (t2:=rfl) (hv1:=rfl) (hU1:=hU1) (t4:=rfl) (hv2:=rfl) (t3:=by rw[hlenz];simp;try omega) ..
  all_goals exact Lj (x:=b) (hR:=hR) (te:=te) (hU:=hU) (t2:=rfl) (hv1:=rfl) (t4:=by rw[hlen1];simp;try omega) ..
 ·exact Mf b _ _ _ _ _ _ hR te (by rw[hlen];simp;try omega)
theorem Q8 {x:EidV}{t q:Nat}(h:Y0 x t q=true):Wg (YD x t q)=(x,t,q,true):=by
 obtain⟨h1,_,_⟩:=Y8.1 h
 have hr:=K1 h1 (QZ h1)
 have hz:Ub (Yt x)=x:=by show(match(YL (Yt x)).2 with|true=>(YL (Yt x)).1|false=>Yl)=x;rw[hr]
 unfold YD Wg
 dsimp only
 have e:UY (Yt x) (.mk 0 t [] []) (.mk 0 q [] []) (.mk 4 0 [] [Yt x,.mk 4 0 [] [.mk 0 t [] [],.mk 0 q [] []]])=true:=by
  unfold UY
  rw[hz,hr]
  dsimp only[It.n]
  rw[h]
  exact H4 _
 rw[e,hz]
 rfl
theorem W1 {p:PriV}{x:It}(h:WE p=(x,0)):W0 p=true/\Vk (Vo p) 2=(x,0):=by
 unfold WE at h
 cases hr:W0 p with
 | true=>rw[hr]at h;exact⟨rfl,h⟩
 | false=>rw[hr]at h;simp at h
structure BunV where
 p:PriV
 bl:List BlkV
def Q9 (k:Nat):Bool:=k==1||(k==6||(k==7||k==10))
def Kh:List BlkV->List BlkV->Bool
 | _,[]=>true
 | pre,b::r=>Y5 b&&(pre.all (fun c=>c.num != b.num&&(c.ty != b.ty || !Q9 b.ty))&&Kh (pre++[b]) r)
def H7 (l:List BlkV):Bool:=match l.getLast? with
 | none=>false
 | some b=>decide (l.length<=8)&&(b.ty==1&&(b.num==1&&Kh [] l))
def V4 (b:BunV):List It:=(WE b.p).1::b.bl.map fun c=>(YU c).1
def Ja (b:BunV):Bool:=(WE b.p).2==0&&b.bl.all fun c=>(YU c).2==0
def H8 (b:BunV):List UInt8:=159::(ZJ (V4 b)++[255])
def Wc (b:BunV):Bool:=H7 b.bl&&(Ja b&&decide (((ZJ (V4 b)).length:Int)<=598))
theorem UZ {l:List It}{a:Int}{x:It}(h:Vk l a=(x,0)):ZI x=true:=by
 unfold Vk at h
 split at h
 ·simp at h
 ·split at h
  ·simp at h
  ·split at h
   ·split at h
    ·rename_i hr
     simp only[Prod.mk.injEq,and_true]at h
     subst h;exact hr
    ·simp at h
   ·split at h
    ·simp at h
    ·split at h
     ·simp at h
     ·rename_i hr
      simp only[Prod.mk.injEq,and_true]at h
      subst h;exact hr
def bn0:BunV:=⟨pr0,[]⟩
end Go.Proofs.YtmljabhmajehnaaDoor
end
