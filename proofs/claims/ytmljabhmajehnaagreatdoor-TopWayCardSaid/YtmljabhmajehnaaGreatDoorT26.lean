/- Package canon: a block, read, by cases. -/
import Derived.Test.YtmljabhmajehnaaGreatDoorT25
import Derived.Test.YtmljabhmajehnaaGreatDoorT20
import Derived.Test.YtmljabhmajehnaaGreatDoorT09
import Derived.Test.YtmljabhmajehnaaGreatDoorT12
import Derived.Test.YtmljabhmajehnaaGreatDoorT24
import Derived.Test.YtmljabhmajehnaaGreatDoorT22
import Derived.Test.YtmljabhmajehnaaGreatDoorT13
import Derived.Test.YtmljabhmajehnaaGreatDoorT01
import Derived.Test.YtmljabhmajehnaaGreatDoorT07
import Derived.Test.YtmljabhmajehnaaGreatDoorProg
import Derived.Test.YtmljabhmajehnaaGreatDoorT21
set_option linter.unusedVariables false
set_option linter.unusedSimpArgs false
section
open Go.RowKit Go.Pl Go.Av
namespace Go.Proofs.YtmljabhmajehnaaGreatDoor
set_option maxHeartbeats 4000000
theorem RH [Known][KnownU8](k:Int)(n:Nat)(b:List UInt8)(xl:List E)(L:List E)(e:Int)(k0:Int)(n0:Nat)(b0:List UInt8)(l0:List It)(k1:Int)(n1:Nat)(b1:List UInt8)(l1:List It)(k2:Int)(n2:Nat)(b2:List UInt8)(l2:List It)(k3:Int)(n3:Nat)(b3:List UInt8)(l3:List It)(k4:Int)(n4:Nat)(b4:List UInt8)(l4:List It)(wk:Int)(wn:Nat)(wb:List UInt8)(wl:List E)(we:Int)
  (hO:AP Tryz.prog 111 [.agg [.int .i64 k,.int .u64 (n:Int),byE b,.sl .ext xl],.int .i64 3] (.tup [.sl .ext L,.int .i64 e]) []) (t1:(e != 0)=false) (t2:((L.length:Int) != 5)=false) (hU:Uni 4 L) (hv0:L[(0:Int).toNat]?=some (.agg [.int .i64 k0,.int .u64 (n0:Int),.sl (b0.map E.byte),.sl (Zt l0)])) (hv1:L[(1:Int).toNat]?=some (.agg [.int .i64 k1,.int .u64 (n1:Int),.sl (b1.map E.byte),.sl (Zt l1)])) (hv2:L[(2:Int).toNat]?=some (.agg [.int .i64 k2,.int .u64 (n2:Int),.sl (b2.map E.byte),.sl (Zt l2)])) (hv3:L[(3:Int).toNat]?=some (.agg [.int .i64 k3,.int .u64 (n3:Int),.sl (b3.map E.byte),.sl (Zt l3)])) (hv4:L[(4:Int).toNat]?=some (.agg [.int .i64 k4,.int .u64 (n4:Int),.sl (b4.map E.byte),.sl (Zt l4)])) (t3:(k4 != 2)=false)
  (hC:AP Tryz.prog 44 [.sl .ext (b4.map E.byte)] (.sl .ext (b4.map E.byte)) []) (hW:AP Tryz.prog 108 [.agg [.int .u64 (n0:Int),.int .u64 (n1:Int),.int .u64 (n2:Int),.int .i64 (IntKind.i64.wrap (n3:Int)),.sl .ext (b4.map E.byte)]] (.tup [.agg [.int .i64 wk,.int .u64 (wn:Int),byE wb,.sl .ext wl],.int .i64 we]) []) (hS:AP Tryz.prog 96 [.agg [.int .i64 wk,.int .u64 (wn:Int),byE wb,.sl .ext wl],.agg [.int .i64 k,.int .u64 (n:Int),byE b,.sl .ext xl]] (.bool true) []) (t4:(we != 0)=false) :
  AP Tryz.prog 60 [.agg [.int .i64 k,.int .u64 (n:Int),byE b,.sl .ext xl]] (.tup [.agg [.int .u64 (n0:Int),.int .u64 (n1:Int),.int .u64 (n2:Int),.int .i64 (IntKind.i64.wrap (n3:Int)),.sl .ext (b4.map E.byte)],.int .i64 0]) []:=by
 refine AP.ofA (Zk Tryz.func60 Z Tryz.ntmps60 Z Z ?_)
 repeat'(first|(apply Zb (hO);kernel_rfl;(iterate 4 exact Z))|(apply Zb (hC);kernel_rfl;(iterate 4 exact Z))|(apply Zb (hW);kernel_rfl;(iterate 4 exact Z))|(apply Zb (hS);kernel_rfl;(iterate 4 exact Z))|(apply Zh Za;exact Z)|(apply Ze Za;exact Z)|(apply Zq Za;exact Z)|refine Zg Z Z Z Qt ?_|refine Zi Z Qt Z Z ?_|refine Zf Z Qt ?_|refine Zm Za Z Z Z Z ?_|(apply Zn 24 ZF;decide +kernel;kernel_rfl;kernel_rfl;kernel_rfl;exact Z;exact Z)|(apply Zs;(iterate 4 exact Z))|exact AE.nil _ _ _ _|(apply Zx;exact Z)|(apply Ye;exact Z)|(apply ZA;exact Z;exact Z;decide +kernel;exact Z)|(apply ZB;exact Z)|(apply Yu;exact Z)|exact AO.nil _ _ _|(apply Zr;(decide +kernel))|(apply Z4;(iterate 3 exact Z))|exact AOs.nil|exact ZM rfl rfl|exact Y4 rfl rfl|(apply Zu Za;(iterate 6 exact Z);(first|exact Qt|rotate_left);(first|with_reducible assumption|decide +kernel|exact Z);(first|exact Zj rfl|with_reducible assumption|decide +kernel|rotate_left)))
 all_goals exact Qe
theorem T4 [Known][KnownU8](x:It)(hw:wfI x)(hxl:x.l.length<=1000000)(hlim:∀ s m,s=1\/s=2->(ZH (Z0 s (x.l.take m))).length<=1000000000)(hb:∀ y ∈ x.l,y.b.length<=3000):AP Tryz.prog 60 [itD x] (K2 (WP x)) []:=by
 have hO:=GE x 3 hw hxl hlim
 have hsub:=UL x 3
 have hws:wfs x.l:=by obtain⟨k,n,b,l⟩:=x;exact hw.2.2.2
 unfold WP
 generalize VM x 3=o at *
 obtain⟨ol,oe⟩:=o
 have hlen:=Zw ol
 have hUo:=YW ol
 dsimp only at hsub
 have hSame:=fun(B:BlkV) (h1:B.fl<18446744073709551616) (h2:B.data.length<=3000)=>VK (Yc B).1 (Xn h1 h2) x hw
 obtain⟨k,n,b,l⟩:=x
 dsimp only[It.l]at *
 unfold O7
 dsimp only
 replace hO:AP Tryz.prog 111 [.agg [.int .i64 k,.int .u64 (n:Int),byE b,.sl .ext (Zt l)],.int .i64 3] (.tup [.sl .ext (Zt ol),.int .i64 oe]) []:=hO
 cases t1:(oe != 0) with
 | true=>exact RA k n b _ _ oe hO t1
 | false=>
 have hno:ol.length ≠ 5->AP Tryz.prog 60 [itD (.mk k n b l)] (K2 (bk0,3)) []:=fun h=>RC k n b _ _ oe hO t1 (by rw[hlen];simp;omega)
 match ol,hO,hsub,hlen,hUo,hno with
 | [],_,_,_,_,h=>exact h (by simp)
 | [.mk _ _ _ _],_,_,_,_,h=>exact h (by simp)
 | [.mk _ _ _ _,.mk _ _ _ _],_,_,_,_,h=>exact h (by simp)
 | [.mk _ _ _ _,.mk _ _ _ _,.mk _ _ _ _],_,_,_,_,h=>exact h (by simp)
 | [.mk _ _ _ _,.mk _ _ _ _,.mk _ _ _ _,.mk _ _ _ _],_,_,_,_,h=>exact h (by simp)
 | .mk _ _ _ _::.mk _ _ _ _::.mk _ _ _ _::.mk _ _ _ _::.mk _ _ _ _::_::_,_,_,_,_,h=>exact h (by simp)
 | [.mk k0 n0 b0 l0,.mk k1 n1 b1 l1,.mk k2 n2 b2 l2,.mk k3 n3 b3 l3,.mk k4 n4 b4 l4],hO,hsub,hlen,hUo,_=>
 have t2:(((Zt [It.mk k0 n0 b0 l0,.mk k1 n1 b1 l1,.mk k2 n2 b2 l2,.mk k3 n3 b3 l3,.mk k4 n4 b4 l4]).length:Int) != 5)=false:=by rw[hlen];rfl
 dsimp only
 cases t3:(k4 != 2) with
 | true=>exact RD k n b _ _ oe k4 n4 b4 l4 hO t1 t2 hUo rfl t3
 | false=>
 have hw2:n2<18446744073709551616:=(Yr hws (.mk k2 n2 b2 l2) (hsub _ (by simp))).1
 have hb4:b4.length<=3000:=hb (.mk k4 n4 b4 l4) (hsub _ (by simp))
 have hC:=WW b4 (by omega)
 have hW:=Ku ⟨n0,n1,n2,IntKind.i64.wrap (n3:Int),b4⟩ hw2 hb4
 have hS:=hSame ⟨n0,n1,n2,IntKind.i64.wrap (n3:Int),b4⟩ hw2 hb4
 clear hSame
 dsimp only
 generalize Yc ⟨n0,n1,n2,IntKind.i64.wrap (n3:Int),b4⟩=r at *
 obtain⟨⟨wk,wn,wb,wl⟩,we⟩:=r
 dsimp only at *
 cases t4:(we != 0) with
 | true=>exact RF k n b _ _ oe k0 n0 b0 l0 k1 n1 b1 l1 k2 n2 b2 l2 k3 n3 b3 l3 k4 n4 b4 l4 wk wn wb _ we hO t1 t2 hUo rfl rfl rfl rfl rfl t3 hC hW t4
 | false=>
 dsimp only
 cases t5:It.beq (.mk wk wn wb wl) (.mk k n b l) with
 | false=>
  rw[t5]at hS
  exact RG k n b _ _ oe k0 n0 b0 l0 k1 n1 b1 l1 k2 n2 b2 l2 k3 n3 b3 l3 k4 n4 b4 l4 wk wn wb _ we hO t1 t2 hUo rfl rfl rfl rfl rfl t3 hC hW hS t4
 | true=>
  rw[t5]at hS
  exact RH k n b _ _ oe k0 n0 b0 l0 k1 n1 b1 l1 k2 n2 b2 l2 k3 n3 b3 l3 k4 n4 b4 l4 wk wn wb _ we hO t1 t2 hUo rfl rfl rfl rfl rfl t3 hC hW hS t4
def Wb (x:EidV):List UInt8:=[47,47]++x.h++[47]++x.d
theorem Qu {x:EidV}(h:ZJ x=true)(hz:isZ x=false)(hi:x.i=true):x.n<=4294967295/\x.s<=4294967295/\x.h=[]/\x.d=[]/\1<=x.n:=by
 rw[Xe hz hi]at h
 simp only[Bool.and_eq_true,decide_eq_true_eq,beq_iff_eq]at h
 obtain⟨⟨⟨⟨_,_,_,h1,h2,_⟩,h3⟩,h4⟩,h5⟩:=h
 exact⟨by omega,by omega,h1,h2,by omega⟩
theorem WZ {x:EidV}(h:ZJ x=true)(hz:isZ x=false)(hi:x.i=false):x.n=0/\x.s=0/\1<=x.h.length/\x.h.length<=16/\x.d.length<=24/\x.h.all (okB 45)=true/\x.d.all (okB 47)=true:=by
 rw[OY hz hi]at h
 simp only[Bool.and_eq_true,decide_eq_true_eq,beq_iff_eq]at h
 obtain⟨⟨⟨⟨⟨⟨_,h1,h2,_⟩,h3⟩,h4⟩,h5⟩,h6⟩,h7⟩:=h
 exact⟨by omega,by omega,by omega,by omega,by omega,h6,h7⟩
theorem Mt [Known](x:EidV)(h1:x.h.length<=16)(h2:x.d.length<=24):AP Tryz.prog 135 [.agg (eC x)] (.str (Wb x)) []:=by
 have l1:[(47:UInt8),47].length+x.h.length<=maxLen:=by simp;unfold maxLen;omega
 have l2:([(47:UInt8),47]++x.h).length + [(47:UInt8)].length<=maxLen:=by simp;unfold maxLen;omega
 have l3:([(47:UInt8),47]++x.h++[47]).length+x.d.length<=maxLen:=by simp;unfold maxLen;omega
 refine AP.ofA (Zk Tryz.func135 Z Tryz.ntmps135 Z Z ?_)
 repeat'(first|(apply MZ;exact Z;exact Z;(first|exact l1|exact l2|exact l3);exact Z)|(apply Zh Za;exact Z)|(apply Ze Za;exact Z))
 all_goals exact Qe
def Z8 (x:EidV):It:=
 if isZ x then .mk 4 0 [] [.mk 0 1 [] [],.mk 0 0 [] []]
 else if x.i then .mk 4 0 [] [.mk 0 2 [] [],.mk 4 0 [] [.mk 0 x.n [] [],.mk 0 x.s [] []]]
 else .mk 4 0 [] [.mk 0 1 [] [],.mk 3 0 (Wb x) []]
theorem U1 [Known](x:EidV):AP Tryz.prog 99 [.agg (eC x)] (.tup [itD (if ZJ x then Z8 x else .mk 0 0 [] []),.int .i64 (if ZJ x then 0 else 3)]) []:=by
 have hR:=WY x
 cases hr:ZJ x with
 | false=>
  rw[hr]at hR
  refine AP.ofA (Zk Tryz.func99 Z Tryz.ntmps99 Z Z ?_)
  repeat'(first|(apply Zb (hR);kernel_rfl;(iterate 4 exact Z))|(apply Zh Za;exact Z)|(apply Ze Za;exact Z)|(apply Zq Za;exact Z)|refine Zd Z Qt ?_)
  all_goals exact Qe
 | true=>
  rw[hr]at hR
  rw[if_pos rfl,if_pos rfl]
  unfold Z8
  cases hz:isZ x with
  | true=>
   rw[if_pos rfl]
   have n1:=YI 1
   have n0:=YI 0
   have hL:=WC [.mk 0 1 [] [],.mk 0 0 [] []] (by decide) (by simp[wfI,wfs])
   replace n1:AP Tryz.prog _ [.int .u64 1] (.agg [.int .i64 0,.int .u64 1,.sl .ext [],.sl .ext []]) []:=n1
   replace n0:AP Tryz.prog _ [.int .u64 0] (.agg [.int .i64 0,.int .u64 0,.sl .ext [],.sl .ext []]) []:=n0
   unfold isZ at hz
   refine AP.ofA (Zk Tryz.func99 Z Tryz.ntmps99 Z Z ?_)
   repeat'(first|(apply Zb (hR);kernel_rfl;(iterate 4 exact Z))|(apply Zb (n1);kernel_rfl;(iterate 4 exact Z))|(apply Zb (n0);kernel_rfl;(iterate 4 exact Z))|(apply Zb (hL);kernel_rfl;(iterate 4 exact Z))|(apply Zh Za;exact Z)|(apply Ze Za;exact Z)|(apply Zq Za;exact Z)|refine Zd Z Qt ?_|refine Zf Z Qt ?_|refine ZT Za Z Z Z Z Z Z Z Z Z Z Z Z ?_|refine Wo Za Z Z Z Z Qk Qk Z Z Z ?_)
   all_goals exact Qe
  | false=>
   rw[if_neg (by simp)]
   cases hi:x.i with
   | true=>
    obtain⟨b1,b2,_⟩:=Qu hr hz hi
    rw[if_pos rfl]
    have n2:=YI 2
    have nn:=YI x.n
    have ns:=YI x.s
    have hL1:=WC [.mk 0 x.n [] [],.mk 0 x.s [] []] (by simp) (by simp[wfI,wfs];omega)
    have hL:=WC [.mk 0 2 [] [],.mk 4 0 [] [.mk 0 x.n [] [],.mk 0 x.s [] []]] (by simp) (by simp[wfI,wfs];omega)
    replace n2:AP Tryz.prog _ [.int .u64 2] (.agg [.int .i64 0,.int .u64 2,.sl .ext [],.sl .ext []]) []:=n2
    replace nn:AP Tryz.prog _ [.int .u64 (x.n:Int)] (.agg [.int .i64 0,.int .u64 (x.n:Int),.sl .ext [],.sl .ext []]) []:=nn
    replace ns:AP Tryz.prog _ [.int .u64 (x.s:Int)] (.agg [.int .i64 0,.int .u64 (x.s:Int),.sl .ext [],.sl .ext []]) []:=ns
    replace hL1:AP Tryz.prog _ _ (.agg [.int .i64 4,.int .u64 0,.sl .ext [],.sl .ext [.agg [.int .i64 0,.int .u64 (x.n:Int),.sl [],.sl []],.agg [.int .i64 0,.int .u64 (x.s:Int),.sl [],.sl []]]]) []:=hL1
    unfold isZ at hz
    refine AP.ofA (Zk Tryz.func99 Z Tryz.ntmps99 Z Z ?_)
    repeat'(first|(apply Zb (hR);kernel_rfl;(iterate 4 exact Z))|(apply Zb (n2);kernel_rfl;(iterate 4 exact Z))|(apply Zb (nn);kernel_rfl;(iterate 4 exact Z))|(apply Zb (ns);kernel_rfl;(iterate 4 exact Z))|(apply Zb (hL1);kernel_rfl;(iterate 4 exact Z))|(apply Zb (hL);kernel_rfl;(iterate 4 exact Z))|(apply Zh Za;exact Z)|(apply Ze Za;exact Z)|(apply Zq Za;exact Z)|refine Zd Z Qt ?_|refine Zf Z Qt ?_|refine ZT Za Z Z Z Z Z Z Z Z Z Z Z Z ?_|refine Wo Za Z Z Z Z Qk Qk Z Z Z ?_|(apply Zn 6 ZF;decide +kernel;kernel_rfl;kernel_rfl;kernel_rfl;exact Z;exact Z)|(apply Zs;(iterate 4 exact Z))|exact AE.nil _ _ _ _|(apply Zx;exact Z)|(apply ZA;exact Z;exact Z;decide +kernel;exact Z)|(apply ZB;exact Z)|exact AO.nil _ _ _|(apply Zr;(decide +kernel))|exact AOs.nil|exact ZM rfl rfl)
    all_goals exact Qe
   | false=>
    obtain⟨_,_,_,b1,b2,_⟩:=WZ hr hz hi
    rw[if_neg (by simp)]
    have n1:=YI 1
    have hP:=Mt x b1 b2
    have hT:=N4 (Wb x)
    have hpl:(Wb x).length<=1099511627776:=by unfold Wb;simp;omega
    generalize Wb x=p at *
    have hL:=WC [.mk 0 1 [] [],.mk 3 0 p []] (by simp) (by simp[wfI,wfs];omega)
    replace n1:AP Tryz.prog _ [.int .u64 1] (.agg [.int .i64 0,.int .u64 1,.sl .ext [],.sl .ext []]) []:=n1
    replace hT:AP Tryz.prog _ [.str p] (.agg [.int .i64 3,.int .u64 0,byE p,.sl .ext []]) []:=hT
    unfold isZ at hz
    refine AP.ofA (Zk Tryz.func99 Z Tryz.ntmps99 Z Z ?_)
    repeat'(first|(apply Zb (hR);kernel_rfl;(iterate 4 exact Z))|(apply Zb (n1);kernel_rfl;(iterate 4 exact Z))|(apply Zb (hP);kernel_rfl;(iterate 4 exact Z))|(apply Zb (hT);kernel_rfl;(iterate 4 exact Z))|(apply Zb (hL);kernel_rfl;(iterate 4 exact Z))|(apply Zh Za;exact Z)|(apply Ze Za;exact Z)|(apply Zq Za;exact Z)|refine Zf Z Qt ?_|refine ZT Za Z Z Z Z Z Z Z Z Z Z Z Z ?_|refine Wo Za Z Z Z Z Qk Qk Z Z Z ?_|(apply Zn 2 ZF;decide +kernel;kernel_rfl;kernel_rfl;kernel_rfl;exact Z;exact Z)|(apply Zs;(iterate 4 exact Z))|exact AE.nil _ _ _ _|(apply Zx;exact Z)|(apply ZA;exact Z;exact Z;decide +kernel;exact Z)|(apply ZB;exact Z)|exact AO.nil _ _ _|(apply Zr;(decide +kernel))|exact AOs.nil|exact ZM rfl rfl)
    all_goals exact Qe
theorem T5 {x:EidV}(h:ZJ x=true)(hz:isZ x=false)(hi:x.i=false):ppV (Wb x)=(x,true):=by
 obtain⟨b1,b2,b3,b4,b5,b6,b7⟩:=WZ h hz hi
 have e1:Wb x=[47,47]++(x.h++47::x.d):=by simp[Wb]
 rw[e1]
 unfold ppV
 rw[O2]
 dsimp only
 rw[Xj (IU b6 (by decide))]
 dsimp only
 have ex:(⟨false,0,0,x.h,x.d⟩:EidV)=x:=by
  obtain⟨i,n,s,hh,d⟩:=x
  simp only at hi b1 b2
  rw[hi,b1,b2]
 rw[ex,h]
 have:(x.h != [])=true:=by
  rw[bne_iff_ne]
  intro e
  rw[e]at b3
  simp at b3
 rw[this]
 rfl
theorem Vx {x:EidV}(h:ZJ x=true):wfI (Z8 x):=by
 unfold Z8
 cases hz:isZ x with
 | true=>rw[if_pos rfl];simp[wfI,wfs]
 | false=>
  rw[if_neg (by simp)]
  cases hi:x.i with
  | true=>
   obtain⟨b1,b2,b3,b4,b5⟩:=Qu h hz hi
   rw[if_pos rfl]
   simp[wfI,wfs]
   omega
  | false=>
   obtain⟨b1,b2,b3,b4,b5,b6,b7⟩:=WZ h hz hi
   rw[if_neg (by simp)]
   simp[wfI,wfs,Wb]
   omega
theorem VN {x:EidV}(h:ZJ x=true)(hr:ZG (Z8 x)=true):Ys (Z8 x)=(x,true):=by
 unfold Ys
 rw[hr]
 unfold Z8
 cases hz:isZ x with
 | true=>
  rw[if_pos rfl,Mn.1 hz]
  rfl
 | false=>
  rw[if_neg (by simp)]
  cases hi:x.i with
  | true=>
   obtain⟨b1,b2,b3,b4,b5⟩:=Qu h hz hi
   rw[if_pos rfl]
   dsimp only
   rw[if_pos rfl]
   have ex:(⟨true,x.n,x.s,[],[]⟩:EidV)=x:=by
    obtain⟨i,n,s,hh,d⟩:=x
    simp only at hi b3 b4
    rw[hi,b3,b4]
   have e1:WI 1 (.mk 0 2 [] [])=false:=rfl
   have e2:WI 2 (.mk 0 2 [] [])=true:=rfl
   have e3:∀ n,WI n (.mk 0 n [] [])=true:=fun n=>It.beq_iff.2 rfl
   have e4:Qh (.mk 4 0 [] [.mk 0 x.n [] [],.mk 0 x.s [] []])=some (x.n,x.s):=by
    unfold Qh
    dsimp only
    rw[if_pos rfl]
    simp only[It.n,e3,Bool.and_self]
   unfold UJ
   rw[e1,e2,e4]
   dsimp only
   rw[ex,h]
  | false=>
   rw[if_neg (by simp)]
   dsimp only
   rw[if_pos rfl]
   have e1:WI 1 (.mk 0 1 [] [])=true:=rfl
   have e2:WI 0 (.mk 3 0 (Wb x) [])=false:=rfl
   unfold UJ
   rw[e1,e2]
   exact T5 h hz hi
theorem GN {m:Nat}(hm:m<128){c:UInt8}(h:okB m c=true):c.toNat<128:=by
 simp only[okB,Bool.or_eq_true,Bool.and_eq_true,decide_eq_true_eq,beq_iff_eq]at h
 omega
theorem Va {x:EidV}(h:ZJ x=true):ZG (Z8 x)=true:=by
 unfold Z8
 cases hz:isZ x with
 | true=>rw[if_pos rfl];rfl
 | false=>
  rw[if_neg (by simp)]
  cases hi:x.i with
  | true=>rw[if_pos rfl];simp[ZG,YS,Yf,Ve]
  | false=>
   obtain⟨b1,b2,b3,b4,b5,b6,b7⟩:=WZ h hz hi
   rw[if_neg (by simp)]
   have hv:ZE (Wb x)=true:=by
    rw[Y1 (Wb x).length (Wb x) (Nat.le_refl _) fun c hc=>?_,List.drop_length]
    ·rfl
    ·rw[List.take_length]at hc
     simp only[Wb,List.mem_append,List.mem_cons,List.not_mem_nil,or_false]at hc
     rcases hc with((hc|hc)|hc)|hc
     ·rcases hc with hc|hc<;>rw[hc]<;>decide
     ·exact GN (by decide) (List.all_eq_true.1 b6 c hc)
     ·rw[hc];decide
     ·exact GN (by decide) (List.all_eq_true.1 b7 c hc)
   simp[ZG,YS,Yf,Ve,hv]
theorem Q0 (x:It):It.beq x x=true:=It.beq_iff.2 rfl
theorem HA {l r:List It}{a:Int}(h:Z7 l a ≥ 0):Z7 (l++r) a=Z7 l a:=by
 rcases W9 l a with e|⟨_,h0,h1⟩
 ·omega
 ·unfold Z7
  rw[List.getElem?_append_left (by omega)]
theorem Kv {l:List It}{a:Int}{x:It}(h:W8 l a=(x,0)):VM x a=(l,0):=by
 unfold W8 at h
 cases d0:(decide (a<0)||decide (a ≥ (l.length:Int))) with
 | true=>rw[d0]at h;simp at h
 | false=>
 rw[d0]at h
 cases d1:(l.all ZG&&decide (Z7 l a ≥ 0)) with
 | false=>rw[d1]at h;simp at h
 | true=>
 rw[d1]at h
 rw[Bool.and_eq_true,decide_eq_true_eq]at d1
 obtain⟨_,d1⟩:=d1
 rw[Bool.or_eq_false_iff,decide_eq_false_iff_not,decide_eq_false_iff_not]at d0
 dsimp only at h
 cases d2:decide (Z7 l a>0) with
 | false=>
  rw[d2]at h
  dsimp only at h
  cases hr:ZG (.mk 4 0 [] l) with
  | false=>rw[hr]at h;simp at h
  | true=>
   rw[hr]at h
   simp only[Prod.mk.injEq,and_true]at h
   subst h
   have e:Z7 l a=0:=by have:=of_decide_eq_false d2;omega
   unfold VM
   dsimp only
   rw[hr,e]
   rfl
 | true=>
  rw[d2]at h
  dsimp only at h
  have hs:(Z7 l a).toNat=1\/(Z7 l a).toNat=2:=by
   rcases W9 l a with e|⟨e,_⟩
   ·omega
   ·have:=of_decide_eq_true d2;omega
  cases hz:ZG (Z0 (Z7 l a).toNat l) with
  | false=>rw[hz]at h;simp at h
  | true=>
   rw[hz]at h
   dsimp only at h
   cases hr:ZG (Qr (Z7 l a).toNat l) with
   | false=>rw[hr]at h;simp at h
   | true=>
    rw[hr]at h
    simp only[Prod.mk.injEq,and_true]at h
    subst h
    have hlen:=QX (Z7 l a).toNat (ZH (Z0 (Z7 l a).toNat l)) hs
    unfold Qr at hr ⊢
    unfold VM
    dsimp only
    rw[hr,HA d1]
    have e1:decide (Z7 l a<0)=false:=decide_eq_false (by omega)
    have e2:(Z7 l a==0)=false:=by rw[beq_eq_false_iff_ne];have:=of_decide_eq_true d2;omega
    rw[e1,e2]
    have e3:(l++[It.mk 2 0 (VG (Z7 l a).toNat (ZH (Z0 (Z7 l a).toNat l))) []]).length-1=l.length:=by simp
    rw[e3]
    have e4:(l++[It.mk 2 0 (VG (Z7 l a).toNat (ZH (Z0 (Z7 l a).toNat l))) []])[l.length]?=some (It.mk 2 0 (VG (Z7 l a).toNat (ZH (Z0 (Z7 l a).toNat l))) []):=by simp
    have e5:(l++[It.mk 2 0 (VG (Z7 l a).toNat (ZH (Z0 (Z7 l a).toNat l))) []]).take l.length=l:=by simp
    rw[e4,e5]
    dsimp only
    have e6:decide (((l.length:Nat):Int)<=a)=false:=decide_eq_false (by omega)
    rw[e6,Q0,hlen,hz]
    simp
theorem XL {b:BlkV}(hs:b.sum=IntKind.i64.wrap ((b.sum.toNat:Nat):Int)){x:It}(h:Yc b=(x,0)):WP x=(b,0):=by
 have hr:Yb b=true:=by
  unfold Yc at h
  cases hr:Yb b with
  | true=>rfl
  | false=>rw[hr]at h;simp at h
 have h2:=h
 unfold Yc at h2
 rw[hr]at h2
 have ho:=Kv h2
 unfold WP
 rw[ho]
 unfold O7 WJ
 dsimp only
 have e:(⟨b.ty,b.num,b.fl,IntKind.i64.wrap ((b.sum.toNat:Nat):Int),b.data⟩:BlkV)=b:=by rw[<- hs]
 rw[e,h]
 simp[Q0]
theorem U2 {kind ZN:Nat}{sum:Int}{x:It}{e:Int}{p:BlkV}(h:ofV kind ZN sum x e=(p,0)):e=0/\ZG x=true/\Yb p=true/\p=⟨kind,ZN,0,sum,ZH x⟩:=by
 unfold ofV at h
 cases d0:(e != 0) with
 | true=>rw[d0]at h;simp at h
 | false=>
 rw[d0]at h
 dsimp only at h
 cases d1:ZG x with
 | false=>rw[d1]at h;simp at h
 | true=>
 rw[d1]at h
 dsimp only at h
 cases d2:Yb ⟨kind,ZN,0,sum,ZH x⟩ with
 | false=>rw[d2]at h;simp at h
 | true=>
  rw[d2]at h
  simp only[Prod.mk.injEq,and_true]at h
  subst h
  exact⟨by simpa[bne]using d0,rfl,d2,rfl⟩
theorem IZ {kind ZN:Nat}{sum:Int}{x:It}{e:Int}:(ofV kind ZN sum x e).2=0\/ofV kind ZN sum x e=(bk0,3):=by
 unfold ofV
 repeat' split
 all_goals first|exact .inl rfl|exact .inr rfl
theorem Yj (k:Int)(n:Nat)(b:List UInt8)(l:List It):(ZH (.mk k n b l)).length<=9+(b.length+(ZI l).length):=by
 rw[ZH,List.length_append,List.length_append]
 split
 ·rename_i h
  have h1:=UX h rfl
  have h2:ZC (It.mk k n b l).hn<=8:=by
   unfold ZC
   repeat' split
   all_goals omega
  dsimp only at h1
  omega
 ·simp
theorem YB (n:Nat):(ZH (.mk 0 n [] [])).length<=9:=by
 have:=Yj 0 n [] []
 simpa[ZI]using this
theorem Ul (n m:Nat):(ZH (Ut n m)).length<=27:=by
 have h0:=Yj 4 0 [] [.mk 0 n [] [],.mk 0 m [] []]
 have h1:=YB n
 have h2:=YB m
 simp only[ZI,List.length_append,List.length_nil,Nat.add_zero,Nat.zero_add]at h0
 have e:Ut n m=.mk 4 0 [] [.mk 0 n [] [],.mk 0 m [] []]:=rfl
 rw[e]
 omega
theorem Vy {l:List It}{a:Int}{x:It}(h:W8 l a=(x,0)):x=.mk 4 0 [] l\/∃ s,(s=1\/s=2)/\x=Qr s l:=by
 unfold W8 at h
 cases d0:(decide (a<0)||decide (a ≥ (l.length:Int))) with
 | true=>rw[d0]at h;simp at h
 | false=>
 rw[d0]at h
 cases d1:(l.all ZG&&decide (Z7 l a ≥ 0)) with
 | false=>rw[d1]at h;simp at h
 | true=>
 rw[d1]at h
 dsimp only at h
 cases d2:decide (Z7 l a>0) with
 | false=>
  rw[d2]at h
  dsimp only at h
  cases hr:ZG (.mk 4 0 [] l) with
  | false=>rw[hr]at h;simp at h
  | true=>
   rw[hr]at h
   simp only[Prod.mk.injEq,and_true]at h
   exact .inl h.symm
 | true=>
  rw[d2]at h
  dsimp only at h
  have hs:(Z7 l a).toNat=1\/(Z7 l a).toNat=2:=by
   rcases W9 l a with e|⟨e,_⟩
   ·have:=of_decide_eq_true d2;omega
   ·have:=of_decide_eq_true d2;omega
  cases hz:ZG (Z0 (Z7 l a).toNat l) with
  | false=>rw[hz]at h;simp at h
  | true=>
   rw[hz]at h
   dsimp only at h
   cases hr:ZG (Qr (Z7 l a).toNat l) with
   | false=>rw[hr]at h;simp at h
   | true=>
    rw[hr]at h
    simp only[Prod.mk.injEq,and_true]at h
    exact .inr ⟨_,hs,h.symm⟩
theorem Vz {b:BlkV}{x:It}(h:Yc b=(x,0)):Yb b=true/\W8 (WJ b) 3=(x,0):=by
 unfold Yc at h
 cases hr:Yb b with
 | true=>rw[hr]at h;exact⟨rfl,h⟩
 | false=>rw[hr]at h;simp at h
theorem GO {x:It}(h:wfI x):x.n<18446744073709551616:=by obtain⟨k,n,b,l⟩:=x;exact h.1
abbrev iC (x:EidV)(t q:Nat):List D:=[.bool x.i,.int .u64 (x.n:Int),.int .u64 (x.s:Int),.str x.h,.str x.d,.int .u64 (t:Int),.int .u64 (q:Int)]
def Wr (x:EidV)(t q:Nat):Bool:=ZJ x&&decide ((t:Int)<=1099511627776)&&decide ((q:Int)<=1099511627776)
theorem Kw [Known](x:EidV)(t q:Nat):AP Tryz.prog 73 [.agg (iC x t q)] (.bool (Wr x t q)) []:=by
 refine AP.ofA (Zk Tryz.func73 Z Tryz.ntmps73 Z Z ?_)
 repeat'(first|(apply Zb (WY x);kernel_rfl;(iterate 4 exact Z))|(apply Zh Za;exact Z)|(apply Ze Za;exact Z)|(apply Zg;(iterate 3 exact Z);(first|with_reducible assumption|(solve|simp only[bn])))|(apply Zv;(iterate 3 exact Z);(first|with_reducible assumption|(solve|simp only[bn])))|(apply YP;exact Z;exact Z;all_goals intro hb)|(apply Zl;exact Z;(first|with_reducible assumption|(solve|simp only[bn]));exact Z;exact Z)|(apply Zi;exact Z;(first|with_reducible assumption|(solve|simp only[bn]));exact Z;exact Z))
 all_goals(apply Zo [];(apply Zc Za;exact Z);(iterate 4 exact Z))
 all_goals first|rfl|(unfold Wr;simp only[*];done)|(unfold Wr;simp only[*];simp only[Bool.and_true,Bool.true_and,Bool.and_false,Bool.false_and];done)
end Go.Proofs.YtmljabhmajehnaaGreatDoor
end
section
open Go.RowKit Go.Pl
namespace Go.Pl
variable {P:Program} {t:TypeId}
theorem O8 {α β γ δ ε:Type}{R0:Rep α}{R1:Rep β}{R2:Rep γ}{R3:Rep δ}{R4:Rep ε}{fs:Array Field}{f0 f1 f2 f3 f4:Field}(hs:P.underlying t=some (.struct fs))(hfs:fs = #[f0,f1,f2,f3,f4])
  (h00:f0.offset=0) (h01:f1.offset=R0.n) (h02:f2.offset=R0.n+R1.n) (h03:f3.offset=R0.n+R1.n+R2.n) (h04:f4.offset=R0.n+R1.n+R2.n+R3.n)
  (hc0:P.cellsOf f0.type=R0.n) (hc1:P.cellsOf f1.type=R1.n) (hc2:P.cellsOf f2.type=R2.n) (hc3:P.cellsOf f3.type=R3.n) (hc4:P.cellsOf f4.type=R4.n) (hc:P.cellsOf t=R0.n+(R1.n+(R2.n+(R3.n+R4.n))))
  (h0:YC P f0.type R0) (h1:YC P f1.type R1) (h2:YC P f2.type R2) (h3:YC P f3.type R3) (h4:YC P f4.type R4):YC P t (R0.prod (R1.prod (R2.prod (R3.prod R4)))):=by
 intro H enc W spare held fuel cs y h
 obtain⟨xs,n,_,_,hl,hxl,hg⟩:=DataW.trod_struct hs h
 subst hfs
 have e0:=hg 0 f0 rfl
 have e1:=hg 1 f1 rfl
 have e2:=hg 2 f2 rfl
 have e3:=hg 3 f3 rfl
 have e4:=hg 4 f4 rfl
 rw[h00,hc0,List.drop_zero]at e0
 rw[h01,hc1]at e1
 rw[h02,hc2]at e2
 rw[h03,hc3]at e3
 rw[h04,hc4]at e4
 have hn:xs.length=5:=hxl
 have hx0:xs[0]?=some (xs[0]'(by omega)):=List.getElem?_eq_getElem (by omega)
 have hx1:xs[1]?=some (xs[1]'(by omega)):=List.getElem?_eq_getElem (by omega)
 have hx2:xs[2]?=some (xs[2]'(by omega)):=List.getElem?_eq_getElem (by omega)
 have hx3:xs[3]?=some (xs[3]'(by omega)):=List.getElem?_eq_getElem (by omega)
 have hx4:xs[4]?=some (xs[4]'(by omega)):=List.getElem?_eq_getElem (by omega)
 obtain⟨x0,k0⟩:=h0 H enc W spare held n _ _ (e0.trans hx0)
 obtain⟨x1,k1⟩:=h1 H enc W spare held n _ _ (e1.trans hx1)
 obtain⟨x2,k2⟩:=h2 H enc W spare held n _ _ (e2.trans hx2)
 obtain⟨x3,k3⟩:=h3 H enc W spare held n _ _ (e3.trans hx3)
 obtain⟨x4,k4⟩:=h4 H enc W spare held n _ _ (e4.trans hx4)
 refine⟨(x0,x1,x2,x3,x4),cs.take R0.n,cs.drop R0.n,(List.take_append_drop _ _).symm,k0,(cs.drop R0.n).take R1.n,(cs.drop R0.n).drop R1.n,(List.take_append_drop _ _).symm,k1,
  ((cs.drop R0.n).drop R1.n).take R2.n,((cs.drop R0.n).drop R1.n).drop R2.n,(List.take_append_drop _ _).symm,?_,(((cs.drop R0.n).drop R1.n).drop R2.n).take R3.n,(((cs.drop R0.n).drop R1.n).drop R2.n).drop R3.n,(List.take_append_drop _ _).symm,?_,?_⟩
 ·rw[List.drop_drop];exact k2
 ·rw[List.drop_drop,List.drop_drop,show R0.n+(R1.n+R2.n)=R0.n+R1.n+R2.n from by omega];exact k3
 ·rw[List.drop_drop,List.drop_drop,List.drop_drop,show R0.n+(R1.n+(R2.n+R3.n))=R0.n+R1.n+R2.n+R3.n from by omega]
  rw[List.take_of_length_le (i:=R4.n) (by rw[List.length_drop];omega)]at k4
  exact k4
abbrev RE:Rep (Bool × Nat × Nat × List UInt8 × List UInt8):=Rep.bool.prod (Rep.u64.prod (Rep.u64.prod (Rep.str.prod Rep.str)))
abbrev RI:Rep ((Bool × Nat × Nat × List UInt8 × List UInt8) × Nat × Nat):=RE.prod (Rep.u64.prod Rep.u64)
end Go.Pl
end
section
open Go.RowKit Go.Pl
namespace Go.Proofs.YtmljabhmajehnaaGreatDoor
theorem T6:YC Tryz.prog 24 RE:=
 O8 Tryz.underlying24 rfl rfl rfl rfl rfl rfl (by kernel_rfl) (by kernel_rfl) (by kernel_rfl) (by kernel_rfl) (by kernel_rfl) (by kernel_rfl) (Is Tryz.underlying4) (Wc Tryz.underlying22) (Wc Tryz.underlying22) (XQ Tryz.underlying9) (XQ Tryz.underlying9)
theorem Ra:YC Tryz.prog 26 RI:=
 Oc Tryz.underlying26 rfl (by kernel_rfl) rfl rfl rfl (by kernel_rfl) (by kernel_rfl) (by kernel_rfl) T6 (Wc Tryz.underlying22) (Wc Tryz.underlying22)
end Go.Proofs.YtmljabhmajehnaaGreatDoor
end
section
open Go.RowKit Go.Pl Go.Av
namespace Go.Proofs.YtmljabhmajehnaaGreatDoor
set_option maxHeartbeats 4000000
theorem K3:ToE RE (fun x=>.agg [.bool x.1,.int .u64 (x.2.1:Int),.int .u64 (x.2.2.1:Int),.str x.2.2.2.1,.str x.2.2.2.2]):=
 ToE.bool.prod (ToE.u64.prod (ToE.u64.prod (ToE.str.prod ToE.str)))
abbrev XE:=Bool × Nat × Nat × List UInt8 × List UInt8
def XE.v (x:XE):EidV:=⟨x.1,x.2.1,x.2.2.1,x.2.2.2.1,x.2.2.2.2⟩
structure PriV where
 fl:Nat
 sum:Int
 dest:EidV
 rep:EidV
 src:EidV
 t:Nat
 q:Nat
 life:Nat
abbrev prC (p:PriV):List D:=[.int .u64 (p.fl:Int),.int .i64 p.sum,.bool p.dest.i,.int .u64 (p.dest.n:Int),.int .u64 (p.dest.s:Int),.str p.dest.h,.str p.dest.d,.bool p.rep.i,.int .u64 (p.rep.n:Int),.int .u64 (p.rep.s:Int),.str p.rep.h,.str p.rep.d,.bool p.src.i,.int .u64 (p.src.n:Int),.int .u64 (p.src.s:Int),.str p.src.h,.str p.src.d,.int .u64 (p.t:Int),.int .u64 (p.q:Int),.int .u64 (p.life:Int)]
def WK (p:PriV):Bool:=(bits .andNot .u64 (p.fl:Int) 409638==0)&&(decide (p.sum ≥ 0)&&(decide (p.sum<=2)&&(ZJ p.dest&&(ZJ p.rep&&(Wr p.src p.t p.q&&decide ((p.life:Int)<=1099511627776))))))
theorem Kx [Known](p:PriV):AP Tryz.prog 137 [.agg (prC p)] (.bool (WK p)) []:=by
 have hD:=WY p.dest
 have hR:=WY p.rep
 have hI:=Kw p.src p.t p.q
 unfold WK
 generalize ZJ p.dest=e1 at *
 generalize ZJ p.rep=e2 at *
 generalize Wr p.src p.t p.q=e3 at *
 obtain⟨fl,sum,⟨di,dn,ds,dh,dd⟩,⟨ri,rn,rs,rh,rd⟩,⟨xi,xn,xs,xh,xd⟩,t,q,life⟩:=p
 dsimp only at *
 cases t1:(bits .andNot .u64 (fl:Int) 409638==0) with
 | false=>
  refine AP.ofA (Zk Tryz.func137 Z Tryz.ntmps137 Z Z ?_)
  repeat'(first|(apply Zh Za;exact Z)|(apply Ze Za;exact Z)|refine Zv Z Z Z Qt ?_|refine Zi Z Qt Z Z ?_)
  all_goals exact Qe
 | true=>
 cases t2:decide (sum ≥ 0) with
 | false=>
  refine AP.ofA (Zk Tryz.func137 Z Tryz.ntmps137 Z Z ?_)
  repeat'(first|(apply Zh Za;exact Z)|(apply Ze Za;exact Z)|refine Zg Z Z Z Qt ?_|refine Zv Z Z Z Qt ?_|refine Zl Z Qt Z Z ?_|refine Zi Z Qt Z Z ?_)
  all_goals exact Qe
 | true=>
 cases t3:decide (sum<=2) with
 | false=>
  refine AP.ofA (Zk Tryz.func137 Z Tryz.ntmps137 Z Z ?_)
  repeat'(first|(apply Zh Za;exact Z)|(apply Ze Za;exact Z)|refine Zg Z Z Z Qt ?_|refine Zv Z Z Z Qt ?_|refine Zl Z Qt Z Z ?_|refine Zi Z Qt Z Z ?_)
  all_goals exact Qe
 | true=>
 cases e1
 ·refine AP.ofA ?_
  refine Zk Tryz.func137 rfl Tryz.ntmps137 rfl rfl ?_
  repeat'(first|(apply Zb (hD);kernel_rfl;(iterate 4 exact Z))|(apply Zh Za;exact Z)|(apply Ze Za;exact Z)|refine Zg Z Z Z Qt ?_|refine Zv Z Z Z Qt ?_|refine Zl Z Qt Z Z ?_|refine Zi Z Qt Z Z ?_)
  all_goals exact Qe
 cases e2
 ·refine AP.ofA ?_
  refine Zk Tryz.func137 rfl Tryz.ntmps137 rfl rfl ?_
  repeat'(first|(apply Zb (hD);kernel_rfl;(iterate 4 exact Z))|(apply Zb (hR);kernel_rfl;(iterate 4 exact Z))|(apply Zh Za;exact Z)|(apply Ze Za;exact Z)|refine Zg Z Z Z Qt ?_|refine Zv Z Z Z Qt ?_|refine Zl Z Qt Z Z ?_|refine Zi Z Qt Z Z ?_)
  all_goals exact Qe
 cases e3
 ·refine AP.ofA ?_
  refine Zk Tryz.func137 rfl Tryz.ntmps137 rfl rfl ?_
  repeat'(first|(apply Zb (hD);kernel_rfl;(iterate 4 exact Z))|(apply Zb (hR);kernel_rfl;(iterate 4 exact Z))|(apply Zb (hI);kernel_rfl;(iterate 4 exact Z))|(apply Zh Za;exact Z)|(apply Ze Za;exact Z)|refine Zg Z Z Z Qt ?_|refine Zv Z Z Z Qt ?_|refine Zl Z Qt Z Z ?_|refine Zi Z Qt Z Z ?_)
  all_goals exact Qe
 refine AP.ofA (Zk Tryz.func137 Z Tryz.ntmps137 Z Z ?_)
 repeat'(first|(apply Zb (hD);kernel_rfl;(iterate 4 exact Z))|(apply Zb (hR);kernel_rfl;(iterate 4 exact Z))|(apply Zb (hI);kernel_rfl;(iterate 4 exact Z))|(apply Zh Za;exact Z)|(apply Ze Za;exact Z)|refine Zg Z Z Z Qt ?_|refine Zl Z Qt Z Z ?_)
 all_goals exact Qe
def Q1 (x:EidV)(t q:Nat):It:=.mk 4 0 [] [Z8 x,.mk 4 0 [] [.mk 0 t [] [],.mk 0 q [] []]]
theorem Ws {x:EidV}{t q:Nat}:Wr x t q=true ↔ ZJ x=true/\t<=1099511627776/\q<=1099511627776:=by
 unfold Wr
 simp only[Bool.and_eq_true,decide_eq_true_eq]
 rw[and_assoc]
 exact and_congr Iff.rfl (and_congr (by omega) (by omega))
theorem T7 {x:EidV}{t q:Nat}(h:Wr x t q=true):wfI (Q1 x t q):=by
 obtain⟨h1,h2,h3⟩:=Ws.1 h
 have hw:=Vx h1
 unfold Q1
 generalize Z8 x=y at *
 simp[wfI,wfs,hw]
 omega
theorem Ky [Known](x:EidV)(t q:Nat):AP Tryz.prog 62 [.agg (iC x t q)] (.tup [itD (if Wr x t q then Q1 x t q else .mk 0 0 [] []),.int .i64 (if Wr x t q then 0 else 3)]) []:=by
 have hR:=Kw x t q
 cases hr:Wr x t q with
 | false=>
  rw[hr]at hR
  refine AP.ofA (Zk Tryz.func62 Z Tryz.ntmps62 Z Z ?_)
  repeat'(first|(apply Zb (hR);kernel_rfl;(iterate 4 exact Z))|(apply Zh Za;exact Z)|(apply Ze Za;exact Z)|(apply Zq Za;exact Z)|refine Zd Z Qt ?_)
  all_goals exact Qe
 | true=>
  rw[hr]at hR
  rw[if_pos rfl,if_pos rfl]
  obtain⟨h1,h2,h3⟩:=Ws.1 hr
  have hE:=U1 x
  rw[h1,if_pos rfl,if_pos rfl]at hE
  have hw:=Vx h1
  have nt:=YI t
  have nq:=YI q
  unfold Q1
  generalize Z8 x=y at *
  have hL1:=WC [.mk 0 t [] [],.mk 0 q [] []] (by simp) (by simp[wfI,wfs];omega)
  have hL:=WC [y,.mk 4 0 [] [.mk 0 t [] [],.mk 0 q [] []]] (by simp) (by simp[wfI,wfs,hw];omega)
  obtain⟨k,n,b,l⟩:=y
  replace nt:AP Tryz.prog _ [.int .u64 (t:Int)] (.agg [.int .i64 0,.int .u64 (t:Int),.sl .ext [],.sl .ext []]) []:=nt
  replace nq:AP Tryz.prog _ [.int .u64 (q:Int)] (.agg [.int .i64 0,.int .u64 (q:Int),.sl .ext [],.sl .ext []]) []:=nq
  replace hE:AP Tryz.prog _ [.agg (eC x)] (.tup [.agg [.int .i64 k,.int .u64 (n:Int),byE b,.sl .ext (Zt l)],.int .i64 0]) []:=hE
  replace hL1:AP Tryz.prog _ _ (.agg [.int .i64 4,.int .u64 0,.sl .ext [],.sl .ext [.agg [.int .i64 0,.int .u64 (t:Int),.sl [],.sl []],.agg [.int .i64 0,.int .u64 (q:Int),.sl [],.sl []]]]) []:=hL1
  refine AP.ofA (Zk Tryz.func62 Z Tryz.ntmps62 Z Z ?_)
  repeat'(first|(apply Zb (hR);kernel_rfl;(iterate 4 exact Z))|(apply Zb (hE);kernel_rfl;(iterate 4 exact Z))|(apply Zb (nt);kernel_rfl;(iterate 4 exact Z))|(apply Zb (nq);kernel_rfl;(iterate 4 exact Z))|(apply Zb (hL1);kernel_rfl;(iterate 4 exact Z))|(apply Zb (hL);kernel_rfl;(iterate 4 exact Z))|(apply Zh Za;exact Z)|(apply Ze Za;exact Z)|(apply Zq Za;exact Z)|refine Zf Z Qt ?_|refine ZT Za Z Z Z Z Z Z Z Z Z Z Z Z ?_|(apply Zn 13 ZF;decide +kernel;kernel_rfl;kernel_rfl;kernel_rfl;exact Z;exact Z)|(apply Zs;(iterate 4 exact Z))|exact AE.nil _ _ _ _|(apply Zx;exact Z)|(apply Vs;exact Z)|(apply ZA;exact Z;exact Z;decide +kernel;exact Z)|(apply ZB;exact Z)|(apply UB;exact Z)|exact AO.nil _ _ _|(apply Zr;(decide +kernel))|(apply Z4;(iterate 3 exact Z))|exact AOs.nil|exact ZM rfl rfl|exact Wi rfl rfl rfl rfl rfl|exact VR rfl)
  all_goals exact Qe
end Go.Proofs.YtmljabhmajehnaaGreatDoor
end
