/- The document's numbers: written and read (rwgen.py). -/
import Derived.Test.YtmljabhmajehnaaGreatDoorW19
import Derived.Test.YtmljabhmajehnaaGreatDoorW24
import Derived.Test.YtmljabhmajehnaaGreatDoorW29
import Derived.Test.YtmljabhmajehnaaGreatDoorW27
set_option linter.unusedVariables false
set_option linter.unusedSimpArgs false
section
open Go.RowKit Go.Pl Go.Av
namespace Go.Proofs.YtmljabhmajehnaaGreatDoor
set_option maxHeartbeats 4000000
theorem X4 [Known](x:EidV)(t q:Nat)(h:Yo x t q=true):AP Tryz.prog 118 [.agg (iC x t q)] (itD (Yl x t q)) []:=by
 obtain⟨h1,_,_⟩:=YT.1 h
 have hW:=Vt x h1
 unfold Yl
 generalize Z1 x=y at *
 obtain⟨xi,xn,xs,xh,xd⟩:=x
 obtain⟨yk,yn,yb,yl⟩:=y
 refine AP.ofA (Zl Tryz.func118 Z Tryz.ntmps118 Z Z ?_)
 repeat'(first|(apply Zb (hW);kernel_rfl;(iterate 4 exact Z))|(apply Zi Za;exact Z)|(apply Zf Za;exact Z)|refine ZR Za Z Z Z Z Z Z Z Z Z Z Z Z ?_|(apply Zo 4 ZD;decide +kernel;kernel_rfl;kernel_rfl;kernel_rfl;exact Z;exact Z)|(apply Zs;(iterate 4 exact Z))|exact AE.nil _ _ _ _|(apply Zw;exact Z)|(apply Zz;exact Z;exact Z;decide +kernel;exact Z)|(apply ZA;exact Z)|exact AO.nil _ _ _|(apply Zr;(decide +kernel))|exact AOs.nil|exact ZF rfl rfl)
 all_goals exact Qe
def QT (z:It):EidV × Nat × Nat × Bool:=match z with
 | .mk k n b [y,.mk k2 n2 b2 [p,r]]=>(match(k==4)&&((ZS y).2&&(Yo (eZ y) p.n r.n&&It.beq (Yl (eZ y) p.n r.n) (.mk k n b [y,.mk k2 n2 b2 [p,r]]))) with
  | false=>(Ye,0,0,false)
  | true=>(eZ y,p.n,r.n,true))
 | _=>(Ye,0,0,false)
theorem Tw (z:It):QT z=(Ye,0,0,false)\/∃ x t q,Yo x t q=true/\Yl x t q=z/\QT z=(x,t,q,true):=by
 unfold QT
 split
 ·rename_i k n b y k2 n2 b2 p r
  cases hc:(k==4)&&((ZS y).2&&(Yo (eZ y) p.n r.n&&It.beq (Yl (eZ y) p.n r.n) (.mk k n b [y,.mk k2 n2 b2 [p,r]]))) with
  | false=>exact .inl rfl
  | true=>
   simp only[Bool.and_eq_true]at hc
   exact .inr ⟨_,_,_,hc.2.2.1,It.beq_iff.1 hc.2.2.2,rfl⟩
 ·exact .inl rfl
theorem Jm (z:It):Yu z=(Ye,0,0,false)\/∃ x t q,Yo x t q=true/\Yl x t q=z/\Yu z=(x,t,q,true):=by
 unfold Yu
 split
 ·rename_i k n b y k2 n2 b2 p r
  cases hk:(k==4&&k2==4) with
  | false=>exact .inl rfl
  | true=>
  dsimp only
  cases hb:Uz y p r (.mk k n b [y,.mk k2 n2 b2 [p,r]]) with
  | false=>exact .inl rfl
  | true=>
   unfold Uz at hb
   split at hb
   ·rename_i h1 h2
    exact .inr ⟨_,_,_,h2,It.beq_iff.1 hb,rfl⟩
   ·cases hb
 ·exact .inl rfl
theorem NX {x:EidV}{t q:Nat}(h:Yo x t q=true):QT (Yl x t q)=(x,t,q,true):=by
 obtain⟨h1,_,_⟩:=YT.1 h
 have hr:=UY h1 (VV h1)
 have hz:eZ (Z1 x)=x:=by unfold eZ;rw[hr]
 unfold Yl QT
 dsimp only[It.n]
 rw[hz,h,hr]
 rw[show It.beq (Yl x t q) (.mk 4 0 [] [Z1 x,.mk 4 0 [] [.mk 0 t [] [],.mk 0 q [] []]])=true from It.beq_iff.2 rfl]
 rfl
theorem Rd (z:It):QT z=Yu z:=by
 rcases Tw z with h|⟨x,t,q,hr,rfl,h⟩
 ·rcases Jm z with h2|⟨x,t,q,hr,rfl,h2⟩
  ·rw[h,h2]
  ·rw[h2,NX hr]
 ·rw[h,U3 hr]
theorem ST [Known](zk:Int)(zn:Nat)(zb:List UInt8)(zl:List It) 
  (t1:(zk != 4)=true) :
  AP Tryz.prog 70 [.agg (itC zk zn zb zl)] (.tup [.agg [.bool false,.int .u64 0,.int .u64 0,.str [],.str [],.int .u64 0,.int .u64 0],.bool false]) []:=by
 refine AP.ofA (Zl Tryz.func70 Z Tryz.ntmps70 Z Z ?_)
 repeat'(first|(apply Zi Za;exact Z)|(apply Zf Za;exact Z)|(apply Zp Za;exact Z)|(apply Zn;(iterate 3 exact Z);(first|with_reducible assumption|decide +kernel|(solve|simp only[bn])))|(apply Zj;exact Z;(first|with_reducible assumption|decide +kernel|(solve|simp only[bn]));exact Z;exact Z)|(apply Zd;exact Z;(first|with_reducible assumption|decide +kernel|(solve|simp only[bn]))))
 all_goals exact Qe
theorem SU [Known](zk:Int)(zn:Nat)(zb:List UInt8)(zl:List It) 
  (t1:(zk != 4)=false)
  (t2:(((Zu zl).length:Int) != 2)=true) :
  AP Tryz.prog 70 [.agg (itC zk zn zb zl)] (.tup [.agg [.bool false,.int .u64 0,.int .u64 0,.str [],.str [],.int .u64 0,.int .u64 0],.bool false]) []:=by
 refine AP.ofA (Zl Tryz.func70 Z Tryz.ntmps70 Z Z ?_)
 repeat'(first|(apply Zi Za;exact Z)|(apply Zf Za;exact Z)|(apply Zp Za;exact Z)|(apply Ze;(iterate 3 exact Z);(first|with_reducible assumption|decide +kernel|(solve|simp only[bn])))|(apply Zn;(iterate 3 exact Z);(first|with_reducible assumption|decide +kernel|(solve|simp only[bn])))|(apply Zj;exact Z;(first|with_reducible assumption|decide +kernel|(solve|simp only[bn]));exact Z;exact Z)|(apply Zh;exact Z;(first|with_reducible assumption|decide +kernel|(solve|simp only[bn]));exact Z;exact Z)|(apply Zd;exact Z;(first|with_reducible assumption|decide +kernel|(solve|simp only[bn])))|refine Zm Za Z Z Z Z ?_)
 all_goals exact Qe
theorem SV [Known](zk:Int)(zn:Nat)(zb:List UInt8)(yk:Int)(yn:Nat)(yb:List UInt8)(yl:List It)(ck:Int)(cn:Nat)(cb:List UInt8)(cl:List It)
  (t1:(zk != 4)=false)
  (t3:(((Zu cl).length:Int) != 2)=true) :
  AP Tryz.prog 70 [.agg [.int .i64 zk,.int .u64 (zn:Int),byE zb,.sl .ext [.agg [.int .i64 yk,.int .u64 (yn:Int),.sl (yb.map E.byte),.sl (Zu yl)],.agg [.int .i64 ck,.int .u64 (cn:Int),.sl (cb.map E.byte),.sl (Zu cl)]]]] (.tup [.agg [.bool false,.int .u64 0,.int .u64 0,.str [],.str [],.int .u64 0,.int .u64 0],.bool false]) []:=by
 have hU:Uni 4 ([.agg [.int .i64 yk,.int .u64 (yn:Int),.sl (yb.map E.byte),.sl (Zu yl)],.agg [.int .i64 ck,.int .u64 (cn:Int),.sl (cb.map E.byte),.sl (Zu cl)]]:List E):=Yz [.mk yk yn yb yl,.mk ck cn cb cl]
 have t2:((([.agg [.int .i64 yk,.int .u64 (yn:Int),.sl (yb.map E.byte),.sl (Zu yl)],.agg [.int .i64 ck,.int .u64 (cn:Int),.sl (cb.map E.byte),.sl (Zu cl)]]:List E).length:Int) != 2)=false:=rfl
 refine AP.ofA (Zl Tryz.func70 Z Tryz.ntmps70 Z Z ?_)
 repeat'(first|(apply Zi Za;exact Z)|(apply Zf Za;exact Z)|(apply Zp Za;exact Z)|(apply Ze;(iterate 3 exact Z);(first|with_reducible assumption|decide +kernel|(solve|simp only[bn])))|(apply Zh;exact Z;(first|with_reducible assumption|decide +kernel|(solve|simp only[bn]));exact Z;exact Z)|(apply Zd;exact Z;(first|with_reducible assumption|decide +kernel|(solve|simp only[bn])))|refine Zm Za Z Z Z Z ?_|(apply Zv Za;(iterate 6 exact Z);(first|exact Qt|rotate_left);(first|with_reducible assumption|decide +kernel|exact Z);(first|exact Zk rfl|with_reducible assumption|decide +kernel|rotate_left)))
 all_goals exact Qe
theorem SW [Known](zk:Int)(zn:Nat)(zb:List UInt8)(yk:Int)(yn:Nat)(yb:List UInt8)(yl:List It)(ck:Int)(cn:Nat)(cb:List UInt8)(pk:Int)(pn:Nat)(pb:List UInt8)(pl:List It)(rk:Int)(rn:Nat)(rb:List UInt8)(rl:List It)(xi:Bool)(xn xs:Nat)(xh xd:List UInt8)
  (t1:(zk != 4)=false)
  (hR:AP Tryz.prog 117 [.agg (itC yk yn yb yl)] (.tup [.agg [.bool xi,.int .u64 (xn:Int),.int .u64 (xs:Int),.str xh,.str xd],.bool false]) []) :
  AP Tryz.prog 70 [.agg [.int .i64 zk,.int .u64 (zn:Int),byE zb,.sl .ext [.agg [.int .i64 yk,.int .u64 (yn:Int),.sl (yb.map E.byte),.sl (Zu yl)],.agg [.int .i64 ck,.int .u64 (cn:Int),.sl (cb.map E.byte),.sl [.agg [.int .i64 pk,.int .u64 (pn:Int),.sl (pb.map E.byte),.sl (Zu pl)],.agg [.int .i64 rk,.int .u64 (rn:Int),.sl (rb.map E.byte),.sl (Zu rl)]]]]]] (.tup [.agg [.bool false,.int .u64 0,.int .u64 0,.str [],.str [],.int .u64 0,.int .u64 0],.bool false]) []:=by
 have hU:Uni 4 ([.agg [.int .i64 yk,.int .u64 (yn:Int),.sl (yb.map E.byte),.sl (Zu yl)],.agg [.int .i64 ck,.int .u64 (cn:Int),.sl (cb.map E.byte),.sl [.agg [.int .i64 pk,.int .u64 (pn:Int),.sl (pb.map E.byte),.sl (Zu pl)],.agg [.int .i64 rk,.int .u64 (rn:Int),.sl (rb.map E.byte),.sl (Zu rl)]]]]:List E):=Yz [.mk yk yn yb yl,.mk ck cn cb [.mk pk pn pb pl,.mk rk rn rb rl]]
 have t2:((([.agg [.int .i64 yk,.int .u64 (yn:Int),.sl (yb.map E.byte),.sl (Zu yl)],.agg [.int .i64 ck,.int .u64 (cn:Int),.sl (cb.map E.byte),.sl [.agg [.int .i64 pk,.int .u64 (pn:Int),.sl (pb.map E.byte),.sl (Zu pl)],.agg [.int .i64 rk,.int .u64 (rn:Int),.sl (rb.map E.byte),.sl (Zu rl)]]]]:List E).length:Int) != 2)=false:=rfl
 have t3:((([.agg [.int .i64 pk,.int .u64 (pn:Int),.sl (pb.map E.byte),.sl (Zu pl)],.agg [.int .i64 rk,.int .u64 (rn:Int),.sl (rb.map E.byte),.sl (Zu rl)]]:List E).length:Int) != 2)=false:=rfl
 refine AP.ofA (Zl Tryz.func70 Z Tryz.ntmps70 Z Z ?_)
 repeat'(first|(apply Zb (hR);kernel_rfl;(iterate 4 exact Z))|(apply Zi Za;exact Z)|(apply Zf Za;exact Z)|(apply Zp Za;exact Z)|(apply Ze;(iterate 3 exact Z);(first|with_reducible assumption|decide +kernel|(solve|simp only[bn])))|(apply Zn;(iterate 3 exact Z);(first|with_reducible assumption|decide +kernel|(solve|simp only[bn])))|(apply Zj;exact Z;(first|with_reducible assumption|decide +kernel|(solve|simp only[bn]));exact Z;exact Z)|(apply Zh;exact Z;(first|with_reducible assumption|decide +kernel|(solve|simp only[bn]));exact Z;exact Z)|(apply Zd;exact Z;(first|with_reducible assumption|decide +kernel|(solve|simp only[bn])))|(apply Zg;exact Z;(first|with_reducible assumption|decide +kernel|(solve|simp only[bn])))|refine Zm Za Z Z Z Z ?_|(apply Zo 11 ZD;decide +kernel;kernel_rfl;kernel_rfl;kernel_rfl;exact Z;exact Z)|(apply Zo 19 ZD;decide +kernel;kernel_rfl;kernel_rfl;kernel_rfl;exact Z;exact Z)|(apply Zs;(iterate 4 exact Z))|exact AE.nil _ _ _ _|(apply Zw;exact Z)|(apply Z7;exact Z)|(apply Zz;exact Z;exact Z;decide +kernel;exact Z)|(apply ZA;exact Z)|(apply Yt;exact Z)|exact AO.nil _ _ _|(apply Zr;(decide +kernel))|(apply ZX;(iterate 3 exact Z))|exact AOs.nil|exact ZF rfl rfl|exact YW rfl rfl|(apply Zv Za;(iterate 6 exact Z);(first|exact Qt|rotate_left);(first|with_reducible assumption|decide +kernel|exact Z);(first|exact Zk rfl|with_reducible assumption|decide +kernel|rotate_left)))
 all_goals exact Qe
theorem SX [Known](zk:Int)(zn:Nat)(zb:List UInt8)(yk:Int)(yn:Nat)(yb:List UInt8)(yl:List It)(ck:Int)(cn:Nat)(cb:List UInt8)(pk:Int)(pn:Nat)(pb:List UInt8)(pl:List It)(rk:Int)(rn:Nat)(rb:List UInt8)(rl:List It)(xi:Bool)(xn xs:Nat)(xh xd:List UInt8)
  (t1:(zk != 4)=false)
  (hR:AP Tryz.prog 117 [.agg (itC yk yn yb yl)] (.tup [.agg [.bool xi,.int .u64 (xn:Int),.int .u64 (xs:Int),.str xh,.str xd],.bool true]) [])
  (hI:AP Tryz.prog 74 [.agg [.bool xi,.int .u64 (xn:Int),.int .u64 (xs:Int),.str xh,.str xd,.int .u64 (pn:Int),.int .u64 (rn:Int)]] (.bool false) []) :
  AP Tryz.prog 70 [.agg [.int .i64 zk,.int .u64 (zn:Int),byE zb,.sl .ext [.agg [.int .i64 yk,.int .u64 (yn:Int),.sl (yb.map E.byte),.sl (Zu yl)],.agg [.int .i64 ck,.int .u64 (cn:Int),.sl (cb.map E.byte),.sl [.agg [.int .i64 pk,.int .u64 (pn:Int),.sl (pb.map E.byte),.sl (Zu pl)],.agg [.int .i64 rk,.int .u64 (rn:Int),.sl (rb.map E.byte),.sl (Zu rl)]]]]]] (.tup [.agg [.bool false,.int .u64 0,.int .u64 0,.str [],.str [],.int .u64 0,.int .u64 0],.bool false]) []:=by
 have hU:Uni 4 ([.agg [.int .i64 yk,.int .u64 (yn:Int),.sl (yb.map E.byte),.sl (Zu yl)],.agg [.int .i64 ck,.int .u64 (cn:Int),.sl (cb.map E.byte),.sl [.agg [.int .i64 pk,.int .u64 (pn:Int),.sl (pb.map E.byte),.sl (Zu pl)],.agg [.int .i64 rk,.int .u64 (rn:Int),.sl (rb.map E.byte),.sl (Zu rl)]]]]:List E):=Yz [.mk yk yn yb yl,.mk ck cn cb [.mk pk pn pb pl,.mk rk rn rb rl]]
 have t2:((([.agg [.int .i64 yk,.int .u64 (yn:Int),.sl (yb.map E.byte),.sl (Zu yl)],.agg [.int .i64 ck,.int .u64 (cn:Int),.sl (cb.map E.byte),.sl [.agg [.int .i64 pk,.int .u64 (pn:Int),.sl (pb.map E.byte),.sl (Zu pl)],.agg [.int .i64 rk,.int .u64 (rn:Int),.sl (rb.map E.byte),.sl (Zu rl)]]]]:List E).length:Int) != 2)=false:=rfl
 have t3:((([.agg [.int .i64 pk,.int .u64 (pn:Int),.sl (pb.map E.byte),.sl (Zu pl)],.agg [.int .i64 rk,.int .u64 (rn:Int),.sl (rb.map E.byte),.sl (Zu rl)]]:List E).length:Int) != 2)=false:=rfl
 refine AP.ofA (Zl Tryz.func70 Z Tryz.ntmps70 Z Z ?_)
 repeat'(first|(apply Zb (hR);kernel_rfl;(iterate 4 exact Z))|(apply Zb (hI);kernel_rfl;(iterate 4 exact Z))|(apply Zi Za;exact Z)|(apply Zf Za;exact Z)|(apply Zp Za;exact Z)|(apply Ze;(iterate 3 exact Z);(first|with_reducible assumption|decide +kernel|(solve|simp only[bn])))|(apply Zn;(iterate 3 exact Z);(first|with_reducible assumption|decide +kernel|(solve|simp only[bn])))|(apply Zj;exact Z;(first|with_reducible assumption|decide +kernel|(solve|simp only[bn]));exact Z;exact Z)|(apply Zh;exact Z;(first|with_reducible assumption|decide +kernel|(solve|simp only[bn]));exact Z;exact Z)|(apply Zd;exact Z;(first|with_reducible assumption|decide +kernel|(solve|simp only[bn])))|(apply Zg;exact Z;(first|with_reducible assumption|decide +kernel|(solve|simp only[bn])))|refine Zm Za Z Z Z Z ?_|(apply Zo 11 ZD;decide +kernel;kernel_rfl;kernel_rfl;kernel_rfl;exact Z;exact Z)|(apply Zo 19 ZD;decide +kernel;kernel_rfl;kernel_rfl;kernel_rfl;exact Z;exact Z)|(apply Zs;(iterate 4 exact Z))|exact AE.nil _ _ _ _|(apply Zw;exact Z)|(apply Z7;exact Z)|(apply Zz;exact Z;exact Z;decide +kernel;exact Z)|(apply ZA;exact Z)|(apply Yt;exact Z)|exact AO.nil _ _ _|(apply Zr;(decide +kernel))|(apply ZX;(iterate 3 exact Z))|exact AOs.nil|exact ZF rfl rfl|exact YW rfl rfl|(apply Zv Za;(iterate 6 exact Z);(first|exact Qt|rotate_left);(first|with_reducible assumption|decide +kernel|exact Z);(first|exact Zk rfl|with_reducible assumption|decide +kernel|rotate_left)))
 all_goals exact Qe
theorem SY [Known](zk:Int)(zn:Nat)(zb:List UInt8)(yk:Int)(yn:Nat)(yb:List UInt8)(yl:List It)(ck:Int)(cn:Nat)(cb:List UInt8)(pk:Int)(pn:Nat)(pb:List UInt8)(pl:List It)(rk:Int)(rn:Nat)(rb:List UInt8)(rl:List It)(xi:Bool)(xn xs:Nat)(xh xd:List UInt8)(wk:Int)(wn:Nat)(wb:List UInt8)(wl:List It)
  (t1:(zk != 4)=false)
  (hR:AP Tryz.prog 117 [.agg (itC yk yn yb yl)] (.tup [.agg [.bool xi,.int .u64 (xn:Int),.int .u64 (xs:Int),.str xh,.str xd],.bool true]) [])
  (hI:AP Tryz.prog 74 [.agg [.bool xi,.int .u64 (xn:Int),.int .u64 (xs:Int),.str xh,.str xd,.int .u64 (pn:Int),.int .u64 (rn:Int)]] (.bool true) [])
  (hW:AP Tryz.prog 118 [.agg [.bool xi,.int .u64 (xn:Int),.int .u64 (xs:Int),.str xh,.str xd,.int .u64 (pn:Int),.int .u64 (rn:Int)]] (.agg (itC wk wn wb wl)) [])
  (hM:AP Tryz.prog 71 [.agg (itC wk wn wb wl),.agg [.int .i64 zk,.int .u64 (zn:Int),byE zb,.sl .ext [.agg [.int .i64 yk,.int .u64 (yn:Int),.sl (yb.map E.byte),.sl (Zu yl)],.agg [.int .i64 ck,.int .u64 (cn:Int),.sl (cb.map E.byte),.sl [.agg [.int .i64 pk,.int .u64 (pn:Int),.sl (pb.map E.byte),.sl (Zu pl)],.agg [.int .i64 rk,.int .u64 (rn:Int),.sl (rb.map E.byte),.sl (Zu rl)]]]]]] (.bool false) []) :
  AP Tryz.prog 70 [.agg [.int .i64 zk,.int .u64 (zn:Int),byE zb,.sl .ext [.agg [.int .i64 yk,.int .u64 (yn:Int),.sl (yb.map E.byte),.sl (Zu yl)],.agg [.int .i64 ck,.int .u64 (cn:Int),.sl (cb.map E.byte),.sl [.agg [.int .i64 pk,.int .u64 (pn:Int),.sl (pb.map E.byte),.sl (Zu pl)],.agg [.int .i64 rk,.int .u64 (rn:Int),.sl (rb.map E.byte),.sl (Zu rl)]]]]]] (.tup [.agg [.bool false,.int .u64 0,.int .u64 0,.str [],.str [],.int .u64 0,.int .u64 0],.bool false]) []:=by
 have hU:Uni 4 ([.agg [.int .i64 yk,.int .u64 (yn:Int),.sl (yb.map E.byte),.sl (Zu yl)],.agg [.int .i64 ck,.int .u64 (cn:Int),.sl (cb.map E.byte),.sl [.agg [.int .i64 pk,.int .u64 (pn:Int),.sl (pb.map E.byte),.sl (Zu pl)],.agg [.int .i64 rk,.int .u64 (rn:Int),.sl (rb.map E.byte),.sl (Zu rl)]]]]:List E):=Yz [.mk yk yn yb yl,.mk ck cn cb [.mk pk pn pb pl,.mk rk rn rb rl]]
 have t2:((([.agg [.int .i64 yk,.int .u64 (yn:Int),.sl (yb.map E.byte),.sl (Zu yl)],.agg [.int .i64 ck,.int .u64 (cn:Int),.sl (cb.map E.byte),.sl [.agg [.int .i64 pk,.int .u64 (pn:Int),.sl (pb.map E.byte),.sl (Zu pl)],.agg [.int .i64 rk,.int .u64 (rn:Int),.sl (rb.map E.byte),.sl (Zu rl)]]]]:List E).length:Int) != 2)=false:=rfl
 have t3:((([.agg [.int .i64 pk,.int .u64 (pn:Int),.sl (pb.map E.byte),.sl (Zu pl)],.agg [.int .i64 rk,.int .u64 (rn:Int),.sl (rb.map E.byte),.sl (Zu rl)]]:List E).length:Int) != 2)=false:=rfl
 refine AP.ofA (Zl Tryz.func70 Z Tryz.ntmps70 Z Z ?_)
 repeat'(first|(apply Zb (hR);kernel_rfl;(iterate 4 exact Z))|(apply Zb (hI);kernel_rfl;(iterate 4 exact Z))|(apply Zb (hW);kernel_rfl;(iterate 4 exact Z))|(apply Zb (hM);kernel_rfl;(iterate 4 exact Z))|(apply Zi Za;exact Z)|(apply Zf Za;exact Z)|(apply Zp Za;exact Z)|(apply Ze;(iterate 3 exact Z);(first|with_reducible assumption|decide +kernel|(solve|simp only[bn])))|(apply Zh;exact Z;(first|with_reducible assumption|decide +kernel|(solve|simp only[bn]));exact Z;exact Z)|(apply Zd;exact Z;(first|with_reducible assumption|decide +kernel|(solve|simp only[bn])))|(apply Zg;exact Z;(first|with_reducible assumption|decide +kernel|(solve|simp only[bn])))|refine Zm Za Z Z Z Z ?_|(apply Zo 11 ZD;decide +kernel;kernel_rfl;kernel_rfl;kernel_rfl;exact Z;exact Z)|(apply Zo 19 ZD;decide +kernel;kernel_rfl;kernel_rfl;kernel_rfl;exact Z;exact Z)|(apply Zs;(iterate 4 exact Z))|exact AE.nil _ _ _ _|(apply Zw;exact Z)|(apply Z7;exact Z)|(apply Zz;exact Z;exact Z;decide +kernel;exact Z)|(apply ZA;exact Z)|(apply Yt;exact Z)|exact AO.nil _ _ _|(apply Zr;(decide +kernel))|(apply ZX;(iterate 3 exact Z))|exact AOs.nil|exact ZF rfl rfl|exact YW rfl rfl|(apply Zv Za;(iterate 6 exact Z);(first|exact Qt|rotate_left);(first|with_reducible assumption|decide +kernel|exact Z);(first|exact Zk rfl|with_reducible assumption|decide +kernel|rotate_left)))
 all_goals exact Qe
theorem SZ [Known](zk:Int)(zn:Nat)(zb:List UInt8)(yk:Int)(yn:Nat)(yb:List UInt8)(yl:List It)(ck:Int)(cn:Nat)(cb:List UInt8)(pk:Int)(pn:Nat)(pb:List UInt8)(pl:List It)(rk:Int)(rn:Nat)(rb:List UInt8)(rl:List It)(xi:Bool)(xn xs:Nat)(xh xd:List UInt8)(wk:Int)(wn:Nat)(wb:List UInt8)(wl:List It)
  (t1:(zk != 4)=false)
  (hR:AP Tryz.prog 117 [.agg (itC yk yn yb yl)] (.tup [.agg [.bool xi,.int .u64 (xn:Int),.int .u64 (xs:Int),.str xh,.str xd],.bool true]) [])
  (hI:AP Tryz.prog 74 [.agg [.bool xi,.int .u64 (xn:Int),.int .u64 (xs:Int),.str xh,.str xd,.int .u64 (pn:Int),.int .u64 (rn:Int)]] (.bool true) [])
  (hW:AP Tryz.prog 118 [.agg [.bool xi,.int .u64 (xn:Int),.int .u64 (xs:Int),.str xh,.str xd,.int .u64 (pn:Int),.int .u64 (rn:Int)]] (.agg (itC wk wn wb wl)) [])
  (hM:AP Tryz.prog 71 [.agg (itC wk wn wb wl),.agg [.int .i64 zk,.int .u64 (zn:Int),byE zb,.sl .ext [.agg [.int .i64 yk,.int .u64 (yn:Int),.sl (yb.map E.byte),.sl (Zu yl)],.agg [.int .i64 ck,.int .u64 (cn:Int),.sl (cb.map E.byte),.sl [.agg [.int .i64 pk,.int .u64 (pn:Int),.sl (pb.map E.byte),.sl (Zu pl)],.agg [.int .i64 rk,.int .u64 (rn:Int),.sl (rb.map E.byte),.sl (Zu rl)]]]]]] (.bool true) []) :
  AP Tryz.prog 70 [.agg [.int .i64 zk,.int .u64 (zn:Int),byE zb,.sl .ext [.agg [.int .i64 yk,.int .u64 (yn:Int),.sl (yb.map E.byte),.sl (Zu yl)],.agg [.int .i64 ck,.int .u64 (cn:Int),.sl (cb.map E.byte),.sl [.agg [.int .i64 pk,.int .u64 (pn:Int),.sl (pb.map E.byte),.sl (Zu pl)],.agg [.int .i64 rk,.int .u64 (rn:Int),.sl (rb.map E.byte),.sl (Zu rl)]]]]]] (.tup [.agg [.bool xi,.int .u64 (xn:Int),.int .u64 (xs:Int),.str xh,.str xd,.int .u64 (pn:Int),.int .u64 (rn:Int)],.bool true]) []:=by
 have hU:Uni 4 ([.agg [.int .i64 yk,.int .u64 (yn:Int),.sl (yb.map E.byte),.sl (Zu yl)],.agg [.int .i64 ck,.int .u64 (cn:Int),.sl (cb.map E.byte),.sl [.agg [.int .i64 pk,.int .u64 (pn:Int),.sl (pb.map E.byte),.sl (Zu pl)],.agg [.int .i64 rk,.int .u64 (rn:Int),.sl (rb.map E.byte),.sl (Zu rl)]]]]:List E):=Yz [.mk yk yn yb yl,.mk ck cn cb [.mk pk pn pb pl,.mk rk rn rb rl]]
 have t2:((([.agg [.int .i64 yk,.int .u64 (yn:Int),.sl (yb.map E.byte),.sl (Zu yl)],.agg [.int .i64 ck,.int .u64 (cn:Int),.sl (cb.map E.byte),.sl [.agg [.int .i64 pk,.int .u64 (pn:Int),.sl (pb.map E.byte),.sl (Zu pl)],.agg [.int .i64 rk,.int .u64 (rn:Int),.sl (rb.map E.byte),.sl (Zu rl)]]]]:List E).length:Int) != 2)=false:=rfl
 have t3:((([.agg [.int .i64 pk,.int .u64 (pn:Int),.sl (pb.map E.byte),.sl (Zu pl)],.agg [.int .i64 rk,.int .u64 (rn:Int),.sl (rb.map E.byte),.sl (Zu rl)]]:List E).length:Int) != 2)=false:=rfl
 refine AP.ofA (Zl Tryz.func70 Z Tryz.ntmps70 Z Z ?_)
 repeat'(first|(apply Zb (hR);kernel_rfl;(iterate 4 exact Z))|(apply Zb (hI);kernel_rfl;(iterate 4 exact Z))|(apply Zb (hW);kernel_rfl;(iterate 4 exact Z))|(apply Zb (hM);kernel_rfl;(iterate 4 exact Z))|(apply Zi Za;exact Z)|(apply Zf Za;exact Z)|(apply Zp Za;exact Z)|(apply Ze;(iterate 3 exact Z);(first|with_reducible assumption|decide +kernel|(solve|simp only[bn])))|(apply Zh;exact Z;(first|with_reducible assumption|decide +kernel|(solve|simp only[bn]));exact Z;exact Z)|(apply Zg;exact Z;(first|with_reducible assumption|decide +kernel|(solve|simp only[bn])))|refine Zm Za Z Z Z Z ?_|(apply Zo 11 ZD;decide +kernel;kernel_rfl;kernel_rfl;kernel_rfl;exact Z;exact Z)|(apply Zo 19 ZD;decide +kernel;kernel_rfl;kernel_rfl;kernel_rfl;exact Z;exact Z)|(apply Zs;(iterate 4 exact Z))|exact AE.nil _ _ _ _|(apply Zw;exact Z)|(apply Z7;exact Z)|(apply Zz;exact Z;exact Z;decide +kernel;exact Z)|(apply ZA;exact Z)|(apply Yt;exact Z)|exact AO.nil _ _ _|(apply Zr;(decide +kernel))|(apply ZX;(iterate 3 exact Z))|exact AOs.nil|exact ZF rfl rfl|exact YW rfl rfl|(apply Zv Za;(iterate 6 exact Z);(first|exact Qt|rotate_left);(first|with_reducible assumption|decide +kernel|exact Z);(first|exact Zk rfl|with_reducible assumption|decide +kernel|rotate_left)))
 all_goals exact Qe
theorem M7 (y:It):Fit (eZ y):=by
 unfold eZ
 cases h:(ZS y).2 with
 | false=>exact(⟨by decide,by decide⟩:Fit Ye)
 | true=>
  cases he:ZM (ZS y).1 with
  | true=>exact Uc he
  | false=>exact absurd (RT (x:=y) (fun _=>rfl) he) (by rw[h];simp)
theorem GK [Known](z:It)(hw:wfI z)(hb:∀ y ∈ z.l,∀ x ∈ y.l,x.b.length<=1099511627000):AP Tryz.prog 70 [itD z] (.tup [.agg (iC (Yu z).1 (Yu z).2.1 (Yu z).2.2.1),.bool (Yu z).2.2.2]) []:=by
 rw[<- Rd]
 have hSame:=fun(x:EidV) (t q:Nat) (h:Yo x t q=true)=>VN (Yl x t q) (XX h) z hw
 obtain⟨zk,zn,zb,zl⟩:=z
 have hlen:=Zx zl
 obtain⟨_,_,_,hws⟩:=hw
 dsimp only[It.l]at hb
 have hno:QT (.mk zk zn zb zl)=(Ye,0,0,false)->AP Tryz.prog 70 [itD (.mk zk zn zb zl)] (.tup [.agg [.bool false,.int .u64 0,.int .u64 0,.str [],.str [],.int .u64 0,.int .u64 0],.bool false]) []->AP Tryz.prog 70 [itD (.mk zk zn zb zl)] (.tup [.agg (iC (QT (.mk zk zn zb zl)).1 (QT (.mk zk zn zb zl)).2.1 (QT (.mk zk zn zb zl)).2.2.1),.bool (QT (.mk zk zn zb zl)).2.2.2]) []:=fun e h=>by rw[e];exact h
 cases t1:(zk != 4) with
 | true=>
  refine hno ?_ (ST zk zn zb zl t1)
  have:(zk==4)=false:=by rw[bne]at t1;simpa using t1
  unfold QT
  split
  ·rename_i heq
   injection heq with e1
   rw[<- e1,this]
   rfl
  ·rfl
 | false=>
 have e4:(zk==4)=true:=by rw[bne]at t1;simpa using t1
 by_cases h2:zl.length=2
 case neg=>
  refine hno ?_ (SU zk zn zb zl t1 (by rw[hlen];simp;omega))
  unfold QT
  split
  ·rename_i heq
   injection heq with _ _ _ e1
   rw[e1]at h2
   exact absurd rfl h2
  ·rfl
 case pos=>
 obtain⟨⟨yk,yn,yb,yl⟩,⟨ck,cn,cb,cl⟩,rfl⟩:∃ y c,zl=[y,c]:=by
  match zl,h2 with
  | [y,c],_=>exact⟨y,c,rfl⟩
 have hlc:=Zx cl
 by_cases h3:cl.length=2
 case neg=>
  refine hno ?_ (SV zk zn zb yk yn yb yl ck cn cb cl t1 (by rw[hlc];simp;omega))
  unfold QT
  split
  ·rename_i heq
   injection heq with _ _ _ e1
   injection e1 with _ e1
   injection e1 with e1 _
   injection e1 with _ _ _ e1
   rw[e1]at h3
   exact absurd rfl h3
  ·rfl
 case pos=>
 obtain⟨⟨pk,pn,pb,pl⟩,⟨rk,rn,rb,rl⟩,rfl⟩:∃ y c,cl=[y,c]:=by
  match cl,h3 with
  | [y,c],_=>exact⟨y,c,rfl⟩
 have hR:AP Tryz.prog 117 [.agg (itC yk yn yb yl)] (.tup [.agg (eC (eZ (.mk yk yn yb yl))),.bool (ZS (.mk yk yn yb yl)).2]) []:=IG (.mk yk yn yb yl) hws.1 (fun x hx=>hb (.mk yk yn yb yl) (by simp) x hx)
 have hf:=M7 (.mk yk yn yb yl)
 unfold QT
 dsimp only[It.n]
 rw[e4]
 generalize eZ (.mk yk yn yb yl)=x at *
 generalize (ZS (.mk yk yn yb yl)).2=ok at *
 have hI:=XP x pn rn hf
 have hW:=fun h=>X4 x pn rn h
 have hM:=fun h=>hSame x pn rn h
 clear hSame hb hno hws hf
 generalize Yl x pn rn=w at *
 generalize Yo x pn rn=ri at *
 obtain⟨wk,wn,wb,wl⟩:=w
 obtain⟨xi,xn,xs,xh,xd⟩:=x
 cases ok with
 | false=>exact SW zk zn zb yk yn yb yl ck cn cb pk pn pb pl rk rn rb rl xi xn xs xh xd t1 hR
 | true=>
 cases ri with
 | false=>exact SX zk zn zb yk yn yb yl ck cn cb pk pn pb pl rk rn rb rl xi xn xs xh xd t1 hR hI
 | true=>
 replace hW:=hW rfl
 replace hM:=hM rfl
 cases hm:It.beq (.mk wk wn wb wl) (.mk zk zn zb [.mk yk yn yb yl,.mk ck cn cb [.mk pk pn pb pl,.mk rk rn rb rl]]) with
 | false=>
  rw[hm]at hM
  exact SY zk zn zb yk yn yb yl ck cn cb pk pn pb pl rk rn rb rl xi xn xs xh xd wk wn wb wl t1 hR hI hW hM
 | true=>
  rw[hm]at hM
  exact SZ zk zn zb yk yn yb yl ck cn cb pk pn pb pl rk rn rb rl xi xn xs xh xd wk wn wb wl t1 hR hI hW hM
structure RepV where
 a:Bool
 b:Bool
 c:Bool
 rs:Nat
 tm:Nat
 of:EidV
 t:Nat
 q:Nat
abbrev Jn (r:RepV):List D:=[.bool r.a,.bool r.b,.bool r.c,.int .u64 (r.rs:Int),.int .u64 (r.tm:Int),.bool r.of.i,.int .u64 (r.of.n:Int),.int .u64 (r.of.s:Int),.str r.of.h,.str r.of.d,.int .u64 (r.t:Int),.int .u64 (r.q:Int)]
def Yd (r:RepV):Bool:=(r.a||(r.b||r.c))&&(decide ((r.rs:Int)<=255)&&(decide ((r.tm:Int)<=1099511627776)&&Yo r.of r.t r.q))
theorem K2 [Known](r:RepV):AP Tryz.prog 24 [.agg (Jn r)] (.bool (Yd r)) []:=by
 have hI:=JI r.of r.t r.q
 unfold Yd
 generalize Yo r.of r.t r.q=e3 at *
 obtain⟨a,b,c,rs,tm,⟨i,n,s,h,d⟩,t,q⟩:=r
 dsimp only at *
 cases t1:decide ((rs:Int)<=255)<;>cases t2:decide ((tm:Int)<=1099511627776)<;>cases a<;>cases b<;>cases c
 all_goals
  refine AP.ofA (Zl Tryz.func24 Z Tryz.ntmps24 Z Z ?_)
  repeat'(first|(apply Zb (hI);kernel_rfl;(iterate 4 exact Z))|(apply Zi Za;exact Z)|(apply Zf Za;exact Z)|(apply Ze;(iterate 3 exact Z);(first|with_reducible assumption|decide +kernel|(solve|simp only[bn])))|(apply Zt;(iterate 3 exact Z);(first|with_reducible assumption|decide +kernel|(solve|simp only[bn])))|(apply Zn;(iterate 3 exact Z);(first|with_reducible assumption|decide +kernel|(solve|simp only[bn])))|(apply Zj;exact Z;(first|with_reducible assumption|decide +kernel|(solve|simp only[bn]));exact Z;exact Z)|(apply Zh;exact Z;(first|with_reducible assumption|decide +kernel|(solve|simp only[bn]));exact Z;exact Z))
  all_goals exact Qe
def nb (b:Bool):Nat:=if b then 1 else 0
def QU (a b c:Bool):It:=.mk 4 0 [] [.mk 0 (nb a) [] [],.mk 0 (nb b) [] [],.mk 0 (nb c) [] []]
theorem Re [Known](a b c:Bool):AP Tryz.prog 66 [.sl .ext [.bool a,.bool b,.bool c]] (itD (QU a b c)) []:=by
 have h0:=YF 0
 have h1:=YF 1
 have hL:=XW
 cases a<;>cases b<;>cases c
 all_goals
  refine AP.ofA (Zl Tryz.func66 Z Tryz.ntmps66 Z Z ?_)
  repeat'(first|(apply Ya [] [] (hL);kernel_rfl;(iterate 10 exact Z))|(apply Zb (h0);kernel_rfl;(iterate 4 exact Z))|(apply Zb (h1);kernel_rfl;(iterate 4 exact Z))|refine Yr 70 ?_|refine YH ?_|(apply Zi Za;exact Z)|(apply Zf Za;exact Z)|(apply Zp Za;exact Z)|(apply Zd;exact Z;(first|with_reducible assumption|decide +kernel|(solve|simp only[bn])))|(apply Zg;exact Z;(first|with_reducible assumption|decide +kernel|(solve|simp only[bn])))|refine Zm Za Z Z Z Z ?_|refine UE Za Z Z Z Z Z Z Z Z Z Z Z Z ?_|(apply ZP 5 ZD;decide +kernel;kernel_rfl;kernel_rfl;exact Z;exact Z)|(apply ZZ;(iterate 3 exact Z))|refine AD.nil _|exact Ym rfl|exact Li rfl rfl rfl rfl|(apply ZU Za;(iterate 6 exact Z);(first|with_reducible assumption|decide +kernel|exact Z|rotate_left);exact Z;exact Z;(first|exact Zk rfl|with_reducible assumption|decide +kernel|rotate_left);(first|exact Zk rfl|with_reducible assumption|decide +kernel|rotate_left);(first|exact Qt|rotate_left);(first|exact Qt|rotate_left);(first|exact Qt|rotate_left);exact Z;exact Z)|(apply Wj Za;(iterate 6 exact Z);(first|exact Zk rfl|with_reducible assumption|decide +kernel|rotate_left);(first|exact Qt|rotate_left);(first|exact Qt|rotate_left);(first|exact Qt|rotate_left);(iterate 3 exact Z))|(apply Zv Za;(iterate 6 exact Z);(first|exact Qt|rotate_left);(first|with_reducible assumption|decide +kernel|exact Z);(first|exact Zk rfl|with_reducible assumption|decide +kernel|rotate_left)))
  all_goals exact Qe
def Yh (r:RepV):It:=.mk 4 0 [] [.mk 0 1 [] [],.mk 4 0 [] [QU r.a r.b r.c,.mk 0 r.rs [] [],.mk 0 r.tm [] [],Yl r.of r.t r.q]]
def YX (r:RepV):List UInt8 × Int:=match Yd r with
 | true=>(ZH (Yh r),0)
 | false=>([],3)
theorem VQ {r:RepV}(h:Yd r=true):r.rs<=255/\r.tm<=1099511627776/\Yo r.of r.t r.q=true:=by
 unfold Yd at h
 simp only[Bool.and_eq_true,decide_eq_true_eq]at h
 obtain⟨_,h1,h2,h3⟩:=h
 exact⟨by omega,by omega,h3⟩
theorem NY (b:Bool):nb b<=1:=by cases b<;>decide
theorem Rf (a b c:Bool):wfI (QU a b c):=by
 have h1:=NY a
 have h2:=NY b
 have h3:=NY c
 unfold QU
 simp[wfI,wfs]
 omega
theorem K3 {r:RepV}(h:Yd r=true):wfs [QU r.a r.b r.c,.mk 0 r.rs [] [],.mk 0 r.tm [] [],Yl r.of r.t r.q]:=by
 obtain⟨h1,h2,h3⟩:=VQ h
 have hn:=XX h3
 have hy:=Rf r.a r.b r.c
 refine⟨hy,?_,?_,hn,trivial⟩
 ·simp[wfI,wfs];omega
 ·simp[wfI,wfs];omega
theorem Uh {r:RepV}(h:Yd r=true):wfI (Yh r):=
 ⟨by decide,by simp,by simp,⟨⟨by decide,by simp,by simp,trivial⟩,⟨by decide,by simp,by simp,K3 h⟩,trivial⟩⟩
theorem Vg {r:RepV}(h:Yd r=true):ZN (Yh r)=true:=by
 obtain⟨h1,h2,h3⟩:=VQ h
 obtain⟨i1,_,_⟩:=YT.1 h3
 have hr:=VV i1
 have f1:VW (Z1 r.of)=true:=by
  rw[Qq]at hr
  simp only[Bool.and_eq_true]at hr
  exact hr.2.2
 have e1:WT (Z1 r.of) 3=true/\WZ (Z1 r.of)<=5:=by
  unfold Z1
  repeat' split
  all_goals simp[WT,WU,WZ,WV]
 obtain⟨d1,s1⟩:=e1
 rw[Qq]
 simp only[Bool.and_eq_true,decide_eq_true_eq]
 refine⟨?_,?_,?_⟩
 ·simp[Yh,Yl,QU,WT,WU,d1]
 ·simp[Yh,Yl,QU,WZ,WV];omega
 ·simp[Yh,Yl,QU,VW,QB,WD,f1]
theorem GL {x:EidV}(h:ZM x=true):(ZH (Z1 x)).length<=80:=by
 unfold Z1
 repeat' split
 ·exact Nat.le_trans (Uy 1 0) (by decide)
 ·have h0:=Yi 4 0 [] [.mk 0 2 [] [],IV x.n x.s]
  have h1:=Ys 2
  have h2:=Uy x.n x.s
  simp only[ZO,List.length_append,List.length_nil,Nat.add_zero,Nat.zero_add]at h0
  exact Nat.le_trans h0 (by omega)
 ·have h0:=Yi 4 0 [] [.mk 0 1 [] [],.mk 3 0 (YR x) []]
  have h1:=Ys 1
  have h2:=Yi 3 0 (YR x) []
  rename_i hz hi
  have h3:(YR x).length<=43:=by
   have ht:=YS h (by simpa using hz) (by simpa using hi)
   simp only[YR,List.length_append,List.length_cons,List.length_nil]
   omega
  simp only[ZO,List.length_append,List.length_nil,Nat.add_zero,Nat.zero_add]at h0 h2
  exact Nat.le_trans h0 (by omega)
theorem Qr {r:RepV}(h:Yd r=true):(ZH (Yh r)).length<=200:=by
 obtain⟨h1,h2,h3⟩:=VQ h
 obtain⟨i1,_,_⟩:=YT.1 h3
 have n4:=GL i1
 have n1:=Ys 1
 have n2:=Ys r.rs
 have n3:=Ys r.tm
 have n5:=Ys (nb r.a)
 have n6:=Ys (nb r.b)
 have n7:=Ys (nb r.c)
 have n8:=Uy r.t r.q
 have p1:=Yi 4 0 [] [.mk 0 (nb r.a) [] [],.mk 0 (nb r.b) [] [],.mk 0 (nb r.c) [] []]
 have p2:=Yi 4 0 [] [Z1 r.of,IV r.t r.q]
 have p3:=Yi 4 0 [] [QU r.a r.b r.c,.mk 0 r.rs [] [],.mk 0 r.tm [] [],Yl r.of r.t r.q]
 have p4:=Yi 4 0 [] [.mk 0 1 [] [],.mk 4 0 [] [QU r.a r.b r.c,.mk 0 r.rs [] [],.mk 0 r.tm [] [],Yl r.of r.t r.q]]
 have e1:QU r.a r.b r.c=.mk 4 0 [] [.mk 0 (nb r.a) [] [],.mk 0 (nb r.b) [] [],.mk 0 (nb r.c) [] []]:=rfl
 have e2:Yl r.of r.t r.q=.mk 4 0 [] [Z1 r.of,IV r.t r.q]:=rfl
 rw[<- e1]at p1
 rw[<- e2]at p2
 have e3:Yh r=.mk 4 0 [] [.mk 0 1 [] [],.mk 4 0 [] [QU r.a r.b r.c,.mk 0 r.rs [] [],.mk 0 r.tm [] [],Yl r.of r.t r.q]]:=rfl
 rw[<- e3]at p4
 simp only[ZO,List.length_append,List.length_nil,Nat.add_zero,Nat.zero_add]at p1 p2 p3 p4
 omega
theorem Ui [Known][KnownU8](r:RepV):AP Tryz.prog 21 [.agg (Jn r)] (.tup [byE (YX r).1,.int .i64 (YX r).2]) []:=by
 have hI:=JO r.of r.t r.q
 have hR:=K2 r
 unfold YX
 cases hr:Yd r with
 | false=>
  rw[hr]at hR
  obtain⟨a,b,c,rs,tm,⟨i,n,s,h,d⟩,t,q⟩:=r
  dsimp only at *
  cases hi:Yo ⟨i,n,s,h,d⟩ t q with
  | false=>
   rw[hi,if_neg (by simp),if_neg (by simp)]at hI
   refine AP.ofA (Zl Tryz.func21 Z Tryz.ntmps21 Z Z ?_)
   repeat'(first|(apply Zb (hI);kernel_rfl;(iterate 4 exact Z))|(apply Zi Za;exact Z)|(apply Zf Za;exact Z)|(apply Zp Za;exact Z)|(apply Zn;(iterate 3 exact Z);(first|with_reducible assumption|decide +kernel|(solve|simp only[bn])))|(apply Zj;exact Z;(first|with_reducible assumption|decide +kernel|(solve|simp only[bn]));exact Z;exact Z)|(apply Zd;exact Z;(first|with_reducible assumption|decide +kernel|(solve|simp only[bn]))))
   all_goals exact Qe
  | true=>
   rw[hi,if_pos rfl,if_pos rfl]at hI
   unfold Yl at hI
   refine AP.ofA (Zl Tryz.func21 Z Tryz.ntmps21 Z Z ?_)
   repeat'(first|(apply Zb (hR);kernel_rfl;(iterate 4 exact Z))|(apply Zb (hI);kernel_rfl;(iterate 4 exact Z))|(apply Zi Za;exact Z)|(apply Zf Za;exact Z)|(apply Zp Za;exact Z)|(apply Ze;(iterate 3 exact Z);(first|with_reducible assumption|decide +kernel|(solve|simp only[bn])))|(apply Zh;exact Z;(first|with_reducible assumption|decide +kernel|(solve|simp only[bn]));exact Z;exact Z)|(apply Zd;exact Z;(first|with_reducible assumption|decide +kernel|(solve|simp only[bn]))))
   all_goals exact Qe
 | true=>
  rw[hr]at hR
  have hps:=K3 hr
  have hW:=Xa (Yh r) (Uh hr) (by have:=Qr hr;omega) (Vg hr)
  obtain⟨h1,h2,h3⟩:=VQ hr
  rw[h3,if_pos rfl,if_pos rfl]at hI
  have hn1:=YF 1
  have hn2:=YF r.rs
  have hn3:=YF r.tm
  have hY:=Re r.a r.b r.c
  have hL1:=W8 [QU r.a r.b r.c,.mk 0 r.rs [] [],.mk 0 r.tm [] [],Yl r.of r.t r.q] (by simp) hps
  have hL2:=W8 [.mk 0 1 [] [],.mk 4 0 [] [QU r.a r.b r.c,.mk 0 r.rs [] [],.mk 0 r.tm [] [],Yl r.of r.t r.q]] (by simp) ⟨⟨by decide,by simp,by simp,trivial⟩,⟨by decide,by simp,by simp,hps⟩,trivial⟩
  dsimp only
  unfold Yh at hW ⊢
  unfold Yl at *
  obtain⟨a,b,c,rs,tm,⟨i,n,s,h,d⟩,t,q⟩:=r
  dsimp only at *
  generalize ZH _=PB at *
  generalize Z1 ⟨i,n,s,h,d⟩=I1 at *
  obtain⟨ak,an,ab,al⟩:=I1
  refine AP.ofA (Zl Tryz.func21 Z Tryz.ntmps21 Z Z ?_)
  repeat'(first|(apply Zb (hR);kernel_rfl;(iterate 4 exact Z))|(apply Zb (hI);kernel_rfl;(iterate 4 exact Z))|(apply Zb (hn1);kernel_rfl;(iterate 4 exact Z))|(apply Zb (hn2);kernel_rfl;(iterate 4 exact Z))|(apply Zb (hn3);kernel_rfl;(iterate 4 exact Z))|(apply Zb (hY);kernel_rfl;(iterate 4 exact Z))|(apply Zb (hL1);kernel_rfl;(iterate 4 exact Z))|(apply Zb (hL2);kernel_rfl;(iterate 4 exact Z))|(apply Zb (hW);kernel_rfl;(iterate 4 exact Z))|(apply Zi Za;exact Z)|(apply Zf Za;exact Z)|(apply Zp Za;exact Z)|(apply Ze;(iterate 3 exact Z);(first|with_reducible assumption|decide +kernel|(solve|simp only[bn])))|(apply Zh;exact Z;(first|with_reducible assumption|decide +kernel|(solve|simp only[bn]));exact Z;exact Z)|(apply Zg;exact Z;(first|with_reducible assumption|decide +kernel|(solve|simp only[bn])))|refine ZR Za Z Z Z Z Z Z Z Z Z Z Z Z ?_|(apply Zo 23 ZD;decide +kernel;kernel_rfl;kernel_rfl;kernel_rfl;exact Z;exact Z)|(apply Zs;(iterate 4 exact Z))|exact AE.nil _ _ _ _|(apply Zw;exact Z)|(apply Zz;exact Z;exact Z;decide +kernel;exact Z)|(apply ZA;exact Z)|exact AO.nil _ _ _|(apply Zr;(decide +kernel))|exact AOs.nil|exact ZF rfl rfl|exact Wz rfl rfl rfl rfl rfl)
  all_goals exact Qe
end Go.Proofs.YtmljabhmajehnaaGreatDoor
end
