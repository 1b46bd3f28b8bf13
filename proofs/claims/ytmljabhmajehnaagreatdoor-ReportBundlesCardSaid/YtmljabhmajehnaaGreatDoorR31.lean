/- The document's numbers: written and read (rwgen.py). -/
import Derived.Test.YtmljabhmajehnaaGreatDoorR20
import Derived.Test.YtmljabhmajehnaaGreatDoorR21
import Derived.Test.YtmljabhmajehnaaGreatDoorR25
import Derived.Test.YtmljabhmajehnaaGreatDoorR30
import Derived.Test.YtmljabhmajehnaaGreatDoorR26
import Derived.Test.YtmljabhmajehnaaGreatDoorR28
set_option linter.unusedVariables false
set_option linter.unusedSimpArgs false
section
open Go.RowKit Go.Pl Go.Av
namespace Go.Proofs.YtmljabhmajehnaaGreatDoor
set_option maxHeartbeats 4000000
theorem K6 [Known](x:EidV)(t q:Nat)(h:Yv x t q=true):AP Tryz.prog 118 [.agg (iC x t q)] (itD (Yw x t q)) []:=by
 obtain⟨h1,_,_⟩:=YG.1 h
 have hW:=WF x h1
 unfold Yw
 generalize ZY x=y at *
 obtain⟨xi,xn,xs,xh,xd⟩:=x
 obtain⟨yk,yn,yb,yl⟩:=y
 refine AP.ofA (Zl Tryz.func118 U Tryz.ntmps118 U U ?_)
 repeat'(first|(apply Zb (hW);kernel_rfl;(iterate 4 exact U))|(apply Zi Za;exact U)|(apply Zg Za;exact U)|refine ZM Za U U U U U U U U U U U U ?_|(apply Zo 4 ZB;decide +kernel;kernel_rfl;kernel_rfl;kernel_rfl;exact U;exact U)|(apply Zs;(iterate 4 exact U))|exact AE.nil _ _ _ _|(apply Zx;exact U)|(apply Zz;exact U;exact U;decide +kernel;exact U)|(apply ZA;exact U)|exact AO.nil _ _ _|(apply Zr;(decide +kernel))|exact AOs.nil|exact ZF rfl rfl)
 all_goals exact Qe
def JM (z:It):EidV × Nat × Nat × Bool:=match z with
 | .mk k n b [y,.mk k2 n2 b2 [p,r]]=>(match(k==4)&&((ZS y).2&&(Yv (eZ y) p.n r.n&&It.beq (Yw (eZ y) p.n r.n) (.mk k n b [y,.mk k2 n2 b2 [p,r]]))) with
  | false=>(Yi,0,0,false)
  | true=>(eZ y,p.n,r.n,true))
 | _=>(Yi,0,0,false)
theorem Mh (z:It):JM z=(Yi,0,0,false)\/∃ x t q,Yv x t q=true/\Yw x t q=z/\JM z=(x,t,q,true):=by
 unfold JM
 split
 ·rename_i k n b y k2 n2 b2 p r
  cases hc:(k==4)&&((ZS y).2&&(Yv (eZ y) p.n r.n&&It.beq (Yw (eZ y) p.n r.n) (.mk k n b [y,.mk k2 n2 b2 [p,r]]))) with
  | false=>exact .inl rfl
  | true=>
   simp only[Bool.and_eq_true]at hc
   exact .inr ⟨_,_,_,hc.2.2.1,It.beq_iff.1 hc.2.2.2,rfl⟩
 ·exact .inl rfl
theorem Xb (z:It):YF z=(Yi,0,0,false)\/∃ x t q,Yv x t q=true/\Yw x t q=z/\YF z=(x,t,q,true):=by
 unfold YF
 split
 ·rename_i k n b y k2 n2 b2 p r
  cases hk:(k==4&&k2==4) with
  | false=>exact .inl rfl
  | true=>
  dsimp only
  cases hb:Qm y p r (.mk k n b [y,.mk k2 n2 b2 [p,r]]) with
  | false=>exact .inl rfl
  | true=>
   unfold Qm at hb
   split at hb
   ·rename_i h1 h2
    exact .inr ⟨_,_,_,h2,It.beq_iff.1 hb,rfl⟩
   ·cases hb
 ·exact .inl rfl
theorem L4 {x:EidV}{t q:Nat}(h:Yv x t q=true):JM (Yw x t q)=(x,t,q,true):=by
 obtain⟨h1,_,_⟩:=YG.1 h
 have hr:=QP h1 (VQ h1)
 have hz:eZ (ZY x)=x:=by unfold eZ;rw[hr]
 unfold Yw JM
 dsimp only[It.n]
 rw[hz,h,hr]
 rw[show It.beq (Yw x t q) (.mk 4 0 [] [ZY x,.mk 4 0 [] [.mk 0 t [] [],.mk 0 q [] []]])=true from It.beq_iff.2 rfl]
 rfl
theorem BJ (z:It):JM z=YF z:=by
 rcases Mh z with h|⟨x,t,q,hr,rfl,h⟩
 ·rcases Xb z with h2|⟨x,t,q,hr,rfl,h2⟩
  ·rw[h,h2]
  ·rw[h2,L4 hr]
 ·rw[h,QS hr]
theorem Fu [Known](zk:Int)(zn:Nat)(zb:List UInt8)(zl:List It) 
  (t1:(zk != 4)=true) :
  AP Tryz.prog 70 [.agg (itC zk zn zb zl)] (.tup [.agg [.bool false,.int .u64 0,.int .u64 0,.str [],.str [],.int .u64 0,.int .u64 0],.bool false]) []:=by
 refine AP.ofA (Zl Tryz.func70 U Tryz.ntmps70 U U ?_)
 repeat'(first|(apply Zi Za;exact U)|(apply Zg Za;exact U)|(apply Zp Za;exact U)|(apply Zm;(iterate 3 exact U);(first|with_reducible assumption|decide +kernel|(solve|simp only[bn])))|(apply Zj;exact U;(first|with_reducible assumption|decide +kernel|(solve|simp only[bn]));exact U;exact U)|(apply Zd;exact U;(first|with_reducible assumption|decide +kernel|(solve|simp only[bn]))))
 all_goals exact Qe
theorem Fv [Known](zk:Int)(zn:Nat)(zb:List UInt8)(zl:List It) 
  (t1:(zk != 4)=false)
  (t2:(((Zv zl).length:Int) != 2)=true) :
  AP Tryz.prog 70 [.agg (itC zk zn zb zl)] (.tup [.agg [.bool false,.int .u64 0,.int .u64 0,.str [],.str [],.int .u64 0,.int .u64 0],.bool false]) []:=by
 refine AP.ofA (Zl Tryz.func70 U Tryz.ntmps70 U U ?_)
 repeat'(first|(apply Zi Za;exact U)|(apply Zg Za;exact U)|(apply Zp Za;exact U)|(apply Ze;(iterate 3 exact U);(first|with_reducible assumption|decide +kernel|(solve|simp only[bn])))|(apply Zm;(iterate 3 exact U);(first|with_reducible assumption|decide +kernel|(solve|simp only[bn])))|(apply Zj;exact U;(first|with_reducible assumption|decide +kernel|(solve|simp only[bn]));exact U;exact U)|(apply Zh;exact U;(first|with_reducible assumption|decide +kernel|(solve|simp only[bn]));exact U;exact U)|(apply Zd;exact U;(first|with_reducible assumption|decide +kernel|(solve|simp only[bn])))|refine Zn Za U U U U ?_)
 all_goals exact Qe
theorem Fw [Known](zk:Int)(zn:Nat)(zb:List UInt8)(yk:Int)(yn:Nat)(yb:List UInt8)(yl:List It)(ck:Int)(cn:Nat)(cb:List UInt8)(cl:List It)
  (t1:(zk != 4)=false)
  (t3:(((Zv cl).length:Int) != 2)=true) :
  AP Tryz.prog 70 [.agg [.int .i64 zk,.int .u64 (zn:Int),byE zb,.sl .ext [.agg [.int .i64 yk,.int .u64 (yn:Int),.sl (yb.map E.byte),.sl (Zv yl)],.agg [.int .i64 ck,.int .u64 (cn:Int),.sl (cb.map E.byte),.sl (Zv cl)]]]] (.tup [.agg [.bool false,.int .u64 0,.int .u64 0,.str [],.str [],.int .u64 0,.int .u64 0],.bool false]) []:=by
 have hU:Uni 4 ([.agg [.int .i64 yk,.int .u64 (yn:Int),.sl (yb.map E.byte),.sl (Zv yl)],.agg [.int .i64 ck,.int .u64 (cn:Int),.sl (cb.map E.byte),.sl (Zv cl)]]:List E):=YE [.mk yk yn yb yl,.mk ck cn cb cl]
 have t2:((([.agg [.int .i64 yk,.int .u64 (yn:Int),.sl (yb.map E.byte),.sl (Zv yl)],.agg [.int .i64 ck,.int .u64 (cn:Int),.sl (cb.map E.byte),.sl (Zv cl)]]:List E).length:Int) != 2)=false:=rfl
 refine AP.ofA (Zl Tryz.func70 U Tryz.ntmps70 U U ?_)
 repeat'(first|(apply Zi Za;exact U)|(apply Zg Za;exact U)|(apply Zp Za;exact U)|(apply Ze;(iterate 3 exact U);(first|with_reducible assumption|decide +kernel|(solve|simp only[bn])))|(apply Zh;exact U;(first|with_reducible assumption|decide +kernel|(solve|simp only[bn]));exact U;exact U)|(apply Zd;exact U;(first|with_reducible assumption|decide +kernel|(solve|simp only[bn])))|refine Zn Za U U U U ?_|(apply Zu Za;(iterate 6 exact U);(first|exact Qt|rotate_left);(first|with_reducible assumption|decide +kernel|exact U);(first|exact Zk rfl|with_reducible assumption|decide +kernel|rotate_left)))
 all_goals exact Qe
theorem Fx [Known](zk:Int)(zn:Nat)(zb:List UInt8)(yk:Int)(yn:Nat)(yb:List UInt8)(yl:List It)(ck:Int)(cn:Nat)(cb:List UInt8)(pk:Int)(pn:Nat)(pb:List UInt8)(pl:List It)(rk:Int)(rn:Nat)(rb:List UInt8)(rl:List It)(xi:Bool)(xn xs:Nat)(xh xd:List UInt8)
  (t1:(zk != 4)=false)
  (hR:AP Tryz.prog 117 [.agg (itC yk yn yb yl)] (.tup [.agg [.bool xi,.int .u64 (xn:Int),.int .u64 (xs:Int),.str xh,.str xd],.bool false]) []) :
  AP Tryz.prog 70 [.agg [.int .i64 zk,.int .u64 (zn:Int),byE zb,.sl .ext [.agg [.int .i64 yk,.int .u64 (yn:Int),.sl (yb.map E.byte),.sl (Zv yl)],.agg [.int .i64 ck,.int .u64 (cn:Int),.sl (cb.map E.byte),.sl [.agg [.int .i64 pk,.int .u64 (pn:Int),.sl (pb.map E.byte),.sl (Zv pl)],.agg [.int .i64 rk,.int .u64 (rn:Int),.sl (rb.map E.byte),.sl (Zv rl)]]]]]] (.tup [.agg [.bool false,.int .u64 0,.int .u64 0,.str [],.str [],.int .u64 0,.int .u64 0],.bool false]) []:=by
 have hU:Uni 4 ([.agg [.int .i64 yk,.int .u64 (yn:Int),.sl (yb.map E.byte),.sl (Zv yl)],.agg [.int .i64 ck,.int .u64 (cn:Int),.sl (cb.map E.byte),.sl [.agg [.int .i64 pk,.int .u64 (pn:Int),.sl (pb.map E.byte),.sl (Zv pl)],.agg [.int .i64 rk,.int .u64 (rn:Int),.sl (rb.map E.byte),.sl (Zv rl)]]]]:List E):=YE [.mk yk yn yb yl,.mk ck cn cb [.mk pk pn pb pl,.mk rk rn rb rl]]
 have t2:((([.agg [.int .i64 yk,.int .u64 (yn:Int),.sl (yb.map E.byte),.sl (Zv yl)],.agg [.int .i64 ck,.int .u64 (cn:Int),.sl (cb.map E.byte),.sl [.agg [.int .i64 pk,.int .u64 (pn:Int),.sl (pb.map E.byte),.sl (Zv pl)],.agg [.int .i64 rk,.int .u64 (rn:Int),.sl (rb.map E.byte),.sl (Zv rl)]]]]:List E).length:Int) != 2)=false:=rfl
 have t3:((([.agg [.int .i64 pk,.int .u64 (pn:Int),.sl (pb.map E.byte),.sl (Zv pl)],.agg [.int .i64 rk,.int .u64 (rn:Int),.sl (rb.map E.byte),.sl (Zv rl)]]:List E).length:Int) != 2)=false:=rfl
 refine AP.ofA (Zl Tryz.func70 U Tryz.ntmps70 U U ?_)
 repeat'(first|(apply Zb (hR);kernel_rfl;(iterate 4 exact U))|(apply Zi Za;exact U)|(apply Zg Za;exact U)|(apply Zp Za;exact U)|(apply Ze;(iterate 3 exact U);(first|with_reducible assumption|decide +kernel|(solve|simp only[bn])))|(apply Zm;(iterate 3 exact U);(first|with_reducible assumption|decide +kernel|(solve|simp only[bn])))|(apply Zj;exact U;(first|with_reducible assumption|decide +kernel|(solve|simp only[bn]));exact U;exact U)|(apply Zh;exact U;(first|with_reducible assumption|decide +kernel|(solve|simp only[bn]));exact U;exact U)|(apply Zd;exact U;(first|with_reducible assumption|decide +kernel|(solve|simp only[bn])))|(apply Zf;exact U;(first|with_reducible assumption|decide +kernel|(solve|simp only[bn])))|refine Zn Za U U U U ?_|(apply Zo 11 ZB;decide +kernel;kernel_rfl;kernel_rfl;kernel_rfl;exact U;exact U)|(apply Zo 19 ZB;decide +kernel;kernel_rfl;kernel_rfl;kernel_rfl;exact U;exact U)|(apply Zs;(iterate 4 exact U))|exact AE.nil _ _ _ _|(apply Zx;exact U)|(apply Z1;exact U)|(apply Zz;exact U;exact U;decide +kernel;exact U)|(apply ZA;exact U)|(apply Ym;exact U)|exact AO.nil _ _ _|(apply Zr;(decide +kernel))|(apply ZU;(iterate 3 exact U))|exact AOs.nil|exact ZF rfl rfl|exact YK rfl rfl|(apply Zu Za;(iterate 6 exact U);(first|exact Qt|rotate_left);(first|with_reducible assumption|decide +kernel|exact U);(first|exact Zk rfl|with_reducible assumption|decide +kernel|rotate_left)))
 all_goals exact Qe
theorem Fy [Known](zk:Int)(zn:Nat)(zb:List UInt8)(yk:Int)(yn:Nat)(yb:List UInt8)(yl:List It)(ck:Int)(cn:Nat)(cb:List UInt8)(pk:Int)(pn:Nat)(pb:List UInt8)(pl:List It)(rk:Int)(rn:Nat)(rb:List UInt8)(rl:List It)(xi:Bool)(xn xs:Nat)(xh xd:List UInt8)
  (t1:(zk != 4)=false)
  (hR:AP Tryz.prog 117 [.agg (itC yk yn yb yl)] (.tup [.agg [.bool xi,.int .u64 (xn:Int),.int .u64 (xs:Int),.str xh,.str xd],.bool true]) [])
  (hI:AP Tryz.prog 74 [.agg [.bool xi,.int .u64 (xn:Int),.int .u64 (xs:Int),.str xh,.str xd,.int .u64 (pn:Int),.int .u64 (rn:Int)]] (.bool false) []) :
  AP Tryz.prog 70 [.agg [.int .i64 zk,.int .u64 (zn:Int),byE zb,.sl .ext [.agg [.int .i64 yk,.int .u64 (yn:Int),.sl (yb.map E.byte),.sl (Zv yl)],.agg [.int .i64 ck,.int .u64 (cn:Int),.sl (cb.map E.byte),.sl [.agg [.int .i64 pk,.int .u64 (pn:Int),.sl (pb.map E.byte),.sl (Zv pl)],.agg [.int .i64 rk,.int .u64 (rn:Int),.sl (rb.map E.byte),.sl (Zv rl)]]]]]] (.tup [.agg [.bool false,.int .u64 0,.int .u64 0,.str [],.str [],.int .u64 0,.int .u64 0],.bool false]) []:=by
 have hU:Uni 4 ([.agg [.int .i64 yk,.int .u64 (yn:Int),.sl (yb.map E.byte),.sl (Zv yl)],.agg [.int .i64 ck,.int .u64 (cn:Int),.sl (cb.map E.byte),.sl [.agg [.int .i64 pk,.int .u64 (pn:Int),.sl (pb.map E.byte),.sl (Zv pl)],.agg [.int .i64 rk,.int .u64 (rn:Int),.sl (rb.map E.byte),.sl (Zv rl)]]]]:List E):=YE [.mk yk yn yb yl,.mk ck cn cb [.mk pk pn pb pl,.mk rk rn rb rl]]
 have t2:((([.agg [.int .i64 yk,.int .u64 (yn:Int),.sl (yb.map E.byte),.sl (Zv yl)],.agg [.int .i64 ck,.int .u64 (cn:Int),.sl (cb.map E.byte),.sl [.agg [.int .i64 pk,.int .u64 (pn:Int),.sl (pb.map E.byte),.sl (Zv pl)],.agg [.int .i64 rk,.int .u64 (rn:Int),.sl (rb.map E.byte),.sl (Zv rl)]]]]:List E).length:Int) != 2)=false:=rfl
 have t3:((([.agg [.int .i64 pk,.int .u64 (pn:Int),.sl (pb.map E.byte),.sl (Zv pl)],.agg [.int .i64 rk,.int .u64 (rn:Int),.sl (rb.map E.byte),.sl (Zv rl)]]:List E).length:Int) != 2)=false:=rfl
 refine AP.ofA (Zl Tryz.func70 U Tryz.ntmps70 U U ?_)
 repeat'(first|(apply Zb (hR);kernel_rfl;(iterate 4 exact U))|(apply Zb (hI);kernel_rfl;(iterate 4 exact U))|(apply Zi Za;exact U)|(apply Zg Za;exact U)|(apply Zp Za;exact U)|(apply Ze;(iterate 3 exact U);(first|with_reducible assumption|decide +kernel|(solve|simp only[bn])))|(apply Zm;(iterate 3 exact U);(first|with_reducible assumption|decide +kernel|(solve|simp only[bn])))|(apply Zj;exact U;(first|with_reducible assumption|decide +kernel|(solve|simp only[bn]));exact U;exact U)|(apply Zh;exact U;(first|with_reducible assumption|decide +kernel|(solve|simp only[bn]));exact U;exact U)|(apply Zd;exact U;(first|with_reducible assumption|decide +kernel|(solve|simp only[bn])))|(apply Zf;exact U;(first|with_reducible assumption|decide +kernel|(solve|simp only[bn])))|refine Zn Za U U U U ?_|(apply Zo 11 ZB;decide +kernel;kernel_rfl;kernel_rfl;kernel_rfl;exact U;exact U)|(apply Zo 19 ZB;decide +kernel;kernel_rfl;kernel_rfl;kernel_rfl;exact U;exact U)|(apply Zs;(iterate 4 exact U))|exact AE.nil _ _ _ _|(apply Zx;exact U)|(apply Z1;exact U)|(apply Zz;exact U;exact U;decide +kernel;exact U)|(apply ZA;exact U)|(apply Ym;exact U)|exact AO.nil _ _ _|(apply Zr;(decide +kernel))|(apply ZU;(iterate 3 exact U))|exact AOs.nil|exact ZF rfl rfl|exact YK rfl rfl|(apply Zu Za;(iterate 6 exact U);(first|exact Qt|rotate_left);(first|with_reducible assumption|decide +kernel|exact U);(first|exact Zk rfl|with_reducible assumption|decide +kernel|rotate_left)))
 all_goals exact Qe
theorem Fz [Known](zk:Int)(zn:Nat)(zb:List UInt8)(yk:Int)(yn:Nat)(yb:List UInt8)(yl:List It)(ck:Int)(cn:Nat)(cb:List UInt8)(pk:Int)(pn:Nat)(pb:List UInt8)(pl:List It)(rk:Int)(rn:Nat)(rb:List UInt8)(rl:List It)(xi:Bool)(xn xs:Nat)(xh xd:List UInt8)(wk:Int)(wn:Nat)(wb:List UInt8)(wl:List It)
  (t1:(zk != 4)=false)
  (hR:AP Tryz.prog 117 [.agg (itC yk yn yb yl)] (.tup [.agg [.bool xi,.int .u64 (xn:Int),.int .u64 (xs:Int),.str xh,.str xd],.bool true]) [])
  (hI:AP Tryz.prog 74 [.agg [.bool xi,.int .u64 (xn:Int),.int .u64 (xs:Int),.str xh,.str xd,.int .u64 (pn:Int),.int .u64 (rn:Int)]] (.bool true) [])
  (hW:AP Tryz.prog 118 [.agg [.bool xi,.int .u64 (xn:Int),.int .u64 (xs:Int),.str xh,.str xd,.int .u64 (pn:Int),.int .u64 (rn:Int)]] (.agg (itC wk wn wb wl)) [])
  (hM:AP Tryz.prog 71 [.agg (itC wk wn wb wl),.agg [.int .i64 zk,.int .u64 (zn:Int),byE zb,.sl .ext [.agg [.int .i64 yk,.int .u64 (yn:Int),.sl (yb.map E.byte),.sl (Zv yl)],.agg [.int .i64 ck,.int .u64 (cn:Int),.sl (cb.map E.byte),.sl [.agg [.int .i64 pk,.int .u64 (pn:Int),.sl (pb.map E.byte),.sl (Zv pl)],.agg [.int .i64 rk,.int .u64 (rn:Int),.sl (rb.map E.byte),.sl (Zv rl)]]]]]] (.bool false) []) :
  AP Tryz.prog 70 [.agg [.int .i64 zk,.int .u64 (zn:Int),byE zb,.sl .ext [.agg [.int .i64 yk,.int .u64 (yn:Int),.sl (yb.map E.byte),.sl (Zv yl)],.agg [.int .i64 ck,.int .u64 (cn:Int),.sl (cb.map E.byte),.sl [.agg [.int .i64 pk,.int .u64 (pn:Int),.sl (pb.map E.byte),.sl (Zv pl)],.agg [.int .i64 rk,.int .u64 (rn:Int),.sl (rb.map E.byte),.sl (Zv rl)]]]]]] (.tup [.agg [.bool false,.int .u64 0,.int .u64 0,.str [],.str [],.int .u64 0,.int .u64 0],.bool false]) []:=by
 have hU:Uni 4 ([.agg [.int .i64 yk,.int .u64 (yn:Int),.sl (yb.map E.byte),.sl (Zv yl)],.agg [.int .i64 ck,.int .u64 (cn:Int),.sl (cb.map E.byte),.sl [.agg [.int .i64 pk,.int .u64 (pn:Int),.sl (pb.map E.byte),.sl (Zv pl)],.agg [.int .i64 rk,.int .u64 (rn:Int),.sl (rb.map E.byte),.sl (Zv rl)]]]]:List E):=YE [.mk yk yn yb yl,.mk ck cn cb [.mk pk pn pb pl,.mk rk rn rb rl]]
 have t2:((([.agg [.int .i64 yk,.int .u64 (yn:Int),.sl (yb.map E.byte),.sl (Zv yl)],.agg [.int .i64 ck,.int .u64 (cn:Int),.sl (cb.map E.byte),.sl [.agg [.int .i64 pk,.int .u64 (pn:Int),.sl (pb.map E.byte),.sl (Zv pl)],.agg [.int .i64 rk,.int .u64 (rn:Int),.sl (rb.map E.byte),.sl (Zv rl)]]]]:List E).length:Int) != 2)=false:=rfl
 have t3:((([.agg [.int .i64 pk,.int .u64 (pn:Int),.sl (pb.map E.byte),.sl (Zv pl)],.agg [.int .i64 rk,.int .u64 (rn:Int),.sl (rb.map E.byte),.sl (Zv rl)]]:List E).length:Int) != 2)=false:=rfl
 refine AP.ofA (Zl Tryz.func70 U Tryz.ntmps70 U U ?_)
 repeat'(first|(apply Zb (hR);kernel_rfl;(iterate 4 exact U))|(apply Zb (hI);kernel_rfl;(iterate 4 exact U))|(apply Zb (hW);kernel_rfl;(iterate 4 exact U))|(apply Zb (hM);kernel_rfl;(iterate 4 exact U))|(apply Zi Za;exact U)|(apply Zg Za;exact U)|(apply Zp Za;exact U)|(apply Ze;(iterate 3 exact U);(first|with_reducible assumption|decide +kernel|(solve|simp only[bn])))|(apply Zh;exact U;(first|with_reducible assumption|decide +kernel|(solve|simp only[bn]));exact U;exact U)|(apply Zd;exact U;(first|with_reducible assumption|decide +kernel|(solve|simp only[bn])))|(apply Zf;exact U;(first|with_reducible assumption|decide +kernel|(solve|simp only[bn])))|refine Zn Za U U U U ?_|(apply Zo 11 ZB;decide +kernel;kernel_rfl;kernel_rfl;kernel_rfl;exact U;exact U)|(apply Zo 19 ZB;decide +kernel;kernel_rfl;kernel_rfl;kernel_rfl;exact U;exact U)|(apply Zs;(iterate 4 exact U))|exact AE.nil _ _ _ _|(apply Zx;exact U)|(apply Z1;exact U)|(apply Zz;exact U;exact U;decide +kernel;exact U)|(apply ZA;exact U)|(apply Ym;exact U)|exact AO.nil _ _ _|(apply Zr;(decide +kernel))|(apply ZU;(iterate 3 exact U))|exact AOs.nil|exact ZF rfl rfl|exact YK rfl rfl|(apply Zu Za;(iterate 6 exact U);(first|exact Qt|rotate_left);(first|with_reducible assumption|decide +kernel|exact U);(first|exact Zk rfl|with_reducible assumption|decide +kernel|rotate_left)))
 all_goals exact Qe
theorem FA [Known](zk:Int)(zn:Nat)(zb:List UInt8)(yk:Int)(yn:Nat)(yb:List UInt8)(yl:List It)(ck:Int)(cn:Nat)(cb:List UInt8)(pk:Int)(pn:Nat)(pb:List UInt8)(pl:List It)(rk:Int)(rn:Nat)(rb:List UInt8)(rl:List It)(xi:Bool)(xn xs:Nat)(xh xd:List UInt8)(wk:Int)(wn:Nat)(wb:List UInt8)(wl:List It)
  (t1:(zk != 4)=false)
  (hR:AP Tryz.prog 117 [.agg (itC yk yn yb yl)] (.tup [.agg [.bool xi,.int .u64 (xn:Int),.int .u64 (xs:Int),.str xh,.str xd],.bool true]) [])
  (hI:AP Tryz.prog 74 [.agg [.bool xi,.int .u64 (xn:Int),.int .u64 (xs:Int),.str xh,.str xd,.int .u64 (pn:Int),.int .u64 (rn:Int)]] (.bool true) [])
  (hW:AP Tryz.prog 118 [.agg [.bool xi,.int .u64 (xn:Int),.int .u64 (xs:Int),.str xh,.str xd,.int .u64 (pn:Int),.int .u64 (rn:Int)]] (.agg (itC wk wn wb wl)) [])
  (hM:AP Tryz.prog 71 [.agg (itC wk wn wb wl),.agg [.int .i64 zk,.int .u64 (zn:Int),byE zb,.sl .ext [.agg [.int .i64 yk,.int .u64 (yn:Int),.sl (yb.map E.byte),.sl (Zv yl)],.agg [.int .i64 ck,.int .u64 (cn:Int),.sl (cb.map E.byte),.sl [.agg [.int .i64 pk,.int .u64 (pn:Int),.sl (pb.map E.byte),.sl (Zv pl)],.agg [.int .i64 rk,.int .u64 (rn:Int),.sl (rb.map E.byte),.sl (Zv rl)]]]]]] (.bool true) []) :
  AP Tryz.prog 70 [.agg [.int .i64 zk,.int .u64 (zn:Int),byE zb,.sl .ext [.agg [.int .i64 yk,.int .u64 (yn:Int),.sl (yb.map E.byte),.sl (Zv yl)],.agg [.int .i64 ck,.int .u64 (cn:Int),.sl (cb.map E.byte),.sl [.agg [.int .i64 pk,.int .u64 (pn:Int),.sl (pb.map E.byte),.sl (Zv pl)],.agg [.int .i64 rk,.int .u64 (rn:Int),.sl (rb.map E.byte),.sl (Zv rl)]]]]]] (.tup [.agg [.bool xi,.int .u64 (xn:Int),.int .u64 (xs:Int),.str xh,.str xd,.int .u64 (pn:Int),.int .u64 (rn:Int)],.bool true]) []:=by
 have hU:Uni 4 ([.agg [.int .i64 yk,.int .u64 (yn:Int),.sl (yb.map E.byte),.sl (Zv yl)],.agg [.int .i64 ck,.int .u64 (cn:Int),.sl (cb.map E.byte),.sl [.agg [.int .i64 pk,.int .u64 (pn:Int),.sl (pb.map E.byte),.sl (Zv pl)],.agg [.int .i64 rk,.int .u64 (rn:Int),.sl (rb.map E.byte),.sl (Zv rl)]]]]:List E):=YE [.mk yk yn yb yl,.mk ck cn cb [.mk pk pn pb pl,.mk rk rn rb rl]]
 have t2:((([.agg [.int .i64 yk,.int .u64 (yn:Int),.sl (yb.map E.byte),.sl (Zv yl)],.agg [.int .i64 ck,.int .u64 (cn:Int),.sl (cb.map E.byte),.sl [.agg [.int .i64 pk,.int .u64 (pn:Int),.sl (pb.map E.byte),.sl (Zv pl)],.agg [.int .i64 rk,.int .u64 (rn:Int),.sl (rb.map E.byte),.sl (Zv rl)]]]]:List E).length:Int) != 2)=false:=rfl
 have t3:((([.agg [.int .i64 pk,.int .u64 (pn:Int),.sl (pb.map E.byte),.sl (Zv pl)],.agg [.int .i64 rk,.int .u64 (rn:Int),.sl (rb.map E.byte),.sl (Zv rl)]]:List E).length:Int) != 2)=false:=rfl
 refine AP.ofA (Zl Tryz.func70 U Tryz.ntmps70 U U ?_)
 repeat'(first|(apply Zb (hR);kernel_rfl;(iterate 4 exact U))|(apply Zb (hI);kernel_rfl;(iterate 4 exact U))|(apply Zb (hW);kernel_rfl;(iterate 4 exact U))|(apply Zb (hM);kernel_rfl;(iterate 4 exact U))|(apply Zi Za;exact U)|(apply Zg Za;exact U)|(apply Zp Za;exact U)|(apply Ze;(iterate 3 exact U);(first|with_reducible assumption|decide +kernel|(solve|simp only[bn])))|(apply Zh;exact U;(first|with_reducible assumption|decide +kernel|(solve|simp only[bn]));exact U;exact U)|(apply Zf;exact U;(first|with_reducible assumption|decide +kernel|(solve|simp only[bn])))|refine Zn Za U U U U ?_|(apply Zo 11 ZB;decide +kernel;kernel_rfl;kernel_rfl;kernel_rfl;exact U;exact U)|(apply Zo 19 ZB;decide +kernel;kernel_rfl;kernel_rfl;kernel_rfl;exact U;exact U)|(apply Zs;(iterate 4 exact U))|exact AE.nil _ _ _ _|(apply Zx;exact U)|(apply Z1;exact U)|(apply Zz;exact U;exact U;decide +kernel;exact U)|(apply ZA;exact U)|(apply Ym;exact U)|exact AO.nil _ _ _|(apply Zr;(decide +kernel))|(apply ZU;(iterate 3 exact U))|exact AOs.nil|exact ZF rfl rfl|exact YK rfl rfl|(apply Zu Za;(iterate 6 exact U);(first|exact Qt|rotate_left);(first|with_reducible assumption|decide +kernel|exact U);(first|exact Zk rfl|with_reducible assumption|decide +kernel|rotate_left)))
 all_goals exact Qe
theorem Sv (y:It):Fit (eZ y):=by
 unfold eZ
 cases h:(ZS y).2 with
 | false=>exact(⟨by decide,by decide⟩:Fit Yi)
 | true=>
  cases he:ZQ (ZS y).1 with
  | true=>exact UN he
  | false=>exact absurd (Du (x:=y) (fun _=>rfl) he) (by rw[h];simp)
theorem Tq [Known](z:It)(hw:wfI z)(hb:∀ y ∈ z.l,∀ x ∈ y.l,x.b.length<=1099511627000):AP Tryz.prog 70 [itD z] (.tup [.agg (iC (YF z).1 (YF z).2.1 (YF z).2.2.1),.bool (YF z).2.2.2]) []:=by
 rw[<- BJ]
 have hSame:=fun(x:EidV) (t q:Nat) (h:Yv x t q=true)=>VC (Yw x t q) (KW h) z hw
 obtain⟨zk,zn,zb,zl⟩:=z
 have hlen:=Zw zl
 obtain⟨_,_,_,hws⟩:=hw
 dsimp only[It.l]at hb
 have hno:JM (.mk zk zn zb zl)=(Yi,0,0,false)->AP Tryz.prog 70 [itD (.mk zk zn zb zl)] (.tup [.agg [.bool false,.int .u64 0,.int .u64 0,.str [],.str [],.int .u64 0,.int .u64 0],.bool false]) []->AP Tryz.prog 70 [itD (.mk zk zn zb zl)] (.tup [.agg (iC (JM (.mk zk zn zb zl)).1 (JM (.mk zk zn zb zl)).2.1 (JM (.mk zk zn zb zl)).2.2.1),.bool (JM (.mk zk zn zb zl)).2.2.2]) []:=fun e h=>by rw[e];exact h
 cases t1:(zk != 4) with
 | true=>
  refine hno ?_ (Fu zk zn zb zl t1)
  have:(zk==4)=false:=by rw[bne]at t1;simpa using t1
  unfold JM
  split
  ·rename_i heq
   injection heq with e1
   rw[<- e1,this]
   rfl
  ·rfl
 | false=>
 have e4:(zk==4)=true:=by rw[bne]at t1;simpa using t1
 by_cases h2:zl.length=2
 case neg=>
  refine hno ?_ (Fv zk zn zb zl t1 (by rw[hlen];simp;omega))
  unfold JM
  split
  ·rename_i heq
   injection heq with _ _ _ e1
   rw[e1]at h2
   exact absurd rfl h2
  ·rfl
 case pos=>
 obtain⟨⟨yk,yn,yb,yl⟩,⟨ck,cn,cb,cl⟩,rfl⟩:∃ y c,zl=[y,c]:=by
  match zl,h2 with
  | [y,c],_=>exact⟨y,c,rfl⟩
 have hlc:=Zw cl
 by_cases h3:cl.length=2
 case neg=>
  refine hno ?_ (Fw zk zn zb yk yn yb yl ck cn cb cl t1 (by rw[hlc];simp;omega))
  unfold JM
  split
  ·rename_i heq
   injection heq with _ _ _ e1
   injection e1 with _ e1
   injection e1 with e1 _
   injection e1 with _ _ _ e1
   rw[e1]at h3
   exact absurd rfl h3
  ·rfl
 case pos=>
 obtain⟨⟨pk,pn,pb,pl⟩,⟨rk,rn,rb,rl⟩,rfl⟩:∃ y c,cl=[y,c]:=by
  match cl,h3 with
  | [y,c],_=>exact⟨y,c,rfl⟩
 have hR:AP Tryz.prog 117 [.agg (itC yk yn yb yl)] (.tup [.agg (eC (eZ (.mk yk yn yb yl))),.bool (ZS (.mk yk yn yb yl)).2]) []:=X7 (.mk yk yn yb yl) hws.1 (fun x hx=>hb (.mk yk yn yb yl) (by simp) x hx)
 have hf:=Sv (.mk yk yn yb yl)
 unfold JM
 dsimp only[It.n]
 rw[e4]
 generalize eZ (.mk yk yn yb yl)=x at *
 generalize (ZS (.mk yk yn yb yl)).2=ok at *
 have hI:=JD x pn rn hf
 have hW:=fun h=>K6 x pn rn h
 have hM:=fun h=>hSame x pn rn h
 clear hSame hb hno hws hf
 generalize Yw x pn rn=w at *
 generalize Yv x pn rn=ri at *
 obtain⟨wk,wn,wb,wl⟩:=w
 obtain⟨xi,xn,xs,xh,xd⟩:=x
 cases ok with
 | false=>exact Fx zk zn zb yk yn yb yl ck cn cb pk pn pb pl rk rn rb rl xi xn xs xh xd t1 hR
 | true=>
 cases ri with
 | false=>exact Fy zk zn zb yk yn yb yl ck cn cb pk pn pb pl rk rn rb rl xi xn xs xh xd t1 hR hI
 | true=>
 replace hW:=hW rfl
 replace hM:=hM rfl
 cases hm:It.beq (.mk wk wn wb wl) (.mk zk zn zb [.mk yk yn yb yl,.mk ck cn cb [.mk pk pn pb pl,.mk rk rn rb rl]]) with
 | false=>
  rw[hm]at hM
  exact Fz zk zn zb yk yn yb yl ck cn cb pk pn pb pl rk rn rb rl xi xn xs xh xd wk wn wb wl t1 hR hI hW hM
 | true=>
  rw[hm]at hM
  exact FA zk zn zb yk yn yb yl ck cn cb pk pn pb pl rk rn rb rl xi xn xs xh xd wk wn wb wl t1 hR hI hW hM
structure RepV where
 a:Bool
 b:Bool
 c:Bool
 rs:Nat
 tm:Nat
 of:EidV
 t:Nat
 q:Nat
abbrev Y6 (r:RepV):List D:=[.bool r.a,.bool r.b,.bool r.c,.int .u64 (r.rs:Int),.int .u64 (r.tm:Int),.bool r.of.i,.int .u64 (r.of.n:Int),.int .u64 (r.of.s:Int),.str r.of.h,.str r.of.d,.int .u64 (r.t:Int),.int .u64 (r.q:Int)]
def Yj (r:RepV):Bool:=(r.a||(r.b||r.c))&&(decide ((r.rs:Int)<=255)&&(decide ((r.tm:Int)<=1099511627776)&&Yv r.of r.t r.q))
theorem Mi [Known](r:RepV):AP Tryz.prog 24 [.agg (Y6 r)] (.bool (Yj r)) []:=by
 have hI:=Xv r.of r.t r.q
 unfold Yj
 generalize Yv r.of r.t r.q=e3 at *
 obtain⟨a,b,c,rs,tm,⟨i,n,s,h,d⟩,t,q⟩:=r
 dsimp only at *
 cases t1:decide ((rs:Int)<=255)<;>cases t2:decide ((tm:Int)<=1099511627776)<;>cases a<;>cases b<;>cases c
 all_goals
  refine AP.ofA (Zl Tryz.func24 U Tryz.ntmps24 U U ?_)
  repeat'(first|(apply Zb (hI);kernel_rfl;(iterate 4 exact U))|(apply Zi Za;exact U)|(apply Zg Za;exact U)|(apply Ze;(iterate 3 exact U);(first|with_reducible assumption|decide +kernel|(solve|simp only[bn])))|(apply Zt;(iterate 3 exact U);(first|with_reducible assumption|decide +kernel|(solve|simp only[bn])))|(apply Zm;(iterate 3 exact U);(first|with_reducible assumption|decide +kernel|(solve|simp only[bn])))|(apply Zj;exact U;(first|with_reducible assumption|decide +kernel|(solve|simp only[bn]));exact U;exact U)|(apply Zh;exact U;(first|with_reducible assumption|decide +kernel|(solve|simp only[bn]));exact U;exact U))
  all_goals exact Qe
def nb (b:Bool):Nat:=if b then 1 else 0
def JN (a b c:Bool):It:=.mk 4 0 [] [.mk 0 (nb a) [] [],.mk 0 (nb b) [] [],.mk 0 (nb c) [] []]
theorem BK [Known](a b c:Bool):AP Tryz.prog 66 [.sl .ext [.bool a,.bool b,.bool c]] (itD (JN a b c)) []:=by
 have h0:=YT 0
 have h1:=YT 1
 have hL:=KV
 cases a<;>cases b<;>cases c
 all_goals
  refine AP.ofA (Zl Tryz.func66 U Tryz.ntmps66 U U ?_)
  repeat'(first|(apply Yq [] [] (hL);kernel_rfl;(iterate 10 exact U))|(apply Zb (h0);kernel_rfl;(iterate 4 exact U))|(apply Zb (h1);kernel_rfl;(iterate 4 exact U))|refine Yu 70 ?_|refine YI ?_|(apply Zi Za;exact U)|(apply Zg Za;exact U)|(apply Zp Za;exact U)|(apply Zd;exact U;(first|with_reducible assumption|decide +kernel|(solve|simp only[bn])))|(apply Zf;exact U;(first|with_reducible assumption|decide +kernel|(solve|simp only[bn])))|refine Zn Za U U U U ?_|refine Qr Za U U U U U U U U U U U U ?_|(apply ZT 5 ZB;decide +kernel;kernel_rfl;kernel_rfl;exact U;exact U)|(apply Z4;(iterate 3 exact U))|refine AD.nil _|exact Yx rfl|exact SO rfl rfl rfl rfl|(apply ZR Za;(iterate 6 exact U);(first|with_reducible assumption|decide +kernel|exact U|rotate_left);exact U;exact U;(first|exact Zk rfl|with_reducible assumption|decide +kernel|rotate_left);(first|exact Zk rfl|with_reducible assumption|decide +kernel|rotate_left);(first|exact Qt|rotate_left);(first|exact Qt|rotate_left);(first|exact Qt|rotate_left);exact U;exact U)|(apply Ws Za;(iterate 6 exact U);(first|exact Zk rfl|with_reducible assumption|decide +kernel|rotate_left);(first|exact Qt|rotate_left);(first|exact Qt|rotate_left);(first|exact Qt|rotate_left);(iterate 3 exact U))|(apply Zu Za;(iterate 6 exact U);(first|exact Qt|rotate_left);(first|with_reducible assumption|decide +kernel|exact U);(first|exact Zk rfl|with_reducible assumption|decide +kernel|rotate_left)))
  all_goals exact Qe
def Ya (r:RepV):It:=.mk 4 0 [] [.mk 0 1 [] [],.mk 4 0 [] [JN r.a r.b r.c,.mk 0 r.rs [] [],.mk 0 r.tm [] [],Yw r.of r.t r.q]]
def Wl (r:RepV):List UInt8 × Int:=match Yj r with
 | true=>(ZI (Ya r),0)
 | false=>([],3)
theorem Um {r:RepV}(h:Yj r=true):r.rs<=255/\r.tm<=1099511627776/\Yv r.of r.t r.q=true:=by
 unfold Yj at h
 simp only[Bool.and_eq_true,decide_eq_true_eq]at h
 obtain⟨_,h1,h2,h3⟩:=h
 exact⟨by omega,by omega,h3⟩
theorem L5 (b:Bool):nb b<=1:=by cases b<;>decide
theorem BL (a b c:Bool):wfI (JN a b c):=by
 have h1:=L5 a
 have h2:=L5 b
 have h3:=L5 c
 unfold JN
 simp[wfI,wfs]
 omega
theorem Ii {r:RepV}(h:Yj r=true):wfs [JN r.a r.b r.c,.mk 0 r.rs [] [],.mk 0 r.tm [] [],Yw r.of r.t r.q]:=by
 obtain⟨h1,h2,h3⟩:=Um h
 have hn:=KW h3
 have hy:=BL r.a r.b r.c
 refine⟨hy,?_,?_,hn,trivial⟩
 ·simp[wfI,wfs];omega
 ·simp[wfI,wfs];omega
theorem UW {r:RepV}(h:Yj r=true):wfI (Ya r):=
 ⟨by decide,by simp,by simp,⟨⟨by decide,by simp,by simp,trivial⟩,⟨by decide,by simp,by simp,Ii h⟩,trivial⟩⟩
theorem VS {r:RepV}(h:Yj r=true):ZC (Ya r)=true:=by
 obtain⟨h1,h2,h3⟩:=Um h
 obtain⟨i1,_,_⟩:=YG.1 h3
 have hr:=VQ i1
 have f1:Yz (ZY r.of)=true:=by
  rw[YY]at hr
  simp only[Bool.and_eq_true]at hr
  exact hr.2.2
 have e1:YU (ZY r.of) 3=true/\YD (ZY r.of)<=5:=by
  unfold ZY
  repeat' split
  all_goals simp[YU,YN,YD,Yg]
 obtain⟨d1,s1⟩:=e1
 rw[YY]
 simp only[Bool.and_eq_true,decide_eq_true_eq]
 refine⟨?_,?_,?_⟩
 ·simp[Ya,Yw,JN,YU,YN,d1]
 ·simp[Ya,Yw,JN,YD,Yg];omega
 ·simp[Ya,Yw,JN,Yz,Y9,Wp,f1]
theorem Tr {x:EidV}(h:ZQ x=true):(ZI (ZY x)).length<=80:=by
 unfold ZY
 repeat' split
 ·exact Nat.le_trans (Ut 1 0) (by decide)
 ·have h0:=Yn 4 0 [] [.mk 0 2 [] [],IU x.n x.s]
  have h1:=Yp 2
  have h2:=Ut x.n x.s
  simp only[ZO,List.length_append,List.length_nil,Nat.add_zero,Nat.zero_add]at h0
  exact Nat.le_trans h0 (by omega)
 ·have h0:=Yn 4 0 [] [.mk 0 1 [] [],.mk 3 0 (We x) []]
  have h1:=Yp 1
  have h2:=Yn 3 0 (We x) []
  rename_i hz hi
  have h3:(We x).length<=43:=by
   have ht:=Wf h (by simpa using hz) (by simpa using hi)
   simp only[We,List.length_append,List.length_cons,List.length_nil]
   omega
  simp only[ZO,List.length_append,List.length_nil,Nat.add_zero,Nat.zero_add]at h0 h2
  exact Nat.le_trans h0 (by omega)
theorem Ua {r:RepV}(h:Yj r=true):(ZI (Ya r)).length<=200:=by
 obtain⟨h1,h2,h3⟩:=Um h
 obtain⟨i1,_,_⟩:=YG.1 h3
 have n4:=Tr i1
 have n1:=Yp 1
 have n2:=Yp r.rs
 have n3:=Yp r.tm
 have n5:=Yp (nb r.a)
 have n6:=Yp (nb r.b)
 have n7:=Yp (nb r.c)
 have n8:=Ut r.t r.q
 have p1:=Yn 4 0 [] [.mk 0 (nb r.a) [] [],.mk 0 (nb r.b) [] [],.mk 0 (nb r.c) [] []]
 have p2:=Yn 4 0 [] [ZY r.of,IU r.t r.q]
 have p3:=Yn 4 0 [] [JN r.a r.b r.c,.mk 0 r.rs [] [],.mk 0 r.tm [] [],Yw r.of r.t r.q]
 have p4:=Yn 4 0 [] [.mk 0 1 [] [],.mk 4 0 [] [JN r.a r.b r.c,.mk 0 r.rs [] [],.mk 0 r.tm [] [],Yw r.of r.t r.q]]
 have e1:JN r.a r.b r.c=.mk 4 0 [] [.mk 0 (nb r.a) [] [],.mk 0 (nb r.b) [] [],.mk 0 (nb r.c) [] []]:=rfl
 have e2:Yw r.of r.t r.q=.mk 4 0 [] [ZY r.of,IU r.t r.q]:=rfl
 rw[<- e1]at p1
 rw[<- e2]at p2
 have e3:Ya r=.mk 4 0 [] [.mk 0 1 [] [],.mk 4 0 [] [JN r.a r.b r.c,.mk 0 r.rs [] [],.mk 0 r.tm [] [],Yw r.of r.t r.q]]:=rfl
 rw[<- e3]at p4
 simp only[ZO,List.length_append,List.length_nil,Nat.add_zero,Nat.zero_add]at p1 p2 p3 p4
 omega
theorem Jh [Known][KnownU8](r:RepV):AP Tryz.prog 21 [.agg (Y6 r)] (.tup [byE (Wl r).1,.int .i64 (Wl r).2]) []:=by
 have hI:=XD r.of r.t r.q
 have hR:=Mi r
 unfold Wl
 cases hr:Yj r with
 | false=>
  rw[hr]at hR
  obtain⟨a,b,c,rs,tm,⟨i,n,s,h,d⟩,t,q⟩:=r
  dsimp only at *
  cases hi:Yv ⟨i,n,s,h,d⟩ t q with
  | false=>
   rw[hi,if_neg (by simp),if_neg (by simp)]at hI
   refine AP.ofA (Zl Tryz.func21 U Tryz.ntmps21 U U ?_)
   repeat'(first|(apply Zb (hI);kernel_rfl;(iterate 4 exact U))|(apply Zi Za;exact U)|(apply Zg Za;exact U)|(apply Zp Za;exact U)|(apply Zm;(iterate 3 exact U);(first|with_reducible assumption|decide +kernel|(solve|simp only[bn])))|(apply Zj;exact U;(first|with_reducible assumption|decide +kernel|(solve|simp only[bn]));exact U;exact U)|(apply Zd;exact U;(first|with_reducible assumption|decide +kernel|(solve|simp only[bn]))))
   all_goals exact Qe
  | true=>
   rw[hi,if_pos rfl,if_pos rfl]at hI
   unfold Yw at hI
   refine AP.ofA (Zl Tryz.func21 U Tryz.ntmps21 U U ?_)
   repeat'(first|(apply Zb (hR);kernel_rfl;(iterate 4 exact U))|(apply Zb (hI);kernel_rfl;(iterate 4 exact U))|(apply Zi Za;exact U)|(apply Zg Za;exact U)|(apply Zp Za;exact U)|(apply Ze;(iterate 3 exact U);(first|with_reducible assumption|decide +kernel|(solve|simp only[bn])))|(apply Zh;exact U;(first|with_reducible assumption|decide +kernel|(solve|simp only[bn]));exact U;exact U)|(apply Zd;exact U;(first|with_reducible assumption|decide +kernel|(solve|simp only[bn]))))
   all_goals exact Qe
 | true=>
  rw[hr]at hR
  have hps:=Ii hr
  have hW:=Ka (Ya r) (UW hr) (by have:=Ua hr;omega) (VS hr)
  obtain⟨h1,h2,h3⟩:=Um hr
  rw[h3,if_pos rfl,if_pos rfl]at hI
  have hn1:=YT 1
  have hn2:=YT r.rs
  have hn3:=YT r.tm
  have hY:=BK r.a r.b r.c
  have hL1:=VG [JN r.a r.b r.c,.mk 0 r.rs [] [],.mk 0 r.tm [] [],Yw r.of r.t r.q] (by simp) hps
  have hL2:=VG [.mk 0 1 [] [],.mk 4 0 [] [JN r.a r.b r.c,.mk 0 r.rs [] [],.mk 0 r.tm [] [],Yw r.of r.t r.q]] (by simp) ⟨⟨by decide,by simp,by simp,trivial⟩,⟨by decide,by simp,by simp,hps⟩,trivial⟩
  dsimp only
  unfold Ya at hW ⊢
  unfold Yw at *
  obtain⟨a,b,c,rs,tm,⟨i,n,s,h,d⟩,t,q⟩:=r
  dsimp only at *
  generalize ZI _=PB at *
  generalize ZY ⟨i,n,s,h,d⟩=I1 at *
  obtain⟨ak,an,ab,al⟩:=I1
  refine AP.ofA (Zl Tryz.func21 U Tryz.ntmps21 U U ?_)
  repeat'(first|(apply Zb (hR);kernel_rfl;(iterate 4 exact U))|(apply Zb (hI);kernel_rfl;(iterate 4 exact U))|(apply Zb (hn1);kernel_rfl;(iterate 4 exact U))|(apply Zb (hn2);kernel_rfl;(iterate 4 exact U))|(apply Zb (hn3);kernel_rfl;(iterate 4 exact U))|(apply Zb (hY);kernel_rfl;(iterate 4 exact U))|(apply Zb (hL1);kernel_rfl;(iterate 4 exact U))|(apply Zb (hL2);kernel_rfl;(iterate 4 exact U))|(apply Zb (hW);kernel_rfl;(iterate 4 exact U))|(apply Zi Za;exact U)|(apply Zg Za;exact U)|(apply Zp Za;exact U)|(apply Ze;(iterate 3 exact U);(first|with_reducible assumption|decide +kernel|(solve|simp only[bn])))|(apply Zh;exact U;(first|with_reducible assumption|decide +kernel|(solve|simp only[bn]));exact U;exact U)|(apply Zf;exact U;(first|with_reducible assumption|decide +kernel|(solve|simp only[bn])))|refine ZM Za U U U U U U U U U U U U ?_|(apply Zo 23 ZB;decide +kernel;kernel_rfl;kernel_rfl;kernel_rfl;exact U;exact U)|(apply Zs;(iterate 4 exact U))|exact AE.nil _ _ _ _|(apply Zx;exact U)|(apply Zz;exact U;exact U;decide +kernel;exact U)|(apply ZA;exact U)|exact AO.nil _ _ _|(apply Zr;(decide +kernel))|exact AOs.nil|exact ZF rfl rfl|exact WH rfl rfl rfl rfl rfl)
  all_goals exact Qe
end Go.Proofs.YtmljabhmajehnaaGreatDoor
end
