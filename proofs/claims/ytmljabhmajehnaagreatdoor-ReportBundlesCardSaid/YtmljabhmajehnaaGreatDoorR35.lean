/- The document's reports: read, by cases (rwgen.py). -/
import Derived.Test.YtmljabhmajehnaaGreatDoorR34
import Derived.Test.YtmljabhmajehnaaGreatDoorR31
import Derived.Test.YtmljabhmajehnaaGreatDoorR28
import Derived.Test.YtmljabhmajehnaaGreatDoorR13
import Derived.Test.YtmljabhmajehnaaGreatDoorR30
set_option linter.unusedVariables false
set_option linter.unusedSimpArgs false
section
open Go.RowKit Go.Pl Go.Av
namespace Go.Proofs.YtmljabhmajehnaaGreatDoor
set_option maxHeartbeats 4000000
theorem DI [Known](d:List UInt8)(xk:Int)(xn:Nat)(xb xl:List E)
  (hI:AP Tryz.prog 69 [byE d] (.tup [.agg [.int .i64 xk,.int .u64 (xn:Int),.sl .ext xb,.sl .ext xl],.bool false]) []) :
  AP Tryz.prog 23 [byE d] (.tup [.agg [.bool false,.bool false,.bool false,.int .u64 0,.int .u64 0,.bool false,.int .u64 0,.int .u64 0,.str [],.str [],.int .u64 0,.int .u64 0],.bool false]) []:=by
 refine AP.ofA (Zl Tryz.func23 U Tryz.ntmps23 U U ?_)
 repeat'(first|(apply Zb (hI);kernel_rfl;(iterate 4 exact U))|(apply Zi Za;exact U)|(apply Zg Za;exact U)|(apply Zp Za;exact U)|(apply Zm;(iterate 3 exact U);(first|with_reducible assumption|decide +kernel|(solve|simp only[bn])))|(apply Zj;exact U;(first|with_reducible assumption|decide +kernel|(solve|simp only[bn]));exact U;exact U)|(apply Zd;exact U;(first|with_reducible assumption|decide +kernel|(solve|simp only[bn]))))
 all_goals exact Qe
theorem DJ [Known](d:List UInt8)(xk:Int)(xn:Nat)(xb xl:List E)
  (hI:AP Tryz.prog 69 [byE d] (.tup [.agg [.int .i64 xk,.int .u64 (xn:Int),.sl .ext xb,.sl .ext xl],.bool true]) [])
  (t2:((xl.length:Int) != 2)=true) :
  AP Tryz.prog 23 [byE d] (.tup [.agg [.bool false,.bool false,.bool false,.int .u64 0,.int .u64 0,.bool false,.int .u64 0,.int .u64 0,.str [],.str [],.int .u64 0,.int .u64 0],.bool false]) []:=by
 refine AP.ofA (Zl Tryz.func23 U Tryz.ntmps23 U U ?_)
 repeat'(first|(apply Zb (hI);kernel_rfl;(iterate 4 exact U))|(apply Zi Za;exact U)|(apply Zg Za;exact U)|(apply Zp Za;exact U)|(apply Ze;(iterate 3 exact U);(first|with_reducible assumption|decide +kernel|(solve|simp only[bn])))|(apply Zm;(iterate 3 exact U);(first|with_reducible assumption|decide +kernel|(solve|simp only[bn])))|(apply Zj;exact U;(first|with_reducible assumption|decide +kernel|(solve|simp only[bn]));exact U;exact U)|(apply Zh;exact U;(first|with_reducible assumption|decide +kernel|(solve|simp only[bn]));exact U;exact U)|(apply Zd;exact U;(first|with_reducible assumption|decide +kernel|(solve|simp only[bn])))|refine Zn Za U U U U ?_)
 all_goals exact Qe
theorem DK [Known](d:List UInt8)(xk uk:Int)(xn un:Nat)(xb xl ub ul:List E)
  (hI:AP Tryz.prog 69 [byE d] (.tup [.agg [.int .i64 xk,.int .u64 (xn:Int),.sl .ext xb,.sl .ext xl],.bool true]) [])
  (hU:Uni 4 xl) (t2:((xl.length:Int) != 2)=false)
  (hv1:xl[(1:Int).toNat]?=some (.agg [.int .i64 uk,.int .u64 (un:Int),.sl ub,.sl ul]))
  (t4:((ul.length:Int) != 4)=true) :
  AP Tryz.prog 23 [byE d] (.tup [.agg [.bool false,.bool false,.bool false,.int .u64 0,.int .u64 0,.bool false,.int .u64 0,.int .u64 0,.str [],.str [],.int .u64 0,.int .u64 0],.bool false]) []:=by
 refine AP.ofA (Zl Tryz.func23 U Tryz.ntmps23 U U ?_)
 repeat'(first|(apply Zb (hI);kernel_rfl;(iterate 4 exact U))|(apply Zi Za;exact U)|(apply Zg Za;exact U)|(apply Zp Za;exact U)|(apply Ze;(iterate 3 exact U);(first|with_reducible assumption|decide +kernel|(solve|simp only[bn])))|(apply Zm;(iterate 3 exact U);(first|with_reducible assumption|decide +kernel|(solve|simp only[bn])))|(apply Zj;exact U;(first|with_reducible assumption|decide +kernel|(solve|simp only[bn]));exact U;exact U)|(apply Zh;exact U;(first|with_reducible assumption|decide +kernel|(solve|simp only[bn]));exact U;exact U)|(apply Zd;exact U;(first|with_reducible assumption|decide +kernel|(solve|simp only[bn])))|refine Zn Za U U U U ?_|(apply Zu Za;(iterate 6 exact U);(first|exact Qt|rotate_left);(first|with_reducible assumption|decide +kernel|exact U);(first|exact Zk rfl|with_reducible assumption|decide +kernel|rotate_left)))
 all_goals exact Qe
theorem DL [Known](d:List UInt8)(xk uk vk:Int)(xn un vn:Nat)(xb xl ub ul vb vl:List E)
  (hI:AP Tryz.prog 69 [byE d] (.tup [.agg [.int .i64 xk,.int .u64 (xn:Int),.sl .ext xb,.sl .ext xl],.bool true]) [])
  (hU:Uni 4 xl) (t2:((xl.length:Int) != 2)=false)
  (hv1:xl[(1:Int).toNat]?=some (.agg [.int .i64 uk,.int .u64 (un:Int),.sl ub,.sl ul]))
  (hU1:Uni 4 ul) (t4:((ul.length:Int) != 4)=false)
  (hv2:ul[(0:Int).toNat]?=some (.agg [.int .i64 vk,.int .u64 (vn:Int),.sl vb,.sl vl]))
  (t3:((vl.length:Int) != 3)=true) :
  AP Tryz.prog 23 [byE d] (.tup [.agg [.bool false,.bool false,.bool false,.int .u64 0,.int .u64 0,.bool false,.int .u64 0,.int .u64 0,.str [],.str [],.int .u64 0,.int .u64 0],.bool false]) []:=by
 refine AP.ofA (Zl Tryz.func23 U Tryz.ntmps23 U U ?_)
 repeat'(first|(apply Zb (hI);kernel_rfl;(iterate 4 exact U))|(apply Zi Za;exact U)|(apply Zg Za;exact U)|(apply Zp Za;exact U)|(apply Ze;(iterate 3 exact U);(first|with_reducible assumption|decide +kernel|(solve|simp only[bn])))|(apply Zh;exact U;(first|with_reducible assumption|decide +kernel|(solve|simp only[bn]));exact U;exact U)|(apply Zd;exact U;(first|with_reducible assumption|decide +kernel|(solve|simp only[bn])))|refine Zn Za U U U U ?_|(apply Zu Za;(iterate 6 exact U);(first|exact Qt|rotate_left);(first|with_reducible assumption|decide +kernel|exact U);(first|exact Zk rfl|with_reducible assumption|decide +kernel|rotate_left)))
 all_goals exact Qe
theorem DM [Known](d:List UInt8)(xk uk vk rk sk yk ak bk ck:Int)(xn un vn rn sn yn an bn cn:Nat)(xb xl ub ul vb vl rb rl sb sl yb yl ab al bb bl cb cl:List E)(ji:Bool)(jn js:Nat)(jh jd:List UInt8)(jt jq:Nat)
  (hI:AP Tryz.prog 69 [byE d] (.tup [.agg [.int .i64 xk,.int .u64 (xn:Int),.sl .ext xb,.sl .ext xl],.bool true]) [])
  (hU:Uni 4 xl) (t2:((xl.length:Int) != 2)=false)
  (hv1:xl[(1:Int).toNat]?=some (.agg [.int .i64 uk,.int .u64 (un:Int),.sl ub,.sl ul]))
  (hU1:Uni 4 ul) (t4:((ul.length:Int) != 4)=false)
  (hv2:ul[(0:Int).toNat]?=some (.agg [.int .i64 vk,.int .u64 (vn:Int),.sl vb,.sl vl]))
  (hU2:Uni 4 vl) (t3:((vl.length:Int) != 3)=false)
  (hw1:ul[(1:Int).toNat]?=some (.agg [.int .i64 rk,.int .u64 (rn:Int),.sl rb,.sl rl])) (hw2:ul[(2:Int).toNat]?=some (.agg [.int .i64 sk,.int .u64 (sn:Int),.sl sb,.sl sl])) (hw3:ul[(3:Int).toNat]?=some (.agg [.int .i64 yk,.int .u64 (yn:Int),.sl yb,.sl yl]))
  (ha:vl[(0:Int).toNat]?=some (.agg [.int .i64 ak,.int .u64 (an:Int),.sl ab,.sl al])) (hb:vl[(1:Int).toNat]?=some (.agg [.int .i64 bk,.int .u64 (bn:Int),.sl bb,.sl bl])) (hc:vl[(2:Int).toNat]?=some (.agg [.int .i64 ck,.int .u64 (cn:Int),.sl cb,.sl cl]))
  (hD:AP Tryz.prog 70 [.agg [.int .i64 yk,.int .u64 (yn:Int),.sl .ext yb,.sl .ext yl]] (.tup [.agg [.bool ji,.int .u64 (jn:Int),.int .u64 (js:Int),.str jh,.str jd,.int .u64 (jt:Int),.int .u64 (jq:Int)],.bool false]) []) :
  AP Tryz.prog 23 [byE d] (.tup [.agg [.bool false,.bool false,.bool false,.int .u64 0,.int .u64 0,.bool false,.int .u64 0,.int .u64 0,.str [],.str [],.int .u64 0,.int .u64 0],.bool false]) []:=by
 refine AP.ofA (Zl Tryz.func23 U Tryz.ntmps23 U U ?_)
 repeat'(first|(apply Zb (hI);kernel_rfl;(iterate 4 exact U))|(apply Zb (hD);kernel_rfl;(iterate 4 exact U))|(apply Zi Za;exact U)|(apply Zg Za;exact U)|(apply Zp Za;exact U)|(apply Ze;(iterate 3 exact U);(first|with_reducible assumption|decide +kernel|(solve|simp only[bn])))|(apply Zm;(iterate 3 exact U);(first|with_reducible assumption|decide +kernel|(solve|simp only[bn])))|(apply Zj;exact U;(first|with_reducible assumption|decide +kernel|(solve|simp only[bn]));exact U;exact U)|(apply Zh;exact U;(first|with_reducible assumption|decide +kernel|(solve|simp only[bn]));exact U;exact U)|(apply Zd;exact U;(first|with_reducible assumption|decide +kernel|(solve|simp only[bn])))|(apply Zf;exact U;(first|with_reducible assumption|decide +kernel|(solve|simp only[bn])))|refine Zn Za U U U U ?_|(apply Zo 11 ZB;decide +kernel;kernel_rfl;kernel_rfl;kernel_rfl;exact U;exact U)|(apply Zo 35 ZB;decide +kernel;kernel_rfl;kernel_rfl;kernel_rfl;exact U;exact U)|(apply Zs;(iterate 4 exact U))|exact AE.nil _ _ _ _|(apply Zx;exact U)|(apply Z1;exact U)|(apply Zz;exact U;exact U;decide +kernel;exact U)|(apply ZA;exact U)|(apply Ym;exact U)|exact AO.nil _ _ _|(apply Zr;(decide +kernel))|(apply ZU;(iterate 3 exact U))|exact AOs.nil|exact ZF rfl rfl|exact YK rfl rfl|(apply Zu Za;(iterate 6 exact U);(first|exact Qt|rotate_left);(first|with_reducible assumption|decide +kernel|exact U);(first|exact Zk rfl|with_reducible assumption|decide +kernel|rotate_left)))
 all_goals exact Qe
theorem DN [Known](d:List UInt8)(xk uk vk rk sk yk ak bk ck:Int)(xn un vn rn sn yn an bn cn:Nat)(xb xl ub ul vb vl rb rl sb sl yb yl ab al bb bl cb cl:List E)(ji:Bool)(jn js:Nat)(jh jd:List UInt8)(jt jq:Nat)
  (hI:AP Tryz.prog 69 [byE d] (.tup [.agg [.int .i64 xk,.int .u64 (xn:Int),.sl .ext xb,.sl .ext xl],.bool true]) [])
  (hU:Uni 4 xl) (t2:((xl.length:Int) != 2)=false)
  (hv1:xl[(1:Int).toNat]?=some (.agg [.int .i64 uk,.int .u64 (un:Int),.sl ub,.sl ul]))
  (hU1:Uni 4 ul) (t4:((ul.length:Int) != 4)=false)
  (hv2:ul[(0:Int).toNat]?=some (.agg [.int .i64 vk,.int .u64 (vn:Int),.sl vb,.sl vl]))
  (hU2:Uni 4 vl) (t3:((vl.length:Int) != 3)=false)
  (hw1:ul[(1:Int).toNat]?=some (.agg [.int .i64 rk,.int .u64 (rn:Int),.sl rb,.sl rl])) (hw2:ul[(2:Int).toNat]?=some (.agg [.int .i64 sk,.int .u64 (sn:Int),.sl sb,.sl sl])) (hw3:ul[(3:Int).toNat]?=some (.agg [.int .i64 yk,.int .u64 (yn:Int),.sl yb,.sl yl]))
  (ha:vl[(0:Int).toNat]?=some (.agg [.int .i64 ak,.int .u64 (an:Int),.sl ab,.sl al])) (hb:vl[(1:Int).toNat]?=some (.agg [.int .i64 bk,.int .u64 (bn:Int),.sl bb,.sl bl])) (hc:vl[(2:Int).toNat]?=some (.agg [.int .i64 ck,.int .u64 (cn:Int),.sl cb,.sl cl]))
  (hD:AP Tryz.prog 70 [.agg [.int .i64 yk,.int .u64 (yn:Int),.sl .ext yb,.sl .ext yl]] (.tup [.agg [.bool ji,.int .u64 (jn:Int),.int .u64 (js:Int),.str jh,.str jd,.int .u64 (jt:Int),.int .u64 (jq:Int)],.bool true]) [])
  (hR:AP Tryz.prog 25 [.agg [.bool ((an:Int)==1),.bool ((bn:Int)==1),.bool ((cn:Int)==1),.int .u64 (rn:Int),.int .u64 (sn:Int),.bool ji,.int .u64 (jn:Int),.int .u64 (js:Int),.str jh,.str jd,.int .u64 (jt:Int),.int .u64 (jq:Int)]] (.bool false) []) :
  AP Tryz.prog 23 [byE d] (.tup [.agg [.bool false,.bool false,.bool false,.int .u64 0,.int .u64 0,.bool false,.int .u64 0,.int .u64 0,.str [],.str [],.int .u64 0,.int .u64 0],.bool false]) []:=by
 refine AP.ofA (Zl Tryz.func23 U Tryz.ntmps23 U U ?_)
 repeat'(first|(apply Zb (hI);kernel_rfl;(iterate 4 exact U))|(apply Zb (hD);kernel_rfl;(iterate 4 exact U))|(apply Zb (hR);kernel_rfl;(iterate 4 exact U))|(apply Zi Za;exact U)|(apply Zg Za;exact U)|(apply Zp Za;exact U)|(apply Ze;(iterate 3 exact U);(first|with_reducible assumption|decide +kernel|(solve|simp only[bn])))|(apply Zm;(iterate 3 exact U);(first|with_reducible assumption|decide +kernel|(solve|simp only[bn])))|(apply Zj;exact U;(first|with_reducible assumption|decide +kernel|(solve|simp only[bn]));exact U;exact U)|(apply Zh;exact U;(first|with_reducible assumption|decide +kernel|(solve|simp only[bn]));exact U;exact U)|(apply Zd;exact U;(first|with_reducible assumption|decide +kernel|(solve|simp only[bn])))|(apply Zf;exact U;(first|with_reducible assumption|decide +kernel|(solve|simp only[bn])))|refine Zn Za U U U U ?_|(apply Zo 11 ZB;decide +kernel;kernel_rfl;kernel_rfl;kernel_rfl;exact U;exact U)|(apply Zo 35 ZB;decide +kernel;kernel_rfl;kernel_rfl;kernel_rfl;exact U;exact U)|(apply Zs;(iterate 4 exact U))|exact AE.nil _ _ _ _|(apply Zx;exact U)|(apply Z1;exact U)|(apply Zz;exact U;exact U;decide +kernel;exact U)|(apply ZA;exact U)|(apply Ym;exact U)|exact AO.nil _ _ _|(apply Zr;(decide +kernel))|(apply ZU;(iterate 3 exact U))|exact AOs.nil|exact ZF rfl rfl|exact YK rfl rfl|(apply Zu Za;(iterate 6 exact U);(first|exact Qt|rotate_left);(first|with_reducible assumption|decide +kernel|exact U);(first|exact Zk rfl|with_reducible assumption|decide +kernel|rotate_left)))
 all_goals exact Qe
theorem DO [Known](d:List UInt8)(xk uk vk rk sk yk ak bk ck:Int)(xn un vn rn sn yn an bn cn:Nat)(xb xl ub ul vb vl rb rl sb sl yb yl ab al bb bl cb cl:List E)(ji:Bool)(jn js:Nat)(jh jd:List UInt8)(jt jq:Nat)(wk:Int)(wn:Nat)(wb wl:List E)
  (hI:AP Tryz.prog 69 [byE d] (.tup [.agg [.int .i64 xk,.int .u64 (xn:Int),.sl .ext xb,.sl .ext xl],.bool true]) [])
  (hU:Uni 4 xl) (t2:((xl.length:Int) != 2)=false)
  (hv1:xl[(1:Int).toNat]?=some (.agg [.int .i64 uk,.int .u64 (un:Int),.sl ub,.sl ul]))
  (hU1:Uni 4 ul) (t4:((ul.length:Int) != 4)=false)
  (hv2:ul[(0:Int).toNat]?=some (.agg [.int .i64 vk,.int .u64 (vn:Int),.sl vb,.sl vl]))
  (hU2:Uni 4 vl) (t3:((vl.length:Int) != 3)=false)
  (hw1:ul[(1:Int).toNat]?=some (.agg [.int .i64 rk,.int .u64 (rn:Int),.sl rb,.sl rl])) (hw2:ul[(2:Int).toNat]?=some (.agg [.int .i64 sk,.int .u64 (sn:Int),.sl sb,.sl sl])) (hw3:ul[(3:Int).toNat]?=some (.agg [.int .i64 yk,.int .u64 (yn:Int),.sl yb,.sl yl]))
  (ha:vl[(0:Int).toNat]?=some (.agg [.int .i64 ak,.int .u64 (an:Int),.sl ab,.sl al])) (hb:vl[(1:Int).toNat]?=some (.agg [.int .i64 bk,.int .u64 (bn:Int),.sl bb,.sl bl])) (hc:vl[(2:Int).toNat]?=some (.agg [.int .i64 ck,.int .u64 (cn:Int),.sl cb,.sl cl]))
  (hD:AP Tryz.prog 70 [.agg [.int .i64 yk,.int .u64 (yn:Int),.sl .ext yb,.sl .ext yl]] (.tup [.agg [.bool ji,.int .u64 (jn:Int),.int .u64 (js:Int),.str jh,.str jd,.int .u64 (jt:Int),.int .u64 (jq:Int)],.bool true]) [])
  (hR:AP Tryz.prog 25 [.agg [.bool ((an:Int)==1),.bool ((bn:Int)==1),.bool ((cn:Int)==1),.int .u64 (rn:Int),.int .u64 (sn:Int),.bool ji,.int .u64 (jn:Int),.int .u64 (js:Int),.str jh,.str jd,.int .u64 (jt:Int),.int .u64 (jq:Int)]] (.bool true) [])
  (hT:AP Tryz.prog 72 [.agg [.bool ((an:Int)==1),.bool ((bn:Int)==1),.bool ((cn:Int)==1),.int .u64 (rn:Int),.int .u64 (sn:Int),.bool ji,.int .u64 (jn:Int),.int .u64 (js:Int),.str jh,.str jd,.int .u64 (jt:Int),.int .u64 (jq:Int)]] (.agg [.int .i64 wk,.int .u64 (wn:Int),.sl .ext wb,.sl .ext wl]) [])
  (hM:AP Tryz.prog 71 [.agg [.int .i64 wk,.int .u64 (wn:Int),.sl .ext wb,.sl .ext wl],.agg [.int .i64 xk,.int .u64 (xn:Int),.sl .ext xb,.sl .ext xl]] (.bool false) []) :
  AP Tryz.prog 23 [byE d] (.tup [.agg [.bool false,.bool false,.bool false,.int .u64 0,.int .u64 0,.bool false,.int .u64 0,.int .u64 0,.str [],.str [],.int .u64 0,.int .u64 0],.bool false]) []:=by
 refine AP.ofA (Zl Tryz.func23 U Tryz.ntmps23 U U ?_)
 repeat'(first|(apply Zb (hI);kernel_rfl;(iterate 4 exact U))|(apply Zb (hD);kernel_rfl;(iterate 4 exact U))|(apply Zb (hR);kernel_rfl;(iterate 4 exact U))|(apply Zb (hT);kernel_rfl;(iterate 4 exact U))|(apply Zb (hM);kernel_rfl;(iterate 4 exact U))|(apply Zi Za;exact U)|(apply Zg Za;exact U)|(apply Zp Za;exact U)|(apply Ze;(iterate 3 exact U);(first|with_reducible assumption|decide +kernel|(solve|simp only[bn])))|(apply Zh;exact U;(first|with_reducible assumption|decide +kernel|(solve|simp only[bn]));exact U;exact U)|(apply Zd;exact U;(first|with_reducible assumption|decide +kernel|(solve|simp only[bn])))|(apply Zf;exact U;(first|with_reducible assumption|decide +kernel|(solve|simp only[bn])))|refine Zn Za U U U U ?_|(apply Zo 11 ZB;decide +kernel;kernel_rfl;kernel_rfl;kernel_rfl;exact U;exact U)|(apply Zo 35 ZB;decide +kernel;kernel_rfl;kernel_rfl;kernel_rfl;exact U;exact U)|(apply Zs;(iterate 4 exact U))|exact AE.nil _ _ _ _|(apply Zx;exact U)|(apply Z1;exact U)|(apply Zz;exact U;exact U;decide +kernel;exact U)|(apply ZA;exact U)|(apply Ym;exact U)|exact AO.nil _ _ _|(apply Zr;(decide +kernel))|(apply ZU;(iterate 3 exact U))|exact AOs.nil|exact ZF rfl rfl|exact YK rfl rfl|(apply Zu Za;(iterate 6 exact U);(first|exact Qt|rotate_left);(first|with_reducible assumption|decide +kernel|exact U);(first|exact Zk rfl|with_reducible assumption|decide +kernel|rotate_left)))
 all_goals exact Qe
theorem DP [Known](d:List UInt8)(xk uk vk rk sk yk ak bk ck:Int)(xn un vn rn sn yn an bn cn:Nat)(xb xl ub ul vb vl rb rl sb sl yb yl ab al bb bl cb cl:List E)(ji:Bool)(jn js:Nat)(jh jd:List UInt8)(jt jq:Nat)(wk:Int)(wn:Nat)(wb wl:List E)
  (hI:AP Tryz.prog 69 [byE d] (.tup [.agg [.int .i64 xk,.int .u64 (xn:Int),.sl .ext xb,.sl .ext xl],.bool true]) [])
  (hU:Uni 4 xl) (t2:((xl.length:Int) != 2)=false)
  (hv1:xl[(1:Int).toNat]?=some (.agg [.int .i64 uk,.int .u64 (un:Int),.sl ub,.sl ul]))
  (hU1:Uni 4 ul) (t4:((ul.length:Int) != 4)=false)
  (hv2:ul[(0:Int).toNat]?=some (.agg [.int .i64 vk,.int .u64 (vn:Int),.sl vb,.sl vl]))
  (hU2:Uni 4 vl) (t3:((vl.length:Int) != 3)=false)
  (hw1:ul[(1:Int).toNat]?=some (.agg [.int .i64 rk,.int .u64 (rn:Int),.sl rb,.sl rl])) (hw2:ul[(2:Int).toNat]?=some (.agg [.int .i64 sk,.int .u64 (sn:Int),.sl sb,.sl sl])) (hw3:ul[(3:Int).toNat]?=some (.agg [.int .i64 yk,.int .u64 (yn:Int),.sl yb,.sl yl]))
  (ha:vl[(0:Int).toNat]?=some (.agg [.int .i64 ak,.int .u64 (an:Int),.sl ab,.sl al])) (hb:vl[(1:Int).toNat]?=some (.agg [.int .i64 bk,.int .u64 (bn:Int),.sl bb,.sl bl])) (hc:vl[(2:Int).toNat]?=some (.agg [.int .i64 ck,.int .u64 (cn:Int),.sl cb,.sl cl]))
  (hD:AP Tryz.prog 70 [.agg [.int .i64 yk,.int .u64 (yn:Int),.sl .ext yb,.sl .ext yl]] (.tup [.agg [.bool ji,.int .u64 (jn:Int),.int .u64 (js:Int),.str jh,.str jd,.int .u64 (jt:Int),.int .u64 (jq:Int)],.bool true]) [])
  (hR:AP Tryz.prog 25 [.agg [.bool ((an:Int)==1),.bool ((bn:Int)==1),.bool ((cn:Int)==1),.int .u64 (rn:Int),.int .u64 (sn:Int),.bool ji,.int .u64 (jn:Int),.int .u64 (js:Int),.str jh,.str jd,.int .u64 (jt:Int),.int .u64 (jq:Int)]] (.bool true) [])
  (hT:AP Tryz.prog 72 [.agg [.bool ((an:Int)==1),.bool ((bn:Int)==1),.bool ((cn:Int)==1),.int .u64 (rn:Int),.int .u64 (sn:Int),.bool ji,.int .u64 (jn:Int),.int .u64 (js:Int),.str jh,.str jd,.int .u64 (jt:Int),.int .u64 (jq:Int)]] (.agg [.int .i64 wk,.int .u64 (wn:Int),.sl .ext wb,.sl .ext wl]) [])
  (hM:AP Tryz.prog 71 [.agg [.int .i64 wk,.int .u64 (wn:Int),.sl .ext wb,.sl .ext wl],.agg [.int .i64 xk,.int .u64 (xn:Int),.sl .ext xb,.sl .ext xl]] (.bool true) []) :
  AP Tryz.prog 23 [byE d] (.tup [.agg [.bool ((an:Int)==1),.bool ((bn:Int)==1),.bool ((cn:Int)==1),.int .u64 (rn:Int),.int .u64 (sn:Int),.bool ji,.int .u64 (jn:Int),.int .u64 (js:Int),.str jh,.str jd,.int .u64 (jt:Int),.int .u64 (jq:Int)],.bool true]) []:=by
 refine AP.ofA (Zl Tryz.func23 U Tryz.ntmps23 U U ?_)
 repeat'(first|(apply Zb (hI);kernel_rfl;(iterate 4 exact U))|(apply Zb (hD);kernel_rfl;(iterate 4 exact U))|(apply Zb (hR);kernel_rfl;(iterate 4 exact U))|(apply Zb (hT);kernel_rfl;(iterate 4 exact U))|(apply Zb (hM);kernel_rfl;(iterate 4 exact U))|(apply Zi Za;exact U)|(apply Zg Za;exact U)|(apply Zp Za;exact U)|(apply Ze;(iterate 3 exact U);(first|with_reducible assumption|decide +kernel|(solve|simp only[bn])))|(apply Zh;exact U;(first|with_reducible assumption|decide +kernel|(solve|simp only[bn]));exact U;exact U)|(apply Zf;exact U;(first|with_reducible assumption|decide +kernel|(solve|simp only[bn])))|refine Zn Za U U U U ?_|(apply Zo 11 ZB;decide +kernel;kernel_rfl;kernel_rfl;kernel_rfl;exact U;exact U)|(apply Zo 35 ZB;decide +kernel;kernel_rfl;kernel_rfl;kernel_rfl;exact U;exact U)|(apply Zs;(iterate 4 exact U))|exact AE.nil _ _ _ _|(apply Zx;exact U)|(apply Z1;exact U)|(apply Zz;exact U;exact U;decide +kernel;exact U)|(apply ZA;exact U)|(apply Ym;exact U)|exact AO.nil _ _ _|(apply Zr;(decide +kernel))|(apply ZU;(iterate 3 exact U))|exact AOs.nil|exact ZF rfl rfl|exact YK rfl rfl|(apply Zu Za;(iterate 6 exact U);(first|exact Qt|rotate_left);(first|with_reducible assumption|decide +kernel|exact U);(first|exact Zk rfl|with_reducible assumption|decide +kernel|rotate_left)))
 all_goals exact Qe
theorem FC [Known](x:List UInt8)(m e:Int)(kx:Int)(nx:Nat)(bx lx:List E)
  (hR:AP Tryz.prog 58 [byE x,.int .i64 0] (.tup [.agg [.int .i64 kx,.int .u64 (nx:Int),.sl .ext bx,.sl .ext lx],.int .i64 m,.int .i64 e]) [])
  (te:(e != 0)=true) :
  AP Tryz.prog 22 [byE x] (.tup [.agg [.bool false,.bool false,.bool false,.int .u64 0,.int .u64 0,.bool false,.int .u64 0,.int .u64 0,.str [],.str [],.int .u64 0,.int .u64 0],.int .i64 3]) []:=by
 refine AP.ofA (Zl Tryz.func22 U Tryz.ntmps22 U U ?_)
 repeat'(first|(apply Zb (hR);kernel_rfl;(iterate 4 exact U))|(apply Zi Za;exact U)|(apply Zg Za;exact U)|(apply Zp Za;exact U)|(apply Zm;(iterate 3 exact U);(first|with_reducible assumption|decide +kernel|(solve|simp only[bn])))|(apply Zj;exact U;(first|with_reducible assumption|decide +kernel|(solve|simp only[bn]));exact U;exact U)|(apply Zd;exact U;(first|with_reducible assumption|decide +kernel|(solve|simp only[bn]))))
 all_goals exact Qe
theorem BM [Known](x:List UInt8)(m e:Int)(kx:Int)(nx:Nat)(bx lx:List E)
  (hR:AP Tryz.prog 58 [byE x,.int .i64 0] (.tup [.agg [.int .i64 kx,.int .u64 (nx:Int),.sl .ext bx,.sl .ext lx],.int .i64 m,.int .i64 e]) [])
  (te:(e != 0)=false)
  (t2:((lx.length:Int) != 2)=true) :
  AP Tryz.prog 22 [byE x] (.tup [.agg [.bool false,.bool false,.bool false,.int .u64 0,.int .u64 0,.bool false,.int .u64 0,.int .u64 0,.str [],.str [],.int .u64 0,.int .u64 0],.int .i64 3]) []:=by
 refine AP.ofA (Zl Tryz.func22 U Tryz.ntmps22 U U ?_)
 repeat'(first|(apply Zb (hR);kernel_rfl;(iterate 4 exact U))|(apply Zi Za;exact U)|(apply Zg Za;exact U)|(apply Zp Za;exact U)|(apply Ze;(iterate 3 exact U);(first|with_reducible assumption|decide +kernel|(solve|simp only[bn])))|(apply Zm;(iterate 3 exact U);(first|with_reducible assumption|decide +kernel|(solve|simp only[bn])))|(apply Zj;exact U;(first|with_reducible assumption|decide +kernel|(solve|simp only[bn]));exact U;exact U)|(apply Zh;exact U;(first|with_reducible assumption|decide +kernel|(solve|simp only[bn]));exact U;exact U)|(apply Zd;exact U;(first|with_reducible assumption|decide +kernel|(solve|simp only[bn])))|refine Zn Za U U U U ?_)
 all_goals exact Qe
theorem FD [Known](x:List UInt8)(m e:Int)(kx k1:Int)(nx n1:Nat)(bx lx b1 l1:List E)
  (hR:AP Tryz.prog 58 [byE x,.int .i64 0] (.tup [.agg [.int .i64 kx,.int .u64 (nx:Int),.sl .ext bx,.sl .ext lx],.int .i64 m,.int .i64 e]) [])
  (te:(e != 0)=false)
  (hU:Uni 4 lx)
  (t2:((lx.length:Int) != 2)=false)
  (hv1:lx[(1:Int).toNat]?=some (.agg [.int .i64 k1,.int .u64 (n1:Int),.sl b1,.sl l1]))
  (t4:((l1.length:Int) != 4)=true) :
  AP Tryz.prog 22 [byE x] (.tup [.agg [.bool false,.bool false,.bool false,.int .u64 0,.int .u64 0,.bool false,.int .u64 0,.int .u64 0,.str [],.str [],.int .u64 0,.int .u64 0],.int .i64 3]) []:=by
 refine AP.ofA (Zl Tryz.func22 U Tryz.ntmps22 U U ?_)
 repeat'(first|(apply Zb (hR);kernel_rfl;(iterate 4 exact U))|(apply Zi Za;exact U)|(apply Zg Za;exact U)|(apply Zp Za;exact U)|(apply Ze;(iterate 3 exact U);(first|with_reducible assumption|decide +kernel|(solve|simp only[bn])))|(apply Zm;(iterate 3 exact U);(first|with_reducible assumption|decide +kernel|(solve|simp only[bn])))|(apply Zj;exact U;(first|with_reducible assumption|decide +kernel|(solve|simp only[bn]));exact U;exact U)|(apply Zh;exact U;(first|with_reducible assumption|decide +kernel|(solve|simp only[bn]));exact U;exact U)|(apply Zd;exact U;(first|with_reducible assumption|decide +kernel|(solve|simp only[bn])))|refine Zn Za U U U U ?_|(apply Zu Za;(iterate 6 exact U);(first|exact Qt|rotate_left);(first|with_reducible assumption|decide +kernel|exact U);(first|exact Zk rfl|with_reducible assumption|decide +kernel|rotate_left)))
 all_goals exact Qe
theorem FE [Known](x:List UInt8)(m e:Int)(kx k1 k2:Int)(nx n1 n2:Nat)(bx lx b1 l1 b2 l2:List E)
  (hR:AP Tryz.prog 58 [byE x,.int .i64 0] (.tup [.agg [.int .i64 kx,.int .u64 (nx:Int),.sl .ext bx,.sl .ext lx],.int .i64 m,.int .i64 e]) [])
  (te:(e != 0)=false)
  (hU:Uni 4 lx)
  (t2:((lx.length:Int) != 2)=false)
  (hv1:lx[(1:Int).toNat]?=some (.agg [.int .i64 k1,.int .u64 (n1:Int),.sl b1,.sl l1]))
  (hU1:Uni 4 l1)
  (t4:((l1.length:Int) != 4)=false)
  (hv2:l1[(0:Int).toNat]?=some (.agg [.int .i64 k2,.int .u64 (n2:Int),.sl b2,.sl l2]))
  (t3:((l2.length:Int) != 3)=true) :
  AP Tryz.prog 22 [byE x] (.tup [.agg [.bool false,.bool false,.bool false,.int .u64 0,.int .u64 0,.bool false,.int .u64 0,.int .u64 0,.str [],.str [],.int .u64 0,.int .u64 0],.int .i64 3]) []:=by
 refine AP.ofA (Zl Tryz.func22 U Tryz.ntmps22 U U ?_)
 repeat'(first|(apply Zb (hR);kernel_rfl;(iterate 4 exact U))|(apply Zi Za;exact U)|(apply Zg Za;exact U)|(apply Zp Za;exact U)|(apply Ze;(iterate 3 exact U);(first|with_reducible assumption|decide +kernel|(solve|simp only[bn])))|(apply Zh;exact U;(first|with_reducible assumption|decide +kernel|(solve|simp only[bn]));exact U;exact U)|(apply Zd;exact U;(first|with_reducible assumption|decide +kernel|(solve|simp only[bn])))|refine Zn Za U U U U ?_|(apply Zu Za;(iterate 6 exact U);(first|exact Qt|rotate_left);(first|with_reducible assumption|decide +kernel|exact U);(first|exact Zk rfl|with_reducible assumption|decide +kernel|rotate_left)))
 all_goals exact Qe
theorem FF [Known](x:List UInt8)(m e:Int)(kx k1 k2 k3:Int)(nx n1 n2 n3:Nat)(bx lx b1 l1 b2 l2 b3 l3:List E)(ii:Bool)(jn js jt jq:Nat)(jh jd:List UInt8)(ie:Int)
  (hR:AP Tryz.prog 58 [byE x,.int .i64 0] (.tup [.agg [.int .i64 kx,.int .u64 (nx:Int),.sl .ext bx,.sl .ext lx],.int .i64 m,.int .i64 e]) [])
  (te:(e != 0)=false)
  (hU:Uni 4 lx)
  (t2:((lx.length:Int) != 2)=false)
  (hv1:lx[(1:Int).toNat]?=some (.agg [.int .i64 k1,.int .u64 (n1:Int),.sl b1,.sl l1]))
  (hU1:Uni 4 l1)
  (t4:((l1.length:Int) != 4)=false)
  (hv2:l1[(0:Int).toNat]?=some (.agg [.int .i64 k2,.int .u64 (n2:Int),.sl b2,.sl l2]))
  (hU2:Uni 4 l2)
  (t3:((l2.length:Int) != 3)=false)
  (hv3:l1[(3:Int).toNat]?=some (.agg [.int .i64 k3,.int .u64 (n3:Int),.sl b3,.sl l3]))
  (hI:AP Tryz.prog 67 [.agg [.int .i64 k3,.int .u64 (n3:Int),.sl .ext b3,.sl .ext l3]] (.tup [.agg [.bool ii,.int .u64 (jn:Int),.int .u64 (js:Int),.str jh,.str jd,.int .u64 (jt:Int),.int .u64 (jq:Int)],.int .i64 ie]) [])
  (ti:(ie != 0)=true) :
  AP Tryz.prog 22 [byE x] (.tup [.agg [.bool false,.bool false,.bool false,.int .u64 0,.int .u64 0,.bool false,.int .u64 0,.int .u64 0,.str [],.str [],.int .u64 0,.int .u64 0],.int .i64 3]) []:=by
 refine AP.ofA (Zl Tryz.func22 U Tryz.ntmps22 U U ?_)
 repeat'(first|(apply Zb (hR);kernel_rfl;(iterate 4 exact U))|(apply Zb (hI);kernel_rfl;(iterate 4 exact U))|(apply Zi Za;exact U)|(apply Zg Za;exact U)|(apply Zp Za;exact U)|(apply Ze;(iterate 3 exact U);(first|with_reducible assumption|decide +kernel|(solve|simp only[bn])))|(apply Zh;exact U;(first|with_reducible assumption|decide +kernel|(solve|simp only[bn]));exact U;exact U)|(apply Zd;exact U;(first|with_reducible assumption|decide +kernel|(solve|simp only[bn])))|(apply Zf;exact U;(first|with_reducible assumption|decide +kernel|(solve|simp only[bn])))|refine Zn Za U U U U ?_|(apply Zu Za;(iterate 6 exact U);(first|exact Qt|rotate_left);(first|with_reducible assumption|decide +kernel|exact U);(first|exact Zk rfl|with_reducible assumption|decide +kernel|rotate_left)))
 all_goals exact Qe
theorem FG [Known](x:List UInt8)(m e:Int)(kx k1 k2 k3 k5 k6 k7 k8 k9:Int)(nx n1 n2 n3 n5 n6 n7 n8 n9:Nat)(bx lx b1 l1 b2 l2 b3 l3 b5 l5 b6 l6 b7 l7 b8 l8 b9 l9:List E)(ii:Bool)(jn js jt jq:Nat)(jh jd:List UInt8)(ie:Int)(wb:List UInt8)(we:Int)
  (hR:AP Tryz.prog 58 [byE x,.int .i64 0] (.tup [.agg [.int .i64 kx,.int .u64 (nx:Int),.sl .ext bx,.sl .ext lx],.int .i64 m,.int .i64 e]) [])
  (te:(e != 0)=false)
  (hU:Uni 4 lx)
  (t2:((lx.length:Int) != 2)=false)
  (hv1:lx[(1:Int).toNat]?=some (.agg [.int .i64 k1,.int .u64 (n1:Int),.sl b1,.sl l1]))
  (hU1:Uni 4 l1)
  (t4:((l1.length:Int) != 4)=false)
  (hv2:l1[(0:Int).toNat]?=some (.agg [.int .i64 k2,.int .u64 (n2:Int),.sl b2,.sl l2]))
  (hU2:Uni 4 l2)
  (t3:((l2.length:Int) != 3)=false)
  (hv3:l1[(3:Int).toNat]?=some (.agg [.int .i64 k3,.int .u64 (n3:Int),.sl b3,.sl l3]))
  (hI:AP Tryz.prog 67 [.agg [.int .i64 k3,.int .u64 (n3:Int),.sl .ext b3,.sl .ext l3]] (.tup [.agg [.bool ii,.int .u64 (jn:Int),.int .u64 (js:Int),.str jh,.str jd,.int .u64 (jt:Int),.int .u64 (jq:Int)],.int .i64 ie]) [])
  (ti:(ie != 0)=false)
  (hv5:l2[(0:Int).toNat]?=some (.agg [.int .i64 k5,.int .u64 (n5:Int),.sl b5,.sl l5]))
  (hv6:l2[(1:Int).toNat]?=some (.agg [.int .i64 k6,.int .u64 (n6:Int),.sl b6,.sl l6]))
  (hv7:l2[(2:Int).toNat]?=some (.agg [.int .i64 k7,.int .u64 (n7:Int),.sl b7,.sl l7]))
  (hv8:l1[(1:Int).toNat]?=some (.agg [.int .i64 k8,.int .u64 (n8:Int),.sl b8,.sl l8]))
  (hv9:l1[(2:Int).toNat]?=some (.agg [.int .i64 k9,.int .u64 (n9:Int),.sl b9,.sl l9]))
  (hW:AP Tryz.prog 21 [.agg [.bool ((n5:Int)==1),.bool ((n6:Int)==1),.bool ((n7:Int)==1),.int .u64 (n8:Int),.int .u64 (n9:Int),.bool ii,.int .u64 (jn:Int),.int .u64 (js:Int),.str jh,.str jd,.int .u64 (jt:Int),.int .u64 (jq:Int)]] (.tup [byE wb,.int .i64 we]) [])
  (hE:AP Tryz.prog 68 [byE wb,byE x] (.bool (wb==x)) [])
  (tw:(we != 0)=true) :
  AP Tryz.prog 22 [byE x] (.tup [.agg [.bool false,.bool false,.bool false,.int .u64 0,.int .u64 0,.bool false,.int .u64 0,.int .u64 0,.str [],.str [],.int .u64 0,.int .u64 0],.int .i64 3]) []:=by
 refine AP.ofA (Zl Tryz.func22 U Tryz.ntmps22 U U ?_)
 repeat'(first|(apply Zb (hR);kernel_rfl;(iterate 4 exact U))|(apply Zb (hI);kernel_rfl;(iterate 4 exact U))|(apply Zb (hW);kernel_rfl;(iterate 4 exact U))|(apply Zi Za;exact U)|(apply Zg Za;exact U)|(apply Zp Za;exact U)|(apply Ze;(iterate 3 exact U);(first|with_reducible assumption|decide +kernel|(solve|simp only[bn])))|(apply Zm;(iterate 3 exact U);(first|with_reducible assumption|decide +kernel|(solve|simp only[bn])))|(apply Zj;exact U;(first|with_reducible assumption|decide +kernel|(solve|simp only[bn]));exact U;exact U)|(apply Zh;exact U;(first|with_reducible assumption|decide +kernel|(solve|simp only[bn]));exact U;exact U)|(apply Zd;exact U;(first|with_reducible assumption|decide +kernel|(solve|simp only[bn])))|(apply Zf;exact U;(first|with_reducible assumption|decide +kernel|(solve|simp only[bn])))|refine Zn Za U U U U ?_|(apply Zo 35 ZB;decide +kernel;kernel_rfl;kernel_rfl;kernel_rfl;exact U;exact U)|(apply Zs;(iterate 4 exact U))|exact AE.nil _ _ _ _|(apply Zx;exact U)|(apply Z1;exact U)|(apply Zz;exact U;exact U;decide +kernel;exact U)|(apply ZA;exact U)|(apply Ym;exact U)|exact AO.nil _ _ _|(apply Zr;(decide +kernel))|(apply ZU;(iterate 3 exact U))|exact AOs.nil|exact ZF rfl rfl|exact YK rfl rfl|(apply Zu Za;(iterate 6 exact U);(first|exact Qt|rotate_left);(first|with_reducible assumption|decide +kernel|exact U);(first|exact Zk rfl|with_reducible assumption|decide +kernel|rotate_left)))
 all_goals exact Qe
theorem FH [Known](x:List UInt8)(m e:Int)(kx k1 k2 k3 k5 k6 k7 k8 k9:Int)(nx n1 n2 n3 n5 n6 n7 n8 n9:Nat)(bx lx b1 l1 b2 l2 b3 l3 b5 l5 b6 l6 b7 l7 b8 l8 b9 l9:List E)(ii:Bool)(jn js jt jq:Nat)(jh jd:List UInt8)(ie:Int)(wb:List UInt8)(we:Int)
  (hR:AP Tryz.prog 58 [byE x,.int .i64 0] (.tup [.agg [.int .i64 kx,.int .u64 (nx:Int),.sl .ext bx,.sl .ext lx],.int .i64 m,.int .i64 e]) [])
  (te:(e != 0)=false)
  (hU:Uni 4 lx)
  (t2:((lx.length:Int) != 2)=false)
  (hv1:lx[(1:Int).toNat]?=some (.agg [.int .i64 k1,.int .u64 (n1:Int),.sl b1,.sl l1]))
  (hU1:Uni 4 l1)
  (t4:((l1.length:Int) != 4)=false)
  (hv2:l1[(0:Int).toNat]?=some (.agg [.int .i64 k2,.int .u64 (n2:Int),.sl b2,.sl l2]))
  (hU2:Uni 4 l2)
  (t3:((l2.length:Int) != 3)=false)
  (hv3:l1[(3:Int).toNat]?=some (.agg [.int .i64 k3,.int .u64 (n3:Int),.sl b3,.sl l3]))
  (hI:AP Tryz.prog 67 [.agg [.int .i64 k3,.int .u64 (n3:Int),.sl .ext b3,.sl .ext l3]] (.tup [.agg [.bool ii,.int .u64 (jn:Int),.int .u64 (js:Int),.str jh,.str jd,.int .u64 (jt:Int),.int .u64 (jq:Int)],.int .i64 ie]) [])
  (ti:(ie != 0)=false)
  (hv5:l2[(0:Int).toNat]?=some (.agg [.int .i64 k5,.int .u64 (n5:Int),.sl b5,.sl l5]))
  (hv6:l2[(1:Int).toNat]?=some (.agg [.int .i64 k6,.int .u64 (n6:Int),.sl b6,.sl l6]))
  (hv7:l2[(2:Int).toNat]?=some (.agg [.int .i64 k7,.int .u64 (n7:Int),.sl b7,.sl l7]))
  (hv8:l1[(1:Int).toNat]?=some (.agg [.int .i64 k8,.int .u64 (n8:Int),.sl b8,.sl l8]))
  (hv9:l1[(2:Int).toNat]?=some (.agg [.int .i64 k9,.int .u64 (n9:Int),.sl b9,.sl l9]))
  (hW:AP Tryz.prog 21 [.agg [.bool ((n5:Int)==1),.bool ((n6:Int)==1),.bool ((n7:Int)==1),.int .u64 (n8:Int),.int .u64 (n9:Int),.bool ii,.int .u64 (jn:Int),.int .u64 (js:Int),.str jh,.str jd,.int .u64 (jt:Int),.int .u64 (jq:Int)]] (.tup [byE wb,.int .i64 we]) [])
  (hE:AP Tryz.prog 68 [byE wb,byE x] (.bool (wb==x)) [])
  (tw:(we != 0)=false)
  (hb:(wb==x)=false) :
  AP Tryz.prog 22 [byE x] (.tup [.agg [.bool false,.bool false,.bool false,.int .u64 0,.int .u64 0,.bool false,.int .u64 0,.int .u64 0,.str [],.str [],.int .u64 0,.int .u64 0],.int .i64 3]) []:=by
 rw[hb]at hE
 refine AP.ofA (Zl Tryz.func22 U Tryz.ntmps22 U U ?_)
 repeat'(first|(apply Zb (hR);kernel_rfl;(iterate 4 exact U))|(apply Zb (hI);kernel_rfl;(iterate 4 exact U))|(apply Zb (hW);kernel_rfl;(iterate 4 exact U))|(apply Zb (hE);kernel_rfl;(iterate 4 exact U))|(apply Zi Za;exact U)|(apply Zg Za;exact U)|(apply Zp Za;exact U)|(apply Ze;(iterate 3 exact U);(first|with_reducible assumption|decide +kernel|(solve|simp only[bn])))|(apply Zh;exact U;(first|with_reducible assumption|decide +kernel|(solve|simp only[bn]));exact U;exact U)|(apply Zd;exact U;(first|with_reducible assumption|decide +kernel|(solve|simp only[bn])))|(apply Zf;exact U;(first|with_reducible assumption|decide +kernel|(solve|simp only[bn])))|refine Zn Za U U U U ?_|(apply Zo 35 ZB;decide +kernel;kernel_rfl;kernel_rfl;kernel_rfl;exact U;exact U)|(apply Zs;(iterate 4 exact U))|exact AE.nil _ _ _ _|(apply Zx;exact U)|(apply Z1;exact U)|(apply Zz;exact U;exact U;decide +kernel;exact U)|(apply ZA;exact U)|(apply Ym;exact U)|exact AO.nil _ _ _|(apply Zr;(decide +kernel))|(apply ZU;(iterate 3 exact U))|exact AOs.nil|exact ZF rfl rfl|exact YK rfl rfl|(apply Zu Za;(iterate 6 exact U);(first|exact Qt|rotate_left);(first|with_reducible assumption|decide +kernel|exact U);(first|exact Zk rfl|with_reducible assumption|decide +kernel|rotate_left)))
 all_goals exact Qe
theorem DQ [Known](x:List UInt8)(m e:Int)(kx k1 k2 k3 k5 k6 k7 k8 k9:Int)(nx n1 n2 n3 n5 n6 n7 n8 n9:Nat)(bx lx b1 l1 b2 l2 b3 l3 b5 l5 b6 l6 b7 l7 b8 l8 b9 l9:List E)(ii:Bool)(jn js jt jq:Nat)(jh jd:List UInt8)(ie:Int)(wb:List UInt8)(we:Int)
  (hR:AP Tryz.prog 58 [byE x,.int .i64 0] (.tup [.agg [.int .i64 kx,.int .u64 (nx:Int),.sl .ext bx,.sl .ext lx],.int .i64 m,.int .i64 e]) [])
  (te:(e != 0)=false)
  (hU:Uni 4 lx)
  (t2:((lx.length:Int) != 2)=false)
  (hv1:lx[(1:Int).toNat]?=some (.agg [.int .i64 k1,.int .u64 (n1:Int),.sl b1,.sl l1]))
  (hU1:Uni 4 l1)
  (t4:((l1.length:Int) != 4)=false)
  (hv2:l1[(0:Int).toNat]?=some (.agg [.int .i64 k2,.int .u64 (n2:Int),.sl b2,.sl l2]))
  (hU2:Uni 4 l2)
  (t3:((l2.length:Int) != 3)=false)
  (hv3:l1[(3:Int).toNat]?=some (.agg [.int .i64 k3,.int .u64 (n3:Int),.sl b3,.sl l3]))
  (hI:AP Tryz.prog 67 [.agg [.int .i64 k3,.int .u64 (n3:Int),.sl .ext b3,.sl .ext l3]] (.tup [.agg [.bool ii,.int .u64 (jn:Int),.int .u64 (js:Int),.str jh,.str jd,.int .u64 (jt:Int),.int .u64 (jq:Int)],.int .i64 ie]) [])
  (ti:(ie != 0)=false)
  (hv5:l2[(0:Int).toNat]?=some (.agg [.int .i64 k5,.int .u64 (n5:Int),.sl b5,.sl l5]))
  (hv6:l2[(1:Int).toNat]?=some (.agg [.int .i64 k6,.int .u64 (n6:Int),.sl b6,.sl l6]))
  (hv7:l2[(2:Int).toNat]?=some (.agg [.int .i64 k7,.int .u64 (n7:Int),.sl b7,.sl l7]))
  (hv8:l1[(1:Int).toNat]?=some (.agg [.int .i64 k8,.int .u64 (n8:Int),.sl b8,.sl l8]))
  (hv9:l1[(2:Int).toNat]?=some (.agg [.int .i64 k9,.int .u64 (n9:Int),.sl b9,.sl l9]))
  (hW:AP Tryz.prog 21 [.agg [.bool ((n5:Int)==1),.bool ((n6:Int)==1),.bool ((n7:Int)==1),.int .u64 (n8:Int),.int .u64 (n9:Int),.bool ii,.int .u64 (jn:Int),.int .u64 (js:Int),.str jh,.str jd,.int .u64 (jt:Int),.int .u64 (jq:Int)]] (.tup [byE wb,.int .i64 we]) [])
  (hE:AP Tryz.prog 68 [byE wb,byE x] (.bool (wb==x)) [])
  (tw:(we != 0)=false)
  (hb:(wb==x)=true) :
  AP Tryz.prog 22 [byE x] (.tup [.agg [.bool ((n5:Int)==1),.bool ((n6:Int)==1),.bool ((n7:Int)==1),.int .u64 (n8:Int),.int .u64 (n9:Int),.bool ii,.int .u64 (jn:Int),.int .u64 (js:Int),.str jh,.str jd,.int .u64 (jt:Int),.int .u64 (jq:Int)],.int .i64 0]) []:=by
 rw[hb]at hE
 refine AP.ofA (Zl Tryz.func22 U Tryz.ntmps22 U U ?_)
 repeat'(first|(apply Zb (hR);kernel_rfl;(iterate 4 exact U))|(apply Zb (hI);kernel_rfl;(iterate 4 exact U))|(apply Zb (hW);kernel_rfl;(iterate 4 exact U))|(apply Zb (hE);kernel_rfl;(iterate 4 exact U))|(apply Zi Za;exact U)|(apply Zg Za;exact U)|(apply Zp Za;exact U)|(apply Ze;(iterate 3 exact U);(first|with_reducible assumption|decide +kernel|(solve|simp only[bn])))|(apply Zh;exact U;(first|with_reducible assumption|decide +kernel|(solve|simp only[bn]));exact U;exact U)|(apply Zf;exact U;(first|with_reducible assumption|decide +kernel|(solve|simp only[bn])))|refine Zn Za U U U U ?_|(apply Zo 35 ZB;decide +kernel;kernel_rfl;kernel_rfl;kernel_rfl;exact U;exact U)|(apply Zs;(iterate 4 exact U))|exact AE.nil _ _ _ _|(apply Zx;exact U)|(apply Z1;exact U)|(apply Zz;exact U;exact U;decide +kernel;exact U)|(apply ZA;exact U)|(apply Ym;exact U)|exact AO.nil _ _ _|(apply Zr;(decide +kernel))|(apply ZU;(iterate 3 exact U))|exact AOs.nil|exact ZF rfl rfl|exact YK rfl rfl|(apply Zu Za;(iterate 6 exact U);(first|exact Qt|rotate_left);(first|with_reducible assumption|decide +kernel|exact U);(first|exact Zk rfl|with_reducible assumption|decide +kernel|rotate_left)))
 all_goals exact Qe
def rp0:RepV:=⟨false,false,false,0,0,Yi,0,0⟩
def WA (m1 m2 m3 y1 y2 y3:It):RepV:=⟨(m1.n:Int)==1,(m2.n:Int)==1,(m3.n:Int)==1,y1.n,y2.n,(YF y3).1,(YF y3).2.1,(YF y3).2.2.1⟩
def Xd (x:It)(b:List UInt8):RepV × Int:=match x.l with
 | [_,x1]=>(match x1.l with
  | [z0,y1,y2,y3]=>(match z0.l with
   | [m1,m2,m3]=>(match(YF y3).2.2.2 with
    | false=>(rp0,3)
    | true=>match(Wl (WA m1 m2 m3 y1 y2 y3)).2 != 0 with
     | true=>(rp0,3)
     | false=>match(Wl (WA m1 m2 m3 y1 y2 y3)).1==b with
      | false=>(rp0,3)
      | true=>(WA m1 m2 m3 y1 y2 y3,0))
   | _=>(rp0,3))
  | _=>(rp0,3))
 | _=>(rp0,3)
def Vq (b:List UInt8):RepV × Int:=match((Z8 b 0).2.2:Int) != 0 with
 | true=>(rp0,3)
 | false=>Xd (Z8 b 0).1 b
theorem Hl [Known][KnownU8](b:List UInt8)(hb:b.length<=3000):AP Tryz.prog 22 [byE b] (.tup [.agg (Y6 (Vq b).1),.int .i64 (Vq b).2]) []:=by
 have hR:=K1 b 0 (by omega)
 unfold Vq
 rcases VD b (by omega) with⟨e,he,h,_⟩ | ⟨y,n,h,hw,_,_,_⟩
 ·rw[h]at hR ⊢
  have te:((e:Int) != 0)=true:=by simpa using he
  dsimp only
  rw[te]
  exact FC b _ _ _ _ _ _ hR te
 rw[h]at hR ⊢
 have te:(((0:Nat):Int) != 0)=false:=rfl
 dsimp only
 rw[te]
 dsimp only
 clear h
 have hws:wfs y.l:=by obtain⟨k,n1,b1,l⟩:=y;exact hw.2.2.2
 obtain⟨k,n1,b1,l⟩:=y
 unfold Xd
 dsimp only[It.l]at hws ⊢
 have hlen:=Zw l
 rcases l with _|⟨x0,_|⟨x1,_|⟨x2,l⟩⟩⟩
 ·exact BM b _ _ _ _ _ _ hR te (by rw[hlen];rfl)
 ·exact BM b _ _ _ _ _ _ hR te (by rw[hlen];rfl)
 ·have hU:=YE [x0,x1]
  have hw1:=hws.2.1
  obtain⟨k0,n0,b0,l0⟩:=x0
  obtain⟨k1,n1',b1',l1⟩:=x1
  have hw1:wfs l1:=hw1.2.2.2
  have hlen1:=Zw l1
  have hU1:=YE l1
  rcases l1 with _|⟨z0,_|⟨z1,_|⟨z2,_|⟨z3,_|⟨z4,l1⟩⟩⟩⟩⟩
  case cons.cons.cons.cons.nil=>
   obtain⟨kz,nz,bz,lz⟩:=z0
   have hlenz:=Zw lz
   have hUz:=YE lz
   have hI:=L3 z3 hw1.2.2.2.1
   rcases lz with _|⟨m1,_|⟨m2,_|⟨m3,_|⟨m4,lz⟩⟩⟩⟩
   case cons.cons.cons.nil=>
    have hW:=Jh (WA m1 m2 m3 z1 z2 z3)
    have hE:=H4 (Wl (WA m1 m2 m3 z1 z2 z3)).1 b
    dsimp only
    unfold WA at *
    obtain⟨k5,n5,b5,l5⟩:=m1
    obtain⟨k6,n6,b6,l6⟩:=m2
    obtain⟨k7,n7,b7,l7⟩:=m3
    obtain⟨k8,n8,b8,l8⟩:=z1
    obtain⟨k9,n9,b9,l9⟩:=z2
    generalize YF z3=I at *
    obtain⟨⟨ii,jn,js,jh,jd⟩,jt,jq,ok⟩:=I
    obtain⟨k3,n3,b3,l3⟩:=z3
    dsimp only[It.n]at *
    cases ok with
    | false=>exact FF (x:=b) (hR:=hR) (te:=te) (hU:=hU) (t2:=rfl) (hv1:=rfl) (hU1:=hU1) (t4:=rfl) (hv2:=rfl) (hU2:=hUz) (t3:=rfl) (hv3:=rfl) (hI:=hI) (ti:=rfl) ..
    | true=>
     generalize Wl _=w at *
     obtain⟨wb,we⟩:=w
     dsimp only at *
     cases tw:(we != 0) with
     | true=>exact FG (x:=b) (hR:=hR) (te:=te) (hU:=hU) (t2:=rfl) (hv1:=rfl) (hU1:=hU1) (t4:=rfl) (hv2:=rfl) (hU2:=hUz) (t3:=rfl) (hv3:=rfl) (hI:=hI) (ti:=rfl) (hv5:=rfl) (hv6:=rfl) (hv7:=rfl) (hv8:=rfl) (hv9:=rfl) (hW:=hW) (hE:=hE) (tw:=tw) ..
     | false=>
      cases hbb:(wb==b) with
      | false=>exact FH (x:=b) (hR:=hR) (te:=te) (hU:=hU) (t2:=rfl) (hv1:=rfl) (hU1:=hU1) (t4:=rfl) (hv2:=rfl) (hU2:=hUz) (t3:=rfl) (hv3:=rfl) (hI:=hI) (ti:=rfl) (hv5:=rfl) (hv6:=rfl) (hv7:=rfl) (hv8:=rfl) (hv9:=rfl) (hW:=hW) (hE:=hE) (tw:=tw) (hb:=hbb) ..
      | true=>exact DQ (x:=b) (hR:=hR) (te:=te) (hU:=hU) (t2:=rfl) (hv1:=rfl) (hU1:=hU1) (t4:=rfl) (hv2:=rfl) (hU2:=hUz) (t3:=rfl) (hv3:=rfl) (hI:=hI) (ti:=rfl) (hv5:=rfl) (hv6:=rfl) (hv7:=rfl) (hv8:=rfl) (hv9:=rfl) (hW:=hW) (hE:=hE) (tw:=tw) (hb:=hbb) ..
   all_goals exact FE (x:=b) (hR:=hR) (te:=te) (hU:=hU) (t2:=rfl) (hv1:=rfl) (hU1:=hU1) (t4:=rfl) (hv2:=rfl) (t3:=by rw[hlenz];simp;try omega) ..
  all_goals exact FD (x:=b) (hR:=hR) (te:=te) (hU:=hU) (t2:=rfl) (hv1:=rfl) (t4:=by rw[hlen1];simp;try omega) ..
 ·exact BM b _ _ _ _ _ _ hR te (by rw[hlen];simp;try omega)
end Go.Proofs.YtmljabhmajehnaaGreatDoor
end
