/- The document's reports: read, by cases (rwgen.py). -/
import Derived.Test.YtmljabhmajehnaaGreatDoorW32
import Derived.Test.YtmljabhmajehnaaGreatDoorW30
import Derived.Test.YtmljabhmajehnaaGreatDoorW27
import Derived.Test.YtmljabhmajehnaaGreatDoorW12
import Derived.Test.YtmljabhmajehnaaGreatDoorW29
set_option linter.unusedVariables false
set_option linter.unusedSimpArgs false
section
open Go.RowKit Go.Pl Go.Av
namespace Go.Proofs.YtmljabhmajehnaaGreatDoor
set_option maxHeartbeats 4000000
theorem R9 [Known](d:List UInt8)(xk:Int)(xn:Nat)(xb xl:List E)
  (hI:AP Tryz.prog 69 [byE d] (.tup [.agg [.int .i64 xk,.int .u64 (xn:Int),.sl .ext xb,.sl .ext xl],.bool false]) []) :
  AP Tryz.prog 23 [byE d] (.tup [.agg [.bool false,.bool false,.bool false,.int .u64 0,.int .u64 0,.bool false,.int .u64 0,.int .u64 0,.str [],.str [],.int .u64 0,.int .u64 0],.bool false]) []:=by
 refine AP.ofA (Zl Tryz.func23 Z Tryz.ntmps23 Z Z ?_)
 repeat'(first|(apply Zb (hI);kernel_rfl;(iterate 4 exact Z))|(apply Zi Za;exact Z)|(apply Zf Za;exact Z)|(apply Zp Za;exact Z)|(apply Zn;(iterate 3 exact Z);(first|with_reducible assumption|decide +kernel|(solve|simp only[bn])))|(apply Zj;exact Z;(first|with_reducible assumption|decide +kernel|(solve|simp only[bn]));exact Z;exact Z)|(apply Zd;exact Z;(first|with_reducible assumption|decide +kernel|(solve|simp only[bn]))))
 all_goals exact Qe
theorem Sa [Known](d:List UInt8)(xk:Int)(xn:Nat)(xb xl:List E)
  (hI:AP Tryz.prog 69 [byE d] (.tup [.agg [.int .i64 xk,.int .u64 (xn:Int),.sl .ext xb,.sl .ext xl],.bool true]) [])
  (t2:((xl.length:Int) != 2)=true) :
  AP Tryz.prog 23 [byE d] (.tup [.agg [.bool false,.bool false,.bool false,.int .u64 0,.int .u64 0,.bool false,.int .u64 0,.int .u64 0,.str [],.str [],.int .u64 0,.int .u64 0],.bool false]) []:=by
 refine AP.ofA (Zl Tryz.func23 Z Tryz.ntmps23 Z Z ?_)
 repeat'(first|(apply Zb (hI);kernel_rfl;(iterate 4 exact Z))|(apply Zi Za;exact Z)|(apply Zf Za;exact Z)|(apply Zp Za;exact Z)|(apply Ze;(iterate 3 exact Z);(first|with_reducible assumption|decide +kernel|(solve|simp only[bn])))|(apply Zn;(iterate 3 exact Z);(first|with_reducible assumption|decide +kernel|(solve|simp only[bn])))|(apply Zj;exact Z;(first|with_reducible assumption|decide +kernel|(solve|simp only[bn]));exact Z;exact Z)|(apply Zh;exact Z;(first|with_reducible assumption|decide +kernel|(solve|simp only[bn]));exact Z;exact Z)|(apply Zd;exact Z;(first|with_reducible assumption|decide +kernel|(solve|simp only[bn])))|refine Zm Za Z Z Z Z ?_)
 all_goals exact Qe
theorem Sb [Known](d:List UInt8)(xk uk:Int)(xn un:Nat)(xb xl ub ul:List E)
  (hI:AP Tryz.prog 69 [byE d] (.tup [.agg [.int .i64 xk,.int .u64 (xn:Int),.sl .ext xb,.sl .ext xl],.bool true]) [])
  (hU:Uni 4 xl) (t2:((xl.length:Int) != 2)=false)
  (hv1:xl[(1:Int).toNat]?=some (.agg [.int .i64 uk,.int .u64 (un:Int),.sl ub,.sl ul]))
  (t4:((ul.length:Int) != 4)=true) :
  AP Tryz.prog 23 [byE d] (.tup [.agg [.bool false,.bool false,.bool false,.int .u64 0,.int .u64 0,.bool false,.int .u64 0,.int .u64 0,.str [],.str [],.int .u64 0,.int .u64 0],.bool false]) []:=by
 refine AP.ofA (Zl Tryz.func23 Z Tryz.ntmps23 Z Z ?_)
 repeat'(first|(apply Zb (hI);kernel_rfl;(iterate 4 exact Z))|(apply Zi Za;exact Z)|(apply Zf Za;exact Z)|(apply Zp Za;exact Z)|(apply Ze;(iterate 3 exact Z);(first|with_reducible assumption|decide +kernel|(solve|simp only[bn])))|(apply Zn;(iterate 3 exact Z);(first|with_reducible assumption|decide +kernel|(solve|simp only[bn])))|(apply Zj;exact Z;(first|with_reducible assumption|decide +kernel|(solve|simp only[bn]));exact Z;exact Z)|(apply Zh;exact Z;(first|with_reducible assumption|decide +kernel|(solve|simp only[bn]));exact Z;exact Z)|(apply Zd;exact Z;(first|with_reducible assumption|decide +kernel|(solve|simp only[bn])))|refine Zm Za Z Z Z Z ?_|(apply Zv Za;(iterate 6 exact Z);(first|exact Qt|rotate_left);(first|with_reducible assumption|decide +kernel|exact Z);(first|exact Zk rfl|with_reducible assumption|decide +kernel|rotate_left)))
 all_goals exact Qe
theorem Sc [Known](d:List UInt8)(xk uk vk:Int)(xn un vn:Nat)(xb xl ub ul vb vl:List E)
  (hI:AP Tryz.prog 69 [byE d] (.tup [.agg [.int .i64 xk,.int .u64 (xn:Int),.sl .ext xb,.sl .ext xl],.bool true]) [])
  (hU:Uni 4 xl) (t2:((xl.length:Int) != 2)=false)
  (hv1:xl[(1:Int).toNat]?=some (.agg [.int .i64 uk,.int .u64 (un:Int),.sl ub,.sl ul]))
  (hU1:Uni 4 ul) (t4:((ul.length:Int) != 4)=false)
  (hv2:ul[(0:Int).toNat]?=some (.agg [.int .i64 vk,.int .u64 (vn:Int),.sl vb,.sl vl]))
  (t3:((vl.length:Int) != 3)=true) :
  AP Tryz.prog 23 [byE d] (.tup [.agg [.bool false,.bool false,.bool false,.int .u64 0,.int .u64 0,.bool false,.int .u64 0,.int .u64 0,.str [],.str [],.int .u64 0,.int .u64 0],.bool false]) []:=by
 refine AP.ofA (Zl Tryz.func23 Z Tryz.ntmps23 Z Z ?_)
 repeat'(first|(apply Zb (hI);kernel_rfl;(iterate 4 exact Z))|(apply Zi Za;exact Z)|(apply Zf Za;exact Z)|(apply Zp Za;exact Z)|(apply Ze;(iterate 3 exact Z);(first|with_reducible assumption|decide +kernel|(solve|simp only[bn])))|(apply Zh;exact Z;(first|with_reducible assumption|decide +kernel|(solve|simp only[bn]));exact Z;exact Z)|(apply Zd;exact Z;(first|with_reducible assumption|decide +kernel|(solve|simp only[bn])))|refine Zm Za Z Z Z Z ?_|(apply Zv Za;(iterate 6 exact Z);(first|exact Qt|rotate_left);(first|with_reducible assumption|decide +kernel|exact Z);(first|exact Zk rfl|with_reducible assumption|decide +kernel|rotate_left)))
 all_goals exact Qe
theorem Sd [Known](d:List UInt8)(xk uk vk rk sk yk ak bk ck:Int)(xn un vn rn sn yn an bn cn:Nat)(xb xl ub ul vb vl rb rl sb sl yb yl ab al bb bl cb cl:List E)(ji:Bool)(jn js:Nat)(jh jd:List UInt8)(jt jq:Nat)
  (hI:AP Tryz.prog 69 [byE d] (.tup [.agg [.int .i64 xk,.int .u64 (xn:Int),.sl .ext xb,.sl .ext xl],.bool true]) [])
  (hU:Uni 4 xl) (t2:((xl.length:Int) != 2)=false)
  (hv1:xl[(1:Int).toNat]?=some (.agg [.int .i64 uk,.int .u64 (un:Int),.sl ub,.sl ul]))
  (hU1:Uni 4 ul) (t4:((ul.length:Int) != 4)=false)
  (hv2:ul[(0:Int).toNat]?=some (.agg [.int .i64 vk,.int .u64 (vn:Int),.sl vb,.sl vl]))
  (hU2:Uni 4 vl) (t3:((vl.length:Int) != 3)=false)
  (hw1:ul[(1:Int).toNat]?=some (.agg [.int .i64 rk,.int .u64 (rn:Int),.sl rb,.sl rl])) (hw2:ul[(2:Int).toNat]?=some (.agg [.int .i64 sk,.int .u64 (sn:Int),.sl sb,.sl sl])) (hw3:ul[(3:Int).toNat]?=some (.agg [.int .i64 yk,.int .u64 (yn:Int),.sl yb,.sl yl]))
  (ha:vl[(0:Int).toNat]?=some (.agg [.int .i64 ak,.int .u64 (an:Int),.sl ab,.sl al])) (hb:vl[(1:Int).toNat]?=some (.agg [.int .i64 bk,.int .u64 (bn:Int),.sl bb,.sl bl])) (hc:vl[(2:Int).toNat]?=some (.agg [.int .i64 ck,.int .u64 (cn:Int),.sl cb,.sl cl]))
  (hD:AP Tryz.prog 70 [.agg [.int .i64 yk,.int .u64 (yn:Int),.sl .ext yb,.sl .ext yl]] (.tup [.agg [.bool ji,.int .u64 (jn:Int),.int .u64 (js:Int),.str jh,.str jd,.int .u64 (jt:Int),.int .u64 (jq:Int)],.bool false]) []) :
  AP Tryz.prog 23 [byE d] (.tup [.agg [.bool false,.bool false,.bool false,.int .u64 0,.int .u64 0,.bool false,.int .u64 0,.int .u64 0,.str [],.str [],.int .u64 0,.int .u64 0],.bool false]) []:=by
 refine AP.ofA (Zl Tryz.func23 Z Tryz.ntmps23 Z Z ?_)
 repeat'(first|(apply Zb (hI);kernel_rfl;(iterate 4 exact Z))|(apply Zb (hD);kernel_rfl;(iterate 4 exact Z))|(apply Zi Za;exact Z)|(apply Zf Za;exact Z)|(apply Zp Za;exact Z)|(apply Ze;(iterate 3 exact Z);(first|with_reducible assumption|decide +kernel|(solve|simp only[bn])))|(apply Zn;(iterate 3 exact Z);(first|with_reducible assumption|decide +kernel|(solve|simp only[bn])))|(apply Zj;exact Z;(first|with_reducible assumption|decide +kernel|(solve|simp only[bn]));exact Z;exact Z)|(apply Zh;exact Z;(first|with_reducible assumption|decide +kernel|(solve|simp only[bn]));exact Z;exact Z)|(apply Zd;exact Z;(first|with_reducible assumption|decide +kernel|(solve|simp only[bn])))|(apply Zg;exact Z;(first|with_reducible assumption|decide +kernel|(solve|simp only[bn])))|refine Zm Za Z Z Z Z ?_|(apply Zo 11 ZD;decide +kernel;kernel_rfl;kernel_rfl;kernel_rfl;exact Z;exact Z)|(apply Zo 35 ZD;decide +kernel;kernel_rfl;kernel_rfl;kernel_rfl;exact Z;exact Z)|(apply Zs;(iterate 4 exact Z))|exact AE.nil _ _ _ _|(apply Zw;exact Z)|(apply Z7;exact Z)|(apply Zz;exact Z;exact Z;decide +kernel;exact Z)|(apply ZA;exact Z)|(apply Yt;exact Z)|exact AO.nil _ _ _|(apply Zr;(decide +kernel))|(apply ZX;(iterate 3 exact Z))|exact AOs.nil|exact ZF rfl rfl|exact YW rfl rfl|(apply Zv Za;(iterate 6 exact Z);(first|exact Qt|rotate_left);(first|with_reducible assumption|decide +kernel|exact Z);(first|exact Zk rfl|with_reducible assumption|decide +kernel|rotate_left)))
 all_goals exact Qe
theorem Se [Known](d:List UInt8)(xk uk vk rk sk yk ak bk ck:Int)(xn un vn rn sn yn an bn cn:Nat)(xb xl ub ul vb vl rb rl sb sl yb yl ab al bb bl cb cl:List E)(ji:Bool)(jn js:Nat)(jh jd:List UInt8)(jt jq:Nat)
  (hI:AP Tryz.prog 69 [byE d] (.tup [.agg [.int .i64 xk,.int .u64 (xn:Int),.sl .ext xb,.sl .ext xl],.bool true]) [])
  (hU:Uni 4 xl) (t2:((xl.length:Int) != 2)=false)
  (hv1:xl[(1:Int).toNat]?=some (.agg [.int .i64 uk,.int .u64 (un:Int),.sl ub,.sl ul]))
  (hU1:Uni 4 ul) (t4:((ul.length:Int) != 4)=false)
  (hv2:ul[(0:Int).toNat]?=some (.agg [.int .i64 vk,.int .u64 (vn:Int),.sl vb,.sl vl]))
  (hU2:Uni 4 vl) (t3:((vl.length:Int) != 3)=false)
  (hw1:ul[(1:Int).toNat]?=some (.agg [.int .i64 rk,.int .u64 (rn:Int),.sl rb,.sl rl])) (hw2:ul[(2:Int).toNat]?=some (.agg [.int .i64 sk,.int .u64 (sn:Int),.sl sb,.sl sl])) (hw3:ul[(3:Int).toNat]?=some (.agg [.int .i64 yk,.int .u64 (yn:Int),.sl yb,.sl yl]))
  (ha:vl[(0:Int).toNat]?=some (.agg [.int .i64 ak,.int .u64 (an:Int),.sl ab,.sl al])) (hb:vl[(1:Int).toNat]?=some (.agg [.int .i64 bk,.int .u64 (bn:Int),.sl bb,.sl bl])) (hc:vl[(2:Int).toNat]?=some (.agg [.int .i64 ck,.int .u64 (cn:Int),.sl cb,.sl cl]))
  (hD:AP Tryz.prog 70 [.agg [.int .i64 yk,.int .u64 (yn:Int),.sl .ext yb,.sl .ext yl]] (.tup [.agg [.bool ji,.int .u64 (jn:Int),.int .u64 (js:Int),.str jh,.str jd,.int .u64 (jt:Int),.int .u64 (jq:Int)],.bool true]) [])
  (hR:AP Tryz.prog 25 [.agg [.bool ((an:Int)==1),.bool ((bn:Int)==1),.bool ((cn:Int)==1),.int .u64 (rn:Int),.int .u64 (sn:Int),.bool ji,.int .u64 (jn:Int),.int .u64 (js:Int),.str jh,.str jd,.int .u64 (jt:Int),.int .u64 (jq:Int)]] (.bool false) []) :
  AP Tryz.prog 23 [byE d] (.tup [.agg [.bool false,.bool false,.bool false,.int .u64 0,.int .u64 0,.bool false,.int .u64 0,.int .u64 0,.str [],.str [],.int .u64 0,.int .u64 0],.bool false]) []:=by
 refine AP.ofA (Zl Tryz.func23 Z Tryz.ntmps23 Z Z ?_)
 repeat'(first|(apply Zb (hI);kernel_rfl;(iterate 4 exact Z))|(apply Zb (hD);kernel_rfl;(iterate 4 exact Z))|(apply Zb (hR);kernel_rfl;(iterate 4 exact Z))|(apply Zi Za;exact Z)|(apply Zf Za;exact Z)|(apply Zp Za;exact Z)|(apply Ze;(iterate 3 exact Z);(first|with_reducible assumption|decide +kernel|(solve|simp only[bn])))|(apply Zn;(iterate 3 exact Z);(first|with_reducible assumption|decide +kernel|(solve|simp only[bn])))|(apply Zj;exact Z;(first|with_reducible assumption|decide +kernel|(solve|simp only[bn]));exact Z;exact Z)|(apply Zh;exact Z;(first|with_reducible assumption|decide +kernel|(solve|simp only[bn]));exact Z;exact Z)|(apply Zd;exact Z;(first|with_reducible assumption|decide +kernel|(solve|simp only[bn])))|(apply Zg;exact Z;(first|with_reducible assumption|decide +kernel|(solve|simp only[bn])))|refine Zm Za Z Z Z Z ?_|(apply Zo 11 ZD;decide +kernel;kernel_rfl;kernel_rfl;kernel_rfl;exact Z;exact Z)|(apply Zo 35 ZD;decide +kernel;kernel_rfl;kernel_rfl;kernel_rfl;exact Z;exact Z)|(apply Zs;(iterate 4 exact Z))|exact AE.nil _ _ _ _|(apply Zw;exact Z)|(apply Z7;exact Z)|(apply Zz;exact Z;exact Z;decide +kernel;exact Z)|(apply ZA;exact Z)|(apply Yt;exact Z)|exact AO.nil _ _ _|(apply Zr;(decide +kernel))|(apply ZX;(iterate 3 exact Z))|exact AOs.nil|exact ZF rfl rfl|exact YW rfl rfl|(apply Zv Za;(iterate 6 exact Z);(first|exact Qt|rotate_left);(first|with_reducible assumption|decide +kernel|exact Z);(first|exact Zk rfl|with_reducible assumption|decide +kernel|rotate_left)))
 all_goals exact Qe
theorem Sf [Known](d:List UInt8)(xk uk vk rk sk yk ak bk ck:Int)(xn un vn rn sn yn an bn cn:Nat)(xb xl ub ul vb vl rb rl sb sl yb yl ab al bb bl cb cl:List E)(ji:Bool)(jn js:Nat)(jh jd:List UInt8)(jt jq:Nat)(wk:Int)(wn:Nat)(wb wl:List E)
  (hI:AP Tryz.prog 69 [byE d] (.tup [.agg [.int .i64 xk,.int .u64 (xn:Int),.sl .ext xb,.sl .ext xl],.bool true]) [])
  (hU:Uni 4 xl) (t2:((xl.length:Int) != 2)=false)
  (hv1:xl[(1:Int).toNat]?=some (.agg [.int .i64 uk,.int .u64 (un:Int),.sl ub,.sl ul]))
  (hU1:Uni 4 ul) (t4:((ul.length:Int) != 4)=false)
  (hv2:ul[(0:Int).toNat]?=some (.agg [.int .i64 vk,.int .u64 (vn:Int),.sl vb,.sl vl]))
  (hU2:Uni 4 vl) (t3:((vl.length:Int) != 3)=false)
  (hw1:ul[(1:Int).toNat]?=some (.agg [.int .i64 rk,.int .u64 (rn:Int),.sl rb,.sl rl])) (hw2:ul[(2:Int).toNat]?=some (.agg [.int .i64 sk,.int .u64 (sn:Int),.sl sb,.sl sl])) (hw3:ul[(3:Int).toNat]?=some (.agg [.int .i64 yk,.int .u64 (yn:Int),.sl yb,.sl yl]))
  (ha:vl[(0:Int).toNat]?=some (.agg [.int .i64 ak,.int .u64 (an:Int),.sl ab,.sl al])) (hb:vl[(1:Int).toNat]?=some (.agg [.int .i64 bk,.int .u64 (bn:Int),.sl bb,.sl bl])) (hc:vl[(2:Int).toNat]?=some (.agg [.int .i64 ck,.int .u64 (cn:Int),.sl cb,.sl cl]))
  (hD:AP Tryz.prog 70 [.agg [.int .i64 yk,.int .u64 (yn:Int),.sl .ext yb,.sl .ext yl]] (.tup [.agg [.bool ji,.int .u64 (jn:Int),.int .u64 (js:Int),.str jh,.str jd,.int .u64 (jt:Int),.int .u64 (jq:Int)],.bool true]) [])
  (hR:AP Tryz.prog 25 [.agg [.bool ((an:Int)==1),.bool ((bn:Int)==1),.bool ((cn:Int)==1),.int .u64 (rn:Int),.int .u64 (sn:Int),.bool ji,.int .u64 (jn:Int),.int .u64 (js:Int),.str jh,.str jd,.int .u64 (jt:Int),.int .u64 (jq:Int)]] (.bool true) [])
  (hT:AP Tryz.prog 72 [.agg [.bool ((an:Int)==1),.bool ((bn:Int)==1),.bool ((cn:Int)==1),.int .u64 (rn:Int),.int .u64 (sn:Int),.bool ji,.int .u64 (jn:Int),.int .u64 (js:Int),.str jh,.str jd,.int .u64 (jt:Int),.int .u64 (jq:Int)]] (.agg [.int .i64 wk,.int .u64 (wn:Int),.sl .ext wb,.sl .ext wl]) [])
  (hM:AP Tryz.prog 71 [.agg [.int .i64 wk,.int .u64 (wn:Int),.sl .ext wb,.sl .ext wl],.agg [.int .i64 xk,.int .u64 (xn:Int),.sl .ext xb,.sl .ext xl]] (.bool false) []) :
  AP Tryz.prog 23 [byE d] (.tup [.agg [.bool false,.bool false,.bool false,.int .u64 0,.int .u64 0,.bool false,.int .u64 0,.int .u64 0,.str [],.str [],.int .u64 0,.int .u64 0],.bool false]) []:=by
 refine AP.ofA (Zl Tryz.func23 Z Tryz.ntmps23 Z Z ?_)
 repeat'(first|(apply Zb (hI);kernel_rfl;(iterate 4 exact Z))|(apply Zb (hD);kernel_rfl;(iterate 4 exact Z))|(apply Zb (hR);kernel_rfl;(iterate 4 exact Z))|(apply Zb (hT);kernel_rfl;(iterate 4 exact Z))|(apply Zb (hM);kernel_rfl;(iterate 4 exact Z))|(apply Zi Za;exact Z)|(apply Zf Za;exact Z)|(apply Zp Za;exact Z)|(apply Ze;(iterate 3 exact Z);(first|with_reducible assumption|decide +kernel|(solve|simp only[bn])))|(apply Zh;exact Z;(first|with_reducible assumption|decide +kernel|(solve|simp only[bn]));exact Z;exact Z)|(apply Zd;exact Z;(first|with_reducible assumption|decide +kernel|(solve|simp only[bn])))|(apply Zg;exact Z;(first|with_reducible assumption|decide +kernel|(solve|simp only[bn])))|refine Zm Za Z Z Z Z ?_|(apply Zo 11 ZD;decide +kernel;kernel_rfl;kernel_rfl;kernel_rfl;exact Z;exact Z)|(apply Zo 35 ZD;decide +kernel;kernel_rfl;kernel_rfl;kernel_rfl;exact Z;exact Z)|(apply Zs;(iterate 4 exact Z))|exact AE.nil _ _ _ _|(apply Zw;exact Z)|(apply Z7;exact Z)|(apply Zz;exact Z;exact Z;decide +kernel;exact Z)|(apply ZA;exact Z)|(apply Yt;exact Z)|exact AO.nil _ _ _|(apply Zr;(decide +kernel))|(apply ZX;(iterate 3 exact Z))|exact AOs.nil|exact ZF rfl rfl|exact YW rfl rfl|(apply Zv Za;(iterate 6 exact Z);(first|exact Qt|rotate_left);(first|with_reducible assumption|decide +kernel|exact Z);(first|exact Zk rfl|with_reducible assumption|decide +kernel|rotate_left)))
 all_goals exact Qe
theorem Sg [Known](d:List UInt8)(xk uk vk rk sk yk ak bk ck:Int)(xn un vn rn sn yn an bn cn:Nat)(xb xl ub ul vb vl rb rl sb sl yb yl ab al bb bl cb cl:List E)(ji:Bool)(jn js:Nat)(jh jd:List UInt8)(jt jq:Nat)(wk:Int)(wn:Nat)(wb wl:List E)
  (hI:AP Tryz.prog 69 [byE d] (.tup [.agg [.int .i64 xk,.int .u64 (xn:Int),.sl .ext xb,.sl .ext xl],.bool true]) [])
  (hU:Uni 4 xl) (t2:((xl.length:Int) != 2)=false)
  (hv1:xl[(1:Int).toNat]?=some (.agg [.int .i64 uk,.int .u64 (un:Int),.sl ub,.sl ul]))
  (hU1:Uni 4 ul) (t4:((ul.length:Int) != 4)=false)
  (hv2:ul[(0:Int).toNat]?=some (.agg [.int .i64 vk,.int .u64 (vn:Int),.sl vb,.sl vl]))
  (hU2:Uni 4 vl) (t3:((vl.length:Int) != 3)=false)
  (hw1:ul[(1:Int).toNat]?=some (.agg [.int .i64 rk,.int .u64 (rn:Int),.sl rb,.sl rl])) (hw2:ul[(2:Int).toNat]?=some (.agg [.int .i64 sk,.int .u64 (sn:Int),.sl sb,.sl sl])) (hw3:ul[(3:Int).toNat]?=some (.agg [.int .i64 yk,.int .u64 (yn:Int),.sl yb,.sl yl]))
  (ha:vl[(0:Int).toNat]?=some (.agg [.int .i64 ak,.int .u64 (an:Int),.sl ab,.sl al])) (hb:vl[(1:Int).toNat]?=some (.agg [.int .i64 bk,.int .u64 (bn:Int),.sl bb,.sl bl])) (hc:vl[(2:Int).toNat]?=some (.agg [.int .i64 ck,.int .u64 (cn:Int),.sl cb,.sl cl]))
  (hD:AP Tryz.prog 70 [.agg [.int .i64 yk,.int .u64 (yn:Int),.sl .ext yb,.sl .ext yl]] (.tup [.agg [.bool ji,.int .u64 (jn:Int),.int .u64 (js:Int),.str jh,.str jd,.int .u64 (jt:Int),.int .u64 (jq:Int)],.bool true]) [])
  (hR:AP Tryz.prog 25 [.agg [.bool ((an:Int)==1),.bool ((bn:Int)==1),.bool ((cn:Int)==1),.int .u64 (rn:Int),.int .u64 (sn:Int),.bool ji,.int .u64 (jn:Int),.int .u64 (js:Int),.str jh,.str jd,.int .u64 (jt:Int),.int .u64 (jq:Int)]] (.bool true) [])
  (hT:AP Tryz.prog 72 [.agg [.bool ((an:Int)==1),.bool ((bn:Int)==1),.bool ((cn:Int)==1),.int .u64 (rn:Int),.int .u64 (sn:Int),.bool ji,.int .u64 (jn:Int),.int .u64 (js:Int),.str jh,.str jd,.int .u64 (jt:Int),.int .u64 (jq:Int)]] (.agg [.int .i64 wk,.int .u64 (wn:Int),.sl .ext wb,.sl .ext wl]) [])
  (hM:AP Tryz.prog 71 [.agg [.int .i64 wk,.int .u64 (wn:Int),.sl .ext wb,.sl .ext wl],.agg [.int .i64 xk,.int .u64 (xn:Int),.sl .ext xb,.sl .ext xl]] (.bool true) []) :
  AP Tryz.prog 23 [byE d] (.tup [.agg [.bool ((an:Int)==1),.bool ((bn:Int)==1),.bool ((cn:Int)==1),.int .u64 (rn:Int),.int .u64 (sn:Int),.bool ji,.int .u64 (jn:Int),.int .u64 (js:Int),.str jh,.str jd,.int .u64 (jt:Int),.int .u64 (jq:Int)],.bool true]) []:=by
 refine AP.ofA (Zl Tryz.func23 Z Tryz.ntmps23 Z Z ?_)
 repeat'(first|(apply Zb (hI);kernel_rfl;(iterate 4 exact Z))|(apply Zb (hD);kernel_rfl;(iterate 4 exact Z))|(apply Zb (hR);kernel_rfl;(iterate 4 exact Z))|(apply Zb (hT);kernel_rfl;(iterate 4 exact Z))|(apply Zb (hM);kernel_rfl;(iterate 4 exact Z))|(apply Zi Za;exact Z)|(apply Zf Za;exact Z)|(apply Zp Za;exact Z)|(apply Ze;(iterate 3 exact Z);(first|with_reducible assumption|decide +kernel|(solve|simp only[bn])))|(apply Zh;exact Z;(first|with_reducible assumption|decide +kernel|(solve|simp only[bn]));exact Z;exact Z)|(apply Zg;exact Z;(first|with_reducible assumption|decide +kernel|(solve|simp only[bn])))|refine Zm Za Z Z Z Z ?_|(apply Zo 11 ZD;decide +kernel;kernel_rfl;kernel_rfl;kernel_rfl;exact Z;exact Z)|(apply Zo 35 ZD;decide +kernel;kernel_rfl;kernel_rfl;kernel_rfl;exact Z;exact Z)|(apply Zs;(iterate 4 exact Z))|exact AE.nil _ _ _ _|(apply Zw;exact Z)|(apply Z7;exact Z)|(apply Zz;exact Z;exact Z;decide +kernel;exact Z)|(apply ZA;exact Z)|(apply Yt;exact Z)|exact AO.nil _ _ _|(apply Zr;(decide +kernel))|(apply ZX;(iterate 3 exact Z))|exact AOs.nil|exact ZF rfl rfl|exact YW rfl rfl|(apply Zv Za;(iterate 6 exact Z);(first|exact Qt|rotate_left);(first|with_reducible assumption|decide +kernel|exact Z);(first|exact Zk rfl|with_reducible assumption|decide +kernel|rotate_left)))
 all_goals exact Qe
theorem S1 [Known](x:List UInt8)(m e:Int)(kx:Int)(nx:Nat)(bx lx:List E)
  (hR:AP Tryz.prog 58 [byE x,.int .i64 0] (.tup [.agg [.int .i64 kx,.int .u64 (nx:Int),.sl .ext bx,.sl .ext lx],.int .i64 m,.int .i64 e]) [])
  (te:(e != 0)=true) :
  AP Tryz.prog 22 [byE x] (.tup [.agg [.bool false,.bool false,.bool false,.int .u64 0,.int .u64 0,.bool false,.int .u64 0,.int .u64 0,.str [],.str [],.int .u64 0,.int .u64 0],.int .i64 3]) []:=by
 refine AP.ofA (Zl Tryz.func22 Z Tryz.ntmps22 Z Z ?_)
 repeat'(first|(apply Zb (hR);kernel_rfl;(iterate 4 exact Z))|(apply Zi Za;exact Z)|(apply Zf Za;exact Z)|(apply Zp Za;exact Z)|(apply Zn;(iterate 3 exact Z);(first|with_reducible assumption|decide +kernel|(solve|simp only[bn])))|(apply Zj;exact Z;(first|with_reducible assumption|decide +kernel|(solve|simp only[bn]));exact Z;exact Z)|(apply Zd;exact Z;(first|with_reducible assumption|decide +kernel|(solve|simp only[bn]))))
 all_goals exact Qe
theorem Rg [Known](x:List UInt8)(m e:Int)(kx:Int)(nx:Nat)(bx lx:List E)
  (hR:AP Tryz.prog 58 [byE x,.int .i64 0] (.tup [.agg [.int .i64 kx,.int .u64 (nx:Int),.sl .ext bx,.sl .ext lx],.int .i64 m,.int .i64 e]) [])
  (te:(e != 0)=false)
  (t2:((lx.length:Int) != 2)=true) :
  AP Tryz.prog 22 [byE x] (.tup [.agg [.bool false,.bool false,.bool false,.int .u64 0,.int .u64 0,.bool false,.int .u64 0,.int .u64 0,.str [],.str [],.int .u64 0,.int .u64 0],.int .i64 3]) []:=by
 refine AP.ofA (Zl Tryz.func22 Z Tryz.ntmps22 Z Z ?_)
 repeat'(first|(apply Zb (hR);kernel_rfl;(iterate 4 exact Z))|(apply Zi Za;exact Z)|(apply Zf Za;exact Z)|(apply Zp Za;exact Z)|(apply Ze;(iterate 3 exact Z);(first|with_reducible assumption|decide +kernel|(solve|simp only[bn])))|(apply Zn;(iterate 3 exact Z);(first|with_reducible assumption|decide +kernel|(solve|simp only[bn])))|(apply Zj;exact Z;(first|with_reducible assumption|decide +kernel|(solve|simp only[bn]));exact Z;exact Z)|(apply Zh;exact Z;(first|with_reducible assumption|decide +kernel|(solve|simp only[bn]));exact Z;exact Z)|(apply Zd;exact Z;(first|with_reducible assumption|decide +kernel|(solve|simp only[bn])))|refine Zm Za Z Z Z Z ?_)
 all_goals exact Qe
theorem S3 [Known](x:List UInt8)(m e:Int)(kx k1:Int)(nx n1:Nat)(bx lx b1 l1:List E)
  (hR:AP Tryz.prog 58 [byE x,.int .i64 0] (.tup [.agg [.int .i64 kx,.int .u64 (nx:Int),.sl .ext bx,.sl .ext lx],.int .i64 m,.int .i64 e]) [])
  (te:(e != 0)=false)
  (hU:Uni 4 lx)
  (t2:((lx.length:Int) != 2)=false)
  (hv1:lx[(1:Int).toNat]?=some (.agg [.int .i64 k1,.int .u64 (n1:Int),.sl b1,.sl l1]))
  (t4:((l1.length:Int) != 4)=true) :
  AP Tryz.prog 22 [byE x] (.tup [.agg [.bool false,.bool false,.bool false,.int .u64 0,.int .u64 0,.bool false,.int .u64 0,.int .u64 0,.str [],.str [],.int .u64 0,.int .u64 0],.int .i64 3]) []:=by
 refine AP.ofA (Zl Tryz.func22 Z Tryz.ntmps22 Z Z ?_)
 repeat'(first|(apply Zb (hR);kernel_rfl;(iterate 4 exact Z))|(apply Zi Za;exact Z)|(apply Zf Za;exact Z)|(apply Zp Za;exact Z)|(apply Ze;(iterate 3 exact Z);(first|with_reducible assumption|decide +kernel|(solve|simp only[bn])))|(apply Zn;(iterate 3 exact Z);(first|with_reducible assumption|decide +kernel|(solve|simp only[bn])))|(apply Zj;exact Z;(first|with_reducible assumption|decide +kernel|(solve|simp only[bn]));exact Z;exact Z)|(apply Zh;exact Z;(first|with_reducible assumption|decide +kernel|(solve|simp only[bn]));exact Z;exact Z)|(apply Zd;exact Z;(first|with_reducible assumption|decide +kernel|(solve|simp only[bn])))|refine Zm Za Z Z Z Z ?_|(apply Zv Za;(iterate 6 exact Z);(first|exact Qt|rotate_left);(first|with_reducible assumption|decide +kernel|exact Z);(first|exact Zk rfl|with_reducible assumption|decide +kernel|rotate_left)))
 all_goals exact Qe
theorem S4 [Known](x:List UInt8)(m e:Int)(kx k1 k2:Int)(nx n1 n2:Nat)(bx lx b1 l1 b2 l2:List E)
  (hR:AP Tryz.prog 58 [byE x,.int .i64 0] (.tup [.agg [.int .i64 kx,.int .u64 (nx:Int),.sl .ext bx,.sl .ext lx],.int .i64 m,.int .i64 e]) [])
  (te:(e != 0)=false)
  (hU:Uni 4 lx)
  (t2:((lx.length:Int) != 2)=false)
  (hv1:lx[(1:Int).toNat]?=some (.agg [.int .i64 k1,.int .u64 (n1:Int),.sl b1,.sl l1]))
  (hU1:Uni 4 l1)
  (t4:((l1.length:Int) != 4)=false)
  (hv2:l1[(0:Int).toNat]?=some (.agg [.int .i64 k2,.int .u64 (n2:Int),.sl b2,.sl l2]))
  (t3:((l2.length:Int) != 3)=true) :
  AP Tryz.prog 22 [byE x] (.tup [.agg [.bool false,.bool false,.bool false,.int .u64 0,.int .u64 0,.bool false,.int .u64 0,.int .u64 0,.str [],.str [],.int .u64 0,.int .u64 0],.int .i64 3]) []:=by
 refine AP.ofA (Zl Tryz.func22 Z Tryz.ntmps22 Z Z ?_)
 repeat'(first|(apply Zb (hR);kernel_rfl;(iterate 4 exact Z))|(apply Zi Za;exact Z)|(apply Zf Za;exact Z)|(apply Zp Za;exact Z)|(apply Ze;(iterate 3 exact Z);(first|with_reducible assumption|decide +kernel|(solve|simp only[bn])))|(apply Zh;exact Z;(first|with_reducible assumption|decide +kernel|(solve|simp only[bn]));exact Z;exact Z)|(apply Zd;exact Z;(first|with_reducible assumption|decide +kernel|(solve|simp only[bn])))|refine Zm Za Z Z Z Z ?_|(apply Zv Za;(iterate 6 exact Z);(first|exact Qt|rotate_left);(first|with_reducible assumption|decide +kernel|exact Z);(first|exact Zk rfl|with_reducible assumption|decide +kernel|rotate_left)))
 all_goals exact Qe
theorem S5 [Known](x:List UInt8)(m e:Int)(kx k1 k2 k3:Int)(nx n1 n2 n3:Nat)(bx lx b1 l1 b2 l2 b3 l3:List E)(ii:Bool)(jn js jt jq:Nat)(jh jd:List UInt8)(ie:Int)
  (hR:AP Tryz.prog 58 [byE x,.int .i64 0] (.tup [.agg [.int .i64 kx,.int .u64 (nx:Int),.sl .ext bx,.sl .ext lx],.int .i64 m,.int .i64 e]) [])
  (te:(e != 0)=false)
  (hU:Uni 4 lx)
  (t2:((lx.length:Int) != 2)=false)
  (hv1:lx[(1:Int).toNat]?=some (.agg [.int .i64 k1,.int .u64 (n1:Int),.sl b1,.sl l1]))
  (hU1:Uni 4 l1)
  (t4:((l1.length:Int) != 4)=false)
  (hv2:l1[(0:Int).toNat]?=some (.agg [.int .i64 k2,.int .u64 (n2:Int),.sl b2,.sl l2]))
  (hU2:Uni 4 l2)
  (t3:((l2.length:Int) != 3)=false)
  (hv3:l1[(3:Int).toNat]?=some (.agg [.int .i64 k3,.int .u64 (n3:Int),.sl b3,.sl l3]))
  (hI:AP Tryz.prog 67 [.agg [.int .i64 k3,.int .u64 (n3:Int),.sl .ext b3,.sl .ext l3]] (.tup [.agg [.bool ii,.int .u64 (jn:Int),.int .u64 (js:Int),.str jh,.str jd,.int .u64 (jt:Int),.int .u64 (jq:Int)],.int .i64 ie]) [])
  (ti:(ie != 0)=true) :
  AP Tryz.prog 22 [byE x] (.tup [.agg [.bool false,.bool false,.bool false,.int .u64 0,.int .u64 0,.bool false,.int .u64 0,.int .u64 0,.str [],.str [],.int .u64 0,.int .u64 0],.int .i64 3]) []:=by
 refine AP.ofA (Zl Tryz.func22 Z Tryz.ntmps22 Z Z ?_)
 repeat'(first|(apply Zb (hR);kernel_rfl;(iterate 4 exact Z))|(apply Zb (hI);kernel_rfl;(iterate 4 exact Z))|(apply Zi Za;exact Z)|(apply Zf Za;exact Z)|(apply Zp Za;exact Z)|(apply Ze;(iterate 3 exact Z);(first|with_reducible assumption|decide +kernel|(solve|simp only[bn])))|(apply Zh;exact Z;(first|with_reducible assumption|decide +kernel|(solve|simp only[bn]));exact Z;exact Z)|(apply Zd;exact Z;(first|with_reducible assumption|decide +kernel|(solve|simp only[bn])))|(apply Zg;exact Z;(first|with_reducible assumption|decide +kernel|(solve|simp only[bn])))|refine Zm Za Z Z Z Z ?_|(apply Zv Za;(iterate 6 exact Z);(first|exact Qt|rotate_left);(first|with_reducible assumption|decide +kernel|exact Z);(first|exact Zk rfl|with_reducible assumption|decide +kernel|rotate_left)))
 all_goals exact Qe
theorem S6 [Known](x:List UInt8)(m e:Int)(kx k1 k2 k3 k5 k6 k7 k8 k9:Int)(nx n1 n2 n3 n5 n6 n7 n8 n9:Nat)(bx lx b1 l1 b2 l2 b3 l3 b5 l5 b6 l6 b7 l7 b8 l8 b9 l9:List E)(ii:Bool)(jn js jt jq:Nat)(jh jd:List UInt8)(ie:Int)(wb:List UInt8)(we:Int)
  (hR:AP Tryz.prog 58 [byE x,.int .i64 0] (.tup [.agg [.int .i64 kx,.int .u64 (nx:Int),.sl .ext bx,.sl .ext lx],.int .i64 m,.int .i64 e]) [])
  (te:(e != 0)=false)
  (hU:Uni 4 lx)
  (t2:((lx.length:Int) != 2)=false)
  (hv1:lx[(1:Int).toNat]?=some (.agg [.int .i64 k1,.int .u64 (n1:Int),.sl b1,.sl l1]))
  (hU1:Uni 4 l1)
  (t4:((l1.length:Int) != 4)=false)
  (hv2:l1[(0:Int).toNat]?=some (.agg [.int .i64 k2,.int .u64 (n2:Int),.sl b2,.sl l2]))
  (hU2:Uni 4 l2)
  (t3:((l2.length:Int) != 3)=false)
  (hv3:l1[(3:Int).toNat]?=some (.agg [.int .i64 k3,.int .u64 (n3:Int),.sl b3,.sl l3]))
  (hI:AP Tryz.prog 67 [.agg [.int .i64 k3,.int .u64 (n3:Int),.sl .ext b3,.sl .ext l3]] (.tup [.agg [.bool ii,.int .u64 (jn:Int),.int .u64 (js:Int),.str jh,.str jd,.int .u64 (jt:Int),.int .u64 (jq:Int)],.int .i64 ie]) [])
  (ti:(ie != 0)=false)
  (hv5:l2[(0:Int).toNat]?=some (.agg [.int .i64 k5,.int .u64 (n5:Int),.sl b5,.sl l5]))
  (hv6:l2[(1:Int).toNat]?=some (.agg [.int .i64 k6,.int .u64 (n6:Int),.sl b6,.sl l6]))
  (hv7:l2[(2:Int).toNat]?=some (.agg [.int .i64 k7,.int .u64 (n7:Int),.sl b7,.sl l7]))
  (hv8:l1[(1:Int).toNat]?=some (.agg [.int .i64 k8,.int .u64 (n8:Int),.sl b8,.sl l8]))
  (hv9:l1[(2:Int).toNat]?=some (.agg [.int .i64 k9,.int .u64 (n9:Int),.sl b9,.sl l9]))
  (hW:AP Tryz.prog 21 [.agg [.bool ((n5:Int)==1),.bool ((n6:Int)==1),.bool ((n7:Int)==1),.int .u64 (n8:Int),.int .u64 (n9:Int),.bool ii,.int .u64 (jn:Int),.int .u64 (js:Int),.str jh,.str jd,.int .u64 (jt:Int),.int .u64 (jq:Int)]] (.tup [byE wb,.int .i64 we]) [])
  (hE:AP Tryz.prog 68 [byE wb,byE x] (.bool (wb==x)) [])
  (tw:(we != 0)=true) :
  AP Tryz.prog 22 [byE x] (.tup [.agg [.bool false,.bool false,.bool false,.int .u64 0,.int .u64 0,.bool false,.int .u64 0,.int .u64 0,.str [],.str [],.int .u64 0,.int .u64 0],.int .i64 3]) []:=by
 refine AP.ofA (Zl Tryz.func22 Z Tryz.ntmps22 Z Z ?_)
 repeat'(first|(apply Zb (hR);kernel_rfl;(iterate 4 exact Z))|(apply Zb (hI);kernel_rfl;(iterate 4 exact Z))|(apply Zb (hW);kernel_rfl;(iterate 4 exact Z))|(apply Zi Za;exact Z)|(apply Zf Za;exact Z)|(apply Zp Za;exact Z)|(apply Ze;(iterate 3 exact Z);(first|with_reducible assumption|decide +kernel|(solve|simp only[bn])))|(apply Zn;(iterate 3 exact Z);(first|with_reducible assumption|decide +kernel|(solve|simp only[bn])))|(apply Zj;exact Z;(first|with_reducible assumption|decide +kernel|(solve|simp only[bn]));exact Z;exact Z)|(apply Zh;exact Z;(first|with_reducible assumption|decide +kernel|(solve|simp only[bn]));exact Z;exact Z)|(apply Zd;exact Z;(first|with_reducible assumption|decide +kernel|(solve|simp only[bn])))|(apply Zg;exact Z;(first|with_reducible assumption|decide +kernel|(solve|simp only[bn])))|refine Zm Za Z Z Z Z ?_|(apply Zo 35 ZD;decide +kernel;kernel_rfl;kernel_rfl;kernel_rfl;exact Z;exact Z)|(apply Zs;(iterate 4 exact Z))|exact AE.nil _ _ _ _|(apply Zw;exact Z)|(apply Z7;exact Z)|(apply Zz;exact Z;exact Z;decide +kernel;exact Z)|(apply ZA;exact Z)|(apply Yt;exact Z)|exact AO.nil _ _ _|(apply Zr;(decide +kernel))|(apply ZX;(iterate 3 exact Z))|exact AOs.nil|exact ZF rfl rfl|exact YW rfl rfl|(apply Zv Za;(iterate 6 exact Z);(first|exact Qt|rotate_left);(first|with_reducible assumption|decide +kernel|exact Z);(first|exact Zk rfl|with_reducible assumption|decide +kernel|rotate_left)))
 all_goals exact Qe
theorem S7 [Known](x:List UInt8)(m e:Int)(kx k1 k2 k3 k5 k6 k7 k8 k9:Int)(nx n1 n2 n3 n5 n6 n7 n8 n9:Nat)(bx lx b1 l1 b2 l2 b3 l3 b5 l5 b6 l6 b7 l7 b8 l8 b9 l9:List E)(ii:Bool)(jn js jt jq:Nat)(jh jd:List UInt8)(ie:Int)(wb:List UInt8)(we:Int)
  (hR:AP Tryz.prog 58 [byE x,.int .i64 0] (.tup [.agg [.int .i64 kx,.int .u64 (nx:Int),.sl .ext bx,.sl .ext lx],.int .i64 m,.int .i64 e]) [])
  (te:(e != 0)=false)
  (hU:Uni 4 lx)
  (t2:((lx.length:Int) != 2)=false)
  (hv1:lx[(1:Int).toNat]?=some (.agg [.int .i64 k1,.int .u64 (n1:Int),.sl b1,.sl l1]))
  (hU1:Uni 4 l1)
  (t4:((l1.length:Int) != 4)=false)
  (hv2:l1[(0:Int).toNat]?=some (.agg [.int .i64 k2,.int .u64 (n2:Int),.sl b2,.sl l2]))
  (hU2:Uni 4 l2)
  (t3:((l2.length:Int) != 3)=false)
  (hv3:l1[(3:Int).toNat]?=some (.agg [.int .i64 k3,.int .u64 (n3:Int),.sl b3,.sl l3]))
  (hI:AP Tryz.prog 67 [.agg [.int .i64 k3,.int .u64 (n3:Int),.sl .ext b3,.sl .ext l3]] (.tup [.agg [.bool ii,.int .u64 (jn:Int),.int .u64 (js:Int),.str jh,.str jd,.int .u64 (jt:Int),.int .u64 (jq:Int)],.int .i64 ie]) [])
  (ti:(ie != 0)=false)
  (hv5:l2[(0:Int).toNat]?=some (.agg [.int .i64 k5,.int .u64 (n5:Int),.sl b5,.sl l5]))
  (hv6:l2[(1:Int).toNat]?=some (.agg [.int .i64 k6,.int .u64 (n6:Int),.sl b6,.sl l6]))
  (hv7:l2[(2:Int).toNat]?=some (.agg [.int .i64 k7,.int .u64 (n7:Int),.sl b7,.sl l7]))
  (hv8:l1[(1:Int).toNat]?=some (.agg [.int .i64 k8,.int .u64 (n8:Int),.sl b8,.sl l8]))
  (hv9:l1[(2:Int).toNat]?=some (.agg [.int .i64 k9,.int .u64 (n9:Int),.sl b9,.sl l9]))
  (hW:AP Tryz.prog 21 [.agg [.bool ((n5:Int)==1),.bool ((n6:Int)==1),.bool ((n7:Int)==1),.int .u64 (n8:Int),.int .u64 (n9:Int),.bool ii,.int .u64 (jn:Int),.int .u64 (js:Int),.str jh,.str jd,.int .u64 (jt:Int),.int .u64 (jq:Int)]] (.tup [byE wb,.int .i64 we]) [])
  (hE:AP Tryz.prog 68 [byE wb,byE x] (.bool (wb==x)) [])
  (tw:(we != 0)=false)
  (hb:(wb==x)=false) :
  AP Tryz.prog 22 [byE x] (.tup [.agg [.bool false,.bool false,.bool false,.int .u64 0,.int .u64 0,.bool false,.int .u64 0,.int .u64 0,.str [],.str [],.int .u64 0,.int .u64 0],.int .i64 3]) []:=by
 rw[hb]at hE
 refine AP.ofA (Zl Tryz.func22 Z Tryz.ntmps22 Z Z ?_)
 repeat'(first|(apply Zb (hR);kernel_rfl;(iterate 4 exact Z))|(apply Zb (hI);kernel_rfl;(iterate 4 exact Z))|(apply Zb (hW);kernel_rfl;(iterate 4 exact Z))|(apply Zb (hE);kernel_rfl;(iterate 4 exact Z))|(apply Zi Za;exact Z)|(apply Zf Za;exact Z)|(apply Zp Za;exact Z)|(apply Ze;(iterate 3 exact Z);(first|with_reducible assumption|decide +kernel|(solve|simp only[bn])))|(apply Zh;exact Z;(first|with_reducible assumption|decide +kernel|(solve|simp only[bn]));exact Z;exact Z)|(apply Zd;exact Z;(first|with_reducible assumption|decide +kernel|(solve|simp only[bn])))|(apply Zg;exact Z;(first|with_reducible assumption|decide +kernel|(solve|simp only[bn])))|refine Zm Za Z Z Z Z ?_|(apply Zo 35 ZD;decide +kernel;kernel_rfl;kernel_rfl;kernel_rfl;exact Z;exact Z)|(apply Zs;(iterate 4 exact Z))|exact AE.nil _ _ _ _|(apply Zw;exact Z)|(apply Z7;exact Z)|(apply Zz;exact Z;exact Z;decide +kernel;exact Z)|(apply ZA;exact Z)|(apply Yt;exact Z)|exact AO.nil _ _ _|(apply Zr;(decide +kernel))|(apply ZX;(iterate 3 exact Z))|exact AOs.nil|exact ZF rfl rfl|exact YW rfl rfl|(apply Zv Za;(iterate 6 exact Z);(first|exact Qt|rotate_left);(first|with_reducible assumption|decide +kernel|exact Z);(first|exact Zk rfl|with_reducible assumption|decide +kernel|rotate_left)))
 all_goals exact Qe
theorem Sh [Known](x:List UInt8)(m e:Int)(kx k1 k2 k3 k5 k6 k7 k8 k9:Int)(nx n1 n2 n3 n5 n6 n7 n8 n9:Nat)(bx lx b1 l1 b2 l2 b3 l3 b5 l5 b6 l6 b7 l7 b8 l8 b9 l9:List E)(ii:Bool)(jn js jt jq:Nat)(jh jd:List UInt8)(ie:Int)(wb:List UInt8)(we:Int)
  (hR:AP Tryz.prog 58 [byE x,.int .i64 0] (.tup [.agg [.int .i64 kx,.int .u64 (nx:Int),.sl .ext bx,.sl .ext lx],.int .i64 m,.int .i64 e]) [])
  (te:(e != 0)=false)
  (hU:Uni 4 lx)
  (t2:((lx.length:Int) != 2)=false)
  (hv1:lx[(1:Int).toNat]?=some (.agg [.int .i64 k1,.int .u64 (n1:Int),.sl b1,.sl l1]))
  (hU1:Uni 4 l1)
  (t4:((l1.length:Int) != 4)=false)
  (hv2:l1[(0:Int).toNat]?=some (.agg [.int .i64 k2,.int .u64 (n2:Int),.sl b2,.sl l2]))
  (hU2:Uni 4 l2)
  (t3:((l2.length:Int) != 3)=false)
  (hv3:l1[(3:Int).toNat]?=some (.agg [.int .i64 k3,.int .u64 (n3:Int),.sl b3,.sl l3]))
  (hI:AP Tryz.prog 67 [.agg [.int .i64 k3,.int .u64 (n3:Int),.sl .ext b3,.sl .ext l3]] (.tup [.agg [.bool ii,.int .u64 (jn:Int),.int .u64 (js:Int),.str jh,.str jd,.int .u64 (jt:Int),.int .u64 (jq:Int)],.int .i64 ie]) [])
  (ti:(ie != 0)=false)
  (hv5:l2[(0:Int).toNat]?=some (.agg [.int .i64 k5,.int .u64 (n5:Int),.sl b5,.sl l5]))
  (hv6:l2[(1:Int).toNat]?=some (.agg [.int .i64 k6,.int .u64 (n6:Int),.sl b6,.sl l6]))
  (hv7:l2[(2:Int).toNat]?=some (.agg [.int .i64 k7,.int .u64 (n7:Int),.sl b7,.sl l7]))
  (hv8:l1[(1:Int).toNat]?=some (.agg [.int .i64 k8,.int .u64 (n8:Int),.sl b8,.sl l8]))
  (hv9:l1[(2:Int).toNat]?=some (.agg [.int .i64 k9,.int .u64 (n9:Int),.sl b9,.sl l9]))
  (hW:AP Tryz.prog 21 [.agg [.bool ((n5:Int)==1),.bool ((n6:Int)==1),.bool ((n7:Int)==1),.int .u64 (n8:Int),.int .u64 (n9:Int),.bool ii,.int .u64 (jn:Int),.int .u64 (js:Int),.str jh,.str jd,.int .u64 (jt:Int),.int .u64 (jq:Int)]] (.tup [byE wb,.int .i64 we]) [])
  (hE:AP Tryz.prog 68 [byE wb,byE x] (.bool (wb==x)) [])
  (tw:(we != 0)=false)
  (hb:(wb==x)=true) :
  AP Tryz.prog 22 [byE x] (.tup [.agg [.bool ((n5:Int)==1),.bool ((n6:Int)==1),.bool ((n7:Int)==1),.int .u64 (n8:Int),.int .u64 (n9:Int),.bool ii,.int .u64 (jn:Int),.int .u64 (js:Int),.str jh,.str jd,.int .u64 (jt:Int),.int .u64 (jq:Int)],.int .i64 0]) []:=by
 rw[hb]at hE
 refine AP.ofA (Zl Tryz.func22 Z Tryz.ntmps22 Z Z ?_)
 repeat'(first|(apply Zb (hR);kernel_rfl;(iterate 4 exact Z))|(apply Zb (hI);kernel_rfl;(iterate 4 exact Z))|(apply Zb (hW);kernel_rfl;(iterate 4 exact Z))|(apply Zb (hE);kernel_rfl;(iterate 4 exact Z))|(apply Zi Za;exact Z)|(apply Zf Za;exact Z)|(apply Zp Za;exact Z)|(apply Ze;(iterate 3 exact Z);(first|with_reducible assumption|decide +kernel|(solve|simp only[bn])))|(apply Zh;exact Z;(first|with_reducible assumption|decide +kernel|(solve|simp only[bn]));exact Z;exact Z)|(apply Zg;exact Z;(first|with_reducible assumption|decide +kernel|(solve|simp only[bn])))|refine Zm Za Z Z Z Z ?_|(apply Zo 35 ZD;decide +kernel;kernel_rfl;kernel_rfl;kernel_rfl;exact Z;exact Z)|(apply Zs;(iterate 4 exact Z))|exact AE.nil _ _ _ _|(apply Zw;exact Z)|(apply Z7;exact Z)|(apply Zz;exact Z;exact Z;decide +kernel;exact Z)|(apply ZA;exact Z)|(apply Yt;exact Z)|exact AO.nil _ _ _|(apply Zr;(decide +kernel))|(apply ZX;(iterate 3 exact Z))|exact AOs.nil|exact ZF rfl rfl|exact YW rfl rfl|(apply Zv Za;(iterate 6 exact Z);(first|exact Qt|rotate_left);(first|with_reducible assumption|decide +kernel|exact Z);(first|exact Zk rfl|with_reducible assumption|decide +kernel|rotate_left)))
 all_goals exact Qe
def rp0:RepV:=⟨false,false,false,0,0,Ye,0,0⟩
def Wa (m1 m2 m3 y1 y2 y3:It):RepV:=⟨(m1.n:Int)==1,(m2.n:Int)==1,(m3.n:Int)==1,y1.n,y2.n,(Yu y3).1,(Yu y3).2.1,(Yu y3).2.2.1⟩
def Jo (x:It)(b:List UInt8):RepV × Int:=match x.l with
 | [_,x1]=>(match x1.l with
  | [z0,y1,y2,y3]=>(match z0.l with
   | [m1,m2,m3]=>(match(Yu y3).2.2.2 with
    | false=>(rp0,3)
    | true=>match(YX (Wa m1 m2 m3 y1 y2 y3)).2 != 0 with
     | true=>(rp0,3)
     | false=>match(YX (Wa m1 m2 m3 y1 y2 y3)).1==b with
      | false=>(rp0,3)
      | true=>(Wa m1 m2 m3 y1 y2 y3,0))
   | _=>(rp0,3))
  | _=>(rp0,3))
 | _=>(rp0,3)
def WG (b:List UInt8):RepV × Int:=match((Yg b 0).2.2:Int) != 0 with
 | true=>(rp0,3)
 | false=>Jo (Yg b 0).1 b
theorem X6 [Known][KnownU8](b:List UInt8)(hb:b.length<=3000):AP Tryz.prog 22 [byE b] (.tup [.agg (Jn (WG b).1),.int .i64 (WG b).2]) []:=by
 have hR:=X1 b 0 (by omega)
 unfold WG
 rcases VC b (by omega) with⟨e,he,h,_⟩ | ⟨y,n,h,hw,_,_,_⟩
 ·rw[h]at hR ⊢
  have te:((e:Int) != 0)=true:=by simpa using he
  dsimp only
  rw[te]
  exact S1 b _ _ _ _ _ _ hR te
 rw[h]at hR ⊢
 have te:(((0:Nat):Int) != 0)=false:=rfl
 dsimp only
 rw[te]
 dsimp only
 clear h
 have hws:wfs y.l:=by obtain⟨k,n1,b1,l⟩:=y;exact hw.2.2.2
 obtain⟨k,n1,b1,l⟩:=y
 unfold Jo
 dsimp only[It.l]at hws ⊢
 have hlen:=Zx l
 rcases l with _|⟨x0,_|⟨x1,_|⟨x2,l⟩⟩⟩
 ·exact Rg b _ _ _ _ _ _ hR te (by rw[hlen];rfl)
 ·exact Rg b _ _ _ _ _ _ hR te (by rw[hlen];rfl)
 ·have hU:=Yz [x0,x1]
  have hw1:=hws.2.1
  obtain⟨k0,n0,b0,l0⟩:=x0
  obtain⟨k1,n1',b1',l1⟩:=x1
  have hw1:wfs l1:=hw1.2.2.2
  have hlen1:=Zx l1
  have hU1:=Yz l1
  rcases l1 with _|⟨z0,_|⟨z1,_|⟨z2,_|⟨z3,_|⟨z4,l1⟩⟩⟩⟩⟩
  case cons.cons.cons.cons.nil=>
   obtain⟨kz,nz,bz,lz⟩:=z0
   have hlenz:=Zx lz
   have hUz:=Yz lz
   have hI:=NW z3 hw1.2.2.2.1
   rcases lz with _|⟨m1,_|⟨m2,_|⟨m3,_|⟨m4,lz⟩⟩⟩⟩
   case cons.cons.cons.nil=>
    have hW:=Ui (Wa m1 m2 m3 z1 z2 z3)
    have hE:=Gr (YX (Wa m1 m2 m3 z1 z2 z3)).1 b
    dsimp only
    unfold Wa at *
    obtain⟨k5,n5,b5,l5⟩:=m1
    obtain⟨k6,n6,b6,l6⟩:=m2
    obtain⟨k7,n7,b7,l7⟩:=m3
    obtain⟨k8,n8,b8,l8⟩:=z1
    obtain⟨k9,n9,b9,l9⟩:=z2
    generalize Yu z3=I at *
    obtain⟨⟨ii,jn,js,jh,jd⟩,jt,jq,ok⟩:=I
    obtain⟨k3,n3,b3,l3⟩:=z3
    dsimp only[It.n]at *
    cases ok with
    | false=>exact S5 (x:=b) (hR:=hR) (te:=te) (hU:=hU) (t2:=rfl) (hv1:=rfl) (hU1:=hU1) (t4:=rfl) (hv2:=rfl) (hU2:=hUz) (t3:=rfl) (hv3:=rfl) (hI:=hI) (ti:=rfl) ..
    | true=>
     generalize YX _=w at *
     obtain⟨wb,we⟩:=w
     dsimp only at *
     cases tw:(we != 0) with
     | true=>exact S6 (x:=b) (hR:=hR) (te:=te) (hU:=hU) (t2:=rfl) (hv1:=rfl) (hU1:=hU1) (t4:=rfl) (hv2:=rfl) (hU2:=hUz) (t3:=rfl) (hv3:=rfl) (hI:=hI) (ti:=rfl) (hv5:=rfl) (hv6:=rfl) (hv7:=rfl) (hv8:=rfl) (hv9:=rfl) (hW:=hW) (hE:=hE) (tw:=tw) ..
     | false=>
      cases hbb:(wb==b) with
      | false=>exact S7 (x:=b) (hR:=hR) (te:=te) (hU:=hU) (t2:=rfl) (hv1:=rfl) (hU1:=hU1) (t4:=rfl) (hv2:=rfl) (hU2:=hUz) (t3:=rfl) (hv3:=rfl) (hI:=hI) (ti:=rfl) (hv5:=rfl) (hv6:=rfl) (hv7:=rfl) (hv8:=rfl) (hv9:=rfl) (hW:=hW) (hE:=hE) (tw:=tw) (hb:=hbb) ..
      | true=>exact Sh (x:=b) (hR:=hR) (te:=te) (hU:=hU) (t2:=rfl) (hv1:=rfl) (hU1:=hU1) (t4:=rfl) (hv2:=rfl) (hU2:=hUz) (t3:=rfl) (hv3:=rfl) (hI:=hI) (ti:=rfl) (hv5:=rfl) (hv6:=rfl) (hv7:=rfl) (hv8:=rfl) (hv9:=rfl) (hW:=hW) (hE:=hE) (tw:=tw) (hb:=hbb) ..
   all_goals exact S4 (x:=b) (hR:=hR) (te:=te) (hU:=hU) (t2:=rfl) (hv1:=rfl) (hU1:=hU1) (t4:=rfl) (hv2:=rfl) (t3:=by rw[hlenz];simp;try omega) ..
  all_goals exact S3 (x:=b) (hR:=hR) (te:=te) (hU:=hU) (t2:=rfl) (hv1:=rfl) (t4:=by rw[hlen1];simp;try omega) ..
 ·exact Rg b _ _ _ _ _ _ hR te (by rw[hlen];simp;try omega)
end Go.Proofs.YtmljabhmajehnaaGreatDoor
end
