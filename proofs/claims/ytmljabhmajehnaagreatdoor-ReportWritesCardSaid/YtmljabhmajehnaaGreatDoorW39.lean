/- ReportWrites: the walk by cases (rwgen.py). -/
import Derived.Test.YtmljabhmajehnaaGreatDoorW32
import Derived.Test.YtmljabhmajehnaaGreatDoorW35
import Derived.Test.YtmljabhmajehnaaGreatDoorW18
import Derived.Test.YtmljabhmajehnaaGreatDoorW01
import Derived.Test.YtmljabhmajehnaaGreatDoorW30
import Derived.Test.YtmljabhmajehnaaGreatDoorW38
import Derived.Test.YtmljabhmajehnaaGreatDoorW07
import Derived.Test.YtmljabhmajehnaaGreatDoorW10
import Derived.Test.YtmljabhmajehnaaGreatDoorProg
import Derived.Lib.LaidU8
set_option linter.unusedVariables false
set_option linter.unusedSimpArgs false
section
open Go.RowKit Go.Pl Go.Av
namespace Go.Proofs.YtmljabhmajehnaaGreatDoor
set_option maxHeartbeats 4000000
theorem Jq [Known](r:RepV)(hE:AP Tryz.prog 29 [.agg (iC r.of r.t r.q)] (.agg (iC r.of r.t r.q)) []):AP Tryz.prog 20 [.agg (Jn r)] (.agg (Jn r)) []:=by
 obtain⟨a,b,c,rs,tm,⟨i,n,s,h,d⟩,t,q⟩:=r
 refine AP.ofA (Zl Tryz.func20 Z Tryz.ntmps20 Z Z ?_)
 repeat'(first|(apply Zb (hE);kernel_rfl;(iterate 4 exact Z))|(apply Zi Za;exact Z)|(apply Zf Za;exact Z)|(apply Zo 13 ZD;decide +kernel;kernel_rfl;kernel_rfl;kernel_rfl;exact Z;exact Z)|(apply Zs;(iterate 4 exact Z))|exact AE.nil _ _ _ _|(apply Zw;exact Z)|(apply Zz;exact Z;exact Z;decide +kernel;exact Z)|(apply ZA;exact Z)|exact AO.nil _ _ _|(apply Zr;(decide +kernel))|exact AOs.nil|exact ZF rfl rfl)
 all_goals exact Qe
theorem S8 [Known](ra rb rc:Bool)(rrs rtm:Nat)(ji:Bool)(jn js:Nat)(jh jd:List UInt8)(rt rq:Nat)(d:List UInt8) 
  (hA:AP Tryz.prog 19 [] (.bool true) [])
  (hG:AP Tryz.prog 18 [.agg [.bool ji,.int .u64 (jn:Int),.int .u64 (js:Int),.str jh,.str jd,.int .u64 (rt:Int),.int .u64 (rq:Int)]] (.bool true) []) :
  AP Tryz.prog 4 [.agg [.bool ra,.bool rb,.bool rc,.int .u64 (rrs:Int),.int .u64 (rtm:Int),.bool ji,.int .u64 (jn:Int),.int .u64 (js:Int),.str jh,.str jd,.int .u64 (rt:Int),.int .u64 (rq:Int)],byE d] (.bool true) []:=by
 refine AP.ofA (Zl Tryz.func4 Z Tryz.ntmps4 Z Z ?_)
 repeat'(first|(apply Zb (hA);kernel_rfl;(iterate 4 exact Z))|(apply Zb (hG);kernel_rfl;(iterate 4 exact Z))|(apply Zi Za;exact Z)|(apply Zf Za;exact Z)|(apply Zp Za;exact Z)|(apply Zn;(iterate 3 exact Z);(first|with_reducible assumption|decide +kernel|(solve|simp only[bn])))|(apply Zj;exact Z;(first|with_reducible assumption|decide +kernel|(solve|simp only[bn]));exact Z;exact Z)|(apply Zd;exact Z;(first|with_reducible assumption|decide +kernel|(solve|simp only[bn]))))
 all_goals exact Qe
theorem S9 [Known](ra rb rc:Bool)(rrs rtm:Nat)(ji:Bool)(jn js:Nat)(jh jd:List UInt8)(rt rq:Nat)(d:List UInt8) 
  (hA:AP Tryz.prog 19 [] (.bool true) [])
  (hG:AP Tryz.prog 18 [.agg [.bool ji,.int .u64 (jn:Int),.int .u64 (js:Int),.str jh,.str jd,.int .u64 (rt:Int),.int .u64 (rq:Int)]] (.bool false) [])
  (t0:decide (((d.map E.byte).length:Int)>500)=true) :
  AP Tryz.prog 4 [.agg [.bool ra,.bool rb,.bool rc,.int .u64 (rrs:Int),.int .u64 (rtm:Int),.bool ji,.int .u64 (jn:Int),.int .u64 (js:Int),.str jh,.str jd,.int .u64 (rt:Int),.int .u64 (rq:Int)],byE d] (.bool true) []:=by
 refine AP.ofA (Zl Tryz.func4 Z Tryz.ntmps4 Z Z ?_)
 repeat'(first|(apply Zb (hA);kernel_rfl;(iterate 4 exact Z))|(apply Zb (hG);kernel_rfl;(iterate 4 exact Z))|(apply Zi Za;exact Z)|(apply Zf Za;exact Z)|(apply Zp Za;exact Z)|(apply Ze;(iterate 3 exact Z);(first|with_reducible assumption|decide +kernel|(solve|simp only[bn])))|(apply Zh;exact Z;(first|with_reducible assumption|decide +kernel|(solve|simp only[bn]));exact Z;exact Z)|(apply Zd;exact Z;(first|with_reducible assumption|decide +kernel|(solve|simp only[bn])))|refine Zm Za Z Z Z Z ?_)
 all_goals exact Qe
theorem Sm [Known](ra rb rc:Bool)(rrs rtm:Nat)(ji:Bool)(jn js:Nat)(jh jd:List UInt8)(rt rq:Nat)(d:List UInt8)(sa sb sc:Bool)(srs stm:Nat)(gi:Bool)(gn gs:Nat)(gh gd:List UInt8)(st sq:Nat)
  (hA:AP Tryz.prog 19 [] (.bool true) [])
  (hG:AP Tryz.prog 18 [.agg [.bool ji,.int .u64 (jn:Int),.int .u64 (js:Int),.str jh,.str jd,.int .u64 (rt:Int),.int .u64 (rq:Int)]] (.bool false) [])
  (t0:decide (((d.map E.byte).length:Int)>500)=false)
  (hS:AP Tryz.prog 20 [.agg [.bool ra,.bool rb,.bool rc,.int .u64 (rrs:Int),.int .u64 (rtm:Int),.bool ji,.int .u64 (jn:Int),.int .u64 (js:Int),.str jh,.str jd,.int .u64 (rt:Int),.int .u64 (rq:Int)]] (.agg [.bool ra,.bool rb,.bool rc,.int .u64 (rrs:Int),.int .u64 (rtm:Int),.bool ji,.int .u64 (jn:Int),.int .u64 (js:Int),.str jh,.str jd,.int .u64 (rt:Int),.int .u64 (rq:Int)]) [])
  (hS2:AP Tryz.prog 20 [.agg [.bool sa,.bool sb,.bool sc,.int .u64 (srs:Int),.int .u64 (stm:Int),.bool gi,.int .u64 (gn:Int),.int .u64 (gs:Int),.str gh,.str gd,.int .u64 (st:Int),.int .u64 (sq:Int)]] (.agg [.bool sa,.bool sb,.bool sc,.int .u64 (srs:Int),.int .u64 (stm:Int),.bool gi,.int .u64 (gn:Int),.int .u64 (gs:Int),.str gh,.str gd,.int .u64 (st:Int),.int .u64 (sq:Int)]) [])
  (hRd:AP Tryz.prog 22 [byE d] (.tup [.agg [.bool sa,.bool sb,.bool sc,.int .u64 (srs:Int),.int .u64 (stm:Int),.bool gi,.int .u64 (gn:Int),.int .u64 (gs:Int),.str gh,.str gd,.int .u64 (st:Int),.int .u64 (sq:Int)],.int .i64 3]) [])
  (hDd:AP Tryz.prog 23 [byE d] (.tup [.agg [.bool sa,.bool sb,.bool sc,.int .u64 (srs:Int),.int .u64 (stm:Int),.bool gi,.int .u64 (gn:Int),.int .u64 (gs:Int),.str gh,.str gd,.int .u64 (st:Int),.int .u64 (sq:Int)],.bool false]) [])
  (y1:(!((sa==sa)&&((sb==sb)&&((sc==sc)&&(((srs:Int)==(srs:Int))&&(((stm:Int)==(stm:Int))&&((gi==gi)&&(((gn:Int)==(gn:Int))&&(((gs:Int)==(gs:Int))&&((gh==gh)&&((gd==gd)&&(((st:Int)==(st:Int))&&(((sq:Int)==(sq:Int))&&true)))))))))))))=false)
  (y2:((( 3:Int)==0) != false)=false)
  (hW:AP Tryz.prog 21 [.agg [.bool ra,.bool rb,.bool rc,.int .u64 (rrs:Int),.int .u64 (rtm:Int),.bool ji,.int .u64 (jn:Int),.int .u64 (js:Int),.str jh,.str jd,.int .u64 (rt:Int),.int .u64 (rq:Int)]] (.tup [.sl .ext [],.int .i64 3]) [])
  (hR1:AP Tryz.prog 24 [.agg [.bool ra,.bool rb,.bool rc,.int .u64 (rrs:Int),.int .u64 (rtm:Int),.bool ji,.int .u64 (jn:Int),.int .u64 (js:Int),.str jh,.str jd,.int .u64 (rt:Int),.int .u64 (rq:Int)]] (.bool false) [])
  (hR2:AP Tryz.prog 25 [.agg [.bool ra,.bool rb,.bool rc,.int .u64 (rrs:Int),.int .u64 (rtm:Int),.bool ji,.int .u64 (jn:Int),.int .u64 (js:Int),.str jh,.str jd,.int .u64 (rt:Int),.int .u64 (rq:Int)]] (.bool false) []) :
  AP Tryz.prog 4 [.agg [.bool ra,.bool rb,.bool rc,.int .u64 (rrs:Int),.int .u64 (rtm:Int),.bool ji,.int .u64 (jn:Int),.int .u64 (js:Int),.str jh,.str jd,.int .u64 (rt:Int),.int .u64 (rq:Int)],byE d] (.bool true) []:=by
 refine AP.ofA (Zl Tryz.func4 Z Tryz.ntmps4 Z Z ?_)
 repeat'(first|(apply Zb (hA);kernel_rfl;(iterate 4 exact Z))|(apply Zb (hG);kernel_rfl;(iterate 4 exact Z))|(apply Zb (hS);kernel_rfl;(iterate 4 exact Z))|(apply Zb (hS2);kernel_rfl;(iterate 4 exact Z))|(apply Zb (hRd);kernel_rfl;(iterate 4 exact Z))|(apply Zb (hDd);kernel_rfl;(iterate 4 exact Z))|(apply Zb (hW);kernel_rfl;(iterate 4 exact Z))|(apply Zb (hR1);kernel_rfl;(iterate 4 exact Z))|(apply Zb (hR2);kernel_rfl;(iterate 4 exact Z))|(apply Zi Za;exact Z)|(apply Zf Za;exact Z)|(apply Zp Za;exact Z)|(apply Ze;(iterate 3 exact Z);(first|with_reducible assumption|decide +kernel|(solve|simp only[bn])))|(apply Zj;exact Z;(first|with_reducible assumption|decide +kernel|(solve|simp only[bn]));exact Z;exact Z)|(apply Zh;exact Z;(first|with_reducible assumption|decide +kernel|(solve|simp only[bn]));exact Z;exact Z)|(apply Zd;exact Z;(first|with_reducible assumption|decide +kernel|(solve|simp only[bn])))|(apply Zg;exact Z;(first|with_reducible assumption|decide +kernel|(solve|simp only[bn])))|refine Zm Za Z Z Z Z ?_|refine Vl Za Z Z Z Z Qk Qk Z Z Z ?_|(apply Zo 15 ZD;decide +kernel;kernel_rfl;kernel_rfl;kernel_rfl;exact Z;exact Z)|(apply Zs;(iterate 4 exact Z))|exact AE.nil _ _ _ _|(apply Zw;exact Z)|(apply Zz;exact Z;exact Z;decide +kernel;exact Z)|(apply ZA;exact Z)|exact AO.nil _ _ _|(apply Zr;(decide +kernel))|exact AOs.nil|exact ZF rfl rfl)
 all_goals exact Qe
theorem Sn [Known](ra rb rc:Bool)(rrs rtm:Nat)(ji:Bool)(jn js:Nat)(jh jd:List UInt8)(rt rq:Nat)(d:List UInt8)(sa sb sc:Bool)(srs stm:Nat)(gi:Bool)(gn gs:Nat)(gh gd:List UInt8)(st sq:Nat)(P:List UInt8)
  (hA:AP Tryz.prog 19 [] (.bool true) [])
  (hG:AP Tryz.prog 18 [.agg [.bool ji,.int .u64 (jn:Int),.int .u64 (js:Int),.str jh,.str jd,.int .u64 (rt:Int),.int .u64 (rq:Int)]] (.bool false) [])
  (t0:decide (((d.map E.byte).length:Int)>500)=false)
  (hS:AP Tryz.prog 20 [.agg [.bool ra,.bool rb,.bool rc,.int .u64 (rrs:Int),.int .u64 (rtm:Int),.bool ji,.int .u64 (jn:Int),.int .u64 (js:Int),.str jh,.str jd,.int .u64 (rt:Int),.int .u64 (rq:Int)]] (.agg [.bool ra,.bool rb,.bool rc,.int .u64 (rrs:Int),.int .u64 (rtm:Int),.bool ji,.int .u64 (jn:Int),.int .u64 (js:Int),.str jh,.str jd,.int .u64 (rt:Int),.int .u64 (rq:Int)]) [])
  (hS2:AP Tryz.prog 20 [.agg [.bool sa,.bool sb,.bool sc,.int .u64 (srs:Int),.int .u64 (stm:Int),.bool gi,.int .u64 (gn:Int),.int .u64 (gs:Int),.str gh,.str gd,.int .u64 (st:Int),.int .u64 (sq:Int)]] (.agg [.bool sa,.bool sb,.bool sc,.int .u64 (srs:Int),.int .u64 (stm:Int),.bool gi,.int .u64 (gn:Int),.int .u64 (gs:Int),.str gh,.str gd,.int .u64 (st:Int),.int .u64 (sq:Int)]) [])
  (hRd:AP Tryz.prog 22 [byE d] (.tup [.agg [.bool sa,.bool sb,.bool sc,.int .u64 (srs:Int),.int .u64 (stm:Int),.bool gi,.int .u64 (gn:Int),.int .u64 (gs:Int),.str gh,.str gd,.int .u64 (st:Int),.int .u64 (sq:Int)],.int .i64 3]) [])
  (hDd:AP Tryz.prog 23 [byE d] (.tup [.agg [.bool sa,.bool sb,.bool sc,.int .u64 (srs:Int),.int .u64 (stm:Int),.bool gi,.int .u64 (gn:Int),.int .u64 (gs:Int),.str gh,.str gd,.int .u64 (st:Int),.int .u64 (sq:Int)],.bool false]) [])
  (y1:(!((sa==sa)&&((sb==sb)&&((sc==sc)&&(((srs:Int)==(srs:Int))&&(((stm:Int)==(stm:Int))&&((gi==gi)&&(((gn:Int)==(gn:Int))&&(((gs:Int)==(gs:Int))&&((gh==gh)&&((gd==gd)&&(((st:Int)==(st:Int))&&(((sq:Int)==(sq:Int))&&true)))))))))))))=false)
  (y2:((( 3:Int)==0) != false)=false)
  (y3:(P==P)=true)
  (hW:AP Tryz.prog 21 [.agg [.bool ra,.bool rb,.bool rc,.int .u64 (rrs:Int),.int .u64 (rtm:Int),.bool ji,.int .u64 (jn:Int),.int .u64 (js:Int),.str jh,.str jd,.int .u64 (rt:Int),.int .u64 (rq:Int)]] (.tup [byE P,.int .i64 0]) [])
  (hR1:AP Tryz.prog 24 [.agg [.bool ra,.bool rb,.bool rc,.int .u64 (rrs:Int),.int .u64 (rtm:Int),.bool ji,.int .u64 (jn:Int),.int .u64 (js:Int),.str jh,.str jd,.int .u64 (rt:Int),.int .u64 (rq:Int)]] (.bool true) [])
  (hR2:AP Tryz.prog 25 [.agg [.bool ra,.bool rb,.bool rc,.int .u64 (rrs:Int),.int .u64 (rtm:Int),.bool ji,.int .u64 (jn:Int),.int .u64 (js:Int),.str jh,.str jd,.int .u64 (rt:Int),.int .u64 (rq:Int)]] (.bool true) [])
  (hWr:AP Tryz.prog 26 [.agg [.bool ra,.bool rb,.bool rc,.int .u64 (rrs:Int),.int .u64 (rtm:Int),.bool ji,.int .u64 (jn:Int),.int .u64 (js:Int),.str jh,.str jd,.int .u64 (rt:Int),.int .u64 (rq:Int)]] (byE P) []) :
  AP Tryz.prog 4 [.agg [.bool ra,.bool rb,.bool rc,.int .u64 (rrs:Int),.int .u64 (rtm:Int),.bool ji,.int .u64 (jn:Int),.int .u64 (js:Int),.str jh,.str jd,.int .u64 (rt:Int),.int .u64 (rq:Int)],byE d] (.bool true) []:=by
 refine AP.ofA (Zl Tryz.func4 Z Tryz.ntmps4 Z Z ?_)
 repeat'(first|(apply Zb (hA);kernel_rfl;(iterate 4 exact Z))|(apply Zb (hG);kernel_rfl;(iterate 4 exact Z))|(apply Zb (hS);kernel_rfl;(iterate 4 exact Z))|(apply Zb (hS2);kernel_rfl;(iterate 4 exact Z))|(apply Zb (hRd);kernel_rfl;(iterate 4 exact Z))|(apply Zb (hDd);kernel_rfl;(iterate 4 exact Z))|(apply Zb (hW);kernel_rfl;(iterate 4 exact Z))|(apply Zb (hR1);kernel_rfl;(iterate 4 exact Z))|(apply Zb (hR2);kernel_rfl;(iterate 4 exact Z))|(apply Zb (hWr);kernel_rfl;(iterate 4 exact Z))|(apply Zi Za;exact Z)|(apply Zf Za;exact Z)|(apply Zp Za;exact Z)|(apply Ze;(iterate 3 exact Z);(first|with_reducible assumption|decide +kernel|(solve|simp only[bn])))|(apply Zj;exact Z;(first|with_reducible assumption|decide +kernel|(solve|simp only[bn]));exact Z;exact Z)|(apply Zh;exact Z;(first|with_reducible assumption|decide +kernel|(solve|simp only[bn]));exact Z;exact Z)|(apply Zg;exact Z;(first|with_reducible assumption|decide +kernel|(solve|simp only[bn])))|refine Zm Za Z Z Z Z ?_|refine Vl Za Z Z Z Z Qk Qk Z Z Z ?_|(apply Zo 11 ZD;decide +kernel;kernel_rfl;kernel_rfl;kernel_rfl;exact Z;exact Z)|(apply Zo 15 ZD;decide +kernel;kernel_rfl;kernel_rfl;kernel_rfl;exact Z;exact Z)|(apply Zs;(iterate 4 exact Z))|exact AE.nil _ _ _ _|(apply Zw;exact Z)|(apply Zz;exact Z;exact Z;decide +kernel;exact Z)|(apply ZA;exact Z)|exact AO.nil _ _ _|(apply Zr;(decide +kernel))|exact AOs.nil|exact ZF rfl rfl|refine WC Za Z Z Z Z Z Z Z Z Z ?_)
 all_goals(apply Zq [];(apply Zc Za;exact Z);(iterate 4 exact Z))
 all_goals first|rfl|rw[y3]
theorem So [Known](ra rb rc:Bool)(rrs rtm:Nat)(ji:Bool)(jn js:Nat)(jh jd:List UInt8)(rt rq:Nat)(d:List UInt8)(sa sb sc:Bool)(srs stm:Nat)(gi:Bool)(gn gs:Nat)(gh gd:List UInt8)(st sq:Nat)
  (hA:AP Tryz.prog 19 [] (.bool true) [])
  (hG:AP Tryz.prog 18 [.agg [.bool ji,.int .u64 (jn:Int),.int .u64 (js:Int),.str jh,.str jd,.int .u64 (rt:Int),.int .u64 (rq:Int)]] (.bool false) [])
  (t0:decide (((d.map E.byte).length:Int)>500)=false)
  (hS:AP Tryz.prog 20 [.agg [.bool ra,.bool rb,.bool rc,.int .u64 (rrs:Int),.int .u64 (rtm:Int),.bool ji,.int .u64 (jn:Int),.int .u64 (js:Int),.str jh,.str jd,.int .u64 (rt:Int),.int .u64 (rq:Int)]] (.agg [.bool ra,.bool rb,.bool rc,.int .u64 (rrs:Int),.int .u64 (rtm:Int),.bool ji,.int .u64 (jn:Int),.int .u64 (js:Int),.str jh,.str jd,.int .u64 (rt:Int),.int .u64 (rq:Int)]) [])
  (hS2:AP Tryz.prog 20 [.agg [.bool sa,.bool sb,.bool sc,.int .u64 (srs:Int),.int .u64 (stm:Int),.bool gi,.int .u64 (gn:Int),.int .u64 (gs:Int),.str gh,.str gd,.int .u64 (st:Int),.int .u64 (sq:Int)]] (.agg [.bool sa,.bool sb,.bool sc,.int .u64 (srs:Int),.int .u64 (stm:Int),.bool gi,.int .u64 (gn:Int),.int .u64 (gs:Int),.str gh,.str gd,.int .u64 (st:Int),.int .u64 (sq:Int)]) [])
  (hRd:AP Tryz.prog 22 [byE d] (.tup [.agg [.bool sa,.bool sb,.bool sc,.int .u64 (srs:Int),.int .u64 (stm:Int),.bool gi,.int .u64 (gn:Int),.int .u64 (gs:Int),.str gh,.str gd,.int .u64 (st:Int),.int .u64 (sq:Int)],.int .i64 0]) [])
  (hDd:AP Tryz.prog 23 [byE d] (.tup [.agg [.bool sa,.bool sb,.bool sc,.int .u64 (srs:Int),.int .u64 (stm:Int),.bool gi,.int .u64 (gn:Int),.int .u64 (gs:Int),.str gh,.str gd,.int .u64 (st:Int),.int .u64 (sq:Int)],.bool true]) [])
  (y1:(!((sa==sa)&&((sb==sb)&&((sc==sc)&&(((srs:Int)==(srs:Int))&&(((stm:Int)==(stm:Int))&&((gi==gi)&&(((gn:Int)==(gn:Int))&&(((gs:Int)==(gs:Int))&&((gh==gh)&&((gd==gd)&&(((st:Int)==(st:Int))&&(((sq:Int)==(sq:Int))&&true)))))))))))))=false)
  (y2:((( 0:Int)==0) != true)=false)
  (hW:AP Tryz.prog 21 [.agg [.bool ra,.bool rb,.bool rc,.int .u64 (rrs:Int),.int .u64 (rtm:Int),.bool ji,.int .u64 (jn:Int),.int .u64 (js:Int),.str jh,.str jd,.int .u64 (rt:Int),.int .u64 (rq:Int)]] (.tup [.sl .ext [],.int .i64 3]) [])
  (hR1:AP Tryz.prog 24 [.agg [.bool ra,.bool rb,.bool rc,.int .u64 (rrs:Int),.int .u64 (rtm:Int),.bool ji,.int .u64 (jn:Int),.int .u64 (js:Int),.str jh,.str jd,.int .u64 (rt:Int),.int .u64 (rq:Int)]] (.bool false) [])
  (hR2:AP Tryz.prog 25 [.agg [.bool ra,.bool rb,.bool rc,.int .u64 (rrs:Int),.int .u64 (rtm:Int),.bool ji,.int .u64 (jn:Int),.int .u64 (js:Int),.str jh,.str jd,.int .u64 (rt:Int),.int .u64 (rq:Int)]] (.bool false) []) :
  AP Tryz.prog 4 [.agg [.bool ra,.bool rb,.bool rc,.int .u64 (rrs:Int),.int .u64 (rtm:Int),.bool ji,.int .u64 (jn:Int),.int .u64 (js:Int),.str jh,.str jd,.int .u64 (rt:Int),.int .u64 (rq:Int)],byE d] (.bool true) []:=by
 refine AP.ofA (Zl Tryz.func4 Z Tryz.ntmps4 Z Z ?_)
 repeat'(first|(apply Zb (hA);kernel_rfl;(iterate 4 exact Z))|(apply Zb (hG);kernel_rfl;(iterate 4 exact Z))|(apply Zb (hS);kernel_rfl;(iterate 4 exact Z))|(apply Zb (hS2);kernel_rfl;(iterate 4 exact Z))|(apply Zb (hRd);kernel_rfl;(iterate 4 exact Z))|(apply Zb (hDd);kernel_rfl;(iterate 4 exact Z))|(apply Zb (hW);kernel_rfl;(iterate 4 exact Z))|(apply Zb (hR1);kernel_rfl;(iterate 4 exact Z))|(apply Zb (hR2);kernel_rfl;(iterate 4 exact Z))|(apply Zi Za;exact Z)|(apply Zf Za;exact Z)|(apply Zp Za;exact Z)|(apply Ze;(iterate 3 exact Z);(first|with_reducible assumption|decide +kernel|(solve|simp only[bn])))|(apply Zt;(iterate 3 exact Z);(first|with_reducible assumption|decide +kernel|(solve|simp only[bn])))|(apply Zj;exact Z;(first|with_reducible assumption|decide +kernel|(solve|simp only[bn]));exact Z;exact Z)|(apply Zh;exact Z;(first|with_reducible assumption|decide +kernel|(solve|simp only[bn]));exact Z;exact Z)|(apply Zd;exact Z;(first|with_reducible assumption|decide +kernel|(solve|simp only[bn])))|(apply Zg;exact Z;(first|with_reducible assumption|decide +kernel|(solve|simp only[bn])))|refine Zm Za Z Z Z Z ?_|refine Vl Za Z Z Z Z Qk Qk Z Z Z ?_|(apply Zo 15 ZD;decide +kernel;kernel_rfl;kernel_rfl;kernel_rfl;exact Z;exact Z)|(apply Zs;(iterate 4 exact Z))|exact AE.nil _ _ _ _|(apply Zw;exact Z)|(apply Zz;exact Z;exact Z;decide +kernel;exact Z)|(apply ZA;exact Z)|exact AO.nil _ _ _|(apply Zr;(decide +kernel))|exact AOs.nil|exact ZF rfl rfl)
 all_goals exact Qe
theorem Sp [Known](ra rb rc:Bool)(rrs rtm:Nat)(ji:Bool)(jn js:Nat)(jh jd:List UInt8)(rt rq:Nat)(d:List UInt8)(sa sb sc:Bool)(srs stm:Nat)(gi:Bool)(gn gs:Nat)(gh gd:List UInt8)(st sq:Nat)(P:List UInt8)
  (hA:AP Tryz.prog 19 [] (.bool true) [])
  (hG:AP Tryz.prog 18 [.agg [.bool ji,.int .u64 (jn:Int),.int .u64 (js:Int),.str jh,.str jd,.int .u64 (rt:Int),.int .u64 (rq:Int)]] (.bool false) [])
  (t0:decide (((d.map E.byte).length:Int)>500)=false)
  (hS:AP Tryz.prog 20 [.agg [.bool ra,.bool rb,.bool rc,.int .u64 (rrs:Int),.int .u64 (rtm:Int),.bool ji,.int .u64 (jn:Int),.int .u64 (js:Int),.str jh,.str jd,.int .u64 (rt:Int),.int .u64 (rq:Int)]] (.agg [.bool ra,.bool rb,.bool rc,.int .u64 (rrs:Int),.int .u64 (rtm:Int),.bool ji,.int .u64 (jn:Int),.int .u64 (js:Int),.str jh,.str jd,.int .u64 (rt:Int),.int .u64 (rq:Int)]) [])
  (hS2:AP Tryz.prog 20 [.agg [.bool sa,.bool sb,.bool sc,.int .u64 (srs:Int),.int .u64 (stm:Int),.bool gi,.int .u64 (gn:Int),.int .u64 (gs:Int),.str gh,.str gd,.int .u64 (st:Int),.int .u64 (sq:Int)]] (.agg [.bool sa,.bool sb,.bool sc,.int .u64 (srs:Int),.int .u64 (stm:Int),.bool gi,.int .u64 (gn:Int),.int .u64 (gs:Int),.str gh,.str gd,.int .u64 (st:Int),.int .u64 (sq:Int)]) [])
  (hRd:AP Tryz.prog 22 [byE d] (.tup [.agg [.bool sa,.bool sb,.bool sc,.int .u64 (srs:Int),.int .u64 (stm:Int),.bool gi,.int .u64 (gn:Int),.int .u64 (gs:Int),.str gh,.str gd,.int .u64 (st:Int),.int .u64 (sq:Int)],.int .i64 0]) [])
  (hDd:AP Tryz.prog 23 [byE d] (.tup [.agg [.bool sa,.bool sb,.bool sc,.int .u64 (srs:Int),.int .u64 (stm:Int),.bool gi,.int .u64 (gn:Int),.int .u64 (gs:Int),.str gh,.str gd,.int .u64 (st:Int),.int .u64 (sq:Int)],.bool true]) [])
  (y1:(!((sa==sa)&&((sb==sb)&&((sc==sc)&&(((srs:Int)==(srs:Int))&&(((stm:Int)==(stm:Int))&&((gi==gi)&&(((gn:Int)==(gn:Int))&&(((gs:Int)==(gs:Int))&&((gh==gh)&&((gd==gd)&&(((st:Int)==(st:Int))&&(((sq:Int)==(sq:Int))&&true)))))))))))))=false)
  (y2:((( 0:Int)==0) != true)=false)
  (y3:(P==P)=true)
  (hW:AP Tryz.prog 21 [.agg [.bool ra,.bool rb,.bool rc,.int .u64 (rrs:Int),.int .u64 (rtm:Int),.bool ji,.int .u64 (jn:Int),.int .u64 (js:Int),.str jh,.str jd,.int .u64 (rt:Int),.int .u64 (rq:Int)]] (.tup [byE P,.int .i64 0]) [])
  (hR1:AP Tryz.prog 24 [.agg [.bool ra,.bool rb,.bool rc,.int .u64 (rrs:Int),.int .u64 (rtm:Int),.bool ji,.int .u64 (jn:Int),.int .u64 (js:Int),.str jh,.str jd,.int .u64 (rt:Int),.int .u64 (rq:Int)]] (.bool true) [])
  (hR2:AP Tryz.prog 25 [.agg [.bool ra,.bool rb,.bool rc,.int .u64 (rrs:Int),.int .u64 (rtm:Int),.bool ji,.int .u64 (jn:Int),.int .u64 (js:Int),.str jh,.str jd,.int .u64 (rt:Int),.int .u64 (rq:Int)]] (.bool true) [])
  (hWr:AP Tryz.prog 26 [.agg [.bool ra,.bool rb,.bool rc,.int .u64 (rrs:Int),.int .u64 (rtm:Int),.bool ji,.int .u64 (jn:Int),.int .u64 (js:Int),.str jh,.str jd,.int .u64 (rt:Int),.int .u64 (rq:Int)]] (byE P) []) :
  AP Tryz.prog 4 [.agg [.bool ra,.bool rb,.bool rc,.int .u64 (rrs:Int),.int .u64 (rtm:Int),.bool ji,.int .u64 (jn:Int),.int .u64 (js:Int),.str jh,.str jd,.int .u64 (rt:Int),.int .u64 (rq:Int)],byE d] (.bool true) []:=by
 refine AP.ofA (Zl Tryz.func4 Z Tryz.ntmps4 Z Z ?_)
 repeat'(first|(apply Zb (hA);kernel_rfl;(iterate 4 exact Z))|(apply Zb (hG);kernel_rfl;(iterate 4 exact Z))|(apply Zb (hS);kernel_rfl;(iterate 4 exact Z))|(apply Zb (hS2);kernel_rfl;(iterate 4 exact Z))|(apply Zb (hRd);kernel_rfl;(iterate 4 exact Z))|(apply Zb (hDd);kernel_rfl;(iterate 4 exact Z))|(apply Zb (hW);kernel_rfl;(iterate 4 exact Z))|(apply Zb (hR1);kernel_rfl;(iterate 4 exact Z))|(apply Zb (hR2);kernel_rfl;(iterate 4 exact Z))|(apply Zb (hWr);kernel_rfl;(iterate 4 exact Z))|(apply Zi Za;exact Z)|(apply Zf Za;exact Z)|(apply Zp Za;exact Z)|(apply Ze;(iterate 3 exact Z);(first|with_reducible assumption|decide +kernel|(solve|simp only[bn])))|(apply Zt;(iterate 3 exact Z);(first|with_reducible assumption|decide +kernel|(solve|simp only[bn])))|(apply Zj;exact Z;(first|with_reducible assumption|decide +kernel|(solve|simp only[bn]));exact Z;exact Z)|(apply Zh;exact Z;(first|with_reducible assumption|decide +kernel|(solve|simp only[bn]));exact Z;exact Z)|(apply Zg;exact Z;(first|with_reducible assumption|decide +kernel|(solve|simp only[bn])))|refine Zm Za Z Z Z Z ?_|refine Vl Za Z Z Z Z Qk Qk Z Z Z ?_|(apply Zo 11 ZD;decide +kernel;kernel_rfl;kernel_rfl;kernel_rfl;exact Z;exact Z)|(apply Zo 15 ZD;decide +kernel;kernel_rfl;kernel_rfl;kernel_rfl;exact Z;exact Z)|(apply Zs;(iterate 4 exact Z))|exact AE.nil _ _ _ _|(apply Zw;exact Z)|(apply Zz;exact Z;exact Z;decide +kernel;exact Z)|(apply ZA;exact Z)|exact AO.nil _ _ _|(apply Zr;(decide +kernel))|exact AOs.nil|exact ZF rfl rfl|refine WC Za Z Z Z Z Z Z Z Z Z ?_)
 all_goals(apply Zq [];(apply Zc Za;exact Z);(iterate 4 exact Z))
 all_goals first|rfl|rw[y3]
def rf1:RepV:=⟨false,true,false,0,9,Ye,3,0⟩
def rfA:EidV:=⟨false,0,0,[97],[]⟩
theorem Lc:Yd rf1=true:=by kernel_rfl
theorem Sq:Vu (Xg (ZH (Yh rf1)) rfA Ye 4 0 5)=true:=by kernel_rfl
theorem Ba:ofR (Xg (ZH (Yh rf1)) rfA Ye 4 0 5)=(rf1,0):=by
 have h:IZ (Xg (ZH (Yh rf1)) rfA Ye 4 0 5)=ZH (Yh rf1):=rfl
 have h2:(bits .and .u64 ((Xg (ZH (Yh rf1)) rfA Ye 4 0 5).p.fl:Int) 2==0)=false:=by kernel_rfl
 unfold ofR
 rw[h2,Sq,h,V2 Lc]
theorem Bb:ofR bn0=(rp0,4):=by kernel_rfl
theorem TH [Known][KnownU8]:AP Tryz.prog 19 [] (.bool true) []:=by
 have h1:=Ui rf1
 have hw:=UB Lc
 rw[hw]at h1
 have hl:=Qr Lc
 have h2:=X6 (ZH (Yh rf1)) (by omega)
 rw[V2 Lc]at h2
 have h3:=GS rf1 rfA Ye 4 0 5
 have h3e:Xr rf1 rfA Ye 4 0 5=(Xg (ZH (Yh rf1)) rfA Ye 4 0 5,0):=by
  unfold Xr
  rw[hw]
  dsimp only
  rw[Sq]
  rfl
 rw[h3e]at h3
 have h4:=Ma (Xg (ZH (Yh rf1)) rfA Ye 4 0 5) (HI _ (by omega) _ _ _ _ _)
 rw[Ba]at h4
 have h5:=Ma bn0 Rl
 rw[Bb]at h5
 have h6:=Ui rp0
 rw[JU (show Yd rp0=false from by kernel_rfl)]at h6
 unfold Xg at h3 h4
 generalize ZH (Yh rf1)=B at *
 clear hw h3e
 replace h1:AP Tryz.prog 21 [.agg [.bool false,.bool true,.bool false,.int .u64 0,.int .u64 9,.bool false,.int .u64 0,.int .u64 0,.str [],.str [],.int .u64 3,.int .u64 0]] (.tup [byE B,.int .i64 0]) []:=h1
 replace h2:AP Tryz.prog 22 [byE B] (.tup [.agg [.bool false,.bool true,.bool false,.int .u64 0,.int .u64 9,.bool false,.int .u64 0,.int .u64 0,.str [],.str [],.int .u64 3,.int .u64 0],.int .i64 0]) []:=h2
 replace h3:AP Tryz.prog 31 [.agg [.bool false,.bool true,.bool false,.int .u64 0,.int .u64 9,.bool false,.int .u64 0,.int .u64 0,.str [],.str [],.int .u64 3,.int .u64 0],.agg [.bool false,.int .u64 0,.int .u64 0,.str [97],.str []],.agg [.bool false,.int .u64 0,.int .u64 0,.str [],.str [],.int .u64 4,.int .u64 0],.int .u64 5] (.tup [.agg [.int .u64 2,.int .i64 0,.bool false,.int .u64 0,.int .u64 0,.str [97],.str [],.bool false,.int .u64 0,.int .u64 0,.str [],.str [],.bool false,.int .u64 0,.int .u64 0,.str [],.str [],.int .u64 4,.int .u64 0,.int .u64 5,.sl .ext [.agg [.int .u64 1,.int .u64 1,.int .u64 0,.int .i64 0,.sl (B.map E.byte)]]],.int .i64 0]) []:=h3
 replace h4:AP Tryz.prog 32 [.agg [.int .u64 2,.int .i64 0,.bool false,.int .u64 0,.int .u64 0,.str [97],.str [],.bool false,.int .u64 0,.int .u64 0,.str [],.str [],.bool false,.int .u64 0,.int .u64 0,.str [],.str [],.int .u64 4,.int .u64 0,.int .u64 5,.sl .ext [.agg [.int .u64 1,.int .u64 1,.int .u64 0,.int .i64 0,.sl (B.map E.byte)]]]] (.tup [.agg [.bool false,.bool true,.bool false,.int .u64 0,.int .u64 9,.bool false,.int .u64 0,.int .u64 0,.str [],.str [],.int .u64 3,.int .u64 0],.int .i64 0]) []:=h4
 replace h5:AP Tryz.prog 32 [.agg zeC] (.tup [.agg [.bool false,.bool false,.bool false,.int .u64 0,.int .u64 0,.bool false,.int .u64 0,.int .u64 0,.str [],.str [],.int .u64 0,.int .u64 0],.int .i64 4]) []:=h5
 replace h6:AP Tryz.prog 21 [.agg [.bool false,.bool false,.bool false,.int .u64 0,.int .u64 0,.bool false,.int .u64 0,.int .u64 0,.str [],.str [],.int .u64 0,.int .u64 0]] (.tup [.sl .ext [],.int .i64 3]) []:=h6
 refine AP.ofA (Zl Tryz.func19 Z Tryz.ntmps19 Z Z ?_)
 repeat'(first|(apply Zb (h1);kernel_rfl;(iterate 4 exact Z))|(apply Zb (h2);kernel_rfl;(iterate 4 exact Z))|(apply Zb (h3);kernel_rfl;(iterate 4 exact Z))|(apply Zb (h4);kernel_rfl;(iterate 4 exact Z))|(apply Zb (h5);kernel_rfl;(iterate 4 exact Z))|(apply Zb (h6);kernel_rfl;(iterate 4 exact Z))|(apply Zi Za;exact Z)|(apply Zf Za;exact Z)|(apply Ze;(iterate 3 exact Z);(first|with_reducible assumption|decide +kernel|(solve|simp only[bn])))|(apply Zj;exact Z;(first|with_reducible assumption|decide +kernel|(solve|simp only[bn]));exact Z;exact Z)|refine Vl Za Z Z Z Z Qk Qk Z Z Z ?_)
 all_goals exact Qe
theorem Kg [Known](x:EidV)(t q:Nat):AP Tryz.prog 29 [.agg (iC x t q)] (.agg (iC x t q)) []:=by
 have hE:=LU x
 obtain⟨xi,xn,xs,xh,xd⟩:=x
 refine AP.ofA (Zl Tryz.func29 Z Tryz.ntmps29 Z Z ?_)
 repeat'(first|(apply Zb (hE);kernel_rfl;(iterate 4 exact Z))|(apply Zi Za;exact Z)|(apply Zf Za;exact Z)|(apply Zo 7 ZD;decide +kernel;kernel_rfl;kernel_rfl;kernel_rfl;exact Z;exact Z)|(apply Zs;(iterate 4 exact Z))|exact AE.nil _ _ _ _|(apply Zw;exact Z)|(apply Zz;exact Z;exact Z;decide +kernel;exact Z)|(apply ZA;exact Z)|exact AO.nil _ _ _|(apply Zr;(decide +kernel))|exact AOs.nil|exact ZF rfl rfl)
 all_goals exact Qe
end Go.Proofs.YtmljabhmajehnaaGreatDoor
end
section
open Go.RowKit Go.Pl
namespace Go.Pl
def OI {α:Type}(P:Program)(fs:Array Field)(i o:Nat)(R:Rep α):Prop:=
 ∀(H:Type) (enc:TypeId × Value->H) (W:World) (spare:Nat->Bool) (held:Bool) (n:Nat) (cs:List Value) (xs:List (DataW H × List MemPlace)),cs.length=o+R.n->xs.length=fs.size ->
  (∀(j:Nat) (f:Field),fs[j]?=some f->DataW.trod enc P W 0 spare held n f.type ((cs.drop f.offset).take (P.cellsOf f.type))=xs[j]?)->∃ x,R.ok W (· < W.heap.size) (cs.drop o) x
variable {P:Program} {t:TypeId} {fs:Array Field}
theorem Oe {α:Type}{R:Rep α}{i o:Nat}{f:Field}(hf:fs[i]?=some f)(ho:f.offset=o)(hc:P.cellsOf f.type=R.n)(h:Wc P f.type R){H:Type}{enc:TypeId × Value->H}{W:World}{spare:Nat->Bool}{held:Bool}{n:Nat}{cs:List Value}{xs:List (DataW H × List MemPlace)}(hl:xs.length=fs.size)
  (hg:∀(j:Nat) (f:Field),fs[j]?=some f->DataW.trod enc P W 0 spare held n f.type ((cs.drop f.offset).take (P.cellsOf f.type))=xs[j]?):∃ x,R.ok W (· < W.heap.size) ((cs.drop o).take R.n) x:=by
 have e:=hg i f hf
 rw[ho,hc]at e
 have hi:i<xs.length:=by
  rw[hl]
  exact(Array.getElem?_eq_some_iff.1 hf).1
 exact h H enc W spare held n _ _ (e.trans (List.getElem?_eq_getElem hi))
theorem GX {α:Type}{R:Rep α}{i o:Nat}{f:Field}(hf:fs[i]?=some f)(ho:f.offset=o)(hc:P.cellsOf f.type=R.n)(h:Wc P f.type R):OI P fs i o R:=by
 intro H enc W spare held n cs xs hcl hl hg
 obtain⟨x,hx⟩:=Oe hf ho hc h hl hg
 rw[List.take_of_length_le (by rw[List.length_drop];omega)]at hx
 exact⟨x,hx⟩
theorem Vh {α β:Type}{R:Rep α}{R':Rep β}{i o:Nat}{f:Field}(hf:fs[i]?=some f)(ho:f.offset=o)(hc:P.cellsOf f.type=R.n)(h:Wc P f.type R)(h':OI P fs (i+1) (o+R.n) R'):OI P fs i o (R.prod R'):=by
 intro H enc W spare held n cs xs hcl hl hg
 obtain⟨x,hx⟩:=Oe hf ho hc h hl hg
 have hn:(R.prod R').n=R.n+R'.n:=rfl
 obtain⟨x',hx'⟩:=h' H enc W spare held n cs xs (by rw[hn]at hcl;omega) hl hg
 refine⟨(x,x'),(cs.drop o).take R.n,(cs.drop o).drop R.n,(List.take_append_drop _ _).symm,hx,?_⟩
 rw[List.drop_drop]
 exact hx'
theorem OJ {α:Type}{R:Rep α}(hs:P.underlying t=some (.struct fs))(hc:P.cellsOf t=R.n)(h:OI P fs 0 0 R):Wc P t R:=by
 intro H enc W spare held fuel cs y hy
 obtain⟨xs,n,_,_,hl,hxl,hg⟩:=DataW.trod_struct hs hy
 exact h H enc W spare held n cs xs (by omega) hxl hg
end Go.Pl
end
section
open Go.RowKit Go.Pl Go.Av
namespace Go.Proofs.YtmljabhmajehnaaGreatDoor
set_option maxHeartbeats 4000000
abbrev XPr:=Nat × Int × XE × XE × (XE × Nat × Nat) × Nat
def XPr.v (x:XPr):PriV:=⟨x.1,x.2.1,x.2.2.1.v,x.2.2.2.1.v,x.2.2.2.2.1.1.v,x.2.2.2.2.1.2.1,x.2.2.2.2.1.2.2,x.2.2.2.2.2⟩
theorem Mg {W:World}{S:Nat->Prop}{cs:List Value}{x:XE}(h:RE.ok W S cs x):Fit x.v:=by
 obtain⟨i,n,s,hh,d⟩:=x
 obtain⟨c0,c1,rfl,h0,h1⟩:=h
 obtain⟨c2,c3,rfl,h2,h3⟩:=h1
 obtain⟨c4,c5,rfl,h4,h5⟩:=h3
 obtain⟨c6,c7,rfl,h6,h7⟩:=h5
 exact⟨h6.2,h7.2⟩
abbrev XRp:=Bool × Bool × Bool × Nat × Nat × (XE × Nat × Nat)
abbrev RRp:Rep XRp:=Rep.bool.prod (Rep.bool.prod (Rep.bool.prod (Rep.u64.prod (Rep.u64.prod Go.Pl.RI))))
theorem Ro:Wc Tryz.prog 54 RRp:=
 OJ Tryz.underlying54 (by kernel_rfl) (Vh rfl rfl (by kernel_rfl) (Um Tryz.underlying4) (Vh rfl rfl (by kernel_rfl) (Um Tryz.underlying4)
  (Vh rfl rfl (by kernel_rfl) (Um Tryz.underlying4) (Vh rfl rfl (by kernel_rfl) (Vv Tryz.underlying22) (Vh rfl rfl (by kernel_rfl) (Vv Tryz.underlying22) (GX rfl rfl (by kernel_rfl) RL))))))
def XRp.v (x:XRp):RepV:=⟨x.1,x.2.1,x.2.2.1,x.2.2.2.1,x.2.2.2.2.1,x.2.2.2.2.2.1.v,x.2.2.2.2.2.2.1,x.2.2.2.2.2.2.2⟩
theorem Bc [Known]{W:World}{cs:List Value}{x:XRp}(h:RRp.ok W (· < W.heap.size) cs x):V W (g0 W) [] (.agg (Jn x.v)) (.agg cs.toArray):=by
 obtain⟨a,b,c,rs,tm,⟨⟨xi,xn,xs,xh,xd⟩,t,q⟩⟩:=x
 have te:=ToE.bool.prod (ToE.bool.prod (ToE.bool.prod (ToE.u64.prod (ToE.u64.prod (MS.prod (ToE.u64.prod ToE.u64))))))
 exact ToE.agg te (l:=[.bool a,.bool b,.bool c,.int .u64 (rs:Int),.int .u64 (tm:Int),.bool xi,.int .u64 (xn:Int),.int .u64 (xs:Int),.str xh,.str xd,.int .u64 (t:Int),.int .u64 (q:Int)]) rfl h
theorem Jr (s:RepV):(!((s.a==s.a)&&((s.b==s.b)&&((s.c==s.c)&&(((s.rs:Int)==(s.rs:Int))&&(((s.tm:Int)==(s.tm:Int))&&((s.of.i==s.of.i)&&(((s.of.n:Int)==(s.of.n:Int))&&(((s.of.s:Int)==(s.of.s:Int))&&((s.of.h==s.of.h)&&((s.of.d==s.of.d)&&(((s.t:Int)==(s.t:Int))&&(((s.q:Int)==(s.q:Int))&&true)))))))))))))=false:=by simp
theorem Rp {W:World}{S:Nat->Prop}{cs:List Value}{x:XRp}(h:RRp.ok W S cs x):Fit x.v.of:=by
 obtain⟨a,b,c,rs,tm,⟨s,t,q⟩⟩:=x
 obtain⟨c0,c1,rfl,h0,h1⟩:=h
 obtain⟨c2,c3,rfl,h2,h3⟩:=h1
 obtain⟨c4,c5,rfl,h4,h5⟩:=h3
 obtain⟨c6,c7,rfl,h6,h7⟩:=h5
 obtain⟨c8,c9,rfl,h8,h9⟩:=h7
 obtain⟨ca,cb,rfl,ha,hb⟩:=h9
 exact Mg ha
theorem Xi [Known][KnownU8](r:RepV)(d:List UInt8)(hf:Fit r.of):AP Tryz.prog 4 [.agg (Jn r),byE d] (.bool true) []:=by
 have hA:=TH
 have hG:=Tg r.of r.t r.q
 cases g1:decide (IntKind.i64.wrap ((r.of.h.length:Int)+(r.of.d.length:Int))>300) with
 | true=>
  rw[g1]at hG
  obtain⟨ra,rb,rc,rs,rtm,⟨ji,jn,js,jh,jd⟩,jt,jq⟩:=r
  exact S8 ra rb rc rs rtm ji jn js jh jd jt jq d hA hG
 | false=>
 rw[g1]at hG
 cases t0:decide (((d.map E.byte).length:Int)>500) with
 | true=>
  obtain⟨ra,rb,rc,rs,rtm,⟨ji,jn,js,jh,jd⟩,jt,jq⟩:=r
  exact S9 ra rb rc rs rtm ji jn js jh jd jt jq d hA hG t0
 | false=>
 have hbl:d.length<=500:=by have:=of_decide_eq_false t0;rw[List.length_map]at this;omega
 have hS:=Jq r (Kg r.of r.t r.q)
 have hRd:=X6 d (by omega)
 have hDd:=TG d (by omega)
 have hR1:=K2 r
 have hR2:=X5 r hf
 have hW:=Ui r
 have hWr:=fun h=>GO r h (by have:=Qr h;omega)
 have hcase:=Rn d (by omega)
 generalize Kl d=u at *
 generalize WG d=v at *
 cases hr:Yd r with
 | false=>
  rw[hr]at hR1 hR2
  rw[JU hr]at hW
  clear hWr
  rcases hcase with⟨rfl,rfl⟩ | ⟨s,rfl,rfl⟩
  ·have hS2:=Jq rp0 (Kg rp0.of rp0.t rp0.q)
   have hSelf:=Jr rp0
   obtain⟨ra,rb,rc,rs,rtm,⟨ji,jn,js,jh,jd⟩,jt,jq⟩:=r
   exact Sm ra rb rc rs rtm ji jn js jh jd jt jq d false false false 0 0 false 0 0 [] [] 0 0 hA hG t0 hS hS2 hRd hDd hSelf rfl hW hR1 hR2
  ·have hS2:=Jq s (Kg s.of s.t s.q)
   have hSelf:=Jr s
   obtain⟨ra,rb,rc,rs,rtm,⟨ji,jn,js,jh,jd⟩,jt,jq⟩:=r
   obtain⟨sa,sb,sc,srs,stm,⟨gi,gn,gs,gh,gd⟩,st,sq⟩:=s
   exact So ra rb rc rs rtm ji jn js jh jd jt jq d sa sb sc srs stm gi gn gs gh gd st sq hA hG t0 hS hS2 hRd hDd hSelf rfl hW hR1 hR2
 | true=>
  rw[hr]at hR1 hR2
  rw[UB hr]at hW
  replace hWr:=hWr hr
  generalize ZH (Yh r)=P at *
  rcases hcase with⟨rfl,rfl⟩ | ⟨s,rfl,rfl⟩
  ·have hS2:=Jq rp0 (Kg rp0.of rp0.t rp0.q)
   have hSelf:=Jr rp0
   obtain⟨ra,rb,rc,rs,rtm,⟨ji,jn,js,jh,jd⟩,jt,jq⟩:=r
   exact Sn ra rb rc rs rtm ji jn js jh jd jt jq d false false false 0 0 false 0 0 [] [] 0 0 P hA hG t0 hS hS2 hRd hDd hSelf rfl (by simp) hW hR1 hR2 hWr
  ·have hS2:=Jq s (Kg s.of s.t s.q)
   have hSelf:=Jr s
   obtain⟨ra,rb,rc,rs,rtm,⟨ji,jn,js,jh,jd⟩,jt,jq⟩:=r
   obtain⟨sa,sb,sc,srs,stm,⟨gi,gn,gs,gh,gd⟩,st,sq⟩:=s
   exact Sp ra rb rc rs rtm ji jn js jh jd jt jq d sa sb sc srs stm gi gn gs gh gd st sq P hA hG t0 hS hS2 hRd hDd hSelf rfl (by simp) hW hR1 hR2 hWr
theorem Ld {W:World}{v:Value}{b:List UInt8}(h:Sl Rep.byte W (· < W.heap.size) v b):V W (g0 W) [] (byE b) v:=.sl .ext _ _ (ToE.byte.sl (C:=(g0 W).C) (fun k hk o=>hk) h) trivial
end Go.Proofs.YtmljabhmajehnaaGreatDoor
end
section
open Go.RowKit Go.Pl Go.Av Go.Lib
namespace Go.Proofs.YtmljabhmajehnaaGreatDoor
theorem JV (k:IntKind):∀ zs:List Int,Xe (zs.map fun z=>.lit (.int k z))=zs.map fun z=>Value.int k z
 | []=>rfl
 | z::zs=>by rw[List.map_cons,List.map_cons,Xe,JV k zs];rfl
theorem I7 {P:Program}{W:World}{n:String}{g:Nat}{t:TypeId}{d:DataW Unit}(hg:P.globalNamed n=some g)(ht:(P.globals[g]?).map (·.type)=some t)(h:VarReads P W n d)
  (key:∀(fuel:Nat) (cs:List Value) (p:List MemPlace),DataW.trod (fun _=>()) P W 0 (fun _=>true) false fuel t cs=some (d,p)->∀(j:Nat) (v:Value),(dcs d)[j]?=some v->cs[j]?=some v) :
  ∀(j:Nat) (v:Value),(dcs d)[j]?=some v->(g0 W).C g j/\W.cell? ⟨g,j,none⟩=some v:=by
 obtain⟨g',t',cs,fuel,p,h1,h2,h3,h4⟩:=h
 obtain rfl:=Option.some.inj (hg.symm.trans h1)
 obtain rfl:=Option.some.inj (ht.symm.trans h2)
 intro j v hv
 have hc:=key fuel cs.toList p h4 j v hv
 have hcell:W.cell? ⟨g,j,none⟩=some v:=by
  rw[World.var?_cell hg h3 j,<- Array.getElem?_toList];exact hc
 exact⟨World.block_lt_of_cell? W _ hcell,hcell⟩
theorem Le {P:Program}{W:World}{t e:TypeId}{n:Nat}{k:IntKind}{d:DataW Unit}(zs:List Int)(hd:d=tabData k zs)(ht:P.underlying t=some (.array n e))(he:P.underlying e=some (.int k))(hce:P.cellsOf e=1)(hct:P.cellsOf t=n) :
  ∀(fuel:Nat) (cs:List Value) (p:List MemPlace),DataW.trod (fun _=>()) P W 0 (fun _=>true) false fuel t cs=some (d,p)->∀(j:Nat) (v:Value),(dcs d)[j]?=some v->cs[j]?=some v:=by
 subst hd
 intro fuel cs p h j v hv
 rw[cells_of_tab ht he hce hct h]
 rw[tabData,dcs,JV]at hv
 exact hv
theorem Lf {P:Program}{W:World}{t e:TypeId}{n:Nat}{k:IntKind}{d:DataW Unit}{fs:Array Field}(rows:List (List Int))(hd:d=.agg (rows.map fun r=>.agg (r.map fun z=>.lit (.int k z))))(hn:rows.length=n)(ht:P.underlying t=some (.array n e))(he:P.underlying e=some (.struct fs))
  (hf:∀(i:Nat) (f:Field),fs[i]?=some f->P.underlying f.type=some (.int k)/\f.offset=i/\P.cellsOf f.type=1) (hce:P.cellsOf e=fs.size) :
  ∀(fuel:Nat) (cs:List Value) (p:List MemPlace),DataW.trod (fun _=>()) P W 0 (fun _=>true) false fuel t cs=some (d,p)->∀(j:Nat) (v:Value),(dcs d)[j]?=some v->cs[j]?=some v:=by
 subst hd
 intro fuel cs p h j v hv
 have key:∀ i,i<=n->cs.take (i*fs.size)=Xe ((rows.take i).map fun r=>.agg (r.map fun z=>.lit (.int k z))):=by
  intro i
  induction i with
  | zero=>intro _;rw[Nat.zero_mul,List.take_zero,List.take_zero];rfl
  | succ i ih=>
   intro hi
   obtain⟨fuel',d',q,hdi,he'⟩:=array_elem ht h i (by omega)
   rw[List.getElem?_map,List.getElem?_eq_getElem (by omega:i<rows.length)]at hdi
   simp only[Option.map_some,Option.some.injEq]at hdi
   subst hdi
   rw[hce]at he'
   have hcs:=ints_of_struct he hf hce he'
   rw[Nat.succ_mul,List.take_add,ih (by omega),hcs,List.take_succ_eq_append_getElem (by omega:i<rows.length),List.map_append]
   have app:∀(a b:List (DataW Unit)),Xe (a++b)=Xe a++Xe b:=fun a b=>by
    induction a with
    | nil=>rfl
    | cons x a ih=>rw[List.cons_append,Xe,Xe,ih,List.append_assoc]
   rw[app,List.map_cons,List.map_nil,Xe,dcs,JV]
   simp[Xe]
 have h2:=key n (Nat.le_refl _)
 rw[<- hn,List.take_length]at h2
 rw[dcs,<- h2]at hv
 rw[List.getElem?_take]at hv
 split at hv
 ·exact hv
 ·cases hv
abbrev UC:Known:=⟨[0,1]⟩
theorem GY : @KnownU8 UC:=@KnownU8.mk UC (List.mem_cons_self ..) (List.mem_cons_of_mem _ (List.mem_cons_self ..))
def Rq:List Int:=Pinned.utf8FirstZ.map Int.ofNat
def Lg:List (List Int):=[[128,191],[160,191],[128,159],[144,191],[128,143],[0,0],[0,0],[0,0],[0,0],[0,0],[0,0],[0,0],[0,0],[0,0],[0,0],[0,0]]
theorem Rr {W:World}{laid:List (String × DataW Unit)}(h1:("unicode/utf8.first",Rows.laid_unicode_utf8_first) ∈ laid)(h2:("unicode/utf8.acceptRanges",Rows.laid_unicode_utf8_acceptRanges) ∈ laid)(h:laidMet Tryz.prog laid W) : @Gls UC (g0 W).C W:=by
 have r1:=laidMet.reads h h1
 have r2:=laidMet.reads h h2
 have c1:=I7 (P:=Tryz.prog) (g:=0) (t:=271) (by kernel_rfl) (by kernel_rfl) r1 (Le Rq (by kernel_rfl) (n:=256) (by kernel_rfl) Tryz.underlying5 (by kernel_rfl) (by kernel_rfl))
 have c2:=I7 (P:=Tryz.prog) (g:=1) (t:=274) (by kernel_rfl) (by kernel_rfl) r2 (Lf Lg (by kernel_rfl) (n:=16) rfl Tryz.underlying274 Tryz.underlying273 (fun i f hf=>by
  match i,hf with
  | 0,hf=>simp at hf;subst hf;exact⟨Tryz.underlying5,rfl,by kernel_rfl⟩
  | 1,hf=>simp at hf;subst hf;exact⟨Tryz.underlying5,rfl,by kernel_rfl⟩
  | i+2,hf=>simp at hf) (by kernel_rfl))
 refine⟨fun k cs hk=>?_,fun k t hk=>?_⟩
 ·obtain⟨hk,hm⟩:=hk
  simp only[OO,List.mem_cons,List.not_mem_nil,or_false,Prod.mk.injEq]at hm
  have hk:k ∈ [0,1]:=hk
  simp only[List.mem_cons,List.not_mem_nil,or_false]at hk
  clear r1 r2 h1 h2 h
  rcases hk with rfl|rfl
  all_goals repeat'(refine Or.elim hm (fun hm=>?_) (fun hm=>?_))
  all_goals first
   | (obtain⟨h,rfl⟩:=hm;exact c1)
   | (obtain⟨h,rfl⟩:=hm;exact c2)
   | (obtain⟨h,_⟩:=hm;exact absurd h (by decide))
 ·obtain⟨hk,hm⟩:=hk
  have hk:k ∈ [0,1]:=hk
  simp only[List.mem_cons,List.not_mem_nil,or_false]at hk
  simp only[Ru,List.mem_cons,List.not_mem_nil,or_false,Prod.mk.injEq]at hm
  all_goals omega
end Go.Proofs.YtmljabhmajehnaaGreatDoor
end
section
open Go.RowKit Go.Pl Go.Av
namespace Go.Proofs.YtmljabhmajehnaaGreatDoor
theorem Js (c0:List Value)(v1:Value)(x0:XRp)(x1:List UInt8)(W:World)(h0:RRp.ok W (· < W.heap.size) c0 x0)(h1:Sl Rep.byte W (· < W.heap.size) v1 x1)(hl:laidMet Tryz.prog Rows.reportWritesRow.laid W) :
  Calls Tryz.prog 4 #[.agg c0.toArray,v1] W fun e w'=>e=.returned (.bool true)/\Below W.heap.size W w':=by
 have hg:=Rr (laid:=Rows.reportWritesRow.laid) (by unfold Rows.reportWritesRow;repeat (first|exact List.mem_cons_self .. | apply List.mem_cons_of_mem)) (by unfold Rows.reportWritesRow;repeat (first|exact List.mem_cons_self .. | apply List.mem_cons_of_mem)) hl
 have h:=@Xi UC GY x0.v x1 (Rp h0)
 refine @Ss UC Tryz.prog 4 _ (@AC.mono UC _ _ _ _ _ _ _ h fun r b t h=>h.1) W [.agg c0.toArray,v1] hg rfl ?_
 intro j d v hd hv
 match j,hd,hv with
 | 0,hd,hv=>cases hd;cases hv;exact @Bc UC _ _ _ h0
 | 1,hd,hv=>cases hd;cases hv;exact Ld h1
 | j+2,hd,hv=>cases hd
end Go.Proofs.YtmljabhmajehnaaGreatDoor
end
