/- Package request: Write, by kinds (7, 8, 9). -/
import Derived.Test.YtkdpfkjlheajhaaGreatDoorC13
import Derived.Test.YtkdpfkjlheajhaaGreatDoorC16
import Derived.Test.YtkdpfkjlheajhaaGreatDoorC14
set_option linter.unusedVariables false
set_option linter.unusedSimpArgs false
section
open Go.RowKit Go.Pl Go.Av
namespace Go.Proofs.YtkdpfkjlheajhaaGreatDoor
set_option maxHeartbeats 4000000
theorem G0 [Known](id:Nat)(ei:Bool)(en es:Nat)(eh ed:List UInt8)(di:Bool)(dn dq:Nat)(dh dd:List UInt8)(pol num tik:Int)(pay:List UInt8)(life tok:Nat)(on:Bool)(L0 L1 L2 L3 R:List E)(c0 c1 c2 c3:Nat)(hR:AP Tryz.prog 93 [.agg [.int .u64 (id:Int),.int .i64 7,.bool ei,.int .u64 (en:Int),.int .u64 (es:Int),.str eh,.str ed,.bool di,.int .u64 (dn:Int),.int .u64 (dq:Int),.str dh,.str dd,.int .i64 pol,.int .i64 num,.int .i64 tik,.sl .ext (pay.map E.byte),.int .u64 (life:Int),.int .u64 (tok:Int),.bool on]] (.bool true) [])(hN:AT Tryz.prog 62 [] [] [] (.ptr 0 0) [[.bool true,.sl .nil []]] [])
  (h0:AT Tryz.prog 63 [.ptr 0 0,.int .u64 (id:Int)] [[.bool true,.sl .nil []]] [] (.ptr 0 0) [[.bool true,.sl (.own 0) L0]] [⟨c0,1,5⟩])
  (h1:AT Tryz.prog 64 [.ptr 0 0,.int .i64 7] [[.bool true,.sl (.own 0) L0]] [⟨c0,1,5⟩] (.ptr 0 0) [[.bool true,.sl (.own 0) L1]] [⟨c1,1,5⟩])
  (h2:AT Tryz.prog 94 [.ptr 0 0,.agg [.bool ei,.int .u64 (en:Int),.int .u64 (es:Int),.str eh,.str ed]] [[.bool true,.sl (.own 0) L1]] [⟨c1,1,5⟩] (.tup []) [[.bool true,.sl (.own 0) L2]] [⟨c2,1,5⟩])
  (h3:AT Tryz.prog 64 [.ptr 0 0,.int .i64 tik] [[.bool true,.sl (.own 0) L2]] [⟨c2,1,5⟩] (.ptr 0 0) [[.bool true,.sl (.own 0) L3]] [⟨c3,1,5⟩])
  (hB:AT Tryz.prog 67 [.ptr 0 0] [[.bool true,.sl (.own 0) L3]] [⟨c3,1,5⟩] (.sl .ext R) [[.bool true,.sl (.own 0) L3]] [⟨c3,1,5⟩]) :
  AP Tryz.prog 65 [.agg [.int .u64 (id:Int),.int .i64 7,.bool ei,.int .u64 (en:Int),.int .u64 (es:Int),.str eh,.str ed,.bool di,.int .u64 (dn:Int),.int .u64 (dq:Int),.str dh,.str dd,.int .i64 pol,.int .i64 num,.int .i64 tik,.sl .ext (pay.map E.byte),.int .u64 (life:Int),.int .u64 (tok:Int),.bool on]] (.tup [.sl .ext R,.int .i64 0]) []:=by
 refine AP.ofA (Zm Tryz.func65 Z Tryz.ntmps65 Z Z ?_)
 repeat'(first|(apply Zc (hR);kernel_rfl;(iterate 4 exact Z))|(apply Zb [] [] (hN);kernel_rfl;(iterate 10 exact Z))|(apply Zb [1] [] (h0);kernel_rfl;(iterate 10 exact Z))|(apply Zb [1] [0] (h1);kernel_rfl;(iterate 10 exact Z))|(apply Zb [1] [0] (h2);kernel_rfl;(iterate 10 exact Z))|(apply Zb [1] [0] (h3);kernel_rfl;(iterate 10 exact Z))|(apply Zb [1] [0] (hB);kernel_rfl;(iterate 10 exact Z))|(apply Zj Za;exact Z)|(apply Zg Za;exact Z)|(apply Zq Za;exact Z)|(apply Zf;exact Z;(first|with_reducible assumption|decide +kernel|(solve|simp only[bn])))|(apply Ze;exact Z;(first|with_reducible assumption|decide +kernel|(solve|simp only[bn])))|(apply Zx 6 Z9;decide +kernel;kernel_rfl;kernel_rfl;kernel_rfl;exact Z;exact Z)|(apply ZB;(iterate 4 exact Z))|exact AE.nil _ _ _ _|(apply ZF;exact Z)|(apply Z8;exact Z)|(apply ZN;exact Z;exact Z;decide +kernel;exact Z)|(apply ZP;exact Z)|(apply Yu;exact Z)|exact AO.nil _ _ _|(apply ZA;(decide +kernel))|(apply ZO;(iterate 3 exact Z))|exact AOs.nil|exact ZY rfl rfl|exact Y2 rfl rfl)
 all_goals exact Qe
theorem G1 [Known](id:Nat)(ei:Bool)(en es:Nat)(eh ed:List UInt8)(di:Bool)(dn dq:Nat)(dh dd:List UInt8)(pol num tik:Int)(pay:List UInt8)(life tok:Nat)(on:Bool)(L0 L1 L2 R:List E)(c0 c1 c2:Nat)(hR:AP Tryz.prog 93 [.agg [.int .u64 (id:Int),.int .i64 8,.bool ei,.int .u64 (en:Int),.int .u64 (es:Int),.str eh,.str ed,.bool di,.int .u64 (dn:Int),.int .u64 (dq:Int),.str dh,.str dd,.int .i64 pol,.int .i64 num,.int .i64 tik,.sl .ext (pay.map E.byte),.int .u64 (life:Int),.int .u64 (tok:Int),.bool on]] (.bool true) [])(hN:AT Tryz.prog 62 [] [] [] (.ptr 0 0) [[.bool true,.sl .nil []]] [])
  (h0:AT Tryz.prog 63 [.ptr 0 0,.int .u64 (id:Int)] [[.bool true,.sl .nil []]] [] (.ptr 0 0) [[.bool true,.sl (.own 0) L0]] [⟨c0,1,5⟩])
  (h1:AT Tryz.prog 64 [.ptr 0 0,.int .i64 8] [[.bool true,.sl (.own 0) L0]] [⟨c0,1,5⟩] (.ptr 0 0) [[.bool true,.sl (.own 0) L1]] [⟨c1,1,5⟩])
  (h2:AT Tryz.prog 64 [.ptr 0 0,.int .i64 num] [[.bool true,.sl (.own 0) L1]] [⟨c1,1,5⟩] (.ptr 0 0) [[.bool true,.sl (.own 0) L2]] [⟨c2,1,5⟩])
  (hB:AT Tryz.prog 67 [.ptr 0 0] [[.bool true,.sl (.own 0) L2]] [⟨c2,1,5⟩] (.sl .ext R) [[.bool true,.sl (.own 0) L2]] [⟨c2,1,5⟩]) :
  AP Tryz.prog 65 [.agg [.int .u64 (id:Int),.int .i64 8,.bool ei,.int .u64 (en:Int),.int .u64 (es:Int),.str eh,.str ed,.bool di,.int .u64 (dn:Int),.int .u64 (dq:Int),.str dh,.str dd,.int .i64 pol,.int .i64 num,.int .i64 tik,.sl .ext (pay.map E.byte),.int .u64 (life:Int),.int .u64 (tok:Int),.bool on]] (.tup [.sl .ext R,.int .i64 0]) []:=by
 refine AP.ofA (Zm Tryz.func65 Z Tryz.ntmps65 Z Z ?_)
 repeat'(first|(apply Zc (hR);kernel_rfl;(iterate 4 exact Z))|(apply Zb [] [] (hN);kernel_rfl;(iterate 10 exact Z))|(apply Zb [1] [] (h0);kernel_rfl;(iterate 10 exact Z))|(apply Zb [1] [0] (h1);kernel_rfl;(iterate 10 exact Z))|(apply Zb [1] [0] (h2);kernel_rfl;(iterate 10 exact Z))|(apply Zb [1] [0] (hB);kernel_rfl;(iterate 10 exact Z))|(apply Zj Za;exact Z)|(apply Zg Za;exact Z)|(apply Zq Za;exact Z)|(apply Zf;exact Z;(first|with_reducible assumption|decide +kernel|(solve|simp only[bn])))|(apply Ze;exact Z;(first|with_reducible assumption|decide +kernel|(solve|simp only[bn])))|(apply Zx 6 Z9;decide +kernel;kernel_rfl;kernel_rfl;kernel_rfl;exact Z;exact Z)|(apply ZB;(iterate 4 exact Z))|exact AE.nil _ _ _ _|(apply ZF;exact Z)|(apply Z8;exact Z)|(apply ZN;exact Z;exact Z;decide +kernel;exact Z)|(apply ZP;exact Z)|(apply Yu;exact Z)|exact AO.nil _ _ _|(apply ZA;(decide +kernel))|(apply ZO;(iterate 3 exact Z))|exact AOs.nil|exact ZY rfl rfl|exact Y2 rfl rfl)
 all_goals exact Qe
theorem G2 [Known](id:Nat)(ei:Bool)(en es:Nat)(eh ed:List UInt8)(di:Bool)(dn dq:Nat)(dh dd:List UInt8)(pol num tik:Int)(pay:List UInt8)(life tok:Nat)(on:Bool)(L0 L1 L2 R:List E)(c0 c1 c2:Nat)(hR:AP Tryz.prog 93 [.agg [.int .u64 (id:Int),.int .i64 9,.bool ei,.int .u64 (en:Int),.int .u64 (es:Int),.str eh,.str ed,.bool di,.int .u64 (dn:Int),.int .u64 (dq:Int),.str dh,.str dd,.int .i64 pol,.int .i64 num,.int .i64 tik,.sl .ext (pay.map E.byte),.int .u64 (life:Int),.int .u64 (tok:Int),.bool on]] (.bool true) [])(hN:AT Tryz.prog 62 [] [] [] (.ptr 0 0) [[.bool true,.sl .nil []]] [])
  (h0:AT Tryz.prog 63 [.ptr 0 0,.int .u64 (id:Int)] [[.bool true,.sl .nil []]] [] (.ptr 0 0) [[.bool true,.sl (.own 0) L0]] [⟨c0,1,5⟩])
  (h1:AT Tryz.prog 64 [.ptr 0 0,.int .i64 9] [[.bool true,.sl (.own 0) L0]] [⟨c0,1,5⟩] (.ptr 0 0) [[.bool true,.sl (.own 0) L1]] [⟨c1,1,5⟩])
  (h2:AT Tryz.prog 64 [.ptr 0 0,.int .i64 num] [[.bool true,.sl (.own 0) L1]] [⟨c1,1,5⟩] (.ptr 0 0) [[.bool true,.sl (.own 0) L2]] [⟨c2,1,5⟩])
  (hB:AT Tryz.prog 67 [.ptr 0 0] [[.bool true,.sl (.own 0) L2]] [⟨c2,1,5⟩] (.sl .ext R) [[.bool true,.sl (.own 0) L2]] [⟨c2,1,5⟩]) :
  AP Tryz.prog 65 [.agg [.int .u64 (id:Int),.int .i64 9,.bool ei,.int .u64 (en:Int),.int .u64 (es:Int),.str eh,.str ed,.bool di,.int .u64 (dn:Int),.int .u64 (dq:Int),.str dh,.str dd,.int .i64 pol,.int .i64 num,.int .i64 tik,.sl .ext (pay.map E.byte),.int .u64 (life:Int),.int .u64 (tok:Int),.bool on]] (.tup [.sl .ext R,.int .i64 0]) []:=by
 refine AP.ofA (Zm Tryz.func65 Z Tryz.ntmps65 Z Z ?_)
 repeat'(first|(apply Zc (hR);kernel_rfl;(iterate 4 exact Z))|(apply Zb [] [] (hN);kernel_rfl;(iterate 10 exact Z))|(apply Zb [1] [] (h0);kernel_rfl;(iterate 10 exact Z))|(apply Zb [1] [0] (h1);kernel_rfl;(iterate 10 exact Z))|(apply Zb [1] [0] (h2);kernel_rfl;(iterate 10 exact Z))|(apply Zb [1] [0] (hB);kernel_rfl;(iterate 10 exact Z))|(apply Zj Za;exact Z)|(apply Zg Za;exact Z)|(apply Zq Za;exact Z)|(apply Zf;exact Z;(first|with_reducible assumption|decide +kernel|(solve|simp only[bn])))|(apply Ze;exact Z;(first|with_reducible assumption|decide +kernel|(solve|simp only[bn])))|(apply Zx 6 Z9;decide +kernel;kernel_rfl;kernel_rfl;kernel_rfl;exact Z;exact Z)|(apply ZB;(iterate 4 exact Z))|exact AE.nil _ _ _ _|(apply ZF;exact Z)|(apply Z8;exact Z)|(apply ZN;exact Z;exact Z;decide +kernel;exact Z)|(apply ZP;exact Z)|(apply Yu;exact Z)|exact AO.nil _ _ _|(apply ZA;(decide +kernel))|(apply ZO;(iterate 3 exact Z))|exact AOs.nil|exact ZY rfl rfl|exact Y2 rfl rfl)
 all_goals exact Qe
theorem I0 [Known](id:Nat)(ei:Bool)(en es:Nat)(eh ed:List UInt8)(di:Bool)(dn dq:Nat)(dh dd:List UInt8)(pol num tik:Int)(pay:List UInt8)(life tok:Nat)(on:Bool)(L0 L1 L2 R:List E)(c0 c1 c2:Nat)(hR:AP Tryz.prog 93 [.agg [.int .u64 (id:Int),.int .i64 10,.bool ei,.int .u64 (en:Int),.int .u64 (es:Int),.str eh,.str ed,.bool di,.int .u64 (dn:Int),.int .u64 (dq:Int),.str dh,.str dd,.int .i64 pol,.int .i64 num,.int .i64 tik,.sl .ext (pay.map E.byte),.int .u64 (life:Int),.int .u64 (tok:Int),.bool on]] (.bool true) [])(hN:AT Tryz.prog 62 [] [] [] (.ptr 0 0) [[.bool true,.sl .nil []]] [])
  (h0:AT Tryz.prog 63 [.ptr 0 0,.int .u64 (id:Int)] [[.bool true,.sl .nil []]] [] (.ptr 0 0) [[.bool true,.sl (.own 0) L0]] [⟨c0,1,5⟩])
  (h1:AT Tryz.prog 64 [.ptr 0 0,.int .i64 10] [[.bool true,.sl (.own 0) L0]] [⟨c0,1,5⟩] (.ptr 0 0) [[.bool true,.sl (.own 0) L1]] [⟨c1,1,5⟩])
  (h2:AT Tryz.prog 95 [.ptr 0 0,.bool on] [[.bool true,.sl (.own 0) L1]] [⟨c1,1,5⟩] (.ptr 0 0) [[.bool true,.sl (.own 0) L2]] [⟨c2,1,5⟩])
  (hB:AT Tryz.prog 67 [.ptr 0 0] [[.bool true,.sl (.own 0) L2]] [⟨c2,1,5⟩] (.sl .ext R) [[.bool true,.sl (.own 0) L2]] [⟨c2,1,5⟩]) :
  AP Tryz.prog 65 [.agg [.int .u64 (id:Int),.int .i64 10,.bool ei,.int .u64 (en:Int),.int .u64 (es:Int),.str eh,.str ed,.bool di,.int .u64 (dn:Int),.int .u64 (dq:Int),.str dh,.str dd,.int .i64 pol,.int .i64 num,.int .i64 tik,.sl .ext (pay.map E.byte),.int .u64 (life:Int),.int .u64 (tok:Int),.bool on]] (.tup [.sl .ext R,.int .i64 0]) []:=by
 refine AP.ofA (Zm Tryz.func65 Z Tryz.ntmps65 Z Z ?_)
 repeat'(first|(apply Zc (hR);kernel_rfl;(iterate 4 exact Z))|(apply Zb [] [] (hN);kernel_rfl;(iterate 10 exact Z))|(apply Zb [1] [] (h0);kernel_rfl;(iterate 10 exact Z))|(apply Zb [1] [0] (h1);kernel_rfl;(iterate 10 exact Z))|(apply Zb [1] [0] (h2);kernel_rfl;(iterate 10 exact Z))|(apply Zb [1] [0] (hB);kernel_rfl;(iterate 10 exact Z))|(apply Zj Za;exact Z)|(apply Zg Za;exact Z)|(apply Zq Za;exact Z)|(apply Zf;exact Z;(first|with_reducible assumption|decide +kernel|(solve|simp only[bn])))|(apply Ze;exact Z;(first|with_reducible assumption|decide +kernel|(solve|simp only[bn])))|(apply Zx 6 Z9;decide +kernel;kernel_rfl;kernel_rfl;kernel_rfl;exact Z;exact Z)|(apply ZB;(iterate 4 exact Z))|exact AE.nil _ _ _ _|(apply ZF;exact Z)|(apply Z8;exact Z)|(apply ZN;exact Z;exact Z;decide +kernel;exact Z)|(apply ZP;exact Z)|(apply Yu;exact Z)|exact AO.nil _ _ _|(apply ZA;(decide +kernel))|(apply ZO;(iterate 3 exact Z))|exact AOs.nil|exact ZY rfl rfl|exact Y2 rfl rfl)
 all_goals exact Qe
theorem I1 [Known](id:Nat)(ei:Bool)(en es:Nat)(eh ed:List UInt8)(di:Bool)(dn dq:Nat)(dh dd:List UInt8)(pol num tik:Int)(pay:List UInt8)(life tok:Nat)(on:Bool)(L0 L1 R:List E)(c0 c1:Nat)(hR:AP Tryz.prog 93 [.agg [.int .u64 (id:Int),.int .i64 11,.bool ei,.int .u64 (en:Int),.int .u64 (es:Int),.str eh,.str ed,.bool di,.int .u64 (dn:Int),.int .u64 (dq:Int),.str dh,.str dd,.int .i64 pol,.int .i64 num,.int .i64 tik,.sl .ext (pay.map E.byte),.int .u64 (life:Int),.int .u64 (tok:Int),.bool on]] (.bool true) [])(hN:AT Tryz.prog 62 [] [] [] (.ptr 0 0) [[.bool true,.sl .nil []]] [])
  (h0:AT Tryz.prog 63 [.ptr 0 0,.int .u64 (id:Int)] [[.bool true,.sl .nil []]] [] (.ptr 0 0) [[.bool true,.sl (.own 0) L0]] [⟨c0,1,5⟩])
  (h1:AT Tryz.prog 64 [.ptr 0 0,.int .i64 11] [[.bool true,.sl (.own 0) L0]] [⟨c0,1,5⟩] (.ptr 0 0) [[.bool true,.sl (.own 0) L1]] [⟨c1,1,5⟩])
  (hB:AT Tryz.prog 67 [.ptr 0 0] [[.bool true,.sl (.own 0) L1]] [⟨c1,1,5⟩] (.sl .ext R) [[.bool true,.sl (.own 0) L1]] [⟨c1,1,5⟩]) :
  AP Tryz.prog 65 [.agg [.int .u64 (id:Int),.int .i64 11,.bool ei,.int .u64 (en:Int),.int .u64 (es:Int),.str eh,.str ed,.bool di,.int .u64 (dn:Int),.int .u64 (dq:Int),.str dh,.str dd,.int .i64 pol,.int .i64 num,.int .i64 tik,.sl .ext (pay.map E.byte),.int .u64 (life:Int),.int .u64 (tok:Int),.bool on]] (.tup [.sl .ext R,.int .i64 0]) []:=by
 refine AP.ofA (Zm Tryz.func65 Z Tryz.ntmps65 Z Z ?_)
 repeat'(first|(apply Zc (hR);kernel_rfl;(iterate 4 exact Z))|(apply Zb [] [] (hN);kernel_rfl;(iterate 10 exact Z))|(apply Zb [1] [] (h0);kernel_rfl;(iterate 10 exact Z))|(apply Zb [1] [0] (h1);kernel_rfl;(iterate 10 exact Z))|(apply Zb [1] [0] (hB);kernel_rfl;(iterate 10 exact Z))|(apply Zj Za;exact Z)|(apply Zg Za;exact Z)|(apply Zq Za;exact Z)|(apply Ze;exact Z;(first|with_reducible assumption|decide +kernel|(solve|simp only[bn])))|(apply Zx 6 Z9;decide +kernel;kernel_rfl;kernel_rfl;kernel_rfl;exact Z;exact Z)|(apply ZB;(iterate 4 exact Z))|exact AE.nil _ _ _ _|(apply ZF;exact Z)|(apply Z8;exact Z)|(apply ZN;exact Z;exact Z;decide +kernel;exact Z)|(apply ZP;exact Z)|(apply Yu;exact Z)|exact AO.nil _ _ _|(apply ZA;(decide +kernel))|(apply ZO;(iterate 3 exact Z))|exact AOs.nil|exact ZY rfl rfl|exact Y2 rfl rfl)
 all_goals exact Qe
theorem I2 [Known](id:Nat)(ei:Bool)(en es:Nat)(eh ed:List UInt8)(di:Bool)(dn dq:Nat)(dh dd:List UInt8)(pol num tik:Int)(pay:List UInt8)(life tok:Nat)(on:Bool)(L0 L1 L2 R:List E)(c0 c1 c2:Nat)(hR:AP Tryz.prog 93 [.agg [.int .u64 (id:Int),.int .i64 12,.bool ei,.int .u64 (en:Int),.int .u64 (es:Int),.str eh,.str ed,.bool di,.int .u64 (dn:Int),.int .u64 (dq:Int),.str dh,.str dd,.int .i64 pol,.int .i64 num,.int .i64 tik,.sl .ext (pay.map E.byte),.int .u64 (life:Int),.int .u64 (tok:Int),.bool on]] (.bool true) [])(hN:AT Tryz.prog 62 [] [] [] (.ptr 0 0) [[.bool true,.sl .nil []]] [])
  (h0:AT Tryz.prog 63 [.ptr 0 0,.int .u64 (id:Int)] [[.bool true,.sl .nil []]] [] (.ptr 0 0) [[.bool true,.sl (.own 0) L0]] [⟨c0,1,5⟩])
  (h1:AT Tryz.prog 64 [.ptr 0 0,.int .i64 12] [[.bool true,.sl (.own 0) L0]] [⟨c0,1,5⟩] (.ptr 0 0) [[.bool true,.sl (.own 0) L1]] [⟨c1,1,5⟩])
  (h2:AT Tryz.prog 63 [.ptr 0 0,.int .u64 (tok:Int)] [[.bool true,.sl (.own 0) L1]] [⟨c1,1,5⟩] (.ptr 0 0) [[.bool true,.sl (.own 0) L2]] [⟨c2,1,5⟩])
  (hB:AT Tryz.prog 67 [.ptr 0 0] [[.bool true,.sl (.own 0) L2]] [⟨c2,1,5⟩] (.sl .ext R) [[.bool true,.sl (.own 0) L2]] [⟨c2,1,5⟩]) :
  AP Tryz.prog 65 [.agg [.int .u64 (id:Int),.int .i64 12,.bool ei,.int .u64 (en:Int),.int .u64 (es:Int),.str eh,.str ed,.bool di,.int .u64 (dn:Int),.int .u64 (dq:Int),.str dh,.str dd,.int .i64 pol,.int .i64 num,.int .i64 tik,.sl .ext (pay.map E.byte),.int .u64 (life:Int),.int .u64 (tok:Int),.bool on]] (.tup [.sl .ext R,.int .i64 0]) []:=by
 refine AP.ofA (Zm Tryz.func65 Z Tryz.ntmps65 Z Z ?_)
 repeat'(first|(apply Zc (hR);kernel_rfl;(iterate 4 exact Z))|(apply Zb [] [] (hN);kernel_rfl;(iterate 10 exact Z))|(apply Zb [1] [] (h0);kernel_rfl;(iterate 10 exact Z))|(apply Zb [1] [0] (h1);kernel_rfl;(iterate 10 exact Z))|(apply Zb [1] [0] (h2);kernel_rfl;(iterate 10 exact Z))|(apply Zb [1] [0] (hB);kernel_rfl;(iterate 10 exact Z))|(apply Zj Za;exact Z)|(apply Zg Za;exact Z)|(apply Zq Za;exact Z)|(apply Zf;exact Z;(first|with_reducible assumption|decide +kernel|(solve|simp only[bn])))|(apply Ze;exact Z;(first|with_reducible assumption|decide +kernel|(solve|simp only[bn])))|(apply Zx 6 Z9;decide +kernel;kernel_rfl;kernel_rfl;kernel_rfl;exact Z;exact Z)|(apply ZB;(iterate 4 exact Z))|exact AE.nil _ _ _ _|(apply ZF;exact Z)|(apply Z8;exact Z)|(apply ZN;exact Z;exact Z;decide +kernel;exact Z)|(apply ZP;exact Z)|(apply Yu;exact Z)|exact AO.nil _ _ _|(apply ZA;(decide +kernel))|(apply ZO;(iterate 3 exact Z))|exact AOs.nil|exact ZY rfl rfl|exact Y2 rfl rfl)
 all_goals exact Qe
theorem Wg [Known][KnownPow](L:List UInt8)(x:EidV)(h:Yd x=true)(hL:L.length<=1000000):AT Tryz.prog 94 [.ptr 0 0,.agg (eC x)] (wrC L) (wrF L) (.tup []) (wrC (L++vn (Zw x).length++Zw x)) (wrF (L++vn (Zw x).length++Zw x)):=by
 have hT:=KM x
 rw[h,if_pos rfl,if_pos rfl]at hT
 have hX:=UI L (Zw x) (by have:=Y4 h;omega) hL
 generalize Zw x=t at *
 obtain⟨xi,xn,xs,xh,xd⟩:=x
 refine Zm Tryz.func94 rfl Tryz.ntmps94 rfl rfl ?_
 repeat'(first|(apply Zc (hT);kernel_rfl;(iterate 4 exact Z))|(apply Zb [0] [0] (hX);kernel_rfl;(iterate 10 exact Z))|refine O7 Za Z Z Z Z Z Z Z Z ?_|(apply Zj Za;exact Z)|(apply Zg Za;exact Z))
 all_goals(apply Xk [0] [0];(apply Zd Za;exact Z);(iterate 7 exact Z))
 all_goals rfl
theorem Yh (n:Nat):(vn n).length<=10:=(Vb 9 n).1
theorem WA [Known](x:RqV)(h:ZQ x=false):AP Tryz.prog 65 [.agg (rqC x)] (.tup [.sl .ext [],.int .i64 3]) []:=by
 have hR:=WK x
 rw[h]at hR
 refine AP.ofA (Zm Tryz.func65 Z Tryz.ntmps65 Z Z ?_)
 repeat'(first|(apply Zc (hR);kernel_rfl;(iterate 4 exact Z))|(apply Zj Za;exact Z)|(apply Zg Za;exact Z)|(apply Zq Za;exact Z)|(apply Zf;exact Z;(first|with_reducible assumption|decide +kernel|(solve|simp only[bn]))))
 all_goals exact Qe
theorem YZ [Known][KnownPow](x:RqV)(h:ZQ x=true):AP Tryz.prog 65 [.agg (rqC x)] (.tup [byE (ZH x),.int .i64 0]) []:=by
 have hR:=WK x
 rw[h]at hR
 have hk:=OF h
 obtain⟨hid,hp,_⟩:=KT h
 obtain⟨id,kd,ep,ds,pol,num,tik,pay,life,tok,on⟩:=x
 dsimp only at hk hid
 unfold WJ at hp
 have v0:=Yh id
 have vk:=Yh kd.toNat
 rcases hk with rfl|rfl|rfl|rfl|rfl|rfl|rfl|rfl|rfl|rfl|rfl|rfl
 all_goals
  simp only[Int.reduceBEq,Bool.true_or,Bool.or_true,Bool.or_self,Bool.or_false,Bool.false_or,if_true,if_false,Bool.false_eq_true,Bool.and_eq_true,decide_eq_true_eq]at hp
  simp only[Int.reduceToNat]at vk
 ·have tep:=Y4 (Yb hp.1)
  have uep:=Yh (Zw ep).length
  obtain⟨pol,rfl⟩:∃ n:Nat,pol=(n:Int):=⟨pol.toNat,by omega⟩
  have upol:=Yh pol
  rw[show ZH _=(((vn id++vn 1)++vn (Zw ep).length++Zw ep)++vn pol) by simp only[ZH,YV,Int.reduceToNat,Int.toNat_natCast,Int.reduceBEq,Bool.true_or,Bool.or_true,Bool.or_self,Bool.or_false,Bool.false_or,if_true,if_false,Bool.false_eq_true,List.append_assoc,List.append_nil]]
  exact GU _ _ _ _ _ _ _ _ _ _ _ _ _ _ _ _ _ _ _ _ _ _ _ _ _ _ _ hR Yx (Yg id hid) (ZW (vn id) 1 (by omega) (by omega))
   (Wg (vn id++vn 1) ep (Yb hp.1) (by simp only[List.length_append];omega))
   (ZW ((vn id++vn 1)++vn (Zw ep).length++Zw ep) pol (by omega) (by simp only[List.length_append];omega)) (Z3 (((vn id++vn 1)++vn (Zw ep).length++Zw ep)++vn pol) (by simp only[List.length_append];omega))
 ·have tep:=Y4 (Yb hp)
  have uep:=Yh (Zw ep).length
  rw[show ZH _=((vn id++vn 2)++vn (Zw ep).length++Zw ep) by simp only[ZH,YV,Int.reduceToNat,Int.toNat_natCast,Int.reduceBEq,Bool.true_or,Bool.or_true,Bool.or_self,Bool.or_false,Bool.false_or,if_true,if_false,Bool.false_eq_true,List.append_assoc,List.append_nil]]
  exact GV _ _ _ _ _ _ _ _ _ _ _ _ _ _ _ _ _ _ _ _ _ _ _ _ _ hR Yx (Yg id hid) (ZW (vn id) 2 (by omega) (by omega))
   (Wg (vn id++vn 2) ep (Yb hp) (by simp only[List.length_append];omega)) (Z3 ((vn id++vn 2)++vn (Zw ep).length++Zw ep) (by simp only[List.length_append];omega))
 ·have tep:=Y4 (Yb hp.1)
  have uep:=Yh (Zw ep).length
  obtain⟨pol,rfl⟩:∃ n:Nat,pol=(n:Int):=⟨pol.toNat,by omega⟩
  have upol:=Yh pol
  rw[show ZH _=(((vn id++vn 3)++vn (Zw ep).length++Zw ep)++vn pol) by simp only[ZH,YV,Int.reduceToNat,Int.toNat_natCast,Int.reduceBEq,Bool.true_or,Bool.or_true,Bool.or_self,Bool.or_false,Bool.false_or,if_true,if_false,Bool.false_eq_true,List.append_assoc,List.append_nil]]
  exact GW _ _ _ _ _ _ _ _ _ _ _ _ _ _ _ _ _ _ _ _ _ _ _ _ _ _ _ hR Yx (Yg id hid) (ZW (vn id) 3 (by omega) (by omega))
   (Wg (vn id++vn 3) ep (Yb hp.1) (by simp only[List.length_append];omega))
   (ZW ((vn id++vn 3)++vn (Zw ep).length++Zw ep) pol (by omega) (by simp only[List.length_append];omega)) (Z3 (((vn id++vn 3)++vn (Zw ep).length++Zw ep)++vn pol) (by simp only[List.length_append];omega))
 ·have tep:=Y4 (Yb hp.1)
  have uep:=Yh (Zw ep).length
  have tds:=Y4 (Yb hp.2.1)
  have uds:=Yh (Zw ds).length
  have upay:=Yh pay.length
  have ulife:=Yh life
  have uon:=Yh on.toNat
  rw[show ZH _=((((((vn id++vn 4)++vn (Zw ep).length++Zw ep)++vn (Zw ds).length++Zw ds)++vn pay.length++pay)++vn life)++vn on.toNat) by simp only[ZH,YV,Int.reduceToNat,Int.toNat_natCast,Int.reduceBEq,Bool.true_or,Bool.or_true,Bool.or_self,Bool.or_false,Bool.false_or,if_true,if_false,Bool.false_eq_true,List.append_assoc,List.append_nil]]
  exact GX _ _ _ _ _ _ _ _ _ _ _ _ _ _ _ _ _ _ _ _ _ _ _ _ _ _ _ _ _ _ _ _ _ hR Yx (Yg id hid) (ZW (vn id) 4 (by omega) (by omega))
   (Wg (vn id++vn 4) ep (Yb hp.1) (by simp only[List.length_append];omega))
   (Wg ((vn id++vn 4)++vn (Zw ep).length++Zw ep) ds (Yb hp.2.1) (by simp only[List.length_append];omega))
   (UI (((vn id++vn 4)++vn (Zw ep).length++Zw ep)++vn (Zw ds).length++Zw ds) pay (by omega) (by simp only[List.length_append];omega))
   (WL ((((vn id++vn 4)++vn (Zw ep).length++Zw ep)++vn (Zw ds).length++Zw ds)++vn pay.length++pay) life (by omega) (by simp only[List.length_append];omega))
   (Jj (((((vn id++vn 4)++vn (Zw ep).length++Zw ep)++vn (Zw ds).length++Zw ds)++vn pay.length++pay)++vn life) on (by simp only[List.length_append];omega)) (Z3 ((((((vn id++vn 4)++vn (Zw ep).length++Zw ep)++vn (Zw ds).length++Zw ds)++vn pay.length++pay)++vn life)++vn on.toNat) (by simp only[List.length_append];omega))
 ·obtain⟨num,rfl⟩:∃ n:Nat,num=(n:Int):=⟨num.toNat,by omega⟩
  have unum:=Yh num
  rw[show ZH _=((vn id++vn 5)++vn num) by simp only[ZH,YV,Int.reduceToNat,Int.toNat_natCast,Int.reduceBEq,Bool.true_or,Bool.or_true,Bool.or_self,Bool.or_false,Bool.false_or,if_true,if_false,Bool.false_eq_true,List.append_assoc,List.append_nil]]
  exact GY _ _ _ _ _ _ _ _ _ _ _ _ _ _ _ _ _ _ _ _ _ _ _ _ _ hR Yx (Yg id hid) (ZW (vn id) 5 (by omega) (by omega))
   (ZW (vn id++vn 5) num (by omega) (by simp only[List.length_append];omega)) (Z3 ((vn id++vn 5)++vn num) (by simp only[List.length_append];omega))
 ·have tep:=Y4 (Yb hp)
  have uep:=Yh (Zw ep).length
  rw[show ZH _=((vn id++vn 6)++vn (Zw ep).length++Zw ep) by simp only[ZH,YV,Int.reduceToNat,Int.toNat_natCast,Int.reduceBEq,Bool.true_or,Bool.or_true,Bool.or_self,Bool.or_false,Bool.false_or,if_true,if_false,Bool.false_eq_true,List.append_assoc,List.append_nil]]
  exact GZ _ _ _ _ _ _ _ _ _ _ _ _ _ _ _ _ _ _ _ _ _ _ _ _ _ hR Yx (Yg id hid) (ZW (vn id) 6 (by omega) (by omega))
   (Wg (vn id++vn 6) ep (Yb hp) (by simp only[List.length_append];omega)) (Z3 ((vn id++vn 6)++vn (Zw ep).length++Zw ep) (by simp only[List.length_append];omega))
 ·have tep:=Y4 (Yb hp.1)
  have uep:=Yh (Zw ep).length
  obtain⟨tik,rfl⟩:∃ n:Nat,tik=(n:Int):=⟨tik.toNat,by omega⟩
  have utik:=Yh tik
  rw[show ZH _=(((vn id++vn 7)++vn (Zw ep).length++Zw ep)++vn tik) by simp only[ZH,YV,Int.reduceToNat,Int.toNat_natCast,Int.reduceBEq,Bool.true_or,Bool.or_true,Bool.or_self,Bool.or_false,Bool.false_or,if_true,if_false,Bool.false_eq_true,List.append_assoc,List.append_nil]]
  exact G0 _ _ _ _ _ _ _ _ _ _ _ _ _ _ _ _ _ _ _ _ _ _ _ _ _ _ _ hR Yx (Yg id hid) (ZW (vn id) 7 (by omega) (by omega))
   (Wg (vn id++vn 7) ep (Yb hp.1) (by simp only[List.length_append];omega))
   (ZW ((vn id++vn 7)++vn (Zw ep).length++Zw ep) tik (by omega) (by simp only[List.length_append];omega)) (Z3 (((vn id++vn 7)++vn (Zw ep).length++Zw ep)++vn tik) (by simp only[List.length_append];omega))
 ·obtain⟨num,rfl⟩:∃ n:Nat,num=(n:Int):=⟨num.toNat,by omega⟩
  have unum:=Yh num
  rw[show ZH _=((vn id++vn 8)++vn num) by simp only[ZH,YV,Int.reduceToNat,Int.toNat_natCast,Int.reduceBEq,Bool.true_or,Bool.or_true,Bool.or_self,Bool.or_false,Bool.false_or,if_true,if_false,Bool.false_eq_true,List.append_assoc,List.append_nil]]
  exact G1 _ _ _ _ _ _ _ _ _ _ _ _ _ _ _ _ _ _ _ _ _ _ _ _ _ hR Yx (Yg id hid) (ZW (vn id) 8 (by omega) (by omega))
   (ZW (vn id++vn 8) num (by omega) (by simp only[List.length_append];omega)) (Z3 ((vn id++vn 8)++vn num) (by simp only[List.length_append];omega))
 ·obtain⟨num,rfl⟩:∃ n:Nat,num=(n:Int):=⟨num.toNat,by omega⟩
  have unum:=Yh num
  rw[show ZH _=((vn id++vn 9)++vn num) by simp only[ZH,YV,Int.reduceToNat,Int.toNat_natCast,Int.reduceBEq,Bool.true_or,Bool.or_true,Bool.or_self,Bool.or_false,Bool.false_or,if_true,if_false,Bool.false_eq_true,List.append_assoc,List.append_nil]]
  exact G2 _ _ _ _ _ _ _ _ _ _ _ _ _ _ _ _ _ _ _ _ _ _ _ _ _ hR Yx (Yg id hid) (ZW (vn id) 9 (by omega) (by omega))
   (ZW (vn id++vn 9) num (by omega) (by simp only[List.length_append];omega)) (Z3 ((vn id++vn 9)++vn num) (by simp only[List.length_append];omega))
 ·have uon:=Yh on.toNat
  rw[show ZH _=((vn id++vn 10)++vn on.toNat) by simp only[ZH,YV,Int.reduceToNat,Int.toNat_natCast,Int.reduceBEq,Bool.true_or,Bool.or_true,Bool.or_self,Bool.or_false,Bool.false_or,if_true,if_false,Bool.false_eq_true,List.append_assoc,List.append_nil]]
  exact I0 _ _ _ _ _ _ _ _ _ _ _ _ _ _ _ _ _ _ _ _ _ _ _ _ _ hR Yx (Yg id hid) (ZW (vn id) 10 (by omega) (by omega))
   (Jj (vn id++vn 10) on (by simp only[List.length_append];omega)) (Z3 ((vn id++vn 10)++vn on.toNat) (by simp only[List.length_append];omega))
 ·rw[show ZH _=(vn id++vn 11) by simp only[ZH,YV,Int.reduceToNat,Int.toNat_natCast,Int.reduceBEq,Bool.true_or,Bool.or_true,Bool.or_self,Bool.or_false,Bool.false_or,if_true,if_false,Bool.false_eq_true,List.append_assoc,List.append_nil]]
  exact I1 _ _ _ _ _ _ _ _ _ _ _ _ _ _ _ _ _ _ _ _ _ _ _ hR Yx (Yg id hid) (ZW (vn id) 11 (by omega) (by omega)) (Z3 (vn id++vn 11) (by simp only[List.length_append];omega))
 ·have utok:=Yh tok
  rw[show ZH _=((vn id++vn 12)++vn tok) by simp only[ZH,YV,Int.reduceToNat,Int.toNat_natCast,Int.reduceBEq,Bool.true_or,Bool.or_true,Bool.or_self,Bool.or_false,Bool.false_or,if_true,if_false,Bool.false_eq_true,List.append_assoc,List.append_nil]]
  exact I2 _ _ _ _ _ _ _ _ _ _ _ _ _ _ _ _ _ _ _ _ _ _ _ _ _ hR Yx (Yg id hid) (ZW (vn id) 12 (by omega) (by omega))
   (WL (vn id++vn 12) tok (by omega) (by simp only[List.length_append];omega)) (Z3 ((vn id++vn 12)++vn tok) (by simp only[List.length_append];omega))
theorem Ve [Known](b:List UInt8)(id:Nat)(ei:Bool)(en es:Nat)(eh ed:List UInt8)(di:Bool)(dn dq:Nat)(dh dd:List UInt8)(pol num tik:Int)(pay:List UInt8)(life tok:Nat)(on:Bool)(e0 e1 e2 e3 e4 w q:Int)(q0 q1 q2 q3 q4 c:List UInt8)(hN:AQ Tryz.prog 68 [.sl .ext (b.map E.byte)] [] (.ptr 0 0) [[.int .i64 e0,.bool true,.sl .ext (q0.map E.byte)]])(h0:AQ Tryz.prog 69 [.ptr 0 0] [[.int .i64 e0,.bool true,.sl .ext (q0.map E.byte)]] (.int .u64 (id:Int)) [[.int .i64 e1,.bool true,.sl .ext (q1.map E.byte)]])(h1:AQ Tryz.prog 70 [.ptr 0 0] [[.int .i64 e1,.bool true,.sl .ext (q1.map E.byte)]] (.int .i64 1) [[.int .i64 e2,.bool true,.sl .ext (q2.map E.byte)]])(h2:AQ Tryz.prog 99 [.ptr 0 0] [[.int .i64 e2,.bool true,.sl .ext (q2.map E.byte)]] (.agg [.bool ei,.int .u64 (en:Int),.int .u64 (es:Int),.str eh,.str ed]) [[.int .i64 e3,.bool true,.sl .ext (q3.map E.byte)]])(h3:AQ Tryz.prog 70 [.ptr 0 0] [[.int .i64 e3,.bool true,.sl .ext (q3.map E.byte)]] (.int .i64 pol) [[.int .i64 e4,.bool true,.sl .ext (q4.map E.byte)]])(hW:AP Tryz.prog 65 [.agg [.int .u64 (id:Int),.int .i64 1,.bool ei,.int .u64 (en:Int),.int .u64 (es:Int),.str eh,.str ed,.bool false,.int .u64 0,.int .u64 0,.str [],.str [],.int .i64 pol,.int .i64 0,.int .i64 0,.sl .ext [],.int .u64 0,.int .u64 0,.bool false]] (.tup [.sl .ext (c.map E.byte),.int .i64 w]) []) :
  (∀(t1:(w != 0)=true),
  AP Tryz.prog 71 [.sl .ext (b.map E.byte)] (.tup [.agg [.int .u64 0,.int .i64 0,.bool false,.int .u64 0,.int .u64 0,.str [],.str [],.bool false,.int .u64 0,.int .u64 0,.str [],.str [],.int .i64 0,.int .i64 0,.int .i64 0,.sl .ext [],.int .u64 0,.int .u64 0,.bool false],.int .i64 3]) []) /\
  (∀(t1:(w != 0)=false) (hE:AQ Tryz.prog 73 [.ptr 0 0] [[.int .i64 e4,.bool true,.sl .ext (q4.map E.byte)]] (.int .i64 q) [[.int .i64 e4,.bool true,.sl .ext (q4.map E.byte)]]) (t2:(q != 0)=true),
  AP Tryz.prog 71 [.sl .ext (b.map E.byte)] (.tup [.agg [.int .u64 0,.int .i64 0,.bool false,.int .u64 0,.int .u64 0,.str [],.str [],.bool false,.int .u64 0,.int .u64 0,.str [],.str [],.int .i64 0,.int .i64 0,.int .i64 0,.sl .ext [],.int .u64 0,.int .u64 0,.bool false],.int .i64 3]) []) /\
  (∀(t1:(w != 0)=false) (hE:AQ Tryz.prog 73 [.ptr 0 0] [[.int .i64 e4,.bool true,.sl .ext (q4.map E.byte)]] (.int .i64 q) [[.int .i64 e4,.bool true,.sl .ext (q4.map E.byte)]]) (t2:(q != 0)=false) (hB:AP Tryz.prog 56 [.sl .ext (c.map E.byte),.sl .ext (b.map E.byte)] (.bool false) []),
  AP Tryz.prog 71 [.sl .ext (b.map E.byte)] (.tup [.agg [.int .u64 0,.int .i64 0,.bool false,.int .u64 0,.int .u64 0,.str [],.str [],.bool false,.int .u64 0,.int .u64 0,.str [],.str [],.int .i64 0,.int .i64 0,.int .i64 0,.sl .ext [],.int .u64 0,.int .u64 0,.bool false],.int .i64 3]) []) /\
  (∀(t1:(w != 0)=false) (hE:AQ Tryz.prog 73 [.ptr 0 0] [[.int .i64 e4,.bool true,.sl .ext (q4.map E.byte)]] (.int .i64 q) [[.int .i64 e4,.bool true,.sl .ext (q4.map E.byte)]]) (t2:(q != 0)=false) (hB:AP Tryz.prog 56 [.sl .ext (c.map E.byte),.sl .ext (b.map E.byte)] (.bool true) []),
  AP Tryz.prog 71 [.sl .ext (b.map E.byte)] (.tup [.agg [.int .u64 (id:Int),.int .i64 1,.bool ei,.int .u64 (en:Int),.int .u64 (es:Int),.str eh,.str ed,.bool false,.int .u64 0,.int .u64 0,.str [],.str [],.int .i64 pol,.int .i64 0,.int .i64 0,.sl .ext [],.int .u64 0,.int .u64 0,.bool false],.int .i64 0]) []):=by
 refine⟨fun t1=>?_,fun t1 hE t2=>?_,fun t1 hE t2 hB=>?_,fun t1 hE t2 hB=>?_⟩
 all_goals
  refine AP.ofA (Zm Tryz.func71 Z Tryz.ntmps71 Z Z ?_)
  repeat'(first|(apply Zc (hW);kernel_rfl;(iterate 4 exact Z))|(apply Zh [] (hN);kernel_rfl;(iterate 7 exact Z))|(apply Zh [1] (h0);kernel_rfl;(iterate 7 exact Z))|(apply Zh [1] (h1);kernel_rfl;(iterate 7 exact Z))|(apply Zh [1] (h2);kernel_rfl;(iterate 7 exact Z))|(apply Zh [1] (h3);kernel_rfl;(iterate 7 exact Z))|(apply Zh [1] (hE);kernel_rfl;(iterate 7 exact Z))|(apply Zc (hB);kernel_rfl;(iterate 4 exact Z))|(apply Zj Za;exact Z)|(apply Zg Za;exact Z)|(apply Zq Za;exact Z)|(apply Zi;(iterate 3 exact Z);(first|with_reducible assumption|decide +kernel|(solve|simp only[bn])))|(apply Zz;(iterate 3 exact Z);(first|with_reducible assumption|decide +kernel|(solve|simp only[bn])))|(apply Zk;exact Z;(first|with_reducible assumption|decide +kernel|(solve|simp only[bn]));exact Z;exact Z)|(apply Zl;exact Z;(first|with_reducible assumption|decide +kernel|(solve|simp only[bn]));exact Z;exact Z)|(apply Zf;exact Z;(first|with_reducible assumption|decide +kernel|(solve|simp only[bn])))|(apply Ze;exact Z;(first|with_reducible assumption|decide +kernel|(solve|simp only[bn]))))
  all_goals exact Qe
theorem Vf [Known](b:List UInt8)(id:Nat)(ei:Bool)(en es:Nat)(eh ed:List UInt8)(di:Bool)(dn dq:Nat)(dh dd:List UInt8)(pol num tik:Int)(pay:List UInt8)(life tok:Nat)(on:Bool)(e0 e1 e2 e3 w q:Int)(q0 q1 q2 q3 c:List UInt8)(hN:AQ Tryz.prog 68 [.sl .ext (b.map E.byte)] [] (.ptr 0 0) [[.int .i64 e0,.bool true,.sl .ext (q0.map E.byte)]])(h0:AQ Tryz.prog 69 [.ptr 0 0] [[.int .i64 e0,.bool true,.sl .ext (q0.map E.byte)]] (.int .u64 (id:Int)) [[.int .i64 e1,.bool true,.sl .ext (q1.map E.byte)]])(h1:AQ Tryz.prog 70 [.ptr 0 0] [[.int .i64 e1,.bool true,.sl .ext (q1.map E.byte)]] (.int .i64 2) [[.int .i64 e2,.bool true,.sl .ext (q2.map E.byte)]])(h2:AQ Tryz.prog 99 [.ptr 0 0] [[.int .i64 e2,.bool true,.sl .ext (q2.map E.byte)]] (.agg [.bool ei,.int .u64 (en:Int),.int .u64 (es:Int),.str eh,.str ed]) [[.int .i64 e3,.bool true,.sl .ext (q3.map E.byte)]])(hW:AP Tryz.prog 65 [.agg [.int .u64 (id:Int),.int .i64 2,.bool ei,.int .u64 (en:Int),.int .u64 (es:Int),.str eh,.str ed,.bool false,.int .u64 0,.int .u64 0,.str [],.str [],.int .i64 0,.int .i64 0,.int .i64 0,.sl .ext [],.int .u64 0,.int .u64 0,.bool false]] (.tup [.sl .ext (c.map E.byte),.int .i64 w]) []) :
  (∀(t1:(w != 0)=true),
  AP Tryz.prog 71 [.sl .ext (b.map E.byte)] (.tup [.agg [.int .u64 0,.int .i64 0,.bool false,.int .u64 0,.int .u64 0,.str [],.str [],.bool false,.int .u64 0,.int .u64 0,.str [],.str [],.int .i64 0,.int .i64 0,.int .i64 0,.sl .ext [],.int .u64 0,.int .u64 0,.bool false],.int .i64 3]) []) /\
  (∀(t1:(w != 0)=false) (hE:AQ Tryz.prog 73 [.ptr 0 0] [[.int .i64 e3,.bool true,.sl .ext (q3.map E.byte)]] (.int .i64 q) [[.int .i64 e3,.bool true,.sl .ext (q3.map E.byte)]]) (t2:(q != 0)=true),
  AP Tryz.prog 71 [.sl .ext (b.map E.byte)] (.tup [.agg [.int .u64 0,.int .i64 0,.bool false,.int .u64 0,.int .u64 0,.str [],.str [],.bool false,.int .u64 0,.int .u64 0,.str [],.str [],.int .i64 0,.int .i64 0,.int .i64 0,.sl .ext [],.int .u64 0,.int .u64 0,.bool false],.int .i64 3]) []) /\
  (∀(t1:(w != 0)=false) (hE:AQ Tryz.prog 73 [.ptr 0 0] [[.int .i64 e3,.bool true,.sl .ext (q3.map E.byte)]] (.int .i64 q) [[.int .i64 e3,.bool true,.sl .ext (q3.map E.byte)]]) (t2:(q != 0)=false) (hB:AP Tryz.prog 56 [.sl .ext (c.map E.byte),.sl .ext (b.map E.byte)] (.bool false) []),
  AP Tryz.prog 71 [.sl .ext (b.map E.byte)] (.tup [.agg [.int .u64 0,.int .i64 0,.bool false,.int .u64 0,.int .u64 0,.str [],.str [],.bool false,.int .u64 0,.int .u64 0,.str [],.str [],.int .i64 0,.int .i64 0,.int .i64 0,.sl .ext [],.int .u64 0,.int .u64 0,.bool false],.int .i64 3]) []) /\
  (∀(t1:(w != 0)=false) (hE:AQ Tryz.prog 73 [.ptr 0 0] [[.int .i64 e3,.bool true,.sl .ext (q3.map E.byte)]] (.int .i64 q) [[.int .i64 e3,.bool true,.sl .ext (q3.map E.byte)]]) (t2:(q != 0)=false) (hB:AP Tryz.prog 56 [.sl .ext (c.map E.byte),.sl .ext (b.map E.byte)] (.bool true) []),
  AP Tryz.prog 71 [.sl .ext (b.map E.byte)] (.tup [.agg [.int .u64 (id:Int),.int .i64 2,.bool ei,.int .u64 (en:Int),.int .u64 (es:Int),.str eh,.str ed,.bool false,.int .u64 0,.int .u64 0,.str [],.str [],.int .i64 0,.int .i64 0,.int .i64 0,.sl .ext [],.int .u64 0,.int .u64 0,.bool false],.int .i64 0]) []):=by
 refine⟨fun t1=>?_,fun t1 hE t2=>?_,fun t1 hE t2 hB=>?_,fun t1 hE t2 hB=>?_⟩
 all_goals
  refine AP.ofA (Zm Tryz.func71 Z Tryz.ntmps71 Z Z ?_)
  repeat'(first|(apply Zc (hW);kernel_rfl;(iterate 4 exact Z))|(apply Zh [] (hN);kernel_rfl;(iterate 7 exact Z))|(apply Zh [1] (h0);kernel_rfl;(iterate 7 exact Z))|(apply Zh [1] (h1);kernel_rfl;(iterate 7 exact Z))|(apply Zh [1] (h2);kernel_rfl;(iterate 7 exact Z))|(apply Zh [1] (hE);kernel_rfl;(iterate 7 exact Z))|(apply Zc (hB);kernel_rfl;(iterate 4 exact Z))|(apply Zj Za;exact Z)|(apply Zg Za;exact Z)|(apply Zq Za;exact Z)|(apply Zi;(iterate 3 exact Z);(first|with_reducible assumption|decide +kernel|(solve|simp only[bn])))|(apply Zz;(iterate 3 exact Z);(first|with_reducible assumption|decide +kernel|(solve|simp only[bn])))|(apply Zk;exact Z;(first|with_reducible assumption|decide +kernel|(solve|simp only[bn]));exact Z;exact Z)|(apply Zl;exact Z;(first|with_reducible assumption|decide +kernel|(solve|simp only[bn]));exact Z;exact Z)|(apply Zf;exact Z;(first|with_reducible assumption|decide +kernel|(solve|simp only[bn])))|(apply Ze;exact Z;(first|with_reducible assumption|decide +kernel|(solve|simp only[bn]))))
  all_goals exact Qe
theorem Vg [Known](b:List UInt8)(id:Nat)(ei:Bool)(en es:Nat)(eh ed:List UInt8)(di:Bool)(dn dq:Nat)(dh dd:List UInt8)(pol num tik:Int)(pay:List UInt8)(life tok:Nat)(on:Bool)(e0 e1 e2 e3 e4 w q:Int)(q0 q1 q2 q3 q4 c:List UInt8)(hN:AQ Tryz.prog 68 [.sl .ext (b.map E.byte)] [] (.ptr 0 0) [[.int .i64 e0,.bool true,.sl .ext (q0.map E.byte)]])(h0:AQ Tryz.prog 69 [.ptr 0 0] [[.int .i64 e0,.bool true,.sl .ext (q0.map E.byte)]] (.int .u64 (id:Int)) [[.int .i64 e1,.bool true,.sl .ext (q1.map E.byte)]])(h1:AQ Tryz.prog 70 [.ptr 0 0] [[.int .i64 e1,.bool true,.sl .ext (q1.map E.byte)]] (.int .i64 3) [[.int .i64 e2,.bool true,.sl .ext (q2.map E.byte)]])(h2:AQ Tryz.prog 99 [.ptr 0 0] [[.int .i64 e2,.bool true,.sl .ext (q2.map E.byte)]] (.agg [.bool ei,.int .u64 (en:Int),.int .u64 (es:Int),.str eh,.str ed]) [[.int .i64 e3,.bool true,.sl .ext (q3.map E.byte)]])(h3:AQ Tryz.prog 70 [.ptr 0 0] [[.int .i64 e3,.bool true,.sl .ext (q3.map E.byte)]] (.int .i64 pol) [[.int .i64 e4,.bool true,.sl .ext (q4.map E.byte)]])(hW:AP Tryz.prog 65 [.agg [.int .u64 (id:Int),.int .i64 3,.bool ei,.int .u64 (en:Int),.int .u64 (es:Int),.str eh,.str ed,.bool false,.int .u64 0,.int .u64 0,.str [],.str [],.int .i64 pol,.int .i64 0,.int .i64 0,.sl .ext [],.int .u64 0,.int .u64 0,.bool false]] (.tup [.sl .ext (c.map E.byte),.int .i64 w]) []) :
  (∀(t1:(w != 0)=true),
  AP Tryz.prog 71 [.sl .ext (b.map E.byte)] (.tup [.agg [.int .u64 0,.int .i64 0,.bool false,.int .u64 0,.int .u64 0,.str [],.str [],.bool false,.int .u64 0,.int .u64 0,.str [],.str [],.int .i64 0,.int .i64 0,.int .i64 0,.sl .ext [],.int .u64 0,.int .u64 0,.bool false],.int .i64 3]) []) /\
  (∀(t1:(w != 0)=false) (hE:AQ Tryz.prog 73 [.ptr 0 0] [[.int .i64 e4,.bool true,.sl .ext (q4.map E.byte)]] (.int .i64 q) [[.int .i64 e4,.bool true,.sl .ext (q4.map E.byte)]]) (t2:(q != 0)=true),
  AP Tryz.prog 71 [.sl .ext (b.map E.byte)] (.tup [.agg [.int .u64 0,.int .i64 0,.bool false,.int .u64 0,.int .u64 0,.str [],.str [],.bool false,.int .u64 0,.int .u64 0,.str [],.str [],.int .i64 0,.int .i64 0,.int .i64 0,.sl .ext [],.int .u64 0,.int .u64 0,.bool false],.int .i64 3]) []) /\
  (∀(t1:(w != 0)=false) (hE:AQ Tryz.prog 73 [.ptr 0 0] [[.int .i64 e4,.bool true,.sl .ext (q4.map E.byte)]] (.int .i64 q) [[.int .i64 e4,.bool true,.sl .ext (q4.map E.byte)]]) (t2:(q != 0)=false) (hB:AP Tryz.prog 56 [.sl .ext (c.map E.byte),.sl .ext (b.map E.byte)] (.bool false) []),
  AP Tryz.prog 71 [.sl .ext (b.map E.byte)] (.tup [.agg [.int .u64 0,.int .i64 0,.bool false,.int .u64 0,.int .u64 0,.str [],.str [],.bool false,.int .u64 0,.int .u64 0,.str [],.str [],.int .i64 0,.int .i64 0,.int .i64 0,.sl .ext [],.int .u64 0,.int .u64 0,.bool false],.int .i64 3]) []) /\
  (∀(t1:(w != 0)=false) (hE:AQ Tryz.prog 73 [.ptr 0 0] [[.int .i64 e4,.bool true,.sl .ext (q4.map E.byte)]] (.int .i64 q) [[.int .i64 e4,.bool true,.sl .ext (q4.map E.byte)]]) (t2:(q != 0)=false) (hB:AP Tryz.prog 56 [.sl .ext (c.map E.byte),.sl .ext (b.map E.byte)] (.bool true) []),
  AP Tryz.prog 71 [.sl .ext (b.map E.byte)] (.tup [.agg [.int .u64 (id:Int),.int .i64 3,.bool ei,.int .u64 (en:Int),.int .u64 (es:Int),.str eh,.str ed,.bool false,.int .u64 0,.int .u64 0,.str [],.str [],.int .i64 pol,.int .i64 0,.int .i64 0,.sl .ext [],.int .u64 0,.int .u64 0,.bool false],.int .i64 0]) []):=by
 refine⟨fun t1=>?_,fun t1 hE t2=>?_,fun t1 hE t2 hB=>?_,fun t1 hE t2 hB=>?_⟩
 all_goals
  refine AP.ofA (Zm Tryz.func71 Z Tryz.ntmps71 Z Z ?_)
  repeat'(first|(apply Zc (hW);kernel_rfl;(iterate 4 exact Z))|(apply Zh [] (hN);kernel_rfl;(iterate 7 exact Z))|(apply Zh [1] (h0);kernel_rfl;(iterate 7 exact Z))|(apply Zh [1] (h1);kernel_rfl;(iterate 7 exact Z))|(apply Zh [1] (h2);kernel_rfl;(iterate 7 exact Z))|(apply Zh [1] (h3);kernel_rfl;(iterate 7 exact Z))|(apply Zh [1] (hE);kernel_rfl;(iterate 7 exact Z))|(apply Zc (hB);kernel_rfl;(iterate 4 exact Z))|(apply Zj Za;exact Z)|(apply Zg Za;exact Z)|(apply Zq Za;exact Z)|(apply Zi;(iterate 3 exact Z);(first|with_reducible assumption|decide +kernel|(solve|simp only[bn])))|(apply Zz;(iterate 3 exact Z);(first|with_reducible assumption|decide +kernel|(solve|simp only[bn])))|(apply Zk;exact Z;(first|with_reducible assumption|decide +kernel|(solve|simp only[bn]));exact Z;exact Z)|(apply Zl;exact Z;(first|with_reducible assumption|decide +kernel|(solve|simp only[bn]));exact Z;exact Z)|(apply Zf;exact Z;(first|with_reducible assumption|decide +kernel|(solve|simp only[bn])))|(apply Ze;exact Z;(first|with_reducible assumption|decide +kernel|(solve|simp only[bn]))))
  all_goals exact Qe
end Go.Proofs.YtkdpfkjlheajhaaGreatDoor
end
