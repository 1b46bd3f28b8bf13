/- Package request: Write, by kinds (7, 8, 9). -/
import Derived.Test.YtkdpfkjlheajhaaGreatDoorE35
import Derived.Test.YtkdpfkjlheajhaaGreatDoorE36
import Derived.Test.YtkdpfkjlheajhaaGreatDoorE34
import Derived.Test.YtkdpfkjlheajhaaGreatDoorE33
set_option linter.unusedVariables false
set_option linter.unusedSimpArgs false
section
open Go.RowKit Go.Pl Go.Av
namespace Go.Proofs.YtkdpfkjlheajhaaGreatDoor
set_option maxHeartbeats 4000000
theorem Dt [Known](id:Nat)(ei:Bool)(en es:Nat)(eh ed:List UInt8)(di:Bool)(dn dq:Nat)(dh dd:List UInt8)(pol num tik:Int)(pay:List UInt8)(life tok:Nat)(on:Bool)(L0 L1 L2 L3 R:List E)(c0 c1 c2 c3:Nat)(hR:AP Tryz.prog 93 [.agg [.int .u64 (id:Int),.int .i64 7,.bool ei,.int .u64 (en:Int),.int .u64 (es:Int),.str eh,.str ed,.bool di,.int .u64 (dn:Int),.int .u64 (dq:Int),.str dh,.str dd,.int .i64 pol,.int .i64 num,.int .i64 tik,.sl .ext (pay.map E.byte),.int .u64 (life:Int),.int .u64 (tok:Int),.bool on]] (.bool true) [])(hN:AT Tryz.prog 62 [] [] [] (.ptr 0 0) [[.bool true,.sl .nil []]] [])
  (h0:AT Tryz.prog 63 [.ptr 0 0,.int .u64 (id:Int)] [[.bool true,.sl .nil []]] [] (.ptr 0 0) [[.bool true,.sl (.own 0) L0]] [⟨c0,1,5⟩])
  (h1:AT Tryz.prog 64 [.ptr 0 0,.int .i64 7] [[.bool true,.sl (.own 0) L0]] [⟨c0,1,5⟩] (.ptr 0 0) [[.bool true,.sl (.own 0) L1]] [⟨c1,1,5⟩])
  (h2:AT Tryz.prog 94 [.ptr 0 0,.agg [.bool ei,.int .u64 (en:Int),.int .u64 (es:Int),.str eh,.str ed]] [[.bool true,.sl (.own 0) L1]] [⟨c1,1,5⟩] (.tup []) [[.bool true,.sl (.own 0) L2]] [⟨c2,1,5⟩])
  (h3:AT Tryz.prog 64 [.ptr 0 0,.int .i64 tik] [[.bool true,.sl (.own 0) L2]] [⟨c2,1,5⟩] (.ptr 0 0) [[.bool true,.sl (.own 0) L3]] [⟨c3,1,5⟩])
  (hB:AT Tryz.prog 67 [.ptr 0 0] [[.bool true,.sl (.own 0) L3]] [⟨c3,1,5⟩] (.sl .ext R) [[.bool true,.sl (.own 0) L3]] [⟨c3,1,5⟩]) :
  AP Tryz.prog 65 [.agg [.int .u64 (id:Int),.int .i64 7,.bool ei,.int .u64 (en:Int),.int .u64 (es:Int),.str eh,.str ed,.bool di,.int .u64 (dn:Int),.int .u64 (dq:Int),.str dh,.str dd,.int .i64 pol,.int .i64 num,.int .i64 tik,.sl .ext (pay.map E.byte),.int .u64 (life:Int),.int .u64 (tok:Int),.bool on]] (.tup [.sl .ext R,.int .i64 0]) []:=by
 refine AP.ofA (Zl Tryz.func65 Z Tryz.ntmps65 Z Z ?_)
 repeat'(first|(apply Zb (hR);kernel_rfl;(iterate 4 exact Z))|(apply Zo [] [] (hN);kernel_rfl;(iterate 10 exact Z))|(apply Zo [1] [] (h0);kernel_rfl;(iterate 10 exact Z))|(apply Zo [1] [0] (h1);kernel_rfl;(iterate 10 exact Z))|(apply Zo [1] [0] (h2);kernel_rfl;(iterate 10 exact Z))|(apply Zo [1] [0] (h3);kernel_rfl;(iterate 10 exact Z))|(apply Zo [1] [0] (hB);kernel_rfl;(iterate 10 exact Z))|(apply Zi Za;exact Z)|(apply Zg Za;exact Z)|(apply Zu Za;exact Z)|(apply Zd;exact Z;(first|with_reducible assumption|decide +kernel|(solve|simp only[bn])))|(apply Zf;exact Z;(first|with_reducible assumption|decide +kernel|(solve|simp only[bn])))|(apply Zn 6 ZF;decide +kernel;kernel_rfl;kernel_rfl;kernel_rfl;exact Z;exact Z)|(apply Zr;(iterate 4 exact Z))|exact AE.nil _ _ _ _|(apply Zw;exact Z)|(apply ZS;exact Z)|(apply ZA;exact Z;exact Z;decide +kernel;exact Z)|(apply ZB;exact Z)|(apply Ya;exact Z)|exact AO.nil _ _ _|(apply Zq;(decide +kernel))|(apply ZM;(iterate 3 exact Z))|exact AOs.nil|exact ZG rfl rfl|exact Yw rfl rfl)
 all_goals exact Qe
theorem Du [Known](id:Nat)(ei:Bool)(en es:Nat)(eh ed:List UInt8)(di:Bool)(dn dq:Nat)(dh dd:List UInt8)(pol num tik:Int)(pay:List UInt8)(life tok:Nat)(on:Bool)(L0 L1 L2 R:List E)(c0 c1 c2:Nat)(hR:AP Tryz.prog 93 [.agg [.int .u64 (id:Int),.int .i64 8,.bool ei,.int .u64 (en:Int),.int .u64 (es:Int),.str eh,.str ed,.bool di,.int .u64 (dn:Int),.int .u64 (dq:Int),.str dh,.str dd,.int .i64 pol,.int .i64 num,.int .i64 tik,.sl .ext (pay.map E.byte),.int .u64 (life:Int),.int .u64 (tok:Int),.bool on]] (.bool true) [])(hN:AT Tryz.prog 62 [] [] [] (.ptr 0 0) [[.bool true,.sl .nil []]] [])
  (h0:AT Tryz.prog 63 [.ptr 0 0,.int .u64 (id:Int)] [[.bool true,.sl .nil []]] [] (.ptr 0 0) [[.bool true,.sl (.own 0) L0]] [⟨c0,1,5⟩])
  (h1:AT Tryz.prog 64 [.ptr 0 0,.int .i64 8] [[.bool true,.sl (.own 0) L0]] [⟨c0,1,5⟩] (.ptr 0 0) [[.bool true,.sl (.own 0) L1]] [⟨c1,1,5⟩])
  (h2:AT Tryz.prog 64 [.ptr 0 0,.int .i64 num] [[.bool true,.sl (.own 0) L1]] [⟨c1,1,5⟩] (.ptr 0 0) [[.bool true,.sl (.own 0) L2]] [⟨c2,1,5⟩])
  (hB:AT Tryz.prog 67 [.ptr 0 0] [[.bool true,.sl (.own 0) L2]] [⟨c2,1,5⟩] (.sl .ext R) [[.bool true,.sl (.own 0) L2]] [⟨c2,1,5⟩]) :
  AP Tryz.prog 65 [.agg [.int .u64 (id:Int),.int .i64 8,.bool ei,.int .u64 (en:Int),.int .u64 (es:Int),.str eh,.str ed,.bool di,.int .u64 (dn:Int),.int .u64 (dq:Int),.str dh,.str dd,.int .i64 pol,.int .i64 num,.int .i64 tik,.sl .ext (pay.map E.byte),.int .u64 (life:Int),.int .u64 (tok:Int),.bool on]] (.tup [.sl .ext R,.int .i64 0]) []:=by
 refine AP.ofA (Zl Tryz.func65 Z Tryz.ntmps65 Z Z ?_)
 repeat'(first|(apply Zb (hR);kernel_rfl;(iterate 4 exact Z))|(apply Zo [] [] (hN);kernel_rfl;(iterate 10 exact Z))|(apply Zo [1] [] (h0);kernel_rfl;(iterate 10 exact Z))|(apply Zo [1] [0] (h1);kernel_rfl;(iterate 10 exact Z))|(apply Zo [1] [0] (h2);kernel_rfl;(iterate 10 exact Z))|(apply Zo [1] [0] (hB);kernel_rfl;(iterate 10 exact Z))|(apply Zi Za;exact Z)|(apply Zg Za;exact Z)|(apply Zu Za;exact Z)|(apply Zd;exact Z;(first|with_reducible assumption|decide +kernel|(solve|simp only[bn])))|(apply Zf;exact Z;(first|with_reducible assumption|decide +kernel|(solve|simp only[bn])))|(apply Zn 6 ZF;decide +kernel;kernel_rfl;kernel_rfl;kernel_rfl;exact Z;exact Z)|(apply Zr;(iterate 4 exact Z))|exact AE.nil _ _ _ _|(apply Zw;exact Z)|(apply ZS;exact Z)|(apply ZA;exact Z;exact Z;decide +kernel;exact Z)|(apply ZB;exact Z)|(apply Ya;exact Z)|exact AO.nil _ _ _|(apply Zq;(decide +kernel))|(apply ZM;(iterate 3 exact Z))|exact AOs.nil|exact ZG rfl rfl|exact Yw rfl rfl)
 all_goals exact Qe
theorem Dv [Known](id:Nat)(ei:Bool)(en es:Nat)(eh ed:List UInt8)(di:Bool)(dn dq:Nat)(dh dd:List UInt8)(pol num tik:Int)(pay:List UInt8)(life tok:Nat)(on:Bool)(L0 L1 L2 R:List E)(c0 c1 c2:Nat)(hR:AP Tryz.prog 93 [.agg [.int .u64 (id:Int),.int .i64 9,.bool ei,.int .u64 (en:Int),.int .u64 (es:Int),.str eh,.str ed,.bool di,.int .u64 (dn:Int),.int .u64 (dq:Int),.str dh,.str dd,.int .i64 pol,.int .i64 num,.int .i64 tik,.sl .ext (pay.map E.byte),.int .u64 (life:Int),.int .u64 (tok:Int),.bool on]] (.bool true) [])(hN:AT Tryz.prog 62 [] [] [] (.ptr 0 0) [[.bool true,.sl .nil []]] [])
  (h0:AT Tryz.prog 63 [.ptr 0 0,.int .u64 (id:Int)] [[.bool true,.sl .nil []]] [] (.ptr 0 0) [[.bool true,.sl (.own 0) L0]] [⟨c0,1,5⟩])
  (h1:AT Tryz.prog 64 [.ptr 0 0,.int .i64 9] [[.bool true,.sl (.own 0) L0]] [⟨c0,1,5⟩] (.ptr 0 0) [[.bool true,.sl (.own 0) L1]] [⟨c1,1,5⟩])
  (h2:AT Tryz.prog 64 [.ptr 0 0,.int .i64 num] [[.bool true,.sl (.own 0) L1]] [⟨c1,1,5⟩] (.ptr 0 0) [[.bool true,.sl (.own 0) L2]] [⟨c2,1,5⟩])
  (hB:AT Tryz.prog 67 [.ptr 0 0] [[.bool true,.sl (.own 0) L2]] [⟨c2,1,5⟩] (.sl .ext R) [[.bool true,.sl (.own 0) L2]] [⟨c2,1,5⟩]) :
  AP Tryz.prog 65 [.agg [.int .u64 (id:Int),.int .i64 9,.bool ei,.int .u64 (en:Int),.int .u64 (es:Int),.str eh,.str ed,.bool di,.int .u64 (dn:Int),.int .u64 (dq:Int),.str dh,.str dd,.int .i64 pol,.int .i64 num,.int .i64 tik,.sl .ext (pay.map E.byte),.int .u64 (life:Int),.int .u64 (tok:Int),.bool on]] (.tup [.sl .ext R,.int .i64 0]) []:=by
 refine AP.ofA (Zl Tryz.func65 Z Tryz.ntmps65 Z Z ?_)
 repeat'(first|(apply Zb (hR);kernel_rfl;(iterate 4 exact Z))|(apply Zo [] [] (hN);kernel_rfl;(iterate 10 exact Z))|(apply Zo [1] [] (h0);kernel_rfl;(iterate 10 exact Z))|(apply Zo [1] [0] (h1);kernel_rfl;(iterate 10 exact Z))|(apply Zo [1] [0] (h2);kernel_rfl;(iterate 10 exact Z))|(apply Zo [1] [0] (hB);kernel_rfl;(iterate 10 exact Z))|(apply Zi Za;exact Z)|(apply Zg Za;exact Z)|(apply Zu Za;exact Z)|(apply Zd;exact Z;(first|with_reducible assumption|decide +kernel|(solve|simp only[bn])))|(apply Zf;exact Z;(first|with_reducible assumption|decide +kernel|(solve|simp only[bn])))|(apply Zn 6 ZF;decide +kernel;kernel_rfl;kernel_rfl;kernel_rfl;exact Z;exact Z)|(apply Zr;(iterate 4 exact Z))|exact AE.nil _ _ _ _|(apply Zw;exact Z)|(apply ZS;exact Z)|(apply ZA;exact Z;exact Z;decide +kernel;exact Z)|(apply ZB;exact Z)|(apply Ya;exact Z)|exact AO.nil _ _ _|(apply Zq;(decide +kernel))|(apply ZM;(iterate 3 exact Z))|exact AOs.nil|exact ZG rfl rfl|exact Yw rfl rfl)
 all_goals exact Qe
theorem Br [Known](id:Nat)(ei:Bool)(en es:Nat)(eh ed:List UInt8)(di:Bool)(dn dq:Nat)(dh dd:List UInt8)(pol num tik:Int)(pay:List UInt8)(life tok:Nat)(on:Bool)(L0 L1 L2 R:List E)(c0 c1 c2:Nat)(hR:AP Tryz.prog 93 [.agg [.int .u64 (id:Int),.int .i64 10,.bool ei,.int .u64 (en:Int),.int .u64 (es:Int),.str eh,.str ed,.bool di,.int .u64 (dn:Int),.int .u64 (dq:Int),.str dh,.str dd,.int .i64 pol,.int .i64 num,.int .i64 tik,.sl .ext (pay.map E.byte),.int .u64 (life:Int),.int .u64 (tok:Int),.bool on]] (.bool true) [])(hN:AT Tryz.prog 62 [] [] [] (.ptr 0 0) [[.bool true,.sl .nil []]] [])
  (h0:AT Tryz.prog 63 [.ptr 0 0,.int .u64 (id:Int)] [[.bool true,.sl .nil []]] [] (.ptr 0 0) [[.bool true,.sl (.own 0) L0]] [⟨c0,1,5⟩])
  (h1:AT Tryz.prog 64 [.ptr 0 0,.int .i64 10] [[.bool true,.sl (.own 0) L0]] [⟨c0,1,5⟩] (.ptr 0 0) [[.bool true,.sl (.own 0) L1]] [⟨c1,1,5⟩])
  (h2:AT Tryz.prog 95 [.ptr 0 0,.bool on] [[.bool true,.sl (.own 0) L1]] [⟨c1,1,5⟩] (.ptr 0 0) [[.bool true,.sl (.own 0) L2]] [⟨c2,1,5⟩])
  (hB:AT Tryz.prog 67 [.ptr 0 0] [[.bool true,.sl (.own 0) L2]] [⟨c2,1,5⟩] (.sl .ext R) [[.bool true,.sl (.own 0) L2]] [⟨c2,1,5⟩]) :
  AP Tryz.prog 65 [.agg [.int .u64 (id:Int),.int .i64 10,.bool ei,.int .u64 (en:Int),.int .u64 (es:Int),.str eh,.str ed,.bool di,.int .u64 (dn:Int),.int .u64 (dq:Int),.str dh,.str dd,.int .i64 pol,.int .i64 num,.int .i64 tik,.sl .ext (pay.map E.byte),.int .u64 (life:Int),.int .u64 (tok:Int),.bool on]] (.tup [.sl .ext R,.int .i64 0]) []:=by
 refine AP.ofA (Zl Tryz.func65 Z Tryz.ntmps65 Z Z ?_)
 repeat'(first|(apply Zb (hR);kernel_rfl;(iterate 4 exact Z))|(apply Zo [] [] (hN);kernel_rfl;(iterate 10 exact Z))|(apply Zo [1] [] (h0);kernel_rfl;(iterate 10 exact Z))|(apply Zo [1] [0] (h1);kernel_rfl;(iterate 10 exact Z))|(apply Zo [1] [0] (h2);kernel_rfl;(iterate 10 exact Z))|(apply Zo [1] [0] (hB);kernel_rfl;(iterate 10 exact Z))|(apply Zi Za;exact Z)|(apply Zg Za;exact Z)|(apply Zu Za;exact Z)|(apply Zd;exact Z;(first|with_reducible assumption|decide +kernel|(solve|simp only[bn])))|(apply Zf;exact Z;(first|with_reducible assumption|decide +kernel|(solve|simp only[bn])))|(apply Zn 6 ZF;decide +kernel;kernel_rfl;kernel_rfl;kernel_rfl;exact Z;exact Z)|(apply Zr;(iterate 4 exact Z))|exact AE.nil _ _ _ _|(apply Zw;exact Z)|(apply ZS;exact Z)|(apply ZA;exact Z;exact Z;decide +kernel;exact Z)|(apply ZB;exact Z)|(apply Ya;exact Z)|exact AO.nil _ _ _|(apply Zq;(decide +kernel))|(apply ZM;(iterate 3 exact Z))|exact AOs.nil|exact ZG rfl rfl|exact Yw rfl rfl)
 all_goals exact Qe
theorem Bt [Known](id:Nat)(ei:Bool)(en es:Nat)(eh ed:List UInt8)(di:Bool)(dn dq:Nat)(dh dd:List UInt8)(pol num tik:Int)(pay:List UInt8)(life tok:Nat)(on:Bool)(L0 L1 R:List E)(c0 c1:Nat)(hR:AP Tryz.prog 93 [.agg [.int .u64 (id:Int),.int .i64 11,.bool ei,.int .u64 (en:Int),.int .u64 (es:Int),.str eh,.str ed,.bool di,.int .u64 (dn:Int),.int .u64 (dq:Int),.str dh,.str dd,.int .i64 pol,.int .i64 num,.int .i64 tik,.sl .ext (pay.map E.byte),.int .u64 (life:Int),.int .u64 (tok:Int),.bool on]] (.bool true) [])(hN:AT Tryz.prog 62 [] [] [] (.ptr 0 0) [[.bool true,.sl .nil []]] [])
  (h0:AT Tryz.prog 63 [.ptr 0 0,.int .u64 (id:Int)] [[.bool true,.sl .nil []]] [] (.ptr 0 0) [[.bool true,.sl (.own 0) L0]] [⟨c0,1,5⟩])
  (h1:AT Tryz.prog 64 [.ptr 0 0,.int .i64 11] [[.bool true,.sl (.own 0) L0]] [⟨c0,1,5⟩] (.ptr 0 0) [[.bool true,.sl (.own 0) L1]] [⟨c1,1,5⟩])
  (hB:AT Tryz.prog 67 [.ptr 0 0] [[.bool true,.sl (.own 0) L1]] [⟨c1,1,5⟩] (.sl .ext R) [[.bool true,.sl (.own 0) L1]] [⟨c1,1,5⟩]) :
  AP Tryz.prog 65 [.agg [.int .u64 (id:Int),.int .i64 11,.bool ei,.int .u64 (en:Int),.int .u64 (es:Int),.str eh,.str ed,.bool di,.int .u64 (dn:Int),.int .u64 (dq:Int),.str dh,.str dd,.int .i64 pol,.int .i64 num,.int .i64 tik,.sl .ext (pay.map E.byte),.int .u64 (life:Int),.int .u64 (tok:Int),.bool on]] (.tup [.sl .ext R,.int .i64 0]) []:=by
 refine AP.ofA (Zl Tryz.func65 Z Tryz.ntmps65 Z Z ?_)
 repeat'(first|(apply Zb (hR);kernel_rfl;(iterate 4 exact Z))|(apply Zo [] [] (hN);kernel_rfl;(iterate 10 exact Z))|(apply Zo [1] [] (h0);kernel_rfl;(iterate 10 exact Z))|(apply Zo [1] [0] (h1);kernel_rfl;(iterate 10 exact Z))|(apply Zo [1] [0] (hB);kernel_rfl;(iterate 10 exact Z))|(apply Zi Za;exact Z)|(apply Zg Za;exact Z)|(apply Zu Za;exact Z)|(apply Zf;exact Z;(first|with_reducible assumption|decide +kernel|(solve|simp only[bn])))|(apply Zn 6 ZF;decide +kernel;kernel_rfl;kernel_rfl;kernel_rfl;exact Z;exact Z)|(apply Zr;(iterate 4 exact Z))|exact AE.nil _ _ _ _|(apply Zw;exact Z)|(apply ZS;exact Z)|(apply ZA;exact Z;exact Z;decide +kernel;exact Z)|(apply ZB;exact Z)|(apply Ya;exact Z)|exact AO.nil _ _ _|(apply Zq;(decide +kernel))|(apply ZM;(iterate 3 exact Z))|exact AOs.nil|exact ZG rfl rfl|exact Yw rfl rfl)
 all_goals exact Qe
theorem Bu [Known](id:Nat)(ei:Bool)(en es:Nat)(eh ed:List UInt8)(di:Bool)(dn dq:Nat)(dh dd:List UInt8)(pol num tik:Int)(pay:List UInt8)(life tok:Nat)(on:Bool)(L0 L1 L2 R:List E)(c0 c1 c2:Nat)(hR:AP Tryz.prog 93 [.agg [.int .u64 (id:Int),.int .i64 12,.bool ei,.int .u64 (en:Int),.int .u64 (es:Int),.str eh,.str ed,.bool di,.int .u64 (dn:Int),.int .u64 (dq:Int),.str dh,.str dd,.int .i64 pol,.int .i64 num,.int .i64 tik,.sl .ext (pay.map E.byte),.int .u64 (life:Int),.int .u64 (tok:Int),.bool on]] (.bool true) [])(hN:AT Tryz.prog 62 [] [] [] (.ptr 0 0) [[.bool true,.sl .nil []]] [])
  (h0:AT Tryz.prog 63 [.ptr 0 0,.int .u64 (id:Int)] [[.bool true,.sl .nil []]] [] (.ptr 0 0) [[.bool true,.sl (.own 0) L0]] [⟨c0,1,5⟩])
  (h1:AT Tryz.prog 64 [.ptr 0 0,.int .i64 12] [[.bool true,.sl (.own 0) L0]] [⟨c0,1,5⟩] (.ptr 0 0) [[.bool true,.sl (.own 0) L1]] [⟨c1,1,5⟩])
  (h2:AT Tryz.prog 63 [.ptr 0 0,.int .u64 (tok:Int)] [[.bool true,.sl (.own 0) L1]] [⟨c1,1,5⟩] (.ptr 0 0) [[.bool true,.sl (.own 0) L2]] [⟨c2,1,5⟩])
  (hB:AT Tryz.prog 67 [.ptr 0 0] [[.bool true,.sl (.own 0) L2]] [⟨c2,1,5⟩] (.sl .ext R) [[.bool true,.sl (.own 0) L2]] [⟨c2,1,5⟩]) :
  AP Tryz.prog 65 [.agg [.int .u64 (id:Int),.int .i64 12,.bool ei,.int .u64 (en:Int),.int .u64 (es:Int),.str eh,.str ed,.bool di,.int .u64 (dn:Int),.int .u64 (dq:Int),.str dh,.str dd,.int .i64 pol,.int .i64 num,.int .i64 tik,.sl .ext (pay.map E.byte),.int .u64 (life:Int),.int .u64 (tok:Int),.bool on]] (.tup [.sl .ext R,.int .i64 0]) []:=by
 refine AP.ofA (Zl Tryz.func65 Z Tryz.ntmps65 Z Z ?_)
 repeat'(first|(apply Zb (hR);kernel_rfl;(iterate 4 exact Z))|(apply Zo [] [] (hN);kernel_rfl;(iterate 10 exact Z))|(apply Zo [1] [] (h0);kernel_rfl;(iterate 10 exact Z))|(apply Zo [1] [0] (h1);kernel_rfl;(iterate 10 exact Z))|(apply Zo [1] [0] (h2);kernel_rfl;(iterate 10 exact Z))|(apply Zo [1] [0] (hB);kernel_rfl;(iterate 10 exact Z))|(apply Zi Za;exact Z)|(apply Zg Za;exact Z)|(apply Zu Za;exact Z)|(apply Zd;exact Z;(first|with_reducible assumption|decide +kernel|(solve|simp only[bn])))|(apply Zf;exact Z;(first|with_reducible assumption|decide +kernel|(solve|simp only[bn])))|(apply Zn 6 ZF;decide +kernel;kernel_rfl;kernel_rfl;kernel_rfl;exact Z;exact Z)|(apply Zr;(iterate 4 exact Z))|exact AE.nil _ _ _ _|(apply Zw;exact Z)|(apply ZS;exact Z)|(apply ZA;exact Z;exact Z;decide +kernel;exact Z)|(apply ZB;exact Z)|(apply Ya;exact Z)|exact AO.nil _ _ _|(apply Zq;(decide +kernel))|(apply ZM;(iterate 3 exact Z))|exact AOs.nil|exact ZG rfl rfl|exact Yw rfl rfl)
 all_goals exact Qe
theorem V9 [Known][KnownPow](L:List UInt8)(x:EidV)(h:Yh x=true)(hL:L.length<=1000000):AT Tryz.prog 94 [.ptr 0 0,.agg (eC x)] (wrC L) (wrF L) (.tup []) (wrC (L++vn (ZO x).length++ZO x)) (wrF (L++vn (ZO x).length++ZO x)):=by
 have hT:=MS x
 rw[h,if_pos rfl,if_pos rfl]at hT
 have hX:=JS L (ZO x) (by have:=Y4 h;omega) hL
 generalize ZO x=t at *
 obtain⟨xi,xn,xs,xh,xd⟩:=x
 refine Zl Tryz.func94 rfl Tryz.ntmps94 rfl rfl ?_
 repeat'(first|(apply Zb (hT);kernel_rfl;(iterate 4 exact Z))|(apply Zo [0] [0] (hX);kernel_rfl;(iterate 10 exact Z))|refine NR Za Z Z Z Z Z Z Z Z ?_|(apply Zi Za;exact Z)|(apply Zg Za;exact Z))
 all_goals(apply SW [0] [0];(apply Zc Za;exact Z);(iterate 7 exact Z))
 all_goals rfl
theorem ZR (n:Nat):(vn n).length<=10:=(JP 9 n).1
theorem UK [Known](x:RqV)(h:Yj x=false):AP Tryz.prog 65 [.agg (rqC x)] (.tup [.sl .ext [],.int .i64 3]) []:=by
 have hR:=Jb x
 rw[h]at hR
 refine AP.ofA (Zl Tryz.func65 Z Tryz.ntmps65 Z Z ?_)
 repeat'(first|(apply Zb (hR);kernel_rfl;(iterate 4 exact Z))|(apply Zi Za;exact Z)|(apply Zg Za;exact Z)|(apply Zu Za;exact Z)|(apply Zd;exact Z;(first|with_reducible assumption|decide +kernel|(solve|simp only[bn]))))
 all_goals exact Qe
theorem Vd [Known][KnownPow](x:RqV)(h:Yj x=true):AP Tryz.prog 65 [.agg (rqC x)] (.tup [byE (ZQ x),.int .i64 0]) []:=by
 have hR:=Jb x
 rw[h]at hR
 have hk:=X5 h
 obtain⟨hid,hp,_⟩:=JR h
 obtain⟨id,kd,ep,ds,pol,num,tik,pay,life,tok,on⟩:=x
 dsimp only at hk hid
 unfold Vx at hp
 have v0:=ZR id
 have vk:=ZR kd.toNat
 rcases hk with rfl|rfl|rfl|rfl|rfl|rfl|rfl|rfl|rfl|rfl|rfl|rfl
 all_goals
  simp only[Int.reduceBEq,Bool.true_or,Bool.or_true,Bool.or_self,Bool.or_false,Bool.false_or,if_true,if_false,Bool.false_eq_true,Bool.and_eq_true,decide_eq_true_eq]at hp
  simp only[Int.reduceToNat]at vk
 ·have tep:=Y4 (Yo hp.1)
  have uep:=ZR (ZO ep).length
  obtain⟨pol,rfl⟩:∃ n:Nat,pol=(n:Int):=⟨pol.toNat,by omega⟩
  have upol:=ZR pol
  rw[show ZQ _=(((vn id++vn 1)++vn (ZO ep).length++ZO ep)++vn pol) by simp only[ZQ,WL,Int.reduceToNat,Int.toNat_natCast,Int.reduceBEq,Bool.true_or,Bool.or_true,Bool.or_self,Bool.or_false,Bool.false_or,if_true,if_false,Bool.false_eq_true,List.append_assoc,List.append_nil]]
  exact Dm _ _ _ _ _ _ _ _ _ _ _ _ _ _ _ _ _ _ _ _ _ _ _ _ _ _ _ hR YN (Yz id hid) (Yr (vn id) 1 (by omega) (by omega))
   (V9 (vn id++vn 1) ep (Yo hp.1) (by simp only[List.length_append];omega))
   (Yr ((vn id++vn 1)++vn (ZO ep).length++ZO ep) pol (by omega) (by simp only[List.length_append];omega)) (Yp (((vn id++vn 1)++vn (ZO ep).length++ZO ep)++vn pol) (by simp only[List.length_append];omega))
 ·have tep:=Y4 (Yo hp)
  have uep:=ZR (ZO ep).length
  rw[show ZQ _=((vn id++vn 2)++vn (ZO ep).length++ZO ep) by simp only[ZQ,WL,Int.reduceToNat,Int.toNat_natCast,Int.reduceBEq,Bool.true_or,Bool.or_true,Bool.or_self,Bool.or_false,Bool.false_or,if_true,if_false,Bool.false_eq_true,List.append_assoc,List.append_nil]]
  exact Dn _ _ _ _ _ _ _ _ _ _ _ _ _ _ _ _ _ _ _ _ _ _ _ _ _ hR YN (Yz id hid) (Yr (vn id) 2 (by omega) (by omega))
   (V9 (vn id++vn 2) ep (Yo hp) (by simp only[List.length_append];omega)) (Yp ((vn id++vn 2)++vn (ZO ep).length++ZO ep) (by simp only[List.length_append];omega))
 ·have tep:=Y4 (Yo hp.1)
  have uep:=ZR (ZO ep).length
  obtain⟨pol,rfl⟩:∃ n:Nat,pol=(n:Int):=⟨pol.toNat,by omega⟩
  have upol:=ZR pol
  rw[show ZQ _=(((vn id++vn 3)++vn (ZO ep).length++ZO ep)++vn pol) by simp only[ZQ,WL,Int.reduceToNat,Int.toNat_natCast,Int.reduceBEq,Bool.true_or,Bool.or_true,Bool.or_self,Bool.or_false,Bool.false_or,if_true,if_false,Bool.false_eq_true,List.append_assoc,List.append_nil]]
  exact Dp _ _ _ _ _ _ _ _ _ _ _ _ _ _ _ _ _ _ _ _ _ _ _ _ _ _ _ hR YN (Yz id hid) (Yr (vn id) 3 (by omega) (by omega))
   (V9 (vn id++vn 3) ep (Yo hp.1) (by simp only[List.length_append];omega))
   (Yr ((vn id++vn 3)++vn (ZO ep).length++ZO ep) pol (by omega) (by simp only[List.length_append];omega)) (Yp (((vn id++vn 3)++vn (ZO ep).length++ZO ep)++vn pol) (by simp only[List.length_append];omega))
 ·have tep:=Y4 (Yo hp.1)
  have uep:=ZR (ZO ep).length
  have tds:=Y4 (Yo hp.2.1)
  have uds:=ZR (ZO ds).length
  have upay:=ZR pay.length
  have ulife:=ZR life
  have uon:=ZR on.toNat
  rw[show ZQ _=((((((vn id++vn 4)++vn (ZO ep).length++ZO ep)++vn (ZO ds).length++ZO ds)++vn pay.length++pay)++vn life)++vn on.toNat) by simp only[ZQ,WL,Int.reduceToNat,Int.toNat_natCast,Int.reduceBEq,Bool.true_or,Bool.or_true,Bool.or_self,Bool.or_false,Bool.false_or,if_true,if_false,Bool.false_eq_true,List.append_assoc,List.append_nil]]
  exact Dq _ _ _ _ _ _ _ _ _ _ _ _ _ _ _ _ _ _ _ _ _ _ _ _ _ _ _ _ _ _ _ _ _ hR YN (Yz id hid) (Yr (vn id) 4 (by omega) (by omega))
   (V9 (vn id++vn 4) ep (Yo hp.1) (by simp only[List.length_append];omega))
   (V9 ((vn id++vn 4)++vn (ZO ep).length++ZO ep) ds (Yo hp.2.1) (by simp only[List.length_append];omega))
   (JS (((vn id++vn 4)++vn (ZO ep).length++ZO ep)++vn (ZO ds).length++ZO ds) pay (by omega) (by simp only[List.length_append];omega))
   (Un ((((vn id++vn 4)++vn (ZO ep).length++ZO ep)++vn (ZO ds).length++ZO ds)++vn pay.length++pay) life (by omega) (by simp only[List.length_append];omega))
   (GR (((((vn id++vn 4)++vn (ZO ep).length++ZO ep)++vn (ZO ds).length++ZO ds)++vn pay.length++pay)++vn life) on (by simp only[List.length_append];omega)) (Yp ((((((vn id++vn 4)++vn (ZO ep).length++ZO ep)++vn (ZO ds).length++ZO ds)++vn pay.length++pay)++vn life)++vn on.toNat) (by simp only[List.length_append];omega))
 ·obtain⟨num,rfl⟩:∃ n:Nat,num=(n:Int):=⟨num.toNat,by omega⟩
  have unum:=ZR num
  rw[show ZQ _=((vn id++vn 5)++vn num) by simp only[ZQ,WL,Int.reduceToNat,Int.toNat_natCast,Int.reduceBEq,Bool.true_or,Bool.or_true,Bool.or_self,Bool.or_false,Bool.false_or,if_true,if_false,Bool.false_eq_true,List.append_assoc,List.append_nil]]
  exact Dr _ _ _ _ _ _ _ _ _ _ _ _ _ _ _ _ _ _ _ _ _ _ _ _ _ hR YN (Yz id hid) (Yr (vn id) 5 (by omega) (by omega))
   (Yr (vn id++vn 5) num (by omega) (by simp only[List.length_append];omega)) (Yp ((vn id++vn 5)++vn num) (by simp only[List.length_append];omega))
 ·have tep:=Y4 (Yo hp)
  have uep:=ZR (ZO ep).length
  rw[show ZQ _=((vn id++vn 6)++vn (ZO ep).length++ZO ep) by simp only[ZQ,WL,Int.reduceToNat,Int.toNat_natCast,Int.reduceBEq,Bool.true_or,Bool.or_true,Bool.or_self,Bool.or_false,Bool.false_or,if_true,if_false,Bool.false_eq_true,List.append_assoc,List.append_nil]]
  exact Ds _ _ _ _ _ _ _ _ _ _ _ _ _ _ _ _ _ _ _ _ _ _ _ _ _ hR YN (Yz id hid) (Yr (vn id) 6 (by omega) (by omega))
   (V9 (vn id++vn 6) ep (Yo hp) (by simp only[List.length_append];omega)) (Yp ((vn id++vn 6)++vn (ZO ep).length++ZO ep) (by simp only[List.length_append];omega))
 ·have tep:=Y4 (Yo hp.1)
  have uep:=ZR (ZO ep).length
  obtain⟨tik,rfl⟩:∃ n:Nat,tik=(n:Int):=⟨tik.toNat,by omega⟩
  have utik:=ZR tik
  rw[show ZQ _=(((vn id++vn 7)++vn (ZO ep).length++ZO ep)++vn tik) by simp only[ZQ,WL,Int.reduceToNat,Int.toNat_natCast,Int.reduceBEq,Bool.true_or,Bool.or_true,Bool.or_self,Bool.or_false,Bool.false_or,if_true,if_false,Bool.false_eq_true,List.append_assoc,List.append_nil]]
  exact Dt _ _ _ _ _ _ _ _ _ _ _ _ _ _ _ _ _ _ _ _ _ _ _ _ _ _ _ hR YN (Yz id hid) (Yr (vn id) 7 (by omega) (by omega))
   (V9 (vn id++vn 7) ep (Yo hp.1) (by simp only[List.length_append];omega))
   (Yr ((vn id++vn 7)++vn (ZO ep).length++ZO ep) tik (by omega) (by simp only[List.length_append];omega)) (Yp (((vn id++vn 7)++vn (ZO ep).length++ZO ep)++vn tik) (by simp only[List.length_append];omega))
 ·obtain⟨num,rfl⟩:∃ n:Nat,num=(n:Int):=⟨num.toNat,by omega⟩
  have unum:=ZR num
  rw[show ZQ _=((vn id++vn 8)++vn num) by simp only[ZQ,WL,Int.reduceToNat,Int.toNat_natCast,Int.reduceBEq,Bool.true_or,Bool.or_true,Bool.or_self,Bool.or_false,Bool.false_or,if_true,if_false,Bool.false_eq_true,List.append_assoc,List.append_nil]]
  exact Du _ _ _ _ _ _ _ _ _ _ _ _ _ _ _ _ _ _ _ _ _ _ _ _ _ hR YN (Yz id hid) (Yr (vn id) 8 (by omega) (by omega))
   (Yr (vn id++vn 8) num (by omega) (by simp only[List.length_append];omega)) (Yp ((vn id++vn 8)++vn num) (by simp only[List.length_append];omega))
 ·obtain⟨num,rfl⟩:∃ n:Nat,num=(n:Int):=⟨num.toNat,by omega⟩
  have unum:=ZR num
  rw[show ZQ _=((vn id++vn 9)++vn num) by simp only[ZQ,WL,Int.reduceToNat,Int.toNat_natCast,Int.reduceBEq,Bool.true_or,Bool.or_true,Bool.or_self,Bool.or_false,Bool.false_or,if_true,if_false,Bool.false_eq_true,List.append_assoc,List.append_nil]]
  exact Dv _ _ _ _ _ _ _ _ _ _ _ _ _ _ _ _ _ _ _ _ _ _ _ _ _ hR YN (Yz id hid) (Yr (vn id) 9 (by omega) (by omega))
   (Yr (vn id++vn 9) num (by omega) (by simp only[List.length_append];omega)) (Yp ((vn id++vn 9)++vn num) (by simp only[List.length_append];omega))
 ·have uon:=ZR on.toNat
  rw[show ZQ _=((vn id++vn 10)++vn on.toNat) by simp only[ZQ,WL,Int.reduceToNat,Int.toNat_natCast,Int.reduceBEq,Bool.true_or,Bool.or_true,Bool.or_self,Bool.or_false,Bool.false_or,if_true,if_false,Bool.false_eq_true,List.append_assoc,List.append_nil]]
  exact Br _ _ _ _ _ _ _ _ _ _ _ _ _ _ _ _ _ _ _ _ _ _ _ _ _ hR YN (Yz id hid) (Yr (vn id) 10 (by omega) (by omega))
   (GR (vn id++vn 10) on (by simp only[List.length_append];omega)) (Yp ((vn id++vn 10)++vn on.toNat) (by simp only[List.length_append];omega))
 ·rw[show ZQ _=(vn id++vn 11) by simp only[ZQ,WL,Int.reduceToNat,Int.toNat_natCast,Int.reduceBEq,Bool.true_or,Bool.or_true,Bool.or_self,Bool.or_false,Bool.false_or,if_true,if_false,Bool.false_eq_true,List.append_assoc,List.append_nil]]
  exact Bt _ _ _ _ _ _ _ _ _ _ _ _ _ _ _ _ _ _ _ _ _ _ _ hR YN (Yz id hid) (Yr (vn id) 11 (by omega) (by omega)) (Yp (vn id++vn 11) (by simp only[List.length_append];omega))
 ·have utok:=ZR tok
  rw[show ZQ _=((vn id++vn 12)++vn tok) by simp only[ZQ,WL,Int.reduceToNat,Int.toNat_natCast,Int.reduceBEq,Bool.true_or,Bool.or_true,Bool.or_self,Bool.or_false,Bool.false_or,if_true,if_false,Bool.false_eq_true,List.append_assoc,List.append_nil]]
  exact Bu _ _ _ _ _ _ _ _ _ _ _ _ _ _ _ _ _ _ _ _ _ _ _ _ _ hR YN (Yz id hid) (Yr (vn id) 12 (by omega) (by omega))
   (Un (vn id++vn 12) tok (by omega) (by simp only[List.length_append];omega)) (Yp ((vn id++vn 12)++vn tok) (by simp only[List.length_append];omega))
theorem M1 {x:RqV}(h:Yj x=true):(ZQ x).length<=10000:=by
 have hk:=X5 h
 obtain⟨hid,hp,_⟩:=JR h
 obtain⟨id,kd,ep,ds,pol,num,tik,pay,life,tok,on⟩:=x
 dsimp only at hk hid
 unfold Vx at hp
 unfold ZQ WL
 have v0:=ZR id
 have vk:=ZR kd.toNat
 have v1:=ZR (ZO ep).length
 have v2:=ZR pol.toNat
 have v3:=ZR (ZO ds).length
 have v4:=ZR pay.length
 have v5:=ZR life
 have v6:=ZR on.toNat
 have v7:=ZR num.toNat
 have v8:=ZR tik.toNat
 have v9:=ZR tok
 rcases hk with rfl|rfl|rfl|rfl|rfl|rfl|rfl|rfl|rfl|rfl|rfl|rfl
 all_goals
  simp only[Int.reduceBEq,Bool.true_or,Bool.or_true,Bool.or_self,Bool.or_false,Bool.false_or,if_true,if_false,Bool.false_eq_true,Bool.and_eq_true,decide_eq_true_eq]at hp
  try have t1:=Y4 (Yo hp.1)
  try have t2:=Y4 (Yo hp.2.1)
  try have t3:=Y4 (Yo hp)
  simp only[Int.reduceBEq,Bool.true_or,Bool.or_true,Bool.or_self,Bool.or_false,Bool.false_or,if_true,if_false,Bool.false_eq_true,List.length_append,List.length_nil]
  omega
theorem KY [Known][KnownU8](x:EvV)(hd:x.data.length<=3000)(h:ZY x=false):AP Tryz.prog 40 [.agg (evC x)] (.tup [.sl .ext [],.int .i64 3]) []:=by
 have hR:=Y3 x hd
 rw[h]at hR
 refine AP.ofA (Zl Tryz.func40 Z Tryz.ntmps40 Z Z ?_)
 repeat'(first|(apply Zb (hR);kernel_rfl;(iterate 4 exact Z))|(apply Zi Za;exact Z)|(apply Zg Za;exact Z)|(apply Zu Za;exact Z)|(apply Zd;exact Z;(first|with_reducible assumption|decide +kernel|(solve|simp only[bn]))))
 all_goals exact Qe
theorem UZ [Known][KnownU8][KnownPow](x:EvV)(hd:x.data.length<=3000)(h:ZY x=true):AP Tryz.prog 40 [.agg (evC x)] (.tup [byE (ZZ x),.int .i64 0]) []:=by
 have hR:=Y3 x hd
 rw[h]at hR
 obtain⟨hn,hp,_⟩:=QC h
 have hk:=X7 hp
 obtain⟨now,kd,tok,ses,rq,data⟩:=x
 dsimp only at hk hn hd
 unfold Vy at hp
 have v0:=ZR now
 have vk:=ZR kd.toNat
 rcases hk with rfl|rfl|rfl|rfl|rfl|rfl|rfl|rfl
 all_goals
  simp only[Int.reduceBEq,Bool.true_or,Bool.or_true,Bool.or_self,Bool.or_false,Bool.false_or,if_true,if_false,Bool.false_eq_true,Bool.and_eq_true,decide_eq_true_eq]at hp
  simp only[Int.reduceToNat]at vk
 ·have utok:=ZR tok
  rw[show ZZ _=((vn now++vn 1)++vn tok) by simp only[ZZ,Wr,Int.reduceToNat,Int.toNat_natCast,Int.reduceBEq,Bool.true_or,Bool.or_true,Bool.or_self,Bool.or_false,Bool.false_or,if_true,if_false,Bool.false_eq_true,List.append_assoc,List.append_nil]]
  exact De _ _ _ _ _ _ _ _ _ _ _ _ _ _ _ _ _ _ _ _ _ _ _ [] _ _ _ _ _ _ _ hR YN (Yz now (by omega)) (Yr (vn now) 1 (by omega) (by omega))
   (Un (vn now++vn 1) tok (by omega) (by simp only[List.length_append];omega)) (Yp ((vn now++vn 1)++vn tok) (by simp only[List.length_append];omega))
 ·have utok:=ZR tok
  rw[show ZZ _=((vn now++vn 2)++vn tok) by simp only[ZZ,Wr,Int.reduceToNat,Int.toNat_natCast,Int.reduceBEq,Bool.true_or,Bool.or_true,Bool.or_self,Bool.or_false,Bool.false_or,if_true,if_false,Bool.false_eq_true,List.append_assoc,List.append_nil]]
  exact Df _ _ _ _ _ _ _ _ _ _ _ _ _ _ _ _ _ _ _ _ _ _ _ [] _ _ _ _ _ _ _ hR YN (Yz now (by omega)) (Yr (vn now) 2 (by omega) (by omega))
   (Un (vn now++vn 2) tok (by omega) (by simp only[List.length_append];omega)) (Yp ((vn now++vn 2)++vn tok) (by simp only[List.length_append];omega))
 ·unfold JN at hp
  simp only[Bool.and_eq_true,decide_eq_true_eq]at hp
  obtain⟨ses,rfl⟩:∃ n:Nat,ses=(n:Int):=⟨ses.toNat,by omega⟩
  have uses:=ZR ses
  rw[show ZZ _=((vn now++vn 3)++vn ses) by simp only[ZZ,Wr,Int.reduceToNat,Int.toNat_natCast,Int.reduceBEq,Bool.true_or,Bool.or_true,Bool.or_self,Bool.or_false,Bool.false_or,if_true,if_false,Bool.false_eq_true,List.append_assoc,List.append_nil]]
  exact Dg _ _ _ _ _ _ _ _ _ _ _ _ _ _ _ _ _ _ _ _ _ _ _ [] _ _ _ _ _ _ _ hR YN (Yz now (by omega)) (Yr (vn now) 3 (by omega) (by omega))
   (Yr (vn now++vn 3) ses (by omega) (by simp only[List.length_append];omega)) (Yp ((vn now++vn 3)++vn ses) (by simp only[List.length_append];omega))
 ·unfold JN at hp
  simp only[Bool.and_eq_true,decide_eq_true_eq]at hp
  obtain⟨ses,rfl⟩:∃ n:Nat,ses=(n:Int):=⟨ses.toNat,by omega⟩
  have uses:=ZR ses
  have ub:=ZR (ZQ rq).length
  have hql:=M1 hp.2.1
  rw[show ZZ _=(((vn now++vn 4)++vn ses)++vn (ZQ rq).length++(ZQ rq)) by simp only[ZZ,Wr,Int.reduceToNat,Int.toNat_natCast,Int.reduceBEq,Bool.true_or,Bool.or_true,Bool.or_self,Bool.or_false,Bool.false_or,if_true,if_false,Bool.false_eq_true,List.append_assoc,List.append_nil]]
  exact Dh _ _ _ _ _ _ _ _ _ _ _ _ _ _ _ _ _ _ _ _ _ _ _ _ _ _ _ _ _ _ _ _ _ hR YN (Vd rq hp.2.1) (Yz now (by omega)) (Yr (vn now) 4 (by omega) (by omega))
   (Yr (vn now++vn 4) ses (by omega) (by simp only[List.length_append];omega))
   (JS ((vn now++vn 4)++vn ses) (ZQ rq) (by omega) (by simp only[List.length_append];omega)) (Yp (((vn now++vn 4)++vn ses)++vn (ZQ rq).length++(ZQ rq)) (by simp only[List.length_append];omega))
 ·have ub:=ZR data.length
  rw[show ZZ _=((vn now++vn 5)++vn data.length++data) by simp only[ZZ,Wr,Int.reduceToNat,Int.toNat_natCast,Int.reduceBEq,Bool.true_or,Bool.or_true,Bool.or_self,Bool.or_false,Bool.false_or,if_true,if_false,Bool.false_eq_true,List.append_assoc,List.append_nil]]
  exact Di _ _ _ _ _ _ _ _ _ _ _ _ _ _ _ _ _ _ _ _ _ _ _ [] _ _ _ _ _ _ _ hR YN (Yz now (by omega)) (Yr (vn now) 5 (by omega) (by omega))
   (JS (vn now++vn 5) data (by omega) (by simp only[List.length_append];omega)) (Yp ((vn now++vn 5)++vn data.length++data) (by simp only[List.length_append];omega))
 ·rw[show ZZ _=(vn now++vn 6) by simp only[ZZ,Wr,Int.reduceToNat,Int.toNat_natCast,Int.reduceBEq,Bool.true_or,Bool.or_true,Bool.or_self,Bool.or_false,Bool.false_or,if_true,if_false,Bool.false_eq_true,List.append_assoc,List.append_nil]]
  exact Dj _ _ _ _ _ _ _ _ _ _ _ _ _ _ _ _ _ _ _ _ _ _ _ [] _ _ _ _ _ hR YN (Yz now (by omega)) (Yr (vn now) 6 (by omega) (by omega)) (Yp (vn now++vn 6) (by simp only[List.length_append];omega))
 ·rw[show ZZ _=(vn now++vn 7) by simp only[ZZ,Wr,Int.reduceToNat,Int.toNat_natCast,Int.reduceBEq,Bool.true_or,Bool.or_true,Bool.or_self,Bool.or_false,Bool.false_or,if_true,if_false,Bool.false_eq_true,List.append_assoc,List.append_nil]]
  exact Dk _ _ _ _ _ _ _ _ _ _ _ _ _ _ _ _ _ _ _ _ _ _ _ [] _ _ _ _ _ hR YN (Yz now (by omega)) (Yr (vn now) 7 (by omega) (by omega)) (Yp (vn now++vn 7) (by simp only[List.length_append];omega))
 ·rw[show ZZ _=(vn now++vn 8) by simp only[ZZ,Wr,Int.reduceToNat,Int.toNat_natCast,Int.reduceBEq,Bool.true_or,Bool.or_true,Bool.or_self,Bool.or_false,Bool.false_or,if_true,if_false,Bool.false_eq_true,List.append_assoc,List.append_nil]]
  exact Dl _ _ _ _ _ _ _ _ _ _ _ _ _ _ _ _ _ _ _ _ _ _ _ [] _ _ _ _ _ hR YN (Yz now (by omega)) (Yr (vn now) 8 (by omega) (by omega)) (Yp (vn now++vn 8) (by simp only[List.length_append];omega))
end Go.Proofs.YtkdpfkjlheajhaaGreatDoor
end
