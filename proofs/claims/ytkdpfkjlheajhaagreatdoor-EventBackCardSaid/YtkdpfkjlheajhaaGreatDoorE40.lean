/- Package request: Read, by kinds (11). -/
import Derived.Test.YtkdpfkjlheajhaaGreatDoorE34
import Derived.Test.YtkdpfkjlheajhaaGreatDoorE24
import Derived.Test.YtkdpfkjlheajhaaGreatDoorE33
set_option linter.unusedVariables false
set_option linter.unusedSimpArgs false
section
open Go.RowKit Go.Pl Go.Av
namespace Go.Proofs.YtkdpfkjlheajhaaGreatDoor
set_option maxHeartbeats 4000000
theorem U1 [Known](b:List UInt8)(id:Nat)(ei:Bool)(en es:Nat)(eh ed:List UInt8)(di:Bool)(dn dq:Nat)(dh dd:List UInt8)(pol num tik:Int)(pay:List UInt8)(life tok:Nat)(on:Bool)(e0 e1 e2 w q:Int)(q0 q1 q2 c:List UInt8)(hN:AQ Tryz.prog 68 [.sl .ext (b.map E.byte)] [] (.ptr 0 0) [[.int .i64 e0,.bool true,.sl .ext (q0.map E.byte)]])(h0:AQ Tryz.prog 69 [.ptr 0 0] [[.int .i64 e0,.bool true,.sl .ext (q0.map E.byte)]] (.int .u64 (id:Int)) [[.int .i64 e1,.bool true,.sl .ext (q1.map E.byte)]])(h1:AQ Tryz.prog 70 [.ptr 0 0] [[.int .i64 e1,.bool true,.sl .ext (q1.map E.byte)]] (.int .i64 11) [[.int .i64 e2,.bool true,.sl .ext (q2.map E.byte)]])(hW:AP Tryz.prog 65 [.agg [.int .u64 (id:Int),.int .i64 11,.bool false,.int .u64 0,.int .u64 0,.str [],.str [],.bool false,.int .u64 0,.int .u64 0,.str [],.str [],.int .i64 0,.int .i64 0,.int .i64 0,.sl .ext [],.int .u64 0,.int .u64 0,.bool false]] (.tup [.sl .ext (c.map E.byte),.int .i64 w]) []) :
  (∀(t1:(w != 0)=true),
  AP Tryz.prog 71 [.sl .ext (b.map E.byte)] (.tup [.agg [.int .u64 0,.int .i64 0,.bool false,.int .u64 0,.int .u64 0,.str [],.str [],.bool false,.int .u64 0,.int .u64 0,.str [],.str [],.int .i64 0,.int .i64 0,.int .i64 0,.sl .ext [],.int .u64 0,.int .u64 0,.bool false],.int .i64 3]) []) /\
  (∀(t1:(w != 0)=false) (hE:AQ Tryz.prog 73 [.ptr 0 0] [[.int .i64 e2,.bool true,.sl .ext (q2.map E.byte)]] (.int .i64 q) [[.int .i64 e2,.bool true,.sl .ext (q2.map E.byte)]]) (t2:(q != 0)=true),
  AP Tryz.prog 71 [.sl .ext (b.map E.byte)] (.tup [.agg [.int .u64 0,.int .i64 0,.bool false,.int .u64 0,.int .u64 0,.str [],.str [],.bool false,.int .u64 0,.int .u64 0,.str [],.str [],.int .i64 0,.int .i64 0,.int .i64 0,.sl .ext [],.int .u64 0,.int .u64 0,.bool false],.int .i64 3]) []) /\
  (∀(t1:(w != 0)=false) (hE:AQ Tryz.prog 73 [.ptr 0 0] [[.int .i64 e2,.bool true,.sl .ext (q2.map E.byte)]] (.int .i64 q) [[.int .i64 e2,.bool true,.sl .ext (q2.map E.byte)]]) (t2:(q != 0)=false) (hB:AP Tryz.prog 56 [.sl .ext (c.map E.byte),.sl .ext (b.map E.byte)] (.bool false) []),
  AP Tryz.prog 71 [.sl .ext (b.map E.byte)] (.tup [.agg [.int .u64 0,.int .i64 0,.bool false,.int .u64 0,.int .u64 0,.str [],.str [],.bool false,.int .u64 0,.int .u64 0,.str [],.str [],.int .i64 0,.int .i64 0,.int .i64 0,.sl .ext [],.int .u64 0,.int .u64 0,.bool false],.int .i64 3]) []) /\
  (∀(t1:(w != 0)=false) (hE:AQ Tryz.prog 73 [.ptr 0 0] [[.int .i64 e2,.bool true,.sl .ext (q2.map E.byte)]] (.int .i64 q) [[.int .i64 e2,.bool true,.sl .ext (q2.map E.byte)]]) (t2:(q != 0)=false) (hB:AP Tryz.prog 56 [.sl .ext (c.map E.byte),.sl .ext (b.map E.byte)] (.bool true) []),
  AP Tryz.prog 71 [.sl .ext (b.map E.byte)] (.tup [.agg [.int .u64 (id:Int),.int .i64 11,.bool false,.int .u64 0,.int .u64 0,.str [],.str [],.bool false,.int .u64 0,.int .u64 0,.str [],.str [],.int .i64 0,.int .i64 0,.int .i64 0,.sl .ext [],.int .u64 0,.int .u64 0,.bool false],.int .i64 0]) []):=by
 refine⟨fun t1=>?_,fun t1 hE t2=>?_,fun t1 hE t2 hB=>?_,fun t1 hE t2 hB=>?_⟩
 all_goals
  refine AP.ofA (Zl Tryz.func71 Z Tryz.ntmps71 Z Z ?_)
  repeat'(first|(apply Zb (hW);kernel_rfl;(iterate 4 exact Z))|(apply Zh [] (hN);kernel_rfl;(iterate 7 exact Z))|(apply Zh [1] (h0);kernel_rfl;(iterate 7 exact Z))|(apply Zh [1] (h1);kernel_rfl;(iterate 7 exact Z))|(apply Zh [1] (hE);kernel_rfl;(iterate 7 exact Z))|(apply Zb (hB);kernel_rfl;(iterate 4 exact Z))|(apply Zi Za;exact Z)|(apply Zg Za;exact Z)|(apply Zu Za;exact Z)|(apply Ze;(iterate 3 exact Z);(first|with_reducible assumption|decide +kernel|(solve|simp only[bn])))|(apply Zp;(iterate 3 exact Z);(first|with_reducible assumption|decide +kernel|(solve|simp only[bn])))|(apply Zk;exact Z;(first|with_reducible assumption|decide +kernel|(solve|simp only[bn]));exact Z;exact Z)|(apply Zj;exact Z;(first|with_reducible assumption|decide +kernel|(solve|simp only[bn]));exact Z;exact Z)|(apply Zd;exact Z;(first|with_reducible assumption|decide +kernel|(solve|simp only[bn])))|(apply Zf;exact Z;(first|with_reducible assumption|decide +kernel|(solve|simp only[bn]))))
  all_goals exact Qe
theorem U2 [Known](b:List UInt8)(id:Nat)(ei:Bool)(en es:Nat)(eh ed:List UInt8)(di:Bool)(dn dq:Nat)(dh dd:List UInt8)(pol num tik:Int)(pay:List UInt8)(life tok:Nat)(on:Bool)(e0 e1 e2 e3 w q:Int)(q0 q1 q2 q3 c:List UInt8)(hN:AQ Tryz.prog 68 [.sl .ext (b.map E.byte)] [] (.ptr 0 0) [[.int .i64 e0,.bool true,.sl .ext (q0.map E.byte)]])(h0:AQ Tryz.prog 69 [.ptr 0 0] [[.int .i64 e0,.bool true,.sl .ext (q0.map E.byte)]] (.int .u64 (id:Int)) [[.int .i64 e1,.bool true,.sl .ext (q1.map E.byte)]])(h1:AQ Tryz.prog 70 [.ptr 0 0] [[.int .i64 e1,.bool true,.sl .ext (q1.map E.byte)]] (.int .i64 12) [[.int .i64 e2,.bool true,.sl .ext (q2.map E.byte)]])(h2:AQ Tryz.prog 69 [.ptr 0 0] [[.int .i64 e2,.bool true,.sl .ext (q2.map E.byte)]] (.int .u64 (tok:Int)) [[.int .i64 e3,.bool true,.sl .ext (q3.map E.byte)]])(hW:AP Tryz.prog 65 [.agg [.int .u64 (id:Int),.int .i64 12,.bool false,.int .u64 0,.int .u64 0,.str [],.str [],.bool false,.int .u64 0,.int .u64 0,.str [],.str [],.int .i64 0,.int .i64 0,.int .i64 0,.sl .ext [],.int .u64 0,.int .u64 (tok:Int),.bool false]] (.tup [.sl .ext (c.map E.byte),.int .i64 w]) []) :
  (∀(t1:(w != 0)=true),
  AP Tryz.prog 71 [.sl .ext (b.map E.byte)] (.tup [.agg [.int .u64 0,.int .i64 0,.bool false,.int .u64 0,.int .u64 0,.str [],.str [],.bool false,.int .u64 0,.int .u64 0,.str [],.str [],.int .i64 0,.int .i64 0,.int .i64 0,.sl .ext [],.int .u64 0,.int .u64 0,.bool false],.int .i64 3]) []) /\
  (∀(t1:(w != 0)=false) (hE:AQ Tryz.prog 73 [.ptr 0 0] [[.int .i64 e3,.bool true,.sl .ext (q3.map E.byte)]] (.int .i64 q) [[.int .i64 e3,.bool true,.sl .ext (q3.map E.byte)]]) (t2:(q != 0)=true),
  AP Tryz.prog 71 [.sl .ext (b.map E.byte)] (.tup [.agg [.int .u64 0,.int .i64 0,.bool false,.int .u64 0,.int .u64 0,.str [],.str [],.bool false,.int .u64 0,.int .u64 0,.str [],.str [],.int .i64 0,.int .i64 0,.int .i64 0,.sl .ext [],.int .u64 0,.int .u64 0,.bool false],.int .i64 3]) []) /\
  (∀(t1:(w != 0)=false) (hE:AQ Tryz.prog 73 [.ptr 0 0] [[.int .i64 e3,.bool true,.sl .ext (q3.map E.byte)]] (.int .i64 q) [[.int .i64 e3,.bool true,.sl .ext (q3.map E.byte)]]) (t2:(q != 0)=false) (hB:AP Tryz.prog 56 [.sl .ext (c.map E.byte),.sl .ext (b.map E.byte)] (.bool false) []),
  AP Tryz.prog 71 [.sl .ext (b.map E.byte)] (.tup [.agg [.int .u64 0,.int .i64 0,.bool false,.int .u64 0,.int .u64 0,.str [],.str [],.bool false,.int .u64 0,.int .u64 0,.str [],.str [],.int .i64 0,.int .i64 0,.int .i64 0,.sl .ext [],.int .u64 0,.int .u64 0,.bool false],.int .i64 3]) []) /\
  (∀(t1:(w != 0)=false) (hE:AQ Tryz.prog 73 [.ptr 0 0] [[.int .i64 e3,.bool true,.sl .ext (q3.map E.byte)]] (.int .i64 q) [[.int .i64 e3,.bool true,.sl .ext (q3.map E.byte)]]) (t2:(q != 0)=false) (hB:AP Tryz.prog 56 [.sl .ext (c.map E.byte),.sl .ext (b.map E.byte)] (.bool true) []),
  AP Tryz.prog 71 [.sl .ext (b.map E.byte)] (.tup [.agg [.int .u64 (id:Int),.int .i64 12,.bool false,.int .u64 0,.int .u64 0,.str [],.str [],.bool false,.int .u64 0,.int .u64 0,.str [],.str [],.int .i64 0,.int .i64 0,.int .i64 0,.sl .ext [],.int .u64 0,.int .u64 (tok:Int),.bool false],.int .i64 0]) []):=by
 refine⟨fun t1=>?_,fun t1 hE t2=>?_,fun t1 hE t2 hB=>?_,fun t1 hE t2 hB=>?_⟩
 all_goals
  refine AP.ofA (Zl Tryz.func71 Z Tryz.ntmps71 Z Z ?_)
  repeat'(first|(apply Zb (hW);kernel_rfl;(iterate 4 exact Z))|(apply Zh [] (hN);kernel_rfl;(iterate 7 exact Z))|(apply Zh [1] (h0);kernel_rfl;(iterate 7 exact Z))|(apply Zh [1] (h1);kernel_rfl;(iterate 7 exact Z))|(apply Zh [1] (h2);kernel_rfl;(iterate 7 exact Z))|(apply Zh [1] (hE);kernel_rfl;(iterate 7 exact Z))|(apply Zb (hB);kernel_rfl;(iterate 4 exact Z))|(apply Zi Za;exact Z)|(apply Zg Za;exact Z)|(apply Zu Za;exact Z)|(apply Ze;(iterate 3 exact Z);(first|with_reducible assumption|decide +kernel|(solve|simp only[bn])))|(apply Zp;(iterate 3 exact Z);(first|with_reducible assumption|decide +kernel|(solve|simp only[bn])))|(apply Zk;exact Z;(first|with_reducible assumption|decide +kernel|(solve|simp only[bn]));exact Z;exact Z)|(apply Zj;exact Z;(first|with_reducible assumption|decide +kernel|(solve|simp only[bn]));exact Z;exact Z)|(apply Zd;exact Z;(first|with_reducible assumption|decide +kernel|(solve|simp only[bn])))|(apply Zf;exact Z;(first|with_reducible assumption|decide +kernel|(solve|simp only[bn]))))
  all_goals exact Qe
theorem QW [Known](b:List UInt8)(kd:Int)(id:Nat)(ei:Bool)(en es:Nat)(eh ed:List UInt8)(di:Bool)(dn dq:Nat)(dh dd:List UInt8)(pol num tik:Int)(pay:List UInt8)(life tok:Nat)(on:Bool)(e0 e1 e2 w q:Int)(q0 q1 q2 c:List UInt8)(k1:(kd==1)=false)(k2:(kd==2)=false)(k3:(kd==3)=false)(k4:(kd==4)=false)(k5:(kd==5)=false)(k6:(kd==6)=false)(k7:(kd==7)=false)(k8:(kd==8)=false)(k9:(kd==9)=false)(k10:(kd==10)=false)(k12:(kd==12)=false)(hN:AQ Tryz.prog 68 [.sl .ext (b.map E.byte)] [] (.ptr 0 0) [[.int .i64 e0,.bool true,.sl .ext (q0.map E.byte)]])(h0:AQ Tryz.prog 69 [.ptr 0 0] [[.int .i64 e0,.bool true,.sl .ext (q0.map E.byte)]] (.int .u64 (id:Int)) [[.int .i64 e1,.bool true,.sl .ext (q1.map E.byte)]])(h1:AQ Tryz.prog 70 [.ptr 0 0] [[.int .i64 e1,.bool true,.sl .ext (q1.map E.byte)]] (.int .i64 kd) [[.int .i64 e2,.bool true,.sl .ext (q2.map E.byte)]])(hW:AP Tryz.prog 65 [.agg [.int .u64 (id:Int),.int .i64 kd,.bool false,.int .u64 0,.int .u64 0,.str [],.str [],.bool false,.int .u64 0,.int .u64 0,.str [],.str [],.int .i64 0,.int .i64 0,.int .i64 0,.sl .ext [],.int .u64 0,.int .u64 0,.bool false]] (.tup [.sl .ext (c.map E.byte),.int .i64 w]) []) :
  (∀(t1:(w != 0)=true),
  AP Tryz.prog 71 [.sl .ext (b.map E.byte)] (.tup [.agg [.int .u64 0,.int .i64 0,.bool false,.int .u64 0,.int .u64 0,.str [],.str [],.bool false,.int .u64 0,.int .u64 0,.str [],.str [],.int .i64 0,.int .i64 0,.int .i64 0,.sl .ext [],.int .u64 0,.int .u64 0,.bool false],.int .i64 3]) []) /\
  (∀(t1:(w != 0)=false) (hE:AQ Tryz.prog 73 [.ptr 0 0] [[.int .i64 e2,.bool true,.sl .ext (q2.map E.byte)]] (.int .i64 q) [[.int .i64 e2,.bool true,.sl .ext (q2.map E.byte)]]) (t2:(q != 0)=true),
  AP Tryz.prog 71 [.sl .ext (b.map E.byte)] (.tup [.agg [.int .u64 0,.int .i64 0,.bool false,.int .u64 0,.int .u64 0,.str [],.str [],.bool false,.int .u64 0,.int .u64 0,.str [],.str [],.int .i64 0,.int .i64 0,.int .i64 0,.sl .ext [],.int .u64 0,.int .u64 0,.bool false],.int .i64 3]) []) /\
  (∀(t1:(w != 0)=false) (hE:AQ Tryz.prog 73 [.ptr 0 0] [[.int .i64 e2,.bool true,.sl .ext (q2.map E.byte)]] (.int .i64 q) [[.int .i64 e2,.bool true,.sl .ext (q2.map E.byte)]]) (t2:(q != 0)=false) (hB:AP Tryz.prog 56 [.sl .ext (c.map E.byte),.sl .ext (b.map E.byte)] (.bool false) []),
  AP Tryz.prog 71 [.sl .ext (b.map E.byte)] (.tup [.agg [.int .u64 0,.int .i64 0,.bool false,.int .u64 0,.int .u64 0,.str [],.str [],.bool false,.int .u64 0,.int .u64 0,.str [],.str [],.int .i64 0,.int .i64 0,.int .i64 0,.sl .ext [],.int .u64 0,.int .u64 0,.bool false],.int .i64 3]) []) /\
  (∀(t1:(w != 0)=false) (hE:AQ Tryz.prog 73 [.ptr 0 0] [[.int .i64 e2,.bool true,.sl .ext (q2.map E.byte)]] (.int .i64 q) [[.int .i64 e2,.bool true,.sl .ext (q2.map E.byte)]]) (t2:(q != 0)=false) (hB:AP Tryz.prog 56 [.sl .ext (c.map E.byte),.sl .ext (b.map E.byte)] (.bool true) []),
  AP Tryz.prog 71 [.sl .ext (b.map E.byte)] (.tup [.agg [.int .u64 (id:Int),.int .i64 kd,.bool false,.int .u64 0,.int .u64 0,.str [],.str [],.bool false,.int .u64 0,.int .u64 0,.str [],.str [],.int .i64 0,.int .i64 0,.int .i64 0,.sl .ext [],.int .u64 0,.int .u64 0,.bool false],.int .i64 0]) []):=by
 refine⟨fun t1=>?_,fun t1 hE t2=>?_,fun t1 hE t2 hB=>?_,fun t1 hE t2 hB=>?_⟩
 all_goals
  refine AP.ofA (Zl Tryz.func71 Z Tryz.ntmps71 Z Z ?_)
  repeat'(first|(apply Zb (hW);kernel_rfl;(iterate 4 exact Z))|(apply Zh [] (hN);kernel_rfl;(iterate 7 exact Z))|(apply Zh [1] (h0);kernel_rfl;(iterate 7 exact Z))|(apply Zh [1] (h1);kernel_rfl;(iterate 7 exact Z))|(apply Zh [1] (hE);kernel_rfl;(iterate 7 exact Z))|(apply Zb (hB);kernel_rfl;(iterate 4 exact Z))|(apply Zi Za;exact Z)|(apply Zg Za;exact Z)|(apply Zu Za;exact Z)|(apply Ze;(iterate 3 exact Z);(first|with_reducible assumption|decide +kernel|(solve|simp only[bn])))|(apply Zp;(iterate 3 exact Z);(first|with_reducible assumption|decide +kernel|(solve|simp only[bn])))|(apply Zk;exact Z;(first|with_reducible assumption|decide +kernel|(solve|simp only[bn]));exact Z;exact Z)|(apply Zj;exact Z;(first|with_reducible assumption|decide +kernel|(solve|simp only[bn]));exact Z;exact Z)|(apply Zd;exact Z;(first|with_reducible assumption|decide +kernel|(solve|simp only[bn])))|(apply Zf;exact Z;(first|with_reducible assumption|decide +kernel|(solve|simp only[bn]))))
  all_goals exact Qe
theorem O6:Tryz.prog.underlying 211=some (.interface (Tryz.prog.methodsAt 211)):=by kernel_rfl
theorem Bv [Known](s a b da db:List UInt8)(n m:Nat)(R:Bool)(hC:AP Tryz.prog 138 [.str s,.str [46]] (.tup [.str a,.str b,.bool false]) [])
  (hA:AP Tryz.prog 139 [.str a,.int .i64 10,.int .i64 32] (.tup [.int .u64 (n:Int),.nili]) []) (hB:AP Tryz.prog 139 [.str b,.int .i64 10,.int .i64 32] (.tup [.int .u64 (m:Int),.nili]) [])
  (hF1:AP Tryz.prog 124 [.int .u64 (n:Int),.int .i64 10] (.str da) []) (hF2:AP Tryz.prog 124 [.int .u64 (m:Int),.int .i64 10] (.str db) [])
  (hR:AP Tryz.prog 123 [.agg [.bool true,.int .u64 (n:Int),.int .u64 (m:Int),.str [],.str []]] (.bool R) []):AP Tryz.prog 127 [.str s] (.tup [.agg [.bool true,.int .u64 (n:Int),.int .u64 (m:Int),.str [],.str []],.bool false]) []:=by
 all_goals
  refine AP.ofA (Zl Tryz.func127 Z Tryz.ntmps127 Z Z ?_)
  repeat'(first|(apply Zb (hC);kernel_rfl;(iterate 4 exact Z))|(apply Zb (hA);kernel_rfl;(iterate 4 exact Z))|(apply Zb (hB);kernel_rfl;(iterate 4 exact Z))|(apply Zi Za;exact Z)|(apply Zg Za;exact Z)|refine Zv Z Z Z Qt ?_|refine Zj Z Qt Z Z ?_|(apply Zn 27 ZF;decide +kernel;kernel_rfl;kernel_rfl;kernel_rfl;exact Z;exact Z)|(apply Zr;(iterate 4 exact Z))|exact AE.nil _ _ _ _|(apply Zw;exact Z)|(apply Wv;exact Z)|(apply ZA;exact Z;exact Z;decide +kernel;exact Z)|(apply ZB;exact Z)|(apply Vf;exact Z)|exact AO.nil _ _ _|(apply Zq;(decide +kernel))|(apply ZM;(iterate 3 exact Z))|exact AOs.nil|exact ZG rfl rfl|exact WC rfl)
  all_goals exact Qe
theorem Bw [Known](s a b da db:List UInt8)(n m:Nat)(hC:AP Tryz.prog 138 [.str s,.str [46]] (.tup [.str a,.str b,.bool true]) [])
  (hA:AP Tryz.prog 139 [.str a,.int .i64 10,.int .i64 32] (.tup [.int .u64 (n:Int),.nili]) []) (hB:AP Tryz.prog 139 [.str b,.int .i64 10,.int .i64 32] (.tup [.int .u64 (m:Int),.nili]) [])
  (hF1:AP Tryz.prog 124 [.int .u64 (n:Int),.int .i64 10] (.str da) []) (hF2:AP Tryz.prog 124 [.int .u64 (m:Int),.int .i64 10] (.str db) [])
  (hR:AP Tryz.prog 123 [.agg [.bool true,.int .u64 (n:Int),.int .u64 (m:Int),.str [],.str []]] (.bool false) []):AP Tryz.prog 127 [.str s] (.tup [.agg [.bool true,.int .u64 (n:Int),.int .u64 (m:Int),.str [],.str []],.bool false]) []:=by
 all_goals
  refine AP.ofA (Zl Tryz.func127 Z Tryz.ntmps127 Z Z ?_)
  repeat'(first|(apply Zb (hC);kernel_rfl;(iterate 4 exact Z))|(apply Zb (hA);kernel_rfl;(iterate 4 exact Z))|(apply Zb (hB);kernel_rfl;(iterate 4 exact Z))|(apply Zb (hR);kernel_rfl;(iterate 4 exact Z))|refine Ki Z O6 Z Z ?_|(apply Zi Za;exact Z)|(apply Zg Za;exact Z)|refine Ze Z Z Z Qt ?_|refine Zv Z Z Z Qt ?_|refine Zk Z Qt Z Z ?_|refine Zj Z Qt Z Z ?_|(apply Zn 27 ZF;decide +kernel;kernel_rfl;kernel_rfl;kernel_rfl;exact Z;exact Z)|(apply Zr;(iterate 4 exact Z))|exact AE.nil _ _ _ _|(apply Zw;exact Z)|(apply Wv;exact Z)|(apply ZA;exact Z;exact Z;decide +kernel;exact Z)|(apply ZB;exact Z)|(apply Vf;exact Z)|exact AO.nil _ _ _|(apply Zq;(decide +kernel))|(apply ZM;(iterate 3 exact Z))|exact AOs.nil|exact ZG rfl rfl|exact WC rfl)
  all_goals exact Qe
theorem Bx [Known](s a b da db:List UInt8)(n m:Nat)(k:Bool)(R:Bool)(hC:AP Tryz.prog 138 [.str s,.str [46]] (.tup [.str a,.str b,.bool k]) [])
  (hA:AP Tryz.prog 139 [.str a,.int .i64 10,.int .i64 32] (.tup [.int .u64 (n:Int),(.iface 274 .junk)]) []) (hB:AP Tryz.prog 139 [.str b,.int .i64 10,.int .i64 32] (.tup [.int .u64 (m:Int),(.iface 274 .junk)]) [])
  (hF1:AP Tryz.prog 124 [.int .u64 (n:Int),.int .i64 10] (.str da) []) (hF2:AP Tryz.prog 124 [.int .u64 (m:Int),.int .i64 10] (.str db) [])
  (hR:AP Tryz.prog 123 [.agg [.bool true,.int .u64 (n:Int),.int .u64 (m:Int),.str [],.str []]] (.bool R) []):AP Tryz.prog 127 [.str s] (.tup [.agg [.bool true,.int .u64 (n:Int),.int .u64 (m:Int),.str [],.str []],.bool false]) []:=by
 cases k
 all_goals
  refine AP.ofA (Zl Tryz.func127 Z Tryz.ntmps127 Z Z ?_)
  repeat'(first|(apply Zb (hC);kernel_rfl;(iterate 4 exact Z))|(apply Zb (hA);kernel_rfl;(iterate 4 exact Z))|(apply Zb (hB);kernel_rfl;(iterate 4 exact Z))|refine KK Z O6 Z Z ?_|(apply Zi Za;exact Z)|(apply Zg Za;exact Z)|refine Ze Z Z Z Qt ?_|refine Zv Z Z Z Qt ?_|refine Zk Z Qt Z Z ?_|refine Zj Z Qt Z Z ?_|(apply Zn 27 ZF;decide +kernel;kernel_rfl;kernel_rfl;kernel_rfl;exact Z;exact Z)|(apply Zr;(iterate 4 exact Z))|exact AE.nil _ _ _ _|(apply Zw;exact Z)|(apply Wv;exact Z)|(apply ZA;exact Z;exact Z;decide +kernel;exact Z)|(apply ZB;exact Z)|(apply Vf;exact Z)|exact AO.nil _ _ _|(apply Zq;(decide +kernel))|(apply ZM;(iterate 3 exact Z))|exact AOs.nil|exact ZG rfl rfl|exact WC rfl)
  all_goals exact Qe
theorem Bz [Known](s a b da db:List UInt8)(n m:Nat)(k:Bool)(R:Bool)(hC:AP Tryz.prog 138 [.str s,.str [46]] (.tup [.str a,.str b,.bool k]) [])
  (hA:AP Tryz.prog 139 [.str a,.int .i64 10,.int .i64 32] (.tup [.int .u64 (n:Int),(.iface 274 .junk)]) []) (hB:AP Tryz.prog 139 [.str b,.int .i64 10,.int .i64 32] (.tup [.int .u64 (m:Int),.nili]) [])
  (hF1:AP Tryz.prog 124 [.int .u64 (n:Int),.int .i64 10] (.str da) []) (hF2:AP Tryz.prog 124 [.int .u64 (m:Int),.int .i64 10] (.str db) [])
  (hR:AP Tryz.prog 123 [.agg [.bool true,.int .u64 (n:Int),.int .u64 (m:Int),.str [],.str []]] (.bool R) []):AP Tryz.prog 127 [.str s] (.tup [.agg [.bool true,.int .u64 (n:Int),.int .u64 (m:Int),.str [],.str []],.bool false]) []:=by
 cases k
 all_goals
  refine AP.ofA (Zl Tryz.func127 Z Tryz.ntmps127 Z Z ?_)
  repeat'(first|(apply Zb (hC);kernel_rfl;(iterate 4 exact Z))|(apply Zb (hA);kernel_rfl;(iterate 4 exact Z))|(apply Zb (hB);kernel_rfl;(iterate 4 exact Z))|refine KK Z O6 Z Z ?_|(apply Zi Za;exact Z)|(apply Zg Za;exact Z)|refine Ze Z Z Z Qt ?_|refine Zv Z Z Z Qt ?_|refine Zk Z Qt Z Z ?_|refine Zj Z Qt Z Z ?_|(apply Zn 27 ZF;decide +kernel;kernel_rfl;kernel_rfl;kernel_rfl;exact Z;exact Z)|(apply Zr;(iterate 4 exact Z))|exact AE.nil _ _ _ _|(apply Zw;exact Z)|(apply Wv;exact Z)|(apply ZA;exact Z;exact Z;decide +kernel;exact Z)|(apply ZB;exact Z)|(apply Vf;exact Z)|exact AO.nil _ _ _|(apply Zq;(decide +kernel))|(apply ZM;(iterate 3 exact Z))|exact AOs.nil|exact ZG rfl rfl|exact WC rfl)
  all_goals exact Qe
theorem BA [Known](s a b da db:List UInt8)(n m:Nat)(k:Bool)(R:Bool)(hC:AP Tryz.prog 138 [.str s,.str [46]] (.tup [.str a,.str b,.bool k]) [])
  (hA:AP Tryz.prog 139 [.str a,.int .i64 10,.int .i64 32] (.tup [.int .u64 (n:Int),.nili]) []) (hB:AP Tryz.prog 139 [.str b,.int .i64 10,.int .i64 32] (.tup [.int .u64 (m:Int),(.iface 274 .junk)]) [])
  (hF1:AP Tryz.prog 124 [.int .u64 (n:Int),.int .i64 10] (.str da) []) (hF2:AP Tryz.prog 124 [.int .u64 (m:Int),.int .i64 10] (.str db) [])
  (hR:AP Tryz.prog 123 [.agg [.bool true,.int .u64 (n:Int),.int .u64 (m:Int),.str [],.str []]] (.bool R) []):AP Tryz.prog 127 [.str s] (.tup [.agg [.bool true,.int .u64 (n:Int),.int .u64 (m:Int),.str [],.str []],.bool false]) []:=by
 cases k
 all_goals
  refine AP.ofA (Zl Tryz.func127 Z Tryz.ntmps127 Z Z ?_)
  repeat'(first|(apply Zb (hC);kernel_rfl;(iterate 4 exact Z))|(apply Zb (hA);kernel_rfl;(iterate 4 exact Z))|(apply Zb (hB);kernel_rfl;(iterate 4 exact Z))|refine Ki Z O6 Z Z ?_|refine KK Z O6 Z Z ?_|(apply Zi Za;exact Z)|(apply Zg Za;exact Z)|refine Ze Z Z Z Qt ?_|refine Zv Z Z Z Qt ?_|refine Zk Z Qt Z Z ?_|refine Zj Z Qt Z Z ?_|(apply Zn 27 ZF;decide +kernel;kernel_rfl;kernel_rfl;kernel_rfl;exact Z;exact Z)|(apply Zr;(iterate 4 exact Z))|exact AE.nil _ _ _ _|(apply Zw;exact Z)|(apply Wv;exact Z)|(apply ZA;exact Z;exact Z;decide +kernel;exact Z)|(apply ZB;exact Z)|(apply Vf;exact Z)|exact AO.nil _ _ _|(apply Zq;(decide +kernel))|(apply ZM;(iterate 3 exact Z))|exact AOs.nil|exact ZG rfl rfl|exact WC rfl)
  all_goals exact Qe
theorem BB [Known](s a b da db:List UInt8)(n m:Nat)(f1 f2:Bool)(hC:AP Tryz.prog 138 [.str s,.str [46]] (.tup [.str a,.str b,.bool true]) [])
  (hA:AP Tryz.prog 139 [.str a,.int .i64 10,.int .i64 32] (.tup [.int .u64 (n:Int),.nili]) []) (hB:AP Tryz.prog 139 [.str b,.int .i64 10,.int .i64 32] (.tup [.int .u64 (m:Int),.nili]) [])
  (hF1:AP Tryz.prog 124 [.int .u64 (n:Int),.int .i64 10] (.str da) []) (hF2:AP Tryz.prog 124 [.int .u64 (m:Int),.int .i64 10] (.str db) [])
  (hR:AP Tryz.prog 123 [.agg [.bool true,.int .u64 (n:Int),.int .u64 (m:Int),.str [],.str []]] (.bool true) []) (h1:(da==a)=f1) (h2:(db==b)=f2):AP Tryz.prog 127 [.str s] (.tup [.agg [.bool true,.int .u64 (n:Int),.int .u64 (m:Int),.str [],.str []],.bool (f1&&f2)]) []:=by
 cases f1<;>cases f2
 all_goals
  refine AP.ofA (Zl Tryz.func127 Z Tryz.ntmps127 Z Z ?_)
  repeat'(first|rw[h1]|rw[h2]|(apply Zb (hC);kernel_rfl;(iterate 4 exact Z))|(apply Zb (hA);kernel_rfl;(iterate 4 exact Z))|(apply Zb (hB);kernel_rfl;(iterate 4 exact Z))|(apply Zb (hR);kernel_rfl;(iterate 4 exact Z))|(apply Zb (hF1);kernel_rfl;(iterate 4 exact Z))|(apply Zb (hF2);kernel_rfl;(iterate 4 exact Z))|refine Ki Z O6 Z Z ?_|(apply Zi Za;exact Z)|(apply Zg Za;exact Z)|refine Ze Z Z Z Qt ?_|refine Zv Z Z Z Qt ?_|refine Zk Z Qt Z Z ?_|refine Zj Z Qt Z Z ?_|(apply Zn 27 ZF;decide +kernel;kernel_rfl;kernel_rfl;kernel_rfl;exact Z;exact Z)|(apply Zr;(iterate 4 exact Z))|exact AE.nil _ _ _ _|(apply Zw;exact Z)|(apply Wv;exact Z)|(apply ZA;exact Z;exact Z;decide +kernel;exact Z)|(apply ZB;exact Z)|(apply Vf;exact Z)|exact AO.nil _ _ _|(apply Zq;(decide +kernel))|(apply ZM;(iterate 3 exact Z))|exact AOs.nil|exact ZG rfl rfl|exact WC rfl)
  all_goals exact Qe
theorem BC [Known][KnownSc][KnownPow](s:List UInt8)(hs:s.length<=1099511627776):AP Tryz.prog 127 [.str s] (.tup [.agg (eC (pnV s).1),.bool (pnV s).2]) []:=by
 have hC:=Mv s 46 (by omega)
 have hl:=GC 46 s
 unfold pnV
 dsimp only
 generalize (Ww 46 s).1=a at *
 generalize (Ww 46 s).2.1=b at *
 generalize (Ww 46 s).2.2=k at *
 have hA:=O1 a (by omega)
 have hB:=O1 b (by omega)
 rw[SF]at hA hB
 have ha:=MT a
 have hb:=MT b
 have hF1:=X3 (puN a) (by omega)
 have hF2:=X3 (puN b) (by omega)
 have hR:=WH ⟨true,puN a,puN b,[],[]⟩
 generalize Yh ⟨true,puN a,puN b,[],[]⟩=R at *
 generalize puN a=n at *
 generalize puN b=m at *
 generalize puB a=pa at *
 generalize puB b=pb at *
 generalize Lib.decDigits n=da at *
 generalize Lib.decDigits m=db at *
 replace hR:AP Tryz.prog _ [.agg [.bool true,.int .u64 (n:Int),.int .u64 (m:Int),.str [],.str []]] (.bool R) []:=hR
 show AP Tryz.prog _ _ (.tup [.agg [.bool true,.int .u64 (n:Int),.int .u64 (m:Int),.str [],.str []],_]) _
 clear ha hb hl
 have hf1:∃ f1,(da==a)=f1:=⟨_,rfl⟩
 have hf2:∃ f2,(db==b)=f2:=⟨_,rfl⟩
 obtain⟨f1,h1⟩:=hf1
 obtain⟨f2,h2⟩:=hf2
 rw[h1,h2]
 cases pa with
 | false=>
  rw[show(k&&(false&&(pb&&(R&&(f1&&f2)))))=false by simp]
  cases pb with
  | false=>exact Bx s a b da db n m k R hC hA hB hF1 hF2 hR
  | true=>exact Bz s a b da db n m k R hC hA hB hF1 hF2 hR
 | true=>
  cases pb with
  | false=>
   rw[show(k&&(true&&(false&&(R&&(f1&&f2)))))=false by simp]
   exact BA s a b da db n m k R hC hA hB hF1 hF2 hR
  | true=>
   cases k with
   | false=>exact Bv s a b da db n m R hC hA hB hF1 hF2 hR
   | true=>
    cases R with
    | false=>exact Bw s a b da db n m hC hA hB hF1 hF2 hR
    | true=>exact BB s a b da db n m f1 f2 hC hA hB hF1 hF2 hR h1 h2
theorem M2 [Known][KnownSc][KnownPow](s:List UInt8)(hs:s.length<=1099511627776):AP Tryz.prog 116 [.str s] (.tup [.agg (eC (if(VK s).2 then(VK s).1 else ZN)),.int .i64 (if(VK s).2 then 0 else 3)]) []:=by
 have hI:=J9 s JG (by omega) (by decide)
 have hD:=J9 s Jd (by omega) (by decide)
 have l1:=KL JG s
 have l2:=KL Jd s
 have hN:=BC (WX JG s).1 (by omega)
 have hP:=RK (WX Jd s).1 (by omega)
 unfold VK
 generalize pnV (WX JG s).1=xn at *
 generalize ppV (WX Jd s).1=xp at *
 obtain⟨⟨ni,nn,ns,nh,nd⟩,nb⟩:=xn
 obtain⟨⟨qi,qn,qs,qh,qd⟩,qb⟩:=xp
 generalize (WX JG s).1=r1 at *
 generalize (WX JG s).2=k1 at *
 generalize (WX Jd s).1=r2 at *
 generalize (WX Jd s).2=k2 at *
 obtain⟨z,h0⟩:∃ z,(s==OJ)=z:=⟨_,rfl⟩
 rw[h0]
 replace h0:(s==[100,116,110,58,110,111,110,101])=z:=h0
 replace hI:AP Tryz.prog _ [.str s,.str [105,112,110,58]] _ []:=hI
 replace hD:AP Tryz.prog _ [.str s,.str [100,116,110,58]] _ []:=hD
 replace hN:AP Tryz.prog _ [.str r1] (.tup [.agg [.bool ni,.int .u64 (nn:Int),.int .u64 (ns:Int),.str nh,.str nd],.bool nb]) []:=hN
 replace hP:AP Tryz.prog _ [.str r2] (.tup [.agg [.bool qi,.int .u64 (qn:Int),.int .u64 (qs:Int),.str qh,.str qd],.bool qb]) []:=hP
 cases z with
 | true=>
  refine AP.ofA (Zl Tryz.func116 Z Tryz.ntmps116 Z Z ?_)
  repeat'(first|(apply Zg Za;exact Z)|(apply Zu Za;exact Z)|refine Zd Z Qt ?_)
  all_goals exact Qe
 | false=>
  cases k1 with
  | true=>
   cases nb
   all_goals
    refine AP.ofA (Zl Tryz.func116 Z Tryz.ntmps116 Z Z ?_)
    repeat'(first|(apply Zb (hI);kernel_rfl;(iterate 4 exact Z))|(apply Zb (hN);kernel_rfl;(iterate 4 exact Z))|(apply Zi Za;exact Z)|(apply Zg Za;exact Z)|(apply Zu Za;exact Z)|refine Zd Z Qt ?_|refine Zf Z Qt ?_)
    all_goals exact Qe
  | false=>
   cases k2 with
   | false=>
    refine AP.ofA (Zl Tryz.func116 Z Tryz.ntmps116 Z Z ?_)
    repeat'(first|(apply Zb (hI);kernel_rfl;(iterate 4 exact Z))|(apply Zb (hD);kernel_rfl;(iterate 4 exact Z))|(apply Zi Za;exact Z)|(apply Zg Za;exact Z)|(apply Zu Za;exact Z)|refine Zd Z Qt ?_|refine Zf Z Qt ?_)
    all_goals exact Qe
   | true=>
    cases qb
    all_goals
     refine AP.ofA (Zl Tryz.func116 Z Tryz.ntmps116 Z Z ?_)
     repeat'(first|(apply Zb (hI);kernel_rfl;(iterate 4 exact Z))|(apply Zb (hD);kernel_rfl;(iterate 4 exact Z))|(apply Zb (hP);kernel_rfl;(iterate 4 exact Z))|(apply Zi Za;exact Z)|(apply Zg Za;exact Z)|(apply Zu Za;exact Z)|refine Zd Z Qt ?_|refine Zf Z Qt ?_)
     all_goals exact Qe
end Go.Proofs.YtkdpfkjlheajhaaGreatDoor
end
