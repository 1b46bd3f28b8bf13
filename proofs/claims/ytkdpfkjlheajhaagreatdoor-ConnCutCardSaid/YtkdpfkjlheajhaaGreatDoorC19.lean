/- Package request: Read, by kinds (0). -/
import Derived.Test.YtkdpfkjlheajhaaGreatDoorC16
import Derived.Test.YtkdpfkjlheajhaaGreatDoorC15
import Derived.Test.YtkdpfkjlheajhaaGreatDoorC14
set_option linter.unusedVariables false
set_option linter.unusedSimpArgs false
section
open Go.RowKit Go.Pl Go.Av
namespace Go.Proofs.YtkdpfkjlheajhaaGreatDoor
set_option maxHeartbeats 4000000
theorem Vn [Known](b:List UInt8)(kd:Int)(id:Nat)(ei:Bool)(en es:Nat)(eh ed:List UInt8)(di:Bool)(dn dq:Nat)(dh dd:List UInt8)(pol num tik:Int)(pay:List UInt8)(life tok:Nat)(on:Bool)(e0 e1 e2 w q:Int)(q0 q1 q2 c:List UInt8)(k1:(kd==1)=false)(k2:(kd==2)=false)(k3:(kd==3)=false)(k4:(kd==4)=false)(k5:(kd==5)=false)(k6:(kd==6)=false)(k7:(kd==7)=false)(k8:(kd==8)=false)(k9:(kd==9)=false)(k10:(kd==10)=false)(k12:(kd==12)=false)(hN:AQ Tryz.prog 68 [.sl .ext (b.map E.byte)] [] (.ptr 0 0) [[.int .i64 e0,.bool true,.sl .ext (q0.map E.byte)]])(h0:AQ Tryz.prog 69 [.ptr 0 0] [[.int .i64 e0,.bool true,.sl .ext (q0.map E.byte)]] (.int .u64 (id:Int)) [[.int .i64 e1,.bool true,.sl .ext (q1.map E.byte)]])(h1:AQ Tryz.prog 70 [.ptr 0 0] [[.int .i64 e1,.bool true,.sl .ext (q1.map E.byte)]] (.int .i64 kd) [[.int .i64 e2,.bool true,.sl .ext (q2.map E.byte)]])(hW:AP Tryz.prog 65 [.agg [.int .u64 (id:Int),.int .i64 kd,.bool false,.int .u64 0,.int .u64 0,.str [],.str [],.bool false,.int .u64 0,.int .u64 0,.str [],.str [],.int .i64 0,.int .i64 0,.int .i64 0,.sl .ext [],.int .u64 0,.int .u64 0,.bool false]] (.tup [.sl .ext (c.map E.byte),.int .i64 w]) []) :
  (∀(t1:(w != 0)=true),
  AP Tryz.prog 71 [.sl .ext (b.map E.byte)] (.tup [.agg [.int .u64 0,.int .i64 0,.bool false,.int .u64 0,.int .u64 0,.str [],.str [],.bool false,.int .u64 0,.int .u64 0,.str [],.str [],.int .i64 0,.int .i64 0,.int .i64 0,.sl .ext [],.int .u64 0,.int .u64 0,.bool false],.int .i64 3]) []) /\
  (∀(t1:(w != 0)=false) (hE:AQ Tryz.prog 73 [.ptr 0 0] [[.int .i64 e2,.bool true,.sl .ext (q2.map E.byte)]] (.int .i64 q) [[.int .i64 e2,.bool true,.sl .ext (q2.map E.byte)]]) (t2:(q != 0)=true),
  AP Tryz.prog 71 [.sl .ext (b.map E.byte)] (.tup [.agg [.int .u64 0,.int .i64 0,.bool false,.int .u64 0,.int .u64 0,.str [],.str [],.bool false,.int .u64 0,.int .u64 0,.str [],.str [],.int .i64 0,.int .i64 0,.int .i64 0,.sl .ext [],.int .u64 0,.int .u64 0,.bool false],.int .i64 3]) []) /\
  (∀(t1:(w != 0)=false) (hE:AQ Tryz.prog 73 [.ptr 0 0] [[.int .i64 e2,.bool true,.sl .ext (q2.map E.byte)]] (.int .i64 q) [[.int .i64 e2,.bool true,.sl .ext (q2.map E.byte)]]) (t2:(q != 0)=false) (hB:AP Tryz.prog 56 [.sl .ext (c.map E.byte),.sl .ext (b.map E.byte)] (.bool false) []),
  AP Tryz.prog 71 [.sl .ext (b.map E.byte)] (.tup [.agg [.int .u64 0,.int .i64 0,.bool false,.int .u64 0,.int .u64 0,.str [],.str [],.bool false,.int .u64 0,.int .u64 0,.str [],.str [],.int .i64 0,.int .i64 0,.int .i64 0,.sl .ext [],.int .u64 0,.int .u64 0,.bool false],.int .i64 3]) []) /\
  (∀(t1:(w != 0)=false) (hE:AQ Tryz.prog 73 [.ptr 0 0] [[.int .i64 e2,.bool true,.sl .ext (q2.map E.byte)]] (.int .i64 q) [[.int .i64 e2,.bool true,.sl .ext (q2.map E.byte)]]) (t2:(q != 0)=false) (hB:AP Tryz.prog 56 [.sl .ext (c.map E.byte),.sl .ext (b.map E.byte)] (.bool true) []),
  AP Tryz.prog 71 [.sl .ext (b.map E.byte)] (.tup [.agg [.int .u64 (id:Int),.int .i64 kd,.bool false,.int .u64 0,.int .u64 0,.str [],.str [],.bool false,.int .u64 0,.int .u64 0,.str [],.str [],.int .i64 0,.int .i64 0,.int .i64 0,.sl .ext [],.int .u64 0,.int .u64 0,.bool false],.int .i64 0]) []):=by
 refine⟨fun t1=>?_,fun t1 hE t2=>?_,fun t1 hE t2 hB=>?_,fun t1 hE t2 hB=>?_⟩
 all_goals
  refine AP.ofA (Zm Tryz.func71 Z Tryz.ntmps71 Z Z ?_)
  repeat'(first|(apply Zc (hW);kernel_rfl;(iterate 4 exact Z))|(apply Zh [] (hN);kernel_rfl;(iterate 7 exact Z))|(apply Zh [1] (h0);kernel_rfl;(iterate 7 exact Z))|(apply Zh [1] (h1);kernel_rfl;(iterate 7 exact Z))|(apply Zh [1] (hE);kernel_rfl;(iterate 7 exact Z))|(apply Zc (hB);kernel_rfl;(iterate 4 exact Z))|(apply Zj Za;exact Z)|(apply Zg Za;exact Z)|(apply Zq Za;exact Z)|(apply Zi;(iterate 3 exact Z);(first|with_reducible assumption|decide +kernel|(solve|simp only[bn])))|(apply Zz;(iterate 3 exact Z);(first|with_reducible assumption|decide +kernel|(solve|simp only[bn])))|(apply Zk;exact Z;(first|with_reducible assumption|decide +kernel|(solve|simp only[bn]));exact Z;exact Z)|(apply Zl;exact Z;(first|with_reducible assumption|decide +kernel|(solve|simp only[bn]));exact Z;exact Z)|(apply Zf;exact Z;(first|with_reducible assumption|decide +kernel|(solve|simp only[bn])))|(apply Ze;exact Z;(first|with_reducible assumption|decide +kernel|(solve|simp only[bn]))))
  all_goals exact Qe
theorem Qy:Tryz.prog.underlying 211=some (.interface (Tryz.prog.methodsAt 211)):=by kernel_rfl
theorem I3 [Known](s a b da db:List UInt8)(n m:Nat)(R:Bool)(hC:AP Tryz.prog 138 [.str s,.str [46]] (.tup [.str a,.str b,.bool false]) [])
  (hA:AP Tryz.prog 139 [.str a,.int .i64 10,.int .i64 32] (.tup [.int .u64 (n:Int),.nili]) []) (hB:AP Tryz.prog 139 [.str b,.int .i64 10,.int .i64 32] (.tup [.int .u64 (m:Int),.nili]) [])
  (hF1:AP Tryz.prog 124 [.int .u64 (n:Int),.int .i64 10] (.str da) []) (hF2:AP Tryz.prog 124 [.int .u64 (m:Int),.int .i64 10] (.str db) [])
  (hR:AP Tryz.prog 123 [.agg [.bool true,.int .u64 (n:Int),.int .u64 (m:Int),.str [],.str []]] (.bool R) []):AP Tryz.prog 127 [.str s] (.tup [.agg [.bool true,.int .u64 (n:Int),.int .u64 (m:Int),.str [],.str []],.bool false]) []:=by
 all_goals
  refine AP.ofA (Zm Tryz.func127 Z Tryz.ntmps127 Z Z ?_)
  repeat'(first|(apply Zc (hC);kernel_rfl;(iterate 4 exact Z))|(apply Zc (hA);kernel_rfl;(iterate 4 exact Z))|(apply Zc (hB);kernel_rfl;(iterate 4 exact Z))|(apply Zj Za;exact Z)|(apply Zg Za;exact Z)|refine Zr Z Z Z Qt ?_|refine Zl Z Qt Z Z ?_|(apply Zx 27 Z9;decide +kernel;kernel_rfl;kernel_rfl;kernel_rfl;exact Z;exact Z)|(apply ZB;(iterate 4 exact Z))|exact AE.nil _ _ _ _|(apply ZF;exact Z)|(apply Wf;exact Z)|(apply ZN;exact Z;exact Z;decide +kernel;exact Z)|(apply ZP;exact Z)|(apply W1;exact Z)|exact AO.nil _ _ _|(apply ZA;(decide +kernel))|(apply ZO;(iterate 3 exact Z))|exact AOs.nil|exact ZY rfl rfl|exact Wp rfl)
  all_goals exact Qe
theorem I4 [Known](s a b da db:List UInt8)(n m:Nat)(hC:AP Tryz.prog 138 [.str s,.str [46]] (.tup [.str a,.str b,.bool true]) [])
  (hA:AP Tryz.prog 139 [.str a,.int .i64 10,.int .i64 32] (.tup [.int .u64 (n:Int),.nili]) []) (hB:AP Tryz.prog 139 [.str b,.int .i64 10,.int .i64 32] (.tup [.int .u64 (m:Int),.nili]) [])
  (hF1:AP Tryz.prog 124 [.int .u64 (n:Int),.int .i64 10] (.str da) []) (hF2:AP Tryz.prog 124 [.int .u64 (m:Int),.int .i64 10] (.str db) [])
  (hR:AP Tryz.prog 123 [.agg [.bool true,.int .u64 (n:Int),.int .u64 (m:Int),.str [],.str []]] (.bool false) []):AP Tryz.prog 127 [.str s] (.tup [.agg [.bool true,.int .u64 (n:Int),.int .u64 (m:Int),.str [],.str []],.bool false]) []:=by
 all_goals
  refine AP.ofA (Zm Tryz.func127 Z Tryz.ntmps127 Z Z ?_)
  repeat'(first|(apply Zc (hC);kernel_rfl;(iterate 4 exact Z))|(apply Zc (hA);kernel_rfl;(iterate 4 exact Z))|(apply Zc (hB);kernel_rfl;(iterate 4 exact Z))|(apply Zc (hR);kernel_rfl;(iterate 4 exact Z))|refine UC Z Qy Z Z ?_|(apply Zj Za;exact Z)|(apply Zg Za;exact Z)|refine Zi Z Z Z Qt ?_|refine Zr Z Z Z Qt ?_|refine Zk Z Qt Z Z ?_|refine Zl Z Qt Z Z ?_|(apply Zx 27 Z9;decide +kernel;kernel_rfl;kernel_rfl;kernel_rfl;exact Z;exact Z)|(apply ZB;(iterate 4 exact Z))|exact AE.nil _ _ _ _|(apply ZF;exact Z)|(apply Wf;exact Z)|(apply ZN;exact Z;exact Z;decide +kernel;exact Z)|(apply ZP;exact Z)|(apply W1;exact Z)|exact AO.nil _ _ _|(apply ZA;(decide +kernel))|(apply ZO;(iterate 3 exact Z))|exact AOs.nil|exact ZY rfl rfl|exact Wp rfl)
  all_goals exact Qe
theorem I5 [Known](s a b da db:List UInt8)(n m:Nat)(k:Bool)(R:Bool)(hC:AP Tryz.prog 138 [.str s,.str [46]] (.tup [.str a,.str b,.bool k]) [])
  (hA:AP Tryz.prog 139 [.str a,.int .i64 10,.int .i64 32] (.tup [.int .u64 (n:Int),(.iface 274 .junk)]) []) (hB:AP Tryz.prog 139 [.str b,.int .i64 10,.int .i64 32] (.tup [.int .u64 (m:Int),(.iface 274 .junk)]) [])
  (hF1:AP Tryz.prog 124 [.int .u64 (n:Int),.int .i64 10] (.str da) []) (hF2:AP Tryz.prog 124 [.int .u64 (m:Int),.int .i64 10] (.str db) [])
  (hR:AP Tryz.prog 123 [.agg [.bool true,.int .u64 (n:Int),.int .u64 (m:Int),.str [],.str []]] (.bool R) []):AP Tryz.prog 127 [.str s] (.tup [.agg [.bool true,.int .u64 (n:Int),.int .u64 (m:Int),.str [],.str []],.bool false]) []:=by
 cases k
 all_goals
  refine AP.ofA (Zm Tryz.func127 Z Tryz.ntmps127 Z Z ?_)
  repeat'(first|(apply Zc (hC);kernel_rfl;(iterate 4 exact Z))|(apply Zc (hA);kernel_rfl;(iterate 4 exact Z))|(apply Zc (hB);kernel_rfl;(iterate 4 exact Z))|refine UN Z Qy Z Z ?_|(apply Zj Za;exact Z)|(apply Zg Za;exact Z)|refine Zi Z Z Z Qt ?_|refine Zr Z Z Z Qt ?_|refine Zk Z Qt Z Z ?_|refine Zl Z Qt Z Z ?_|(apply Zx 27 Z9;decide +kernel;kernel_rfl;kernel_rfl;kernel_rfl;exact Z;exact Z)|(apply ZB;(iterate 4 exact Z))|exact AE.nil _ _ _ _|(apply ZF;exact Z)|(apply Wf;exact Z)|(apply ZN;exact Z;exact Z;decide +kernel;exact Z)|(apply ZP;exact Z)|(apply W1;exact Z)|exact AO.nil _ _ _|(apply ZA;(decide +kernel))|(apply ZO;(iterate 3 exact Z))|exact AOs.nil|exact ZY rfl rfl|exact Wp rfl)
  all_goals exact Qe
theorem I6 [Known](s a b da db:List UInt8)(n m:Nat)(k:Bool)(R:Bool)(hC:AP Tryz.prog 138 [.str s,.str [46]] (.tup [.str a,.str b,.bool k]) [])
  (hA:AP Tryz.prog 139 [.str a,.int .i64 10,.int .i64 32] (.tup [.int .u64 (n:Int),(.iface 274 .junk)]) []) (hB:AP Tryz.prog 139 [.str b,.int .i64 10,.int .i64 32] (.tup [.int .u64 (m:Int),.nili]) [])
  (hF1:AP Tryz.prog 124 [.int .u64 (n:Int),.int .i64 10] (.str da) []) (hF2:AP Tryz.prog 124 [.int .u64 (m:Int),.int .i64 10] (.str db) [])
  (hR:AP Tryz.prog 123 [.agg [.bool true,.int .u64 (n:Int),.int .u64 (m:Int),.str [],.str []]] (.bool R) []):AP Tryz.prog 127 [.str s] (.tup [.agg [.bool true,.int .u64 (n:Int),.int .u64 (m:Int),.str [],.str []],.bool false]) []:=by
 cases k
 all_goals
  refine AP.ofA (Zm Tryz.func127 Z Tryz.ntmps127 Z Z ?_)
  repeat'(first|(apply Zc (hC);kernel_rfl;(iterate 4 exact Z))|(apply Zc (hA);kernel_rfl;(iterate 4 exact Z))|(apply Zc (hB);kernel_rfl;(iterate 4 exact Z))|refine UN Z Qy Z Z ?_|(apply Zj Za;exact Z)|(apply Zg Za;exact Z)|refine Zi Z Z Z Qt ?_|refine Zr Z Z Z Qt ?_|refine Zk Z Qt Z Z ?_|refine Zl Z Qt Z Z ?_|(apply Zx 27 Z9;decide +kernel;kernel_rfl;kernel_rfl;kernel_rfl;exact Z;exact Z)|(apply ZB;(iterate 4 exact Z))|exact AE.nil _ _ _ _|(apply ZF;exact Z)|(apply Wf;exact Z)|(apply ZN;exact Z;exact Z;decide +kernel;exact Z)|(apply ZP;exact Z)|(apply W1;exact Z)|exact AO.nil _ _ _|(apply ZA;(decide +kernel))|(apply ZO;(iterate 3 exact Z))|exact AOs.nil|exact ZY rfl rfl|exact Wp rfl)
  all_goals exact Qe
theorem I7 [Known](s a b da db:List UInt8)(n m:Nat)(k:Bool)(R:Bool)(hC:AP Tryz.prog 138 [.str s,.str [46]] (.tup [.str a,.str b,.bool k]) [])
  (hA:AP Tryz.prog 139 [.str a,.int .i64 10,.int .i64 32] (.tup [.int .u64 (n:Int),.nili]) []) (hB:AP Tryz.prog 139 [.str b,.int .i64 10,.int .i64 32] (.tup [.int .u64 (m:Int),(.iface 274 .junk)]) [])
  (hF1:AP Tryz.prog 124 [.int .u64 (n:Int),.int .i64 10] (.str da) []) (hF2:AP Tryz.prog 124 [.int .u64 (m:Int),.int .i64 10] (.str db) [])
  (hR:AP Tryz.prog 123 [.agg [.bool true,.int .u64 (n:Int),.int .u64 (m:Int),.str [],.str []]] (.bool R) []):AP Tryz.prog 127 [.str s] (.tup [.agg [.bool true,.int .u64 (n:Int),.int .u64 (m:Int),.str [],.str []],.bool false]) []:=by
 cases k
 all_goals
  refine AP.ofA (Zm Tryz.func127 Z Tryz.ntmps127 Z Z ?_)
  repeat'(first|(apply Zc (hC);kernel_rfl;(iterate 4 exact Z))|(apply Zc (hA);kernel_rfl;(iterate 4 exact Z))|(apply Zc (hB);kernel_rfl;(iterate 4 exact Z))|refine UC Z Qy Z Z ?_|refine UN Z Qy Z Z ?_|(apply Zj Za;exact Z)|(apply Zg Za;exact Z)|refine Zi Z Z Z Qt ?_|refine Zr Z Z Z Qt ?_|refine Zk Z Qt Z Z ?_|refine Zl Z Qt Z Z ?_|(apply Zx 27 Z9;decide +kernel;kernel_rfl;kernel_rfl;kernel_rfl;exact Z;exact Z)|(apply ZB;(iterate 4 exact Z))|exact AE.nil _ _ _ _|(apply ZF;exact Z)|(apply Wf;exact Z)|(apply ZN;exact Z;exact Z;decide +kernel;exact Z)|(apply ZP;exact Z)|(apply W1;exact Z)|exact AO.nil _ _ _|(apply ZA;(decide +kernel))|(apply ZO;(iterate 3 exact Z))|exact AOs.nil|exact ZY rfl rfl|exact Wp rfl)
  all_goals exact Qe
theorem I8 [Known](s a b da db:List UInt8)(n m:Nat)(f1 f2:Bool)(hC:AP Tryz.prog 138 [.str s,.str [46]] (.tup [.str a,.str b,.bool true]) [])
  (hA:AP Tryz.prog 139 [.str a,.int .i64 10,.int .i64 32] (.tup [.int .u64 (n:Int),.nili]) []) (hB:AP Tryz.prog 139 [.str b,.int .i64 10,.int .i64 32] (.tup [.int .u64 (m:Int),.nili]) [])
  (hF1:AP Tryz.prog 124 [.int .u64 (n:Int),.int .i64 10] (.str da) []) (hF2:AP Tryz.prog 124 [.int .u64 (m:Int),.int .i64 10] (.str db) [])
  (hR:AP Tryz.prog 123 [.agg [.bool true,.int .u64 (n:Int),.int .u64 (m:Int),.str [],.str []]] (.bool true) []) (h1:(da==a)=f1) (h2:(db==b)=f2):AP Tryz.prog 127 [.str s] (.tup [.agg [.bool true,.int .u64 (n:Int),.int .u64 (m:Int),.str [],.str []],.bool (f1&&f2)]) []:=by
 cases f1<;>cases f2
 all_goals
  refine AP.ofA (Zm Tryz.func127 Z Tryz.ntmps127 Z Z ?_)
  repeat'(first|rw[h1]|rw[h2]|(apply Zc (hC);kernel_rfl;(iterate 4 exact Z))|(apply Zc (hA);kernel_rfl;(iterate 4 exact Z))|(apply Zc (hB);kernel_rfl;(iterate 4 exact Z))|(apply Zc (hR);kernel_rfl;(iterate 4 exact Z))|(apply Zc (hF1);kernel_rfl;(iterate 4 exact Z))|(apply Zc (hF2);kernel_rfl;(iterate 4 exact Z))|refine UC Z Qy Z Z ?_|(apply Zj Za;exact Z)|(apply Zg Za;exact Z)|refine Zi Z Z Z Qt ?_|refine Zr Z Z Z Qt ?_|refine Zk Z Qt Z Z ?_|refine Zl Z Qt Z Z ?_|(apply Zx 27 Z9;decide +kernel;kernel_rfl;kernel_rfl;kernel_rfl;exact Z;exact Z)|(apply ZB;(iterate 4 exact Z))|exact AE.nil _ _ _ _|(apply ZF;exact Z)|(apply Wf;exact Z)|(apply ZN;exact Z;exact Z;decide +kernel;exact Z)|(apply ZP;exact Z)|(apply W1;exact Z)|exact AO.nil _ _ _|(apply ZA;(decide +kernel))|(apply ZO;(iterate 3 exact Z))|exact AOs.nil|exact ZY rfl rfl|exact Wp rfl)
  all_goals exact Qe
theorem I9 [Known][KnownSc][KnownPow](s:List UInt8)(hs:s.length<=1099511627776):AP Tryz.prog 127 [.str s] (.tup [.agg (eC (pnV s).1),.bool (pnV s).2]) []:=by
 have hC:=KR s 46 (by omega)
 have hl:=Jq 46 s
 unfold pnV
 dsimp only
 generalize (Ys 46 s).1=a at *
 generalize (Ys 46 s).2.1=b at *
 generalize (Ys 46 s).2.2=k at *
 have hA:=Qq a (by omega)
 have hB:=Qq b (by omega)
 rw[Is]at hA hB
 have ha:=KO a
 have hb:=KO b
 have hF1:=Ur (puN a) (by omega)
 have hF2:=Ur (puN b) (by omega)
 have hR:=W9 ⟨true,puN a,puN b,[],[]⟩
 generalize Yd ⟨true,puN a,puN b,[],[]⟩=R at *
 generalize puN a=n at *
 generalize puN b=m at *
 generalize puB a=pa at *
 generalize puB b=pb at *
 generalize Lib.decDigits n=da at *
 generalize Lib.decDigits m=db at *
 replace hR:AP Tryz.prog _ [.agg [.bool true,.int .u64 (n:Int),.int .u64 (m:Int),.str [],.str []]] (.bool R) []:=hR
 show AP Tryz.prog _ _ (.tup [.agg [.bool true,.int .u64 (n:Int),.int .u64 (m:Int),.str [],.str []],_]) _
 clear ha hb hl
 have hf1:∃ f1,(da==a)=f1:=⟨_,rfl⟩
 have hf2:∃ f2,(db==b)=f2:=⟨_,rfl⟩
 obtain⟨f1,h1⟩:=hf1
 obtain⟨f2,h2⟩:=hf2
 rw[h1,h2]
 cases pa with
 | false=>
  rw[show(k&&(false&&(pb&&(R&&(f1&&f2)))))=false by simp]
  cases pb with
  | false=>exact I5 s a b da db n m k R hC hA hB hF1 hF2 hR
  | true=>exact I6 s a b da db n m k R hC hA hB hF1 hF2 hR
 | true=>
  cases pb with
  | false=>
   rw[show(k&&(true&&(false&&(R&&(f1&&f2)))))=false by simp]
   exact I7 s a b da db n m k R hC hA hB hF1 hF2 hR
  | true=>
   cases k with
   | false=>exact I3 s a b da db n m R hC hA hB hF1 hF2 hR
   | true=>
    cases R with
    | false=>exact I4 s a b da db n m hC hA hB hF1 hF2 hR
    | true=>exact I8 s a b da db n m f1 f2 hC hA hB hF1 hF2 hR h1 h2
theorem KU [Known][KnownSc][KnownPow](s:List UInt8)(hs:s.length<=1099511627776):AP Tryz.prog 116 [.str s] (.tup [.agg (eC (if(WO s).2 then(WO s).1 else ZD)),.int .i64 (if(WO s).2 then 0 else 3)]) []:=by
 have hI:=V5 s Jo (by omega) (by decide)
 have hD:=V5 s Jp (by omega) (by decide)
 have l1:=UO Jo s
 have l2:=UO Jp s
 have hN:=I9 (YM Jo s).1 (by omega)
 have hP:=IZ (YM Jp s).1 (by omega)
 unfold WO
 generalize pnV (YM Jo s).1=xn at *
 generalize ppV (YM Jp s).1=xp at *
 obtain⟨⟨ni,nn,ns,nh,nd⟩,nb⟩:=xn
 obtain⟨⟨qi,qn,qs,qh,qd⟩,qb⟩:=xp
 generalize (YM Jo s).1=r1 at *
 generalize (YM Jo s).2=k1 at *
 generalize (YM Jp s).1=r2 at *
 generalize (YM Jp s).2=k2 at *
 obtain⟨z,h0⟩:∃ z,(s==OS)=z:=⟨_,rfl⟩
 rw[h0]
 replace h0:(s==[100,116,110,58,110,111,110,101])=z:=h0
 replace hI:AP Tryz.prog _ [.str s,.str [105,112,110,58]] _ []:=hI
 replace hD:AP Tryz.prog _ [.str s,.str [100,116,110,58]] _ []:=hD
 replace hN:AP Tryz.prog _ [.str r1] (.tup [.agg [.bool ni,.int .u64 (nn:Int),.int .u64 (ns:Int),.str nh,.str nd],.bool nb]) []:=hN
 replace hP:AP Tryz.prog _ [.str r2] (.tup [.agg [.bool qi,.int .u64 (qn:Int),.int .u64 (qs:Int),.str qh,.str qd],.bool qb]) []:=hP
 cases z with
 | true=>
  refine AP.ofA (Zm Tryz.func116 Z Tryz.ntmps116 Z Z ?_)
  repeat'(first|(apply Zg Za;exact Z)|(apply Zq Za;exact Z)|refine Zf Z Qt ?_)
  all_goals exact Qe
 | false=>
  cases k1 with
  | true=>
   cases nb
   all_goals
    refine AP.ofA (Zm Tryz.func116 Z Tryz.ntmps116 Z Z ?_)
    repeat'(first|(apply Zc (hI);kernel_rfl;(iterate 4 exact Z))|(apply Zc (hN);kernel_rfl;(iterate 4 exact Z))|(apply Zj Za;exact Z)|(apply Zg Za;exact Z)|(apply Zq Za;exact Z)|refine Zf Z Qt ?_|refine Ze Z Qt ?_)
    all_goals exact Qe
  | false=>
   cases k2 with
   | false=>
    refine AP.ofA (Zm Tryz.func116 Z Tryz.ntmps116 Z Z ?_)
    repeat'(first|(apply Zc (hI);kernel_rfl;(iterate 4 exact Z))|(apply Zc (hD);kernel_rfl;(iterate 4 exact Z))|(apply Zj Za;exact Z)|(apply Zg Za;exact Z)|(apply Zq Za;exact Z)|refine Zf Z Qt ?_|refine Ze Z Qt ?_)
    all_goals exact Qe
   | true=>
    cases qb
    all_goals
     refine AP.ofA (Zm Tryz.func116 Z Tryz.ntmps116 Z Z ?_)
     repeat'(first|(apply Zc (hI);kernel_rfl;(iterate 4 exact Z))|(apply Zc (hD);kernel_rfl;(iterate 4 exact Z))|(apply Zc (hP);kernel_rfl;(iterate 4 exact Z))|(apply Zj Za;exact Z)|(apply Zg Za;exact Z)|(apply Zq Za;exact Z)|refine Zf Z Qt ?_|refine Ze Z Qt ?_)
     all_goals exact Qe
end Go.Proofs.YtkdpfkjlheajhaaGreatDoor
end
