/- Package request: a request's bytes. -/
import Derived.Test.YtchlgagdbflkmaaGreatDoorL18
import Derived.Test.YtchlgagdbflkmaaGreatDoorL17
import Derived.Test.YtchlgagdbflkmaaGreatDoorL15
set_option linter.unusedVariables false
set_option linter.unusedSimpArgs false
section
open Go.RowKit Go.Pl Go.Av
namespace Go.Proofs.YtchlgagdbflkmaaGreatDoor
set_option maxHeartbeats 4000000
theorem V6 [Known][KnownPow](L:List UInt8)(x:EidV)(h:ZY x=true)(hL:L.length<=1000000):AT Tryz.prog 100 [.ptr 0 0,.agg (eC x)] (wrC L) (wrF L) (.tup []) (wrC (L++vn (ZC x).length++ZC x)) (wrF (L++vn (ZC x).length++ZC x)):=by
 have hT:=Gp x
 rw[h,if_pos rfl,if_pos rfl]at hT
 have hX:=Xj L (ZC x) (by have:=Ws h;omega) hL
 generalize ZC x=t at *
 obtain⟨xi,xn,xs,xh,xd⟩:=x
 refine Zp Tryz.func100 rfl Tryz.ntmps100 rfl rfl ?_
 repeat'(first|(apply Zc (hT);kernel_rfl;(iterate 4 exact Z))|(apply Zm [0] [0] (hX);kernel_rfl;(iterate 10 exact Z))|refine Ot Zb Z Z Z Z Z Z Z Z ?_|(apply Zl Zb;exact Z)|(apply Zj Zb;exact Z))
 all_goals(apply Vh [0] [0];(apply Zd Zb;exact Z);(iterate 7 exact Z))
 all_goals rfl
theorem Wt (n:Nat):(vn n).length<=10:=(W1 9 n).1
theorem UE [Known](x:RqV)(h:ZI x=false):AP Tryz.prog 67 [.agg (rqC x)] (.tup [.sl .ext [],.int .i64 3]) []:=by
 have hR:=UU x
 rw[h]at hR
 refine AP.ofA (Zp Tryz.func67 Z Tryz.ntmps67 Z Z ?_)
 repeat'(first|(apply Zc (hR);kernel_rfl;(iterate 4 exact Z))|(apply Zl Zb;exact Z)|(apply Zj Zb;exact Z)|(apply Zt Zb;exact Z)|(apply Zf;exact Z;(first|with_reducible assumption|decide +kernel|(solve|simp only[bn]))))
 all_goals exact Qe
theorem VJ [Known][KnownPow](x:RqV)(h:ZI x=true):AP Tryz.prog 67 [.agg (rqC x)] (.tup [byE (ZQ x),.int .i64 0]) []:=by
 have hR:=UU x
 rw[h]at hR
 have hk:=Uk h
 obtain⟨hid,hp,_⟩:=KZ h
 obtain⟨id,kd,ep,ds,pol,num,tik,pay,life,tok,on⟩:=x
 dsimp only at hk hid
 unfold VS at hp
 have v0:=Wt id
 have vk:=Wt kd.toNat
 rcases hk with rfl|rfl|rfl|rfl|rfl|rfl|rfl|rfl|rfl|rfl|rfl|rfl
 all_goals
  simp only[Int.reduceBEq,Bool.true_or,Bool.or_true,Bool.or_self,Bool.or_false,Bool.false_or,if_true,if_false,Bool.false_eq_true,Bool.and_eq_true,decide_eq_true_eq]at hp
  simp only[Int.reduceToNat]at vk
 ·have tep:=Ws (Yx hp.1)
  have uep:=Wt (ZC ep).length
  obtain⟨pol,rfl⟩:∃ n:Nat,pol=(n:Int):=⟨pol.toNat,by omega⟩
  have upol:=Wt pol
  rw[show ZQ _=(((vn id++vn 1)++vn (ZC ep).length++ZC ep)++vn pol) by simp only[ZQ,Ve,Int.reduceToNat,Int.toNat_natCast,Int.reduceBEq,Bool.true_or,Bool.or_true,Bool.or_self,Bool.or_false,Bool.false_or,if_true,if_false,Bool.false_eq_true,List.append_assoc,List.append_nil]]
  exact N8 _ _ _ _ _ _ _ _ _ _ _ _ _ _ _ _ _ _ _ _ _ _ _ _ _ _ _ hR W2 (Wr id hid) (YF (vn id) 1 (by omega) (by omega))
   (V6 (vn id++vn 1) ep (Yx hp.1) (by simp only[List.length_append];omega))
   (YF ((vn id++vn 1)++vn (ZC ep).length++ZC ep) pol (by omega) (by simp only[List.length_append];omega)) (YY (((vn id++vn 1)++vn (ZC ep).length++ZC ep)++vn pol) (by simp only[List.length_append];omega))
 ·have tep:=Ws (Yx hp)
  have uep:=Wt (ZC ep).length
  rw[show ZQ _=((vn id++vn 2)++vn (ZC ep).length++ZC ep) by simp only[ZQ,Ve,Int.reduceToNat,Int.toNat_natCast,Int.reduceBEq,Bool.true_or,Bool.or_true,Bool.or_self,Bool.or_false,Bool.false_or,if_true,if_false,Bool.false_eq_true,List.append_assoc,List.append_nil]]
  exact N9 _ _ _ _ _ _ _ _ _ _ _ _ _ _ _ _ _ _ _ _ _ _ _ _ _ hR W2 (Wr id hid) (YF (vn id) 2 (by omega) (by omega))
   (V6 (vn id++vn 2) ep (Yx hp) (by simp only[List.length_append];omega)) (YY ((vn id++vn 2)++vn (ZC ep).length++ZC ep) (by simp only[List.length_append];omega))
 ·have tep:=Ws (Yx hp.1)
  have uep:=Wt (ZC ep).length
  obtain⟨pol,rfl⟩:∃ n:Nat,pol=(n:Int):=⟨pol.toNat,by omega⟩
  have upol:=Wt pol
  rw[show ZQ _=(((vn id++vn 3)++vn (ZC ep).length++ZC ep)++vn pol) by simp only[ZQ,Ve,Int.reduceToNat,Int.toNat_natCast,Int.reduceBEq,Bool.true_or,Bool.or_true,Bool.or_self,Bool.or_false,Bool.false_or,if_true,if_false,Bool.false_eq_true,List.append_assoc,List.append_nil]]
  exact Ma _ _ _ _ _ _ _ _ _ _ _ _ _ _ _ _ _ _ _ _ _ _ _ _ _ _ _ hR W2 (Wr id hid) (YF (vn id) 3 (by omega) (by omega))
   (V6 (vn id++vn 3) ep (Yx hp.1) (by simp only[List.length_append];omega))
   (YF ((vn id++vn 3)++vn (ZC ep).length++ZC ep) pol (by omega) (by simp only[List.length_append];omega)) (YY (((vn id++vn 3)++vn (ZC ep).length++ZC ep)++vn pol) (by simp only[List.length_append];omega))
 ·have tep:=Ws (Yx hp.1)
  have uep:=Wt (ZC ep).length
  have tds:=Ws (Yx hp.2.1)
  have uds:=Wt (ZC ds).length
  have upay:=Wt pay.length
  have ulife:=Wt life
  have uon:=Wt on.toNat
  rw[show ZQ _=((((((vn id++vn 4)++vn (ZC ep).length++ZC ep)++vn (ZC ds).length++ZC ds)++vn pay.length++pay)++vn life)++vn on.toNat) by simp only[ZQ,Ve,Int.reduceToNat,Int.toNat_natCast,Int.reduceBEq,Bool.true_or,Bool.or_true,Bool.or_self,Bool.or_false,Bool.false_or,if_true,if_false,Bool.false_eq_true,List.append_assoc,List.append_nil]]
  exact Mb _ _ _ _ _ _ _ _ _ _ _ _ _ _ _ _ _ _ _ _ _ _ _ _ _ _ _ _ _ _ _ _ _ hR W2 (Wr id hid) (YF (vn id) 4 (by omega) (by omega))
   (V6 (vn id++vn 4) ep (Yx hp.1) (by simp only[List.length_append];omega))
   (V6 ((vn id++vn 4)++vn (ZC ep).length++ZC ep) ds (Yx hp.2.1) (by simp only[List.length_append];omega))
   (Xj (((vn id++vn 4)++vn (ZC ep).length++ZC ep)++vn (ZC ds).length++ZC ds) pay (by omega) (by simp only[List.length_append];omega))
   (U0 ((((vn id++vn 4)++vn (ZC ep).length++ZC ep)++vn (ZC ds).length++ZC ds)++vn pay.length++pay) life (by omega) (by simp only[List.length_append];omega))
   (KR (((((vn id++vn 4)++vn (ZC ep).length++ZC ep)++vn (ZC ds).length++ZC ds)++vn pay.length++pay)++vn life) on (by simp only[List.length_append];omega)) (YY ((((((vn id++vn 4)++vn (ZC ep).length++ZC ep)++vn (ZC ds).length++ZC ds)++vn pay.length++pay)++vn life)++vn on.toNat) (by simp only[List.length_append];omega))
 ·obtain⟨num,rfl⟩:∃ n:Nat,num=(n:Int):=⟨num.toNat,by omega⟩
  have unum:=Wt num
  rw[show ZQ _=((vn id++vn 5)++vn num) by simp only[ZQ,Ve,Int.reduceToNat,Int.toNat_natCast,Int.reduceBEq,Bool.true_or,Bool.or_true,Bool.or_self,Bool.or_false,Bool.false_or,if_true,if_false,Bool.false_eq_true,List.append_assoc,List.append_nil]]
  exact Mc _ _ _ _ _ _ _ _ _ _ _ _ _ _ _ _ _ _ _ _ _ _ _ _ _ hR W2 (Wr id hid) (YF (vn id) 5 (by omega) (by omega))
   (YF (vn id++vn 5) num (by omega) (by simp only[List.length_append];omega)) (YY ((vn id++vn 5)++vn num) (by simp only[List.length_append];omega))
 ·have tep:=Ws (Yx hp)
  have uep:=Wt (ZC ep).length
  rw[show ZQ _=((vn id++vn 6)++vn (ZC ep).length++ZC ep) by simp only[ZQ,Ve,Int.reduceToNat,Int.toNat_natCast,Int.reduceBEq,Bool.true_or,Bool.or_true,Bool.or_self,Bool.or_false,Bool.false_or,if_true,if_false,Bool.false_eq_true,List.append_assoc,List.append_nil]]
  exact Md _ _ _ _ _ _ _ _ _ _ _ _ _ _ _ _ _ _ _ _ _ _ _ _ _ hR W2 (Wr id hid) (YF (vn id) 6 (by omega) (by omega))
   (V6 (vn id++vn 6) ep (Yx hp) (by simp only[List.length_append];omega)) (YY ((vn id++vn 6)++vn (ZC ep).length++ZC ep) (by simp only[List.length_append];omega))
 ·have tep:=Ws (Yx hp.1)
  have uep:=Wt (ZC ep).length
  obtain⟨tik,rfl⟩:∃ n:Nat,tik=(n:Int):=⟨tik.toNat,by omega⟩
  have utik:=Wt tik
  rw[show ZQ _=(((vn id++vn 7)++vn (ZC ep).length++ZC ep)++vn tik) by simp only[ZQ,Ve,Int.reduceToNat,Int.toNat_natCast,Int.reduceBEq,Bool.true_or,Bool.or_true,Bool.or_self,Bool.or_false,Bool.false_or,if_true,if_false,Bool.false_eq_true,List.append_assoc,List.append_nil]]
  exact Me _ _ _ _ _ _ _ _ _ _ _ _ _ _ _ _ _ _ _ _ _ _ _ _ _ _ _ hR W2 (Wr id hid) (YF (vn id) 7 (by omega) (by omega))
   (V6 (vn id++vn 7) ep (Yx hp.1) (by simp only[List.length_append];omega))
   (YF ((vn id++vn 7)++vn (ZC ep).length++ZC ep) tik (by omega) (by simp only[List.length_append];omega)) (YY (((vn id++vn 7)++vn (ZC ep).length++ZC ep)++vn tik) (by simp only[List.length_append];omega))
 ·obtain⟨num,rfl⟩:∃ n:Nat,num=(n:Int):=⟨num.toNat,by omega⟩
  have unum:=Wt num
  rw[show ZQ _=((vn id++vn 8)++vn num) by simp only[ZQ,Ve,Int.reduceToNat,Int.toNat_natCast,Int.reduceBEq,Bool.true_or,Bool.or_true,Bool.or_self,Bool.or_false,Bool.false_or,if_true,if_false,Bool.false_eq_true,List.append_assoc,List.append_nil]]
  exact Mf _ _ _ _ _ _ _ _ _ _ _ _ _ _ _ _ _ _ _ _ _ _ _ _ _ hR W2 (Wr id hid) (YF (vn id) 8 (by omega) (by omega))
   (YF (vn id++vn 8) num (by omega) (by simp only[List.length_append];omega)) (YY ((vn id++vn 8)++vn num) (by simp only[List.length_append];omega))
 ·obtain⟨num,rfl⟩:∃ n:Nat,num=(n:Int):=⟨num.toNat,by omega⟩
  have unum:=Wt num
  rw[show ZQ _=((vn id++vn 9)++vn num) by simp only[ZQ,Ve,Int.reduceToNat,Int.toNat_natCast,Int.reduceBEq,Bool.true_or,Bool.or_true,Bool.or_self,Bool.or_false,Bool.false_or,if_true,if_false,Bool.false_eq_true,List.append_assoc,List.append_nil]]
  exact Mg _ _ _ _ _ _ _ _ _ _ _ _ _ _ _ _ _ _ _ _ _ _ _ _ _ hR W2 (Wr id hid) (YF (vn id) 9 (by omega) (by omega))
   (YF (vn id++vn 9) num (by omega) (by simp only[List.length_append];omega)) (YY ((vn id++vn 9)++vn num) (by simp only[List.length_append];omega))
 ·have uon:=Wt on.toNat
  rw[show ZQ _=((vn id++vn 10)++vn on.toNat) by simp only[ZQ,Ve,Int.reduceToNat,Int.toNat_natCast,Int.reduceBEq,Bool.true_or,Bool.or_true,Bool.or_self,Bool.or_false,Bool.false_or,if_true,if_false,Bool.false_eq_true,List.append_assoc,List.append_nil]]
  exact Ni _ _ _ _ _ _ _ _ _ _ _ _ _ _ _ _ _ _ _ _ _ _ _ _ _ hR W2 (Wr id hid) (YF (vn id) 10 (by omega) (by omega))
   (KR (vn id++vn 10) on (by simp only[List.length_append];omega)) (YY ((vn id++vn 10)++vn on.toNat) (by simp only[List.length_append];omega))
 ·rw[show ZQ _=(vn id++vn 11) by simp only[ZQ,Ve,Int.reduceToNat,Int.toNat_natCast,Int.reduceBEq,Bool.true_or,Bool.or_true,Bool.or_self,Bool.or_false,Bool.false_or,if_true,if_false,Bool.false_eq_true,List.append_assoc,List.append_nil]]
  exact Nj _ _ _ _ _ _ _ _ _ _ _ _ _ _ _ _ _ _ _ _ _ _ _ hR W2 (Wr id hid) (YF (vn id) 11 (by omega) (by omega)) (YY (vn id++vn 11) (by simp only[List.length_append];omega))
 ·have utok:=Wt tok
  rw[show ZQ _=((vn id++vn 12)++vn tok) by simp only[ZQ,Ve,Int.reduceToNat,Int.toNat_natCast,Int.reduceBEq,Bool.true_or,Bool.or_true,Bool.or_self,Bool.or_false,Bool.false_or,if_true,if_false,Bool.false_eq_true,List.append_assoc,List.append_nil]]
  exact Nk _ _ _ _ _ _ _ _ _ _ _ _ _ _ _ _ _ _ _ _ _ _ _ _ _ hR W2 (Wr id hid) (YF (vn id) 12 (by omega) (by omega))
   (U0 (vn id++vn 12) tok (by omega) (by simp only[List.length_append];omega)) (YY ((vn id++vn 12)++vn tok) (by simp only[List.length_append];omega))
theorem QH [Known](b:List UInt8)(id:Nat)(ei:Bool)(en es:Nat)(eh ed:List UInt8)(di:Bool)(dn dq:Nat)(dh dd:List UInt8)(pol num tik:Int)(pay:List UInt8)(life tok:Nat)(on:Bool)(e0 e1 e2 e3 e4 w q:Int)(q0 q1 q2 q3 q4 c:List UInt8)(hN:AQ Tryz.prog 70 [.sl .ext (b.map E.byte)] [] (.ptr 0 0) [[.int .i64 e0,.bool true,.sl .ext (q0.map E.byte)]])(h0:AQ Tryz.prog 71 [.ptr 0 0] [[.int .i64 e0,.bool true,.sl .ext (q0.map E.byte)]] (.int .u64 (id:Int)) [[.int .i64 e1,.bool true,.sl .ext (q1.map E.byte)]])(h1:AQ Tryz.prog 72 [.ptr 0 0] [[.int .i64 e1,.bool true,.sl .ext (q1.map E.byte)]] (.int .i64 1) [[.int .i64 e2,.bool true,.sl .ext (q2.map E.byte)]])(h2:AQ Tryz.prog 105 [.ptr 0 0] [[.int .i64 e2,.bool true,.sl .ext (q2.map E.byte)]] (.agg [.bool ei,.int .u64 (en:Int),.int .u64 (es:Int),.str eh,.str ed]) [[.int .i64 e3,.bool true,.sl .ext (q3.map E.byte)]])(h3:AQ Tryz.prog 72 [.ptr 0 0] [[.int .i64 e3,.bool true,.sl .ext (q3.map E.byte)]] (.int .i64 pol) [[.int .i64 e4,.bool true,.sl .ext (q4.map E.byte)]])(hW:AP Tryz.prog 67 [.agg [.int .u64 (id:Int),.int .i64 1,.bool ei,.int .u64 (en:Int),.int .u64 (es:Int),.str eh,.str ed,.bool false,.int .u64 0,.int .u64 0,.str [],.str [],.int .i64 pol,.int .i64 0,.int .i64 0,.sl .ext [],.int .u64 0,.int .u64 0,.bool false]] (.tup [.sl .ext (c.map E.byte),.int .i64 w]) []) :
  (∀(t1:(w != 0)=true),
  AP Tryz.prog 73 [.sl .ext (b.map E.byte)] (.tup [.agg [.int .u64 0,.int .i64 0,.bool false,.int .u64 0,.int .u64 0,.str [],.str [],.bool false,.int .u64 0,.int .u64 0,.str [],.str [],.int .i64 0,.int .i64 0,.int .i64 0,.sl .ext [],.int .u64 0,.int .u64 0,.bool false],.int .i64 3]) []) /\
  (∀(t1:(w != 0)=false) (hE:AQ Tryz.prog 75 [.ptr 0 0] [[.int .i64 e4,.bool true,.sl .ext (q4.map E.byte)]] (.int .i64 q) [[.int .i64 e4,.bool true,.sl .ext (q4.map E.byte)]]) (t2:(q != 0)=true),
  AP Tryz.prog 73 [.sl .ext (b.map E.byte)] (.tup [.agg [.int .u64 0,.int .i64 0,.bool false,.int .u64 0,.int .u64 0,.str [],.str [],.bool false,.int .u64 0,.int .u64 0,.str [],.str [],.int .i64 0,.int .i64 0,.int .i64 0,.sl .ext [],.int .u64 0,.int .u64 0,.bool false],.int .i64 3]) []) /\
  (∀(t1:(w != 0)=false) (hE:AQ Tryz.prog 75 [.ptr 0 0] [[.int .i64 e4,.bool true,.sl .ext (q4.map E.byte)]] (.int .i64 q) [[.int .i64 e4,.bool true,.sl .ext (q4.map E.byte)]]) (t2:(q != 0)=false) (hB:AP Tryz.prog 85 [.sl .ext (c.map E.byte),.sl .ext (b.map E.byte)] (.bool false) []),
  AP Tryz.prog 73 [.sl .ext (b.map E.byte)] (.tup [.agg [.int .u64 0,.int .i64 0,.bool false,.int .u64 0,.int .u64 0,.str [],.str [],.bool false,.int .u64 0,.int .u64 0,.str [],.str [],.int .i64 0,.int .i64 0,.int .i64 0,.sl .ext [],.int .u64 0,.int .u64 0,.bool false],.int .i64 3]) []) /\
  (∀(t1:(w != 0)=false) (hE:AQ Tryz.prog 75 [.ptr 0 0] [[.int .i64 e4,.bool true,.sl .ext (q4.map E.byte)]] (.int .i64 q) [[.int .i64 e4,.bool true,.sl .ext (q4.map E.byte)]]) (t2:(q != 0)=false) (hB:AP Tryz.prog 85 [.sl .ext (c.map E.byte),.sl .ext (b.map E.byte)] (.bool true) []),
  AP Tryz.prog 73 [.sl .ext (b.map E.byte)] (.tup [.agg [.int .u64 (id:Int),.int .i64 1,.bool ei,.int .u64 (en:Int),.int .u64 (es:Int),.str eh,.str ed,.bool false,.int .u64 0,.int .u64 0,.str [],.str [],.int .i64 pol,.int .i64 0,.int .i64 0,.sl .ext [],.int .u64 0,.int .u64 0,.bool false],.int .i64 0]) []):=by
 refine⟨fun t1=>?_,fun t1 hE t2=>?_,fun t1 hE t2 hB=>?_,fun t1 hE t2 hB=>?_⟩
 all_goals
  refine AP.ofA (Zp Tryz.func73 Z Tryz.ntmps73 Z Z ?_)
  repeat'(first|(apply Zc (hW);kernel_rfl;(iterate 4 exact Z))|(apply Zh [] (hN);kernel_rfl;(iterate 7 exact Z))|(apply Zh [1] (h0);kernel_rfl;(iterate 7 exact Z))|(apply Zh [1] (h1);kernel_rfl;(iterate 7 exact Z))|(apply Zh [1] (h2);kernel_rfl;(iterate 7 exact Z))|(apply Zh [1] (h3);kernel_rfl;(iterate 7 exact Z))|(apply Zh [1] (hE);kernel_rfl;(iterate 7 exact Z))|(apply Zc (hB);kernel_rfl;(iterate 4 exact Z))|(apply Zl Zb;exact Z)|(apply Zj Zb;exact Z)|(apply Zt Zb;exact Z)|(apply Zi;(iterate 3 exact Z);(first|with_reducible assumption|decide +kernel|(solve|simp only[bn])))|(apply Zq;(iterate 3 exact Z);(first|with_reducible assumption|decide +kernel|(solve|simp only[bn])))|(apply Zo;exact Z;(first|with_reducible assumption|decide +kernel|(solve|simp only[bn]));exact Z;exact Z)|(apply Zn;exact Z;(first|with_reducible assumption|decide +kernel|(solve|simp only[bn]));exact Z;exact Z)|(apply Zf;exact Z;(first|with_reducible assumption|decide +kernel|(solve|simp only[bn])))|(apply Zg;exact Z;(first|with_reducible assumption|decide +kernel|(solve|simp only[bn]))))
  all_goals exact Qe
theorem QI [Known](b:List UInt8)(id:Nat)(ei:Bool)(en es:Nat)(eh ed:List UInt8)(di:Bool)(dn dq:Nat)(dh dd:List UInt8)(pol num tik:Int)(pay:List UInt8)(life tok:Nat)(on:Bool)(e0 e1 e2 e3 w q:Int)(q0 q1 q2 q3 c:List UInt8)(hN:AQ Tryz.prog 70 [.sl .ext (b.map E.byte)] [] (.ptr 0 0) [[.int .i64 e0,.bool true,.sl .ext (q0.map E.byte)]])(h0:AQ Tryz.prog 71 [.ptr 0 0] [[.int .i64 e0,.bool true,.sl .ext (q0.map E.byte)]] (.int .u64 (id:Int)) [[.int .i64 e1,.bool true,.sl .ext (q1.map E.byte)]])(h1:AQ Tryz.prog 72 [.ptr 0 0] [[.int .i64 e1,.bool true,.sl .ext (q1.map E.byte)]] (.int .i64 2) [[.int .i64 e2,.bool true,.sl .ext (q2.map E.byte)]])(h2:AQ Tryz.prog 105 [.ptr 0 0] [[.int .i64 e2,.bool true,.sl .ext (q2.map E.byte)]] (.agg [.bool ei,.int .u64 (en:Int),.int .u64 (es:Int),.str eh,.str ed]) [[.int .i64 e3,.bool true,.sl .ext (q3.map E.byte)]])(hW:AP Tryz.prog 67 [.agg [.int .u64 (id:Int),.int .i64 2,.bool ei,.int .u64 (en:Int),.int .u64 (es:Int),.str eh,.str ed,.bool false,.int .u64 0,.int .u64 0,.str [],.str [],.int .i64 0,.int .i64 0,.int .i64 0,.sl .ext [],.int .u64 0,.int .u64 0,.bool false]] (.tup [.sl .ext (c.map E.byte),.int .i64 w]) []) :
  (∀(t1:(w != 0)=true),
  AP Tryz.prog 73 [.sl .ext (b.map E.byte)] (.tup [.agg [.int .u64 0,.int .i64 0,.bool false,.int .u64 0,.int .u64 0,.str [],.str [],.bool false,.int .u64 0,.int .u64 0,.str [],.str [],.int .i64 0,.int .i64 0,.int .i64 0,.sl .ext [],.int .u64 0,.int .u64 0,.bool false],.int .i64 3]) []) /\
  (∀(t1:(w != 0)=false) (hE:AQ Tryz.prog 75 [.ptr 0 0] [[.int .i64 e3,.bool true,.sl .ext (q3.map E.byte)]] (.int .i64 q) [[.int .i64 e3,.bool true,.sl .ext (q3.map E.byte)]]) (t2:(q != 0)=true),
  AP Tryz.prog 73 [.sl .ext (b.map E.byte)] (.tup [.agg [.int .u64 0,.int .i64 0,.bool false,.int .u64 0,.int .u64 0,.str [],.str [],.bool false,.int .u64 0,.int .u64 0,.str [],.str [],.int .i64 0,.int .i64 0,.int .i64 0,.sl .ext [],.int .u64 0,.int .u64 0,.bool false],.int .i64 3]) []) /\
  (∀(t1:(w != 0)=false) (hE:AQ Tryz.prog 75 [.ptr 0 0] [[.int .i64 e3,.bool true,.sl .ext (q3.map E.byte)]] (.int .i64 q) [[.int .i64 e3,.bool true,.sl .ext (q3.map E.byte)]]) (t2:(q != 0)=false) (hB:AP Tryz.prog 85 [.sl .ext (c.map E.byte),.sl .ext (b.map E.byte)] (.bool false) []),
  AP Tryz.prog 73 [.sl .ext (b.map E.byte)] (.tup [.agg [.int .u64 0,.int .i64 0,.bool false,.int .u64 0,.int .u64 0,.str [],.str [],.bool false,.int .u64 0,.int .u64 0,.str [],.str [],.int .i64 0,.int .i64 0,.int .i64 0,.sl .ext [],.int .u64 0,.int .u64 0,.bool false],.int .i64 3]) []) /\
  (∀(t1:(w != 0)=false) (hE:AQ Tryz.prog 75 [.ptr 0 0] [[.int .i64 e3,.bool true,.sl .ext (q3.map E.byte)]] (.int .i64 q) [[.int .i64 e3,.bool true,.sl .ext (q3.map E.byte)]]) (t2:(q != 0)=false) (hB:AP Tryz.prog 85 [.sl .ext (c.map E.byte),.sl .ext (b.map E.byte)] (.bool true) []),
  AP Tryz.prog 73 [.sl .ext (b.map E.byte)] (.tup [.agg [.int .u64 (id:Int),.int .i64 2,.bool ei,.int .u64 (en:Int),.int .u64 (es:Int),.str eh,.str ed,.bool false,.int .u64 0,.int .u64 0,.str [],.str [],.int .i64 0,.int .i64 0,.int .i64 0,.sl .ext [],.int .u64 0,.int .u64 0,.bool false],.int .i64 0]) []):=by
 refine⟨fun t1=>?_,fun t1 hE t2=>?_,fun t1 hE t2 hB=>?_,fun t1 hE t2 hB=>?_⟩
 all_goals
  refine AP.ofA (Zp Tryz.func73 Z Tryz.ntmps73 Z Z ?_)
  repeat'(first|(apply Zc (hW);kernel_rfl;(iterate 4 exact Z))|(apply Zh [] (hN);kernel_rfl;(iterate 7 exact Z))|(apply Zh [1] (h0);kernel_rfl;(iterate 7 exact Z))|(apply Zh [1] (h1);kernel_rfl;(iterate 7 exact Z))|(apply Zh [1] (h2);kernel_rfl;(iterate 7 exact Z))|(apply Zh [1] (hE);kernel_rfl;(iterate 7 exact Z))|(apply Zc (hB);kernel_rfl;(iterate 4 exact Z))|(apply Zl Zb;exact Z)|(apply Zj Zb;exact Z)|(apply Zt Zb;exact Z)|(apply Zi;(iterate 3 exact Z);(first|with_reducible assumption|decide +kernel|(solve|simp only[bn])))|(apply Zq;(iterate 3 exact Z);(first|with_reducible assumption|decide +kernel|(solve|simp only[bn])))|(apply Zo;exact Z;(first|with_reducible assumption|decide +kernel|(solve|simp only[bn]));exact Z;exact Z)|(apply Zn;exact Z;(first|with_reducible assumption|decide +kernel|(solve|simp only[bn]));exact Z;exact Z)|(apply Zf;exact Z;(first|with_reducible assumption|decide +kernel|(solve|simp only[bn])))|(apply Zg;exact Z;(first|with_reducible assumption|decide +kernel|(solve|simp only[bn]))))
  all_goals exact Qe
theorem QJ [Known](b:List UInt8)(id:Nat)(ei:Bool)(en es:Nat)(eh ed:List UInt8)(di:Bool)(dn dq:Nat)(dh dd:List UInt8)(pol num tik:Int)(pay:List UInt8)(life tok:Nat)(on:Bool)(e0 e1 e2 e3 e4 w q:Int)(q0 q1 q2 q3 q4 c:List UInt8)(hN:AQ Tryz.prog 70 [.sl .ext (b.map E.byte)] [] (.ptr 0 0) [[.int .i64 e0,.bool true,.sl .ext (q0.map E.byte)]])(h0:AQ Tryz.prog 71 [.ptr 0 0] [[.int .i64 e0,.bool true,.sl .ext (q0.map E.byte)]] (.int .u64 (id:Int)) [[.int .i64 e1,.bool true,.sl .ext (q1.map E.byte)]])(h1:AQ Tryz.prog 72 [.ptr 0 0] [[.int .i64 e1,.bool true,.sl .ext (q1.map E.byte)]] (.int .i64 3) [[.int .i64 e2,.bool true,.sl .ext (q2.map E.byte)]])(h2:AQ Tryz.prog 105 [.ptr 0 0] [[.int .i64 e2,.bool true,.sl .ext (q2.map E.byte)]] (.agg [.bool ei,.int .u64 (en:Int),.int .u64 (es:Int),.str eh,.str ed]) [[.int .i64 e3,.bool true,.sl .ext (q3.map E.byte)]])(h3:AQ Tryz.prog 72 [.ptr 0 0] [[.int .i64 e3,.bool true,.sl .ext (q3.map E.byte)]] (.int .i64 pol) [[.int .i64 e4,.bool true,.sl .ext (q4.map E.byte)]])(hW:AP Tryz.prog 67 [.agg [.int .u64 (id:Int),.int .i64 3,.bool ei,.int .u64 (en:Int),.int .u64 (es:Int),.str eh,.str ed,.bool false,.int .u64 0,.int .u64 0,.str [],.str [],.int .i64 pol,.int .i64 0,.int .i64 0,.sl .ext [],.int .u64 0,.int .u64 0,.bool false]] (.tup [.sl .ext (c.map E.byte),.int .i64 w]) []) :
  (∀(t1:(w != 0)=true),
  AP Tryz.prog 73 [.sl .ext (b.map E.byte)] (.tup [.agg [.int .u64 0,.int .i64 0,.bool false,.int .u64 0,.int .u64 0,.str [],.str [],.bool false,.int .u64 0,.int .u64 0,.str [],.str [],.int .i64 0,.int .i64 0,.int .i64 0,.sl .ext [],.int .u64 0,.int .u64 0,.bool false],.int .i64 3]) []) /\
  (∀(t1:(w != 0)=false) (hE:AQ Tryz.prog 75 [.ptr 0 0] [[.int .i64 e4,.bool true,.sl .ext (q4.map E.byte)]] (.int .i64 q) [[.int .i64 e4,.bool true,.sl .ext (q4.map E.byte)]]) (t2:(q != 0)=true),
  AP Tryz.prog 73 [.sl .ext (b.map E.byte)] (.tup [.agg [.int .u64 0,.int .i64 0,.bool false,.int .u64 0,.int .u64 0,.str [],.str [],.bool false,.int .u64 0,.int .u64 0,.str [],.str [],.int .i64 0,.int .i64 0,.int .i64 0,.sl .ext [],.int .u64 0,.int .u64 0,.bool false],.int .i64 3]) []) /\
  (∀(t1:(w != 0)=false) (hE:AQ Tryz.prog 75 [.ptr 0 0] [[.int .i64 e4,.bool true,.sl .ext (q4.map E.byte)]] (.int .i64 q) [[.int .i64 e4,.bool true,.sl .ext (q4.map E.byte)]]) (t2:(q != 0)=false) (hB:AP Tryz.prog 85 [.sl .ext (c.map E.byte),.sl .ext (b.map E.byte)] (.bool false) []),
  AP Tryz.prog 73 [.sl .ext (b.map E.byte)] (.tup [.agg [.int .u64 0,.int .i64 0,.bool false,.int .u64 0,.int .u64 0,.str [],.str [],.bool false,.int .u64 0,.int .u64 0,.str [],.str [],.int .i64 0,.int .i64 0,.int .i64 0,.sl .ext [],.int .u64 0,.int .u64 0,.bool false],.int .i64 3]) []) /\
  (∀(t1:(w != 0)=false) (hE:AQ Tryz.prog 75 [.ptr 0 0] [[.int .i64 e4,.bool true,.sl .ext (q4.map E.byte)]] (.int .i64 q) [[.int .i64 e4,.bool true,.sl .ext (q4.map E.byte)]]) (t2:(q != 0)=false) (hB:AP Tryz.prog 85 [.sl .ext (c.map E.byte),.sl .ext (b.map E.byte)] (.bool true) []),
  AP Tryz.prog 73 [.sl .ext (b.map E.byte)] (.tup [.agg [.int .u64 (id:Int),.int .i64 3,.bool ei,.int .u64 (en:Int),.int .u64 (es:Int),.str eh,.str ed,.bool false,.int .u64 0,.int .u64 0,.str [],.str [],.int .i64 pol,.int .i64 0,.int .i64 0,.sl .ext [],.int .u64 0,.int .u64 0,.bool false],.int .i64 0]) []):=by
 refine⟨fun t1=>?_,fun t1 hE t2=>?_,fun t1 hE t2 hB=>?_,fun t1 hE t2 hB=>?_⟩
 all_goals
  refine AP.ofA (Zp Tryz.func73 Z Tryz.ntmps73 Z Z ?_)
  repeat'(first|(apply Zc (hW);kernel_rfl;(iterate 4 exact Z))|(apply Zh [] (hN);kernel_rfl;(iterate 7 exact Z))|(apply Zh [1] (h0);kernel_rfl;(iterate 7 exact Z))|(apply Zh [1] (h1);kernel_rfl;(iterate 7 exact Z))|(apply Zh [1] (h2);kernel_rfl;(iterate 7 exact Z))|(apply Zh [1] (h3);kernel_rfl;(iterate 7 exact Z))|(apply Zh [1] (hE);kernel_rfl;(iterate 7 exact Z))|(apply Zc (hB);kernel_rfl;(iterate 4 exact Z))|(apply Zl Zb;exact Z)|(apply Zj Zb;exact Z)|(apply Zt Zb;exact Z)|(apply Zi;(iterate 3 exact Z);(first|with_reducible assumption|decide +kernel|(solve|simp only[bn])))|(apply Zq;(iterate 3 exact Z);(first|with_reducible assumption|decide +kernel|(solve|simp only[bn])))|(apply Zo;exact Z;(first|with_reducible assumption|decide +kernel|(solve|simp only[bn]));exact Z;exact Z)|(apply Zn;exact Z;(first|with_reducible assumption|decide +kernel|(solve|simp only[bn]));exact Z;exact Z)|(apply Zf;exact Z;(first|with_reducible assumption|decide +kernel|(solve|simp only[bn])))|(apply Zg;exact Z;(first|with_reducible assumption|decide +kernel|(solve|simp only[bn]))))
  all_goals exact Qe
theorem QK [Known](b:List UInt8)(id:Nat)(ei:Bool)(en es:Nat)(eh ed:List UInt8)(di:Bool)(dn dq:Nat)(dh dd:List UInt8)(pol num tik:Int)(pay:List UInt8)(life tok:Nat)(on:Bool)(e0 e1 e2 e3 e4 e5 e6 e7 w q:Int)(q0 q1 q2 q3 q4 q5 q6 q7 c:List UInt8)(hN:AQ Tryz.prog 70 [.sl .ext (b.map E.byte)] [] (.ptr 0 0) [[.int .i64 e0,.bool true,.sl .ext (q0.map E.byte)]])(h0:AQ Tryz.prog 71 [.ptr 0 0] [[.int .i64 e0,.bool true,.sl .ext (q0.map E.byte)]] (.int .u64 (id:Int)) [[.int .i64 e1,.bool true,.sl .ext (q1.map E.byte)]])(h1:AQ Tryz.prog 72 [.ptr 0 0] [[.int .i64 e1,.bool true,.sl .ext (q1.map E.byte)]] (.int .i64 4) [[.int .i64 e2,.bool true,.sl .ext (q2.map E.byte)]])(h2:AQ Tryz.prog 105 [.ptr 0 0] [[.int .i64 e2,.bool true,.sl .ext (q2.map E.byte)]] (.agg [.bool ei,.int .u64 (en:Int),.int .u64 (es:Int),.str eh,.str ed]) [[.int .i64 e3,.bool true,.sl .ext (q3.map E.byte)]])(h3:AQ Tryz.prog 105 [.ptr 0 0] [[.int .i64 e3,.bool true,.sl .ext (q3.map E.byte)]] (.agg [.bool di,.int .u64 (dn:Int),.int .u64 (dq:Int),.str dh,.str dd]) [[.int .i64 e4,.bool true,.sl .ext (q4.map E.byte)]])(h4:AQ Tryz.prog 74 [.ptr 0 0] [[.int .i64 e4,.bool true,.sl .ext (q4.map E.byte)]] (.sl .ext (pay.map E.byte)) [[.int .i64 e5,.bool true,.sl .ext (q5.map E.byte)]])(h5:AQ Tryz.prog 71 [.ptr 0 0] [[.int .i64 e5,.bool true,.sl .ext (q5.map E.byte)]] (.int .u64 (life:Int)) [[.int .i64 e6,.bool true,.sl .ext (q6.map E.byte)]])(h6:AQ Tryz.prog 106 [.ptr 0 0] [[.int .i64 e6,.bool true,.sl .ext (q6.map E.byte)]] (.bool on) [[.int .i64 e7,.bool true,.sl .ext (q7.map E.byte)]])(hW:AP Tryz.prog 67 [.agg [.int .u64 (id:Int),.int .i64 4,.bool ei,.int .u64 (en:Int),.int .u64 (es:Int),.str eh,.str ed,.bool di,.int .u64 (dn:Int),.int .u64 (dq:Int),.str dh,.str dd,.int .i64 0,.int .i64 0,.int .i64 0,.sl .ext (pay.map E.byte),.int .u64 (life:Int),.int .u64 0,.bool on]] (.tup [.sl .ext (c.map E.byte),.int .i64 w]) []) :
  (∀(t1:(w != 0)=true),
  AP Tryz.prog 73 [.sl .ext (b.map E.byte)] (.tup [.agg [.int .u64 0,.int .i64 0,.bool false,.int .u64 0,.int .u64 0,.str [],.str [],.bool false,.int .u64 0,.int .u64 0,.str [],.str [],.int .i64 0,.int .i64 0,.int .i64 0,.sl .ext [],.int .u64 0,.int .u64 0,.bool false],.int .i64 3]) []) /\
  (∀(t1:(w != 0)=false) (hE:AQ Tryz.prog 75 [.ptr 0 0] [[.int .i64 e7,.bool true,.sl .ext (q7.map E.byte)]] (.int .i64 q) [[.int .i64 e7,.bool true,.sl .ext (q7.map E.byte)]]) (t2:(q != 0)=true),
  AP Tryz.prog 73 [.sl .ext (b.map E.byte)] (.tup [.agg [.int .u64 0,.int .i64 0,.bool false,.int .u64 0,.int .u64 0,.str [],.str [],.bool false,.int .u64 0,.int .u64 0,.str [],.str [],.int .i64 0,.int .i64 0,.int .i64 0,.sl .ext [],.int .u64 0,.int .u64 0,.bool false],.int .i64 3]) []) /\
  (∀(t1:(w != 0)=false) (hE:AQ Tryz.prog 75 [.ptr 0 0] [[.int .i64 e7,.bool true,.sl .ext (q7.map E.byte)]] (.int .i64 q) [[.int .i64 e7,.bool true,.sl .ext (q7.map E.byte)]]) (t2:(q != 0)=false) (hB:AP Tryz.prog 85 [.sl .ext (c.map E.byte),.sl .ext (b.map E.byte)] (.bool false) []),
  AP Tryz.prog 73 [.sl .ext (b.map E.byte)] (.tup [.agg [.int .u64 0,.int .i64 0,.bool false,.int .u64 0,.int .u64 0,.str [],.str [],.bool false,.int .u64 0,.int .u64 0,.str [],.str [],.int .i64 0,.int .i64 0,.int .i64 0,.sl .ext [],.int .u64 0,.int .u64 0,.bool false],.int .i64 3]) []) /\
  (∀(t1:(w != 0)=false) (hE:AQ Tryz.prog 75 [.ptr 0 0] [[.int .i64 e7,.bool true,.sl .ext (q7.map E.byte)]] (.int .i64 q) [[.int .i64 e7,.bool true,.sl .ext (q7.map E.byte)]]) (t2:(q != 0)=false) (hB:AP Tryz.prog 85 [.sl .ext (c.map E.byte),.sl .ext (b.map E.byte)] (.bool true) []),
  AP Tryz.prog 73 [.sl .ext (b.map E.byte)] (.tup [.agg [.int .u64 (id:Int),.int .i64 4,.bool ei,.int .u64 (en:Int),.int .u64 (es:Int),.str eh,.str ed,.bool di,.int .u64 (dn:Int),.int .u64 (dq:Int),.str dh,.str dd,.int .i64 0,.int .i64 0,.int .i64 0,.sl .ext (pay.map E.byte),.int .u64 (life:Int),.int .u64 0,.bool on],.int .i64 0]) []):=by
 refine⟨fun t1=>?_,fun t1 hE t2=>?_,fun t1 hE t2 hB=>?_,fun t1 hE t2 hB=>?_⟩
 all_goals
  refine AP.ofA (Zp Tryz.func73 Z Tryz.ntmps73 Z Z ?_)
  repeat'(first|(apply Zc (hW);kernel_rfl;(iterate 4 exact Z))|(apply Zh [] (hN);kernel_rfl;(iterate 7 exact Z))|(apply Zh [1] (h0);kernel_rfl;(iterate 7 exact Z))|(apply Zh [1] (h1);kernel_rfl;(iterate 7 exact Z))|(apply Zh [1] (h2);kernel_rfl;(iterate 7 exact Z))|(apply Zh [1] (h3);kernel_rfl;(iterate 7 exact Z))|(apply Zh [1] (h4);kernel_rfl;(iterate 7 exact Z))|(apply Zh [1] (h5);kernel_rfl;(iterate 7 exact Z))|(apply Zh [1] (h6);kernel_rfl;(iterate 7 exact Z))|(apply Zh [1] (hE);kernel_rfl;(iterate 7 exact Z))|(apply Zc (hB);kernel_rfl;(iterate 4 exact Z))|(apply Zl Zb;exact Z)|(apply Zj Zb;exact Z)|(apply Zt Zb;exact Z)|(apply Zi;(iterate 3 exact Z);(first|with_reducible assumption|decide +kernel|(solve|simp only[bn])))|(apply Zq;(iterate 3 exact Z);(first|with_reducible assumption|decide +kernel|(solve|simp only[bn])))|(apply Zo;exact Z;(first|with_reducible assumption|decide +kernel|(solve|simp only[bn]));exact Z;exact Z)|(apply Zn;exact Z;(first|with_reducible assumption|decide +kernel|(solve|simp only[bn]));exact Z;exact Z)|(apply Zf;exact Z;(first|with_reducible assumption|decide +kernel|(solve|simp only[bn])))|(apply Zg;exact Z;(first|with_reducible assumption|decide +kernel|(solve|simp only[bn]))))
  all_goals exact Qe
theorem QL [Known](b:List UInt8)(id:Nat)(ei:Bool)(en es:Nat)(eh ed:List UInt8)(di:Bool)(dn dq:Nat)(dh dd:List UInt8)(pol num tik:Int)(pay:List UInt8)(life tok:Nat)(on:Bool)(e0 e1 e2 e3 w q:Int)(q0 q1 q2 q3 c:List UInt8)(hN:AQ Tryz.prog 70 [.sl .ext (b.map E.byte)] [] (.ptr 0 0) [[.int .i64 e0,.bool true,.sl .ext (q0.map E.byte)]])(h0:AQ Tryz.prog 71 [.ptr 0 0] [[.int .i64 e0,.bool true,.sl .ext (q0.map E.byte)]] (.int .u64 (id:Int)) [[.int .i64 e1,.bool true,.sl .ext (q1.map E.byte)]])(h1:AQ Tryz.prog 72 [.ptr 0 0] [[.int .i64 e1,.bool true,.sl .ext (q1.map E.byte)]] (.int .i64 5) [[.int .i64 e2,.bool true,.sl .ext (q2.map E.byte)]])(h2:AQ Tryz.prog 72 [.ptr 0 0] [[.int .i64 e2,.bool true,.sl .ext (q2.map E.byte)]] (.int .i64 num) [[.int .i64 e3,.bool true,.sl .ext (q3.map E.byte)]])(hW:AP Tryz.prog 67 [.agg [.int .u64 (id:Int),.int .i64 5,.bool false,.int .u64 0,.int .u64 0,.str [],.str [],.bool false,.int .u64 0,.int .u64 0,.str [],.str [],.int .i64 0,.int .i64 num,.int .i64 0,.sl .ext [],.int .u64 0,.int .u64 0,.bool false]] (.tup [.sl .ext (c.map E.byte),.int .i64 w]) []) :
  (∀(t1:(w != 0)=true),
  AP Tryz.prog 73 [.sl .ext (b.map E.byte)] (.tup [.agg [.int .u64 0,.int .i64 0,.bool false,.int .u64 0,.int .u64 0,.str [],.str [],.bool false,.int .u64 0,.int .u64 0,.str [],.str [],.int .i64 0,.int .i64 0,.int .i64 0,.sl .ext [],.int .u64 0,.int .u64 0,.bool false],.int .i64 3]) []) /\
  (∀(t1:(w != 0)=false) (hE:AQ Tryz.prog 75 [.ptr 0 0] [[.int .i64 e3,.bool true,.sl .ext (q3.map E.byte)]] (.int .i64 q) [[.int .i64 e3,.bool true,.sl .ext (q3.map E.byte)]]) (t2:(q != 0)=true),
  AP Tryz.prog 73 [.sl .ext (b.map E.byte)] (.tup [.agg [.int .u64 0,.int .i64 0,.bool false,.int .u64 0,.int .u64 0,.str [],.str [],.bool false,.int .u64 0,.int .u64 0,.str [],.str [],.int .i64 0,.int .i64 0,.int .i64 0,.sl .ext [],.int .u64 0,.int .u64 0,.bool false],.int .i64 3]) []) /\
  (∀(t1:(w != 0)=false) (hE:AQ Tryz.prog 75 [.ptr 0 0] [[.int .i64 e3,.bool true,.sl .ext (q3.map E.byte)]] (.int .i64 q) [[.int .i64 e3,.bool true,.sl .ext (q3.map E.byte)]]) (t2:(q != 0)=false) (hB:AP Tryz.prog 85 [.sl .ext (c.map E.byte),.sl .ext (b.map E.byte)] (.bool false) []),
  AP Tryz.prog 73 [.sl .ext (b.map E.byte)] (.tup [.agg [.int .u64 0,.int .i64 0,.bool false,.int .u64 0,.int .u64 0,.str [],.str [],.bool false,.int .u64 0,.int .u64 0,.str [],.str [],.int .i64 0,.int .i64 0,.int .i64 0,.sl .ext [],.int .u64 0,.int .u64 0,.bool false],.int .i64 3]) []) /\
  (∀(t1:(w != 0)=false) (hE:AQ Tryz.prog 75 [.ptr 0 0] [[.int .i64 e3,.bool true,.sl .ext (q3.map E.byte)]] (.int .i64 q) [[.int .i64 e3,.bool true,.sl .ext (q3.map E.byte)]]) (t2:(q != 0)=false) (hB:AP Tryz.prog 85 [.sl .ext (c.map E.byte),.sl .ext (b.map E.byte)] (.bool true) []),
  AP Tryz.prog 73 [.sl .ext (b.map E.byte)] (.tup [.agg [.int .u64 (id:Int),.int .i64 5,.bool false,.int .u64 0,.int .u64 0,.str [],.str [],.bool false,.int .u64 0,.int .u64 0,.str [],.str [],.int .i64 0,.int .i64 num,.int .i64 0,.sl .ext [],.int .u64 0,.int .u64 0,.bool false],.int .i64 0]) []):=by
 refine⟨fun t1=>?_,fun t1 hE t2=>?_,fun t1 hE t2 hB=>?_,fun t1 hE t2 hB=>?_⟩
 all_goals
  refine AP.ofA (Zp Tryz.func73 Z Tryz.ntmps73 Z Z ?_)
  repeat'(first|(apply Zc (hW);kernel_rfl;(iterate 4 exact Z))|(apply Zh [] (hN);kernel_rfl;(iterate 7 exact Z))|(apply Zh [1] (h0);kernel_rfl;(iterate 7 exact Z))|(apply Zh [1] (h1);kernel_rfl;(iterate 7 exact Z))|(apply Zh [1] (h2);kernel_rfl;(iterate 7 exact Z))|(apply Zh [1] (hE);kernel_rfl;(iterate 7 exact Z))|(apply Zc (hB);kernel_rfl;(iterate 4 exact Z))|(apply Zl Zb;exact Z)|(apply Zj Zb;exact Z)|(apply Zt Zb;exact Z)|(apply Zi;(iterate 3 exact Z);(first|with_reducible assumption|decide +kernel|(solve|simp only[bn])))|(apply Zq;(iterate 3 exact Z);(first|with_reducible assumption|decide +kernel|(solve|simp only[bn])))|(apply Zo;exact Z;(first|with_reducible assumption|decide +kernel|(solve|simp only[bn]));exact Z;exact Z)|(apply Zn;exact Z;(first|with_reducible assumption|decide +kernel|(solve|simp only[bn]));exact Z;exact Z)|(apply Zf;exact Z;(first|with_reducible assumption|decide +kernel|(solve|simp only[bn])))|(apply Zg;exact Z;(first|with_reducible assumption|decide +kernel|(solve|simp only[bn]))))
  all_goals exact Qe
theorem QM [Known](b:List UInt8)(id:Nat)(ei:Bool)(en es:Nat)(eh ed:List UInt8)(di:Bool)(dn dq:Nat)(dh dd:List UInt8)(pol num tik:Int)(pay:List UInt8)(life tok:Nat)(on:Bool)(e0 e1 e2 e3 w q:Int)(q0 q1 q2 q3 c:List UInt8)(hN:AQ Tryz.prog 70 [.sl .ext (b.map E.byte)] [] (.ptr 0 0) [[.int .i64 e0,.bool true,.sl .ext (q0.map E.byte)]])(h0:AQ Tryz.prog 71 [.ptr 0 0] [[.int .i64 e0,.bool true,.sl .ext (q0.map E.byte)]] (.int .u64 (id:Int)) [[.int .i64 e1,.bool true,.sl .ext (q1.map E.byte)]])(h1:AQ Tryz.prog 72 [.ptr 0 0] [[.int .i64 e1,.bool true,.sl .ext (q1.map E.byte)]] (.int .i64 6) [[.int .i64 e2,.bool true,.sl .ext (q2.map E.byte)]])(h2:AQ Tryz.prog 105 [.ptr 0 0] [[.int .i64 e2,.bool true,.sl .ext (q2.map E.byte)]] (.agg [.bool ei,.int .u64 (en:Int),.int .u64 (es:Int),.str eh,.str ed]) [[.int .i64 e3,.bool true,.sl .ext (q3.map E.byte)]])(hW:AP Tryz.prog 67 [.agg [.int .u64 (id:Int),.int .i64 6,.bool ei,.int .u64 (en:Int),.int .u64 (es:Int),.str eh,.str ed,.bool false,.int .u64 0,.int .u64 0,.str [],.str [],.int .i64 0,.int .i64 0,.int .i64 0,.sl .ext [],.int .u64 0,.int .u64 0,.bool false]] (.tup [.sl .ext (c.map E.byte),.int .i64 w]) []) :
  (∀(t1:(w != 0)=true),
  AP Tryz.prog 73 [.sl .ext (b.map E.byte)] (.tup [.agg [.int .u64 0,.int .i64 0,.bool false,.int .u64 0,.int .u64 0,.str [],.str [],.bool false,.int .u64 0,.int .u64 0,.str [],.str [],.int .i64 0,.int .i64 0,.int .i64 0,.sl .ext [],.int .u64 0,.int .u64 0,.bool false],.int .i64 3]) []) /\
  (∀(t1:(w != 0)=false) (hE:AQ Tryz.prog 75 [.ptr 0 0] [[.int .i64 e3,.bool true,.sl .ext (q3.map E.byte)]] (.int .i64 q) [[.int .i64 e3,.bool true,.sl .ext (q3.map E.byte)]]) (t2:(q != 0)=true),
  AP Tryz.prog 73 [.sl .ext (b.map E.byte)] (.tup [.agg [.int .u64 0,.int .i64 0,.bool false,.int .u64 0,.int .u64 0,.str [],.str [],.bool false,.int .u64 0,.int .u64 0,.str [],.str [],.int .i64 0,.int .i64 0,.int .i64 0,.sl .ext [],.int .u64 0,.int .u64 0,.bool false],.int .i64 3]) []) /\
  (∀(t1:(w != 0)=false) (hE:AQ Tryz.prog 75 [.ptr 0 0] [[.int .i64 e3,.bool true,.sl .ext (q3.map E.byte)]] (.int .i64 q) [[.int .i64 e3,.bool true,.sl .ext (q3.map E.byte)]]) (t2:(q != 0)=false) (hB:AP Tryz.prog 85 [.sl .ext (c.map E.byte),.sl .ext (b.map E.byte)] (.bool false) []),
  AP Tryz.prog 73 [.sl .ext (b.map E.byte)] (.tup [.agg [.int .u64 0,.int .i64 0,.bool false,.int .u64 0,.int .u64 0,.str [],.str [],.bool false,.int .u64 0,.int .u64 0,.str [],.str [],.int .i64 0,.int .i64 0,.int .i64 0,.sl .ext [],.int .u64 0,.int .u64 0,.bool false],.int .i64 3]) []) /\
  (∀(t1:(w != 0)=false) (hE:AQ Tryz.prog 75 [.ptr 0 0] [[.int .i64 e3,.bool true,.sl .ext (q3.map E.byte)]] (.int .i64 q) [[.int .i64 e3,.bool true,.sl .ext (q3.map E.byte)]]) (t2:(q != 0)=false) (hB:AP Tryz.prog 85 [.sl .ext (c.map E.byte),.sl .ext (b.map E.byte)] (.bool true) []),
  AP Tryz.prog 73 [.sl .ext (b.map E.byte)] (.tup [.agg [.int .u64 (id:Int),.int .i64 6,.bool ei,.int .u64 (en:Int),.int .u64 (es:Int),.str eh,.str ed,.bool false,.int .u64 0,.int .u64 0,.str [],.str [],.int .i64 0,.int .i64 0,.int .i64 0,.sl .ext [],.int .u64 0,.int .u64 0,.bool false],.int .i64 0]) []):=by
 refine⟨fun t1=>?_,fun t1 hE t2=>?_,fun t1 hE t2 hB=>?_,fun t1 hE t2 hB=>?_⟩
 all_goals
  refine AP.ofA (Zp Tryz.func73 Z Tryz.ntmps73 Z Z ?_)
  repeat'(first|(apply Zc (hW);kernel_rfl;(iterate 4 exact Z))|(apply Zh [] (hN);kernel_rfl;(iterate 7 exact Z))|(apply Zh [1] (h0);kernel_rfl;(iterate 7 exact Z))|(apply Zh [1] (h1);kernel_rfl;(iterate 7 exact Z))|(apply Zh [1] (h2);kernel_rfl;(iterate 7 exact Z))|(apply Zh [1] (hE);kernel_rfl;(iterate 7 exact Z))|(apply Zc (hB);kernel_rfl;(iterate 4 exact Z))|(apply Zl Zb;exact Z)|(apply Zj Zb;exact Z)|(apply Zt Zb;exact Z)|(apply Zi;(iterate 3 exact Z);(first|with_reducible assumption|decide +kernel|(solve|simp only[bn])))|(apply Zq;(iterate 3 exact Z);(first|with_reducible assumption|decide +kernel|(solve|simp only[bn])))|(apply Zo;exact Z;(first|with_reducible assumption|decide +kernel|(solve|simp only[bn]));exact Z;exact Z)|(apply Zn;exact Z;(first|with_reducible assumption|decide +kernel|(solve|simp only[bn]));exact Z;exact Z)|(apply Zf;exact Z;(first|with_reducible assumption|decide +kernel|(solve|simp only[bn])))|(apply Zg;exact Z;(first|with_reducible assumption|decide +kernel|(solve|simp only[bn]))))
  all_goals exact Qe
theorem QN [Known](b:List UInt8)(id:Nat)(ei:Bool)(en es:Nat)(eh ed:List UInt8)(di:Bool)(dn dq:Nat)(dh dd:List UInt8)(pol num tik:Int)(pay:List UInt8)(life tok:Nat)(on:Bool)(e0 e1 e2 e3 e4 w q:Int)(q0 q1 q2 q3 q4 c:List UInt8)(hN:AQ Tryz.prog 70 [.sl .ext (b.map E.byte)] [] (.ptr 0 0) [[.int .i64 e0,.bool true,.sl .ext (q0.map E.byte)]])(h0:AQ Tryz.prog 71 [.ptr 0 0] [[.int .i64 e0,.bool true,.sl .ext (q0.map E.byte)]] (.int .u64 (id:Int)) [[.int .i64 e1,.bool true,.sl .ext (q1.map E.byte)]])(h1:AQ Tryz.prog 72 [.ptr 0 0] [[.int .i64 e1,.bool true,.sl .ext (q1.map E.byte)]] (.int .i64 7) [[.int .i64 e2,.bool true,.sl .ext (q2.map E.byte)]])(h2:AQ Tryz.prog 105 [.ptr 0 0] [[.int .i64 e2,.bool true,.sl .ext (q2.map E.byte)]] (.agg [.bool ei,.int .u64 (en:Int),.int .u64 (es:Int),.str eh,.str ed]) [[.int .i64 e3,.bool true,.sl .ext (q3.map E.byte)]])(h3:AQ Tryz.prog 72 [.ptr 0 0] [[.int .i64 e3,.bool true,.sl .ext (q3.map E.byte)]] (.int .i64 tik) [[.int .i64 e4,.bool true,.sl .ext (q4.map E.byte)]])(hW:AP Tryz.prog 67 [.agg [.int .u64 (id:Int),.int .i64 7,.bool ei,.int .u64 (en:Int),.int .u64 (es:Int),.str eh,.str ed,.bool false,.int .u64 0,.int .u64 0,.str [],.str [],.int .i64 0,.int .i64 0,.int .i64 tik,.sl .ext [],.int .u64 0,.int .u64 0,.bool false]] (.tup [.sl .ext (c.map E.byte),.int .i64 w]) []) :
  (∀(t1:(w != 0)=true),
  AP Tryz.prog 73 [.sl .ext (b.map E.byte)] (.tup [.agg [.int .u64 0,.int .i64 0,.bool false,.int .u64 0,.int .u64 0,.str [],.str [],.bool false,.int .u64 0,.int .u64 0,.str [],.str [],.int .i64 0,.int .i64 0,.int .i64 0,.sl .ext [],.int .u64 0,.int .u64 0,.bool false],.int .i64 3]) []) /\
  (∀(t1:(w != 0)=false) (hE:AQ Tryz.prog 75 [.ptr 0 0] [[.int .i64 e4,.bool true,.sl .ext (q4.map E.byte)]] (.int .i64 q) [[.int .i64 e4,.bool true,.sl .ext (q4.map E.byte)]]) (t2:(q != 0)=true),
  AP Tryz.prog 73 [.sl .ext (b.map E.byte)] (.tup [.agg [.int .u64 0,.int .i64 0,.bool false,.int .u64 0,.int .u64 0,.str [],.str [],.bool false,.int .u64 0,.int .u64 0,.str [],.str [],.int .i64 0,.int .i64 0,.int .i64 0,.sl .ext [],.int .u64 0,.int .u64 0,.bool false],.int .i64 3]) []) /\
  (∀(t1:(w != 0)=false) (hE:AQ Tryz.prog 75 [.ptr 0 0] [[.int .i64 e4,.bool true,.sl .ext (q4.map E.byte)]] (.int .i64 q) [[.int .i64 e4,.bool true,.sl .ext (q4.map E.byte)]]) (t2:(q != 0)=false) (hB:AP Tryz.prog 85 [.sl .ext (c.map E.byte),.sl .ext (b.map E.byte)] (.bool false) []),
  AP Tryz.prog 73 [.sl .ext (b.map E.byte)] (.tup [.agg [.int .u64 0,.int .i64 0,.bool false,.int .u64 0,.int .u64 0,.str [],.str [],.bool false,.int .u64 0,.int .u64 0,.str [],.str [],.int .i64 0,.int .i64 0,.int .i64 0,.sl .ext [],.int .u64 0,.int .u64 0,.bool false],.int .i64 3]) []) /\
  (∀(t1:(w != 0)=false) (hE:AQ Tryz.prog 75 [.ptr 0 0] [[.int .i64 e4,.bool true,.sl .ext (q4.map E.byte)]] (.int .i64 q) [[.int .i64 e4,.bool true,.sl .ext (q4.map E.byte)]]) (t2:(q != 0)=false) (hB:AP Tryz.prog 85 [.sl .ext (c.map E.byte),.sl .ext (b.map E.byte)] (.bool true) []),
  AP Tryz.prog 73 [.sl .ext (b.map E.byte)] (.tup [.agg [.int .u64 (id:Int),.int .i64 7,.bool ei,.int .u64 (en:Int),.int .u64 (es:Int),.str eh,.str ed,.bool false,.int .u64 0,.int .u64 0,.str [],.str [],.int .i64 0,.int .i64 0,.int .i64 tik,.sl .ext [],.int .u64 0,.int .u64 0,.bool false],.int .i64 0]) []):=by
 refine⟨fun t1=>?_,fun t1 hE t2=>?_,fun t1 hE t2 hB=>?_,fun t1 hE t2 hB=>?_⟩
 all_goals
  refine AP.ofA (Zp Tryz.func73 Z Tryz.ntmps73 Z Z ?_)
  repeat'(first|(apply Zc (hW);kernel_rfl;(iterate 4 exact Z))|(apply Zh [] (hN);kernel_rfl;(iterate 7 exact Z))|(apply Zh [1] (h0);kernel_rfl;(iterate 7 exact Z))|(apply Zh [1] (h1);kernel_rfl;(iterate 7 exact Z))|(apply Zh [1] (h2);kernel_rfl;(iterate 7 exact Z))|(apply Zh [1] (h3);kernel_rfl;(iterate 7 exact Z))|(apply Zh [1] (hE);kernel_rfl;(iterate 7 exact Z))|(apply Zc (hB);kernel_rfl;(iterate 4 exact Z))|(apply Zl Zb;exact Z)|(apply Zj Zb;exact Z)|(apply Zt Zb;exact Z)|(apply Zi;(iterate 3 exact Z);(first|with_reducible assumption|decide +kernel|(solve|simp only[bn])))|(apply Zq;(iterate 3 exact Z);(first|with_reducible assumption|decide +kernel|(solve|simp only[bn])))|(apply Zo;exact Z;(first|with_reducible assumption|decide +kernel|(solve|simp only[bn]));exact Z;exact Z)|(apply Zn;exact Z;(first|with_reducible assumption|decide +kernel|(solve|simp only[bn]));exact Z;exact Z)|(apply Zf;exact Z;(first|with_reducible assumption|decide +kernel|(solve|simp only[bn])))|(apply Zg;exact Z;(first|with_reducible assumption|decide +kernel|(solve|simp only[bn]))))
  all_goals exact Qe
end Go.Proofs.YtchlgagdbflkmaaGreatDoor
end
