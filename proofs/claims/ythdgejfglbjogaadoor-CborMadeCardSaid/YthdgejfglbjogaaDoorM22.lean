/- CborMade: the walk (cdgen.py). -/
import Derived.Test.YthdgejfglbjogaaDoorM14
import Derived.Test.YthdgejfglbjogaaDoorM21
import Derived.Test.YthdgejfglbjogaaDoorM01
import Derived.Test.YthdgejfglbjogaaDoorM07
import Derived.Test.YthdgejfglbjogaaDoorProg
import Derived.Lib.LaidU8
import Derived.Test.YthdgejfglbjogaaDoorM10
set_option linter.unusedVariables false
set_option linter.unusedSimpArgs false
section
open Go.RowKit Go.Pl Go.Av
namespace Go.Proofs.YthdgejfglbjogaaDoor
set_option maxHeartbeats 4000000
theorem IU [Known](n:Nat)(b s:List UInt8)(hA:AP Tryd.prog 4 [] (.bool true) [])(g1:decide (((b.map E.byte).length:Int)>500)=true):AP Tryd.prog 3 [.int .u64 (n:Int),byE b,.str s] (.bool true) []:=by
 refine AP.ofA (Zs Tryd.func3 Z Tryd.ntmps3 Z Z ?_)
 repeat'(first|(apply Zb (hA);kernel_rfl;(iterate 4 exact Z))|(apply Zh Za;exact Z)|(apply Zd Za;exact Z)|(apply Zv Za;exact Z)|(apply Zq;(iterate 3 exact Z);(first|with_reducible assumption|decide +kernel|(solve|simp only[bn])))|(apply Zk;exact Z;(first|with_reducible assumption|decide +kernel|(solve|simp only[bn]));exact Z;exact Z)|(apply Zc;exact Z;(first|with_reducible assumption|decide +kernel|(solve|simp only[bn])))|refine Zp Za Z Z Z Z ?_)
 all_goals exact Qe
theorem IV [Known](n:Nat)(b s:List UInt8)(hA:AP Tryd.prog 4 [] (.bool true) [])(g1:decide (((b.map E.byte).length:Int)>500)=false)(g2:decide ((s.length:Int)>500)=true):AP Tryd.prog 3 [.int .u64 (n:Int),byE b,.str s] (.bool true) []:=by
 refine AP.ofA (Zs Tryd.func3 Z Tryd.ntmps3 Z Z ?_)
 repeat'(first|(apply Zb (hA);kernel_rfl;(iterate 4 exact Z))|(apply Zh Za;exact Z)|(apply Zd Za;exact Z)|(apply Zv Za;exact Z)|(apply Zg;(iterate 3 exact Z);(first|with_reducible assumption|decide +kernel|(solve|simp only[bn])))|(apply Zl;exact Z;(first|with_reducible assumption|decide +kernel|(solve|simp only[bn]));exact Z;exact Z)|(apply Zc;exact Z;(first|with_reducible assumption|decide +kernel|(solve|simp only[bn])))|refine Zp Za Z Z Z Z ?_|refine Qp Za Z Z Z Z ?_)
 all_goals exact Qe
theorem IW [Known](n:Nat)(s:List UInt8)(hn:n<18446744073709551616)(hA:AP Tryd.prog 4 [] (.bool true) [])(g2:decide ((s.length:Int)>500)=false):AP Tryd.prog 3 [.int .u64 (n:Int),byE [],.str s] (.bool true) []:=by
 have hs:s.length<=500:=by have:=of_decide_eq_false g2;omega
 have hP:AP Tryd.prog 5 [.sl .ext []] (.agg [.int .i64 2,.int .u64 0,.sl .ext [],.sl .ext []]) []:=KJ [] (by simp)
 have hN:AP Tryd.prog 7 [.int .u64 (n:Int)] (.agg [.int .i64 0,.int .u64 (n:Int),.sl .ext [],.sl .ext []]) []:=JQ n
 have hT:AP Tryd.prog 8 [.str s] (.agg [.int .i64 3,.int .u64 0,.sl .ext (s.map E.byte),.sl .ext []]) []:=QA s
 have h1:AP Tryd.prog 6 [.sl .ext [.agg [.int .i64 2,.int .u64 0,.sl [],.sl []]]] (.agg [.int .i64 4,.int .u64 0,.sl .ext [],.sl .ext [.agg [.int .i64 2,.int .u64 0,.sl [],.sl []]]]) []:=QB [.mk 2 0 [] []] (by simp) ⟨⟨by omega,by simp,by simp,trivial⟩,trivial⟩
 have h4:AP Tryd.prog 6 [.sl .ext [.agg [.int .i64 0,.int .u64 (n:Int),.sl [],.sl []],.agg [.int .i64 2,.int .u64 0,.sl [],.sl []],.agg [.int .i64 3,.int .u64 0,.sl (s.map E.byte),.sl []],.agg [.int .i64 4,.int .u64 0,.sl [],.sl [.agg [.int .i64 2,.int .u64 0,.sl [],.sl []]]]]] (.agg [.int .i64 4,.int .u64 0,.sl .ext [],.sl .ext [.agg [.int .i64 0,.int .u64 (n:Int),.sl [],.sl []],.agg [.int .i64 2,.int .u64 0,.sl [],.sl []],.agg [.int .i64 3,.int .u64 0,.sl (s.map E.byte),.sl []],.agg [.int .i64 4,.int .u64 0,.sl [],.sl [.agg [.int .i64 2,.int .u64 0,.sl [],.sl []]]]]]) []:=QB [.mk 0 n [] [],.mk 2 0 [] [],.mk 3 0 s [],.mk 4 0 [] [.mk 2 0 [] []]] (by simp) ⟨⟨hn,by simp,by simp,trivial⟩,⟨by omega,by simp,by simp,trivial⟩,⟨by omega,by omega,by simp,trivial⟩,⟨by omega,by simp,by simp,⟨by omega,by simp,by simp,trivial⟩,trivial⟩,trivial⟩
 have t2:(([]:List UInt8)==[])=true:=rfl
 have u4:Uni 4 ([.agg [.int .i64 0,.int .u64 (n:Int),.sl [],.sl []],.agg [.int .i64 2,.int .u64 0,.sl [],.sl []],.agg [.int .i64 3,.int .u64 0,.sl (s.map E.byte),.sl []],.agg [.int .i64 4,.int .u64 0,.sl [],.sl [.agg [.int .i64 2,.int .u64 0,.sl [],.sl []]]]]:List E):=Zi rfl
 have u1:Uni 4 ([.agg [.int .i64 2,.int .u64 0,.sl [],.sl []]]:List E):=Zi rfl
 have t4:((([.agg [.int .i64 0,.int .u64 (n:Int),.sl [],.sl []],.agg [.int .i64 2,.int .u64 0,.sl [],.sl []],.agg [.int .i64 3,.int .u64 0,.sl (s.map E.byte),.sl []],.agg [.int .i64 4,.int .u64 0,.sl [],.sl [.agg [.int .i64 2,.int .u64 0,.sl [],.sl []]]]]:List E).length:Int) != 4)=false:=rfl
 have t5:((([.agg [.int .i64 2,.int .u64 0,.sl [],.sl []]]:List E).length:Int) != 1)=false:=rfl
 have t1:((n:Int)==(n:Int))=true:=by simp
 have t3:(s==s)=true:=by simp
 refine AP.ofA (Zs Tryd.func3 Z Tryd.ntmps3 Z Z ?_)
 repeat'(first|(apply U7 11 10 Za ZJ;decide +kernel;kernel_rfl;kernel_rfl;kernel_rfl;(iterate 5 exact Z);(decide +kernel))|exact alJ Za rfl rfl|(apply KN;exact Z)|(apply KL;(iterate 3 exact Z))|(apply Zb (hA);kernel_rfl;(iterate 4 exact Z))|(apply Zb (hP);kernel_rfl;(iterate 4 exact Z))|(apply Zb (hN);kernel_rfl;(iterate 4 exact Z))|(apply Zb (hT);kernel_rfl;(iterate 4 exact Z))|(apply Zb (h1);kernel_rfl;(iterate 4 exact Z))|(apply Zb (h4);kernel_rfl;(iterate 4 exact Z))|refine QC Za Z Z Z Z Z Z ?_|refine Oe Za Z Z Z Z Z Z Z Z Z ?_|refine Vx 20 ?_|refine Ug ?_|(apply Zh Za;exact Z)|(apply Zd Za;exact Z)|(apply Zv Za;exact Z)|(apply Zg;(iterate 3 exact Z);(first|with_reducible assumption|decide +kernel|(solve|simp only[bn])))|(apply Zk;exact Z;(first|with_reducible assumption|decide +kernel|(solve|simp only[bn]));exact Z;exact Z)|(apply Zl;exact Z;(first|with_reducible assumption|decide +kernel|(solve|simp only[bn]));exact Z;exact Z)|(apply Ze;exact Z;(first|with_reducible assumption|decide +kernel|(solve|simp only[bn])))|refine Zp Za Z Z Z Z ?_|refine Qp Za Z Z Z Z ?_|refine Wa Za Z Z Z Z Z Z Z Z Z Z Z Z ?_|(apply Zr 43 ZJ;decide +kernel;kernel_rfl;kernel_rfl;kernel_rfl;exact Z;exact Z)|(apply Zu;(iterate 4 exact Z))|exact AE.nil _ _ _ _|(apply ZD;exact Z)|(apply ZP;exact Z;exact Z;decide +kernel;exact Z)|(apply ZQ;exact Z)|exact AO.nil _ _ _|(apply Zt;(decide +kernel))|exact AOs.nil|exact Z1 rfl rfl|exact WT rfl rfl rfl rfl rfl|refine Yj Za Z Z Z Z Z Z ?_|(apply ZC Za;(iterate 6 exact Z);(first|exact Qt|rotate_left);(first|with_reducible assumption|decide +kernel|exact Z);(first|exact Zi rfl|with_reducible assumption|decide +kernel|rotate_left))|refine Uo Za Z Z Z Z Z Z Z Z Z ?_)
 all_goals exact Qe
theorem IX [Known](n:Nat)(b s:List UInt8)(hn:n<18446744073709551616)(hne:b ≠ [])(hA:AP Tryd.prog 4 [] (.bool true) [])(g1:decide (((b.map E.byte).length:Int)>500)=false)(g2:decide ((s.length:Int)>500)=false):AP Tryd.prog 3 [.int .u64 (n:Int),byE b,.str s] (.bool true) []:=by
 have hs:s.length<=500:=by have:=of_decide_eq_false g2;omega
 have hbl:(b.map E.byte).length=b.length:=List.length_map ..
 have hb:b.length<=500:=by have:=of_decide_eq_false g1;omega
 have hbn:=QD hne
 have hU:=Yv b
 have hb1:(b.map E.byte).length<=maxLen:=by rw[hbl];unfold maxLen;omega
 have hb2:(b.map E.byte).length*1<=140737488355328:=by rw[hbl];omega
 have hP:=XV b 0 0 hne (by omega)
 have hN:AP Tryd.prog 7 [.int .u64 (n:Int)] (.agg [.int .i64 0,.int .u64 (n:Int),.sl .ext [],.sl .ext []]) []:=JQ n
 have hT:AP Tryd.prog 8 [.str s] (.agg [.int .i64 3,.int .u64 0,.sl .ext (s.map E.byte),.sl .ext []]) []:=QA s
 have h1:=XW b 0 0 hne (by omega)
 have h4:=XX n b s 0 0 hne (by omega) (by omega) hn
 have t2:(b==b)=true:=by simp
 have u4:Uni 4 ([.agg [.int .i64 0,.int .u64 (n:Int),.sl [],.sl []],.agg [.int .i64 2,.int .u64 0,.sl (b.map E.byte),.sl []],.agg [.int .i64 3,.int .u64 0,.sl (s.map E.byte),.sl []],.agg [.int .i64 4,.int .u64 0,.sl [],.sl [.agg [.int .i64 2,.int .u64 0,.sl (b.map E.byte),.sl []]]]]:List E):=Zi rfl
 have u1:Uni 4 ([.agg [.int .i64 2,.int .u64 0,.sl (b.map E.byte),.sl []]]:List E):=Zi rfl
 have t4:((([.agg [.int .i64 0,.int .u64 (n:Int),.sl [],.sl []],.agg [.int .i64 2,.int .u64 0,.sl (b.map E.byte),.sl []],.agg [.int .i64 3,.int .u64 0,.sl (s.map E.byte),.sl []],.agg [.int .i64 4,.int .u64 0,.sl [],.sl [.agg [.int .i64 2,.int .u64 0,.sl (b.map E.byte),.sl []]]]]:List E).length:Int) != 4)=false:=rfl
 have t5:((([.agg [.int .i64 2,.int .u64 0,.sl (b.map E.byte),.sl []]]:List E).length:Int) != 1)=false:=rfl
 have t1:((n:Int)==(n:Int))=true:=by simp
 have t3:(s==s)=true:=by simp
 refine AP.ofA (Zs Tryd.func3 Z Tryd.ntmps3 Z Z ?_)
 repeat'(first|exact Y8 (t:=32) rfl rfl|exact Y8 (t:=34) rfl rfl|(apply U7 11 10 Za ZJ;decide +kernel;kernel_rfl;kernel_rfl;kernel_rfl;(iterate 5 exact Z);(decide +kernel))|exact alJ Za rfl rfl|(apply KN;exact Z)|(apply KL;(iterate 3 exact Z))|(apply Zb (hN);kernel_rfl;(iterate 4 exact Z))|(apply Zb (hT);kernel_rfl;(iterate 4 exact Z))|(apply YN [0] [] (hP);kernel_rfl;(iterate 10 exact Z))|(apply Zj [1,3] (h1);kernel_rfl;(iterate 7 exact Z))|(apply Zj [1,4] (h4);kernel_rfl;(iterate 7 exact Z))|refine QC Za Z Z Z Z Z Z ?_|refine Ig Za Z Z Z Z Z Z Z Z Z Z Z Z ?_|(apply V8 (m:=0) (t:=23) Za;(iterate 4 exact Z);exact(Src.sl rfl);exact Z;exact hU;exact hbn;exact Z;exact hb1;exact hb2;(iterate 3 exact Z))|(apply Zh Za;exact Z)|(apply Zd Za;exact Z)|(apply Zv Za;exact Z)|(apply Zg;(iterate 3 exact Z);(first|with_reducible assumption|decide +kernel|(solve|simp only[bn])))|(apply Zl;exact Z;(first|with_reducible assumption|decide +kernel|(solve|simp only[bn]));exact Z;exact Z)|(apply Ze;exact Z;(first|with_reducible assumption|decide +kernel|(solve|simp only[bn])))|refine Zp Za Z Z Z Z ?_|refine Qp Za Z Z Z Z ?_|(apply Zu;(iterate 4 exact Z))|exact AE.nil _ _ _ _|(apply ZD;exact Z)|(apply Yq;exact Z)|(apply ZP;exact Z;exact Z;decide +kernel;exact Z)|(apply ZQ;exact Z)|(apply YH;exact Z)|exact AO.nil _ _ _|(apply Zt;(decide +kernel))|(apply Yp;(iterate 3 exact Z))|exact AOs.nil|exact Z1 rfl rfl|exact Y8 rfl rfl)
 refine Z6 (fun f tm bx fr=>∃(i:Nat) (R:List UInt8),f+i=b.length/\R.length=b.length/\tm=[(0,.int .u64 (n:Int)),(1,.sl .ext (b.map E.byte)),(2,.str s),(7,.bsl 0 0 (b.map E.byte).length 0),(8,.ptr 2 0),(9,.ptr 5 0),(10,.int .i64 (i:Int))]/\bx=[[.row 0 (flat (R.map E.byte))],[.row 0 (flat (b.map E.byte))],[.int .i64 2,.int .u64 0,.bsl 1 0 (b.map E.byte).length 0,.sl .nil []],[.int .i64 2,.int .u64 0,.bsl 1 0 (b.map E.byte).length 0,.sl .ext []],[.int .i64 0,.int .u64 (n:Int),.sl .ext [],.sl .ext [],.int .i64 2,.int .u64 0,.bsl 1 0 (b.map E.byte).length 0,.sl .ext [],.int .i64 3,.int .u64 0,.sl .ext (s.map E.byte),.sl .ext [],.int .i64 4,.int .u64 0,.sl .ext [],.sl .ext [.agg [.int .i64 2,.int .u64 0,.sl (b.map E.byte),.sl []]]],[.int .i64 4,.int .u64 0,.sl .ext [],.sl .ext [.agg [.int .i64 0,.int .u64 (n:Int),.sl [],.sl []],.agg [.int .i64 2,.int .u64 0,.sl (b.map E.byte),.sl []],.agg [.int .i64 3,.int .u64 0,.sl (s.map E.byte),.sl []],.agg [.int .i64 4,.int .u64 0,.sl [],.sl [.agg [.int .i64 2,.int .u64 0,.sl (b.map E.byte),.sl []]]]]]]/\fr=[]) (b.length+1) (Lands.mk' (m:=b.length) (Nat.lt_succ_self _) ⟨0,b,rfl,rfl,rfl,rfl,rfl⟩ ?_ rfl rfl rfl rfl rfl rfl) ?_
 ·exact .cons rfl (.cons rfl (.cons rfl (.cons rfl (.cons rfl (.cons rfl (.cons rfl .nil))))))
 ·
  rintro f tm bx fr ⟨i,S,hf,hR,rfl,rfl,rfl⟩
  rcases Nat.lt_or_ge i b.length with hlt|hge
  ·have hd:decide ((i:Int)<((b.map E.byte).length:Int))=true:=decide_eq_true (by rw[hbl];omega)
   have hd2:(i:Int)<((b.map E.byte).length:Int):=of_decide_eq_true hd
   obtain⟨x,hx⟩:∃ x,S[i]?=some x:=⟨_,List.getElem?_eq_getElem (by omega)⟩
   have he:(flat (S.map E.byte))[((i:Nat):Int).toNat*1]?=some (.int .u8 (x.toNat:Int)):=by rw[U9,Int.toNat_natCast,Nat.mul_one,List.getElem?_map,hx];rfl
   have hle:((i:Nat):Int).toNat*1+1<=(flat (S.map E.byte)).length:=by rw[U9,Int.toNat_natCast,List.length_map];omega
   have hst:WF (flat (S.map E.byte)) (((i:Nat):Int).toNat*1) [.int .u8 ((x ^^^ 255).toNat:Int)]=flat ((S.set i (x ^^^ 255)).map E.byte):=by
    rw[Int.toNat_natCast,Nat.mul_one]
    exact V9 S (by omega) _
   have hx2:=KO x
   have ei:IntKind.i64.wrap ((i:Int)+1)=((i+1:Nat):Int):=by rw[IntWalk.i64_in _ (by omega)];omega
   repeat'(first|refine W4 Za Z Z Z Z ?_|refine Uj Za Z Z Z Z Z Z (Int.natCast_nonneg _) hd2 Z ?_|refine U2 Za Z Z Z Z he Z Z ?_|rw[hx2]|refine U4 Za Z Z Z Z Z Z hle hst Z ?_|rw[ei]|(apply Zh Za;exact Z)|(apply Zd Za;exact Z)|(apply Zv Za;exact Z)|(apply Zc;exact Z;(first|with_reducible assumption|decide +kernel|(solve|simp only[bn]))))
   refine Lands.mk' (m:=f-1) (by omega) ⟨i+1,S.set i (x ^^^ 255),by omega,by rw[List.length_set];exact hR,rfl,rfl,rfl⟩ ?_ rfl rfl rfl rfl rfl rfl
   exact .cons rfl (.cons rfl (.cons rfl (.cons rfl (.cons rfl (.cons rfl (.cons rfl .nil))))))
  ·have hd:decide ((i:Int)<((b.map E.byte).length:Int))=false:=decide_eq_false (by rw[hbl];omega)
   repeat'(first|refine W4 Za Z Z Z Z ?_|(apply Zh Za;exact Z)|(apply Zd Za;exact Z)|(apply Zv Za;exact Z)|(apply Ze;exact Z;(first|with_reducible assumption|decide +kernel|(solve|simp only[bn]))))
   refine Z6 (fun f tm bx fr=>∃(i:Nat) (R:List UInt8),f+i=b.length/\R.length=b.length/\tm=[(0,.int .u64 (n:Int)),(1,.sl .ext (b.map E.byte)),(2,.str s),(7,.bsl 0 0 (b.map E.byte).length 0),(8,.ptr 2 0),(9,.ptr 5 0),(11,.int .i64 (i:Int))]/\bx=[[.row 0 (flat (S.map E.byte))],[.row 0 (flat (R.map E.byte))],[.int .i64 2,.int .u64 0,.bsl 1 0 (b.map E.byte).length 0,.sl .nil []],[.int .i64 2,.int .u64 0,.bsl 1 0 (b.map E.byte).length 0,.sl .ext []],[.int .i64 0,.int .u64 (n:Int),.sl .ext [],.sl .ext [],.int .i64 2,.int .u64 0,.bsl 1 0 (b.map E.byte).length 0,.sl .ext [],.int .i64 3,.int .u64 0,.sl .ext (s.map E.byte),.sl .ext [],.int .i64 4,.int .u64 0,.sl .ext [],.sl .ext [.agg [.int .i64 2,.int .u64 0,.sl (b.map E.byte),.sl []]]],[.int .i64 4,.int .u64 0,.sl .ext [],.sl .ext [.agg [.int .i64 0,.int .u64 (n:Int),.sl [],.sl []],.agg [.int .i64 2,.int .u64 0,.sl (b.map E.byte),.sl []],.agg [.int .i64 3,.int .u64 0,.sl (s.map E.byte),.sl []],.agg [.int .i64 4,.int .u64 0,.sl [],.sl [.agg [.int .i64 2,.int .u64 0,.sl (b.map E.byte),.sl []]]]]]]/\fr=[]) (b.length+1) (Lands.mk' (m:=b.length) (Nat.lt_succ_self _) ⟨0,b,rfl,rfl,rfl,rfl,rfl⟩ ?_ rfl rfl rfl rfl rfl rfl) ?_
   ·exact .cons rfl (.cons rfl (.cons rfl (.cons rfl (.cons rfl (.cons rfl (.cons rfl .nil))))))
   ·
    rintro f tm bx fr ⟨i,R,hf,hR,rfl,rfl,rfl⟩
    rcases Nat.lt_or_ge i b.length with hlt|hge
    ·have hd:decide ((i:Int)<((b.map E.byte).length:Int))=true:=decide_eq_true (by rw[hbl];omega)
     have hd2:(i:Int)<((b.map E.byte).length:Int):=of_decide_eq_true hd
     obtain⟨x,hx⟩:∃ x,R[i]?=some x:=⟨_,List.getElem?_eq_getElem (by omega)⟩
     have he:(flat (R.map E.byte))[((i:Nat):Int).toNat*1]?=some (.int .u8 (x.toNat:Int)):=by rw[U9,Int.toNat_natCast,Nat.mul_one,List.getElem?_map,hx];rfl
     have hle:((i:Nat):Int).toNat*1+1<=(flat (R.map E.byte)).length:=by rw[U9,Int.toNat_natCast,List.length_map];omega
     have hst:WF (flat (R.map E.byte)) (((i:Nat):Int).toNat*1) [.int .u8 ((x ^^^ 255).toNat:Int)]=flat ((R.set i (x ^^^ 255)).map E.byte):=by
      rw[Int.toNat_natCast,Nat.mul_one]
      exact V9 R (by omega) _
     have hx2:=KO x
     have ei:IntKind.i64.wrap ((i:Int)+1)=((i+1:Nat):Int):=by rw[IntWalk.i64_in _ (by omega)];omega
     repeat'(first|refine W4 Za Z Z Z Z ?_|refine Uj Za Z Z Z Z Z Z (Int.natCast_nonneg _) hd2 Z ?_|refine U2 Za Z Z Z Z he Z Z ?_|rw[hx2]|refine U4 Za Z Z Z Z Z Z hle hst Z ?_|rw[ei]|(apply Zh Za;exact Z)|(apply Zd Za;exact Z)|(apply Zv Za;exact Z)|(apply Zc;exact Z;(first|with_reducible assumption|decide +kernel|(solve|simp only[bn])))|(apply Zr 9 ZJ;decide +kernel;kernel_rfl;kernel_rfl;kernel_rfl;exact Z;exact Z)|(apply Zu;(iterate 4 exact Z))|exact AE.nil _ _ _ _|(apply ZD;exact Z)|(apply ZP;exact Z;exact Z;decide +kernel;exact Z)|(apply ZQ;exact Z)|exact AO.nil _ _ _|(apply Zt;(decide +kernel))|exact AOs.nil|exact Z1 rfl rfl)
     refine Lands.mk' (m:=f-1) (by omega) ⟨i+1,R.set i (x ^^^ 255),by omega,by rw[List.length_set];exact hR,rfl,rfl,rfl⟩ ?_ rfl rfl rfl rfl rfl rfl
     exact .cons rfl (.cons rfl (.cons rfl (.cons rfl (.cons rfl (.cons rfl (.cons rfl .nil))))))
    ·have hd:decide ((i:Int)<((b.map E.byte).length:Int))=false:=decide_eq_false (by rw[hbl];omega)
     repeat'(first|refine W4 Za Z Z Z Z ?_|(apply Zb (hA);kernel_rfl;(iterate 4 exact Z))|(apply Zh Za;exact Z)|(apply Zd Za;exact Z)|(apply Zv Za;exact Z)|(apply Zg;(iterate 3 exact Z);(first|with_reducible assumption|decide +kernel|(solve|simp only[bn])))|(apply Zk;exact Z;(first|with_reducible assumption|decide +kernel|(solve|simp only[bn]));exact Z;exact Z)|(apply Zl;exact Z;(first|with_reducible assumption|decide +kernel|(solve|simp only[bn]));exact Z;exact Z)|(apply Ze;exact Z;(first|with_reducible assumption|decide +kernel|(solve|simp only[bn])))|refine Zp Za Z Z Z Z ?_|(apply Zr 43 ZJ;decide +kernel;kernel_rfl;kernel_rfl;kernel_rfl;exact Z;exact Z)|(apply Zu;(iterate 4 exact Z))|exact AE.nil _ _ _ _|(apply ZD;exact Z)|(apply ZP;exact Z;exact Z;decide +kernel;exact Z)|(apply ZQ;exact Z)|exact AO.nil _ _ _|(apply Zt;(decide +kernel))|exact AOs.nil|exact Z1 rfl rfl|(apply ZC Za;(iterate 6 exact Z);(first|exact Qt|rotate_left);(first|with_reducible assumption|decide +kernel|exact Z);(first|exact Zi rfl|with_reducible assumption|decide +kernel|rotate_left))|refine Uo Za Z Z Z Z Z Z Z Z Z ?_)
     all_goals exact Qe
theorem Jt [Known][KnownU8](n:Nat)(b s:List UInt8)(hn:n<18446744073709551616):AP Tryd.prog 3 [.int .u64 (n:Int),byE b,.str s] (.bool true) []:=by
 have hA:=X4
 cases g1:decide (((b.map E.byte).length:Int)>500) with
 | true=>exact IU n b s hA g1
 | false=>
  cases g2:decide ((s.length:Int)>500) with
  | true=>exact IV n b s hA g1 g2
  | false=>
   by_cases hne:b=[]
   ·subst hne
    exact IW n s hn hA g2
   ·exact IX n b s hn hne hA g1 g2
end Go.Proofs.YthdgejfglbjogaaDoor
end
section
open Go.RowKit Go.Pl Go.Av Go.Lib
namespace Go.Proofs.YthdgejfglbjogaaDoor
theorem V1 (k:IntKind):∀ zs:List Int,Ub (zs.map fun z=>.lit (.int k z))=zs.map fun z=>Value.int k z
 | []=>rfl
 | z::zs=>by rw[List.map_cons,List.map_cons,Ub,V1 k zs];rfl
theorem Ju {P:Program}{W:World}{n:String}{g:Nat}{t:TypeId}{d:DataW Unit}(hg:P.globalNamed n=some g)(ht:(P.globals[g]?).map (·.type)=some t)(h:VarReads P W n d)
  (key:∀(fuel:Nat) (cs:List Value) (p:List MemPlace),DataW.trod (fun _=>()) P W 0 (fun _=>true) false fuel t cs=some (d,p)->∀(j:Nat) (v:Value),(dcs d)[j]?=some v->cs[j]?=some v) :
  ∀(j:Nat) (v:Value),(dcs d)[j]?=some v->(g0 W).C g j/\W.cell? ⟨g,j,none⟩=some v:=by
 obtain⟨g',t',cs,fuel,p,h1,h2,h3,h4⟩:=h
 obtain rfl:=Option.some.inj (hg.symm.trans h1)
 obtain rfl:=Option.some.inj (ht.symm.trans h2)
 intro j v hv
 have hc:=key fuel cs.toList p h4 j v hv
 have hcell:W.cell? ⟨g,j,none⟩=some v:=by
  rw[World.var?_cell hg h3 j,<- Array.getElem?_toList];exact hc
 exact⟨World.block_lt_of_cell? W _ hcell,hcell⟩
theorem OH {P:Program}{W:World}{t e:TypeId}{n:Nat}{k:IntKind}{d:DataW Unit}(zs:List Int)(hd:d=tabData k zs)(ht:P.underlying t=some (.array n e))(he:P.underlying e=some (.int k))(hce:P.cellsOf e=1)(hct:P.cellsOf t=n) :
  ∀(fuel:Nat) (cs:List Value) (p:List MemPlace),DataW.trod (fun _=>()) P W 0 (fun _=>true) false fuel t cs=some (d,p)->∀(j:Nat) (v:Value),(dcs d)[j]?=some v->cs[j]?=some v:=by
 subst hd
 intro fuel cs p h j v hv
 rw[cells_of_tab ht he hce hct h]
 rw[tabData,dcs,V1]at hv
 exact hv
theorem OI {P:Program}{W:World}{t e:TypeId}{n:Nat}{k:IntKind}{d:DataW Unit}{fs:Array Field}(rows:List (List Int))(hd:d=.agg (rows.map fun r=>.agg (r.map fun z=>.lit (.int k z))))(hn:rows.length=n)(ht:P.underlying t=some (.array n e))(he:P.underlying e=some (.struct fs))
  (hf:∀(i:Nat) (f:Field),fs[i]?=some f->P.underlying f.type=some (.int k)/\f.offset=i/\P.cellsOf f.type=1) (hce:P.cellsOf e=fs.size) :
  ∀(fuel:Nat) (cs:List Value) (p:List MemPlace),DataW.trod (fun _=>()) P W 0 (fun _=>true) false fuel t cs=some (d,p)->∀(j:Nat) (v:Value),(dcs d)[j]?=some v->cs[j]?=some v:=by
 subst hd
 intro fuel cs p h j v hv
 have key:∀ i,i<=n->cs.take (i*fs.size)=Ub ((rows.take i).map fun r=>.agg (r.map fun z=>.lit (.int k z))):=by
  intro i
  induction i with
  | zero=>intro _;rw[Nat.zero_mul,List.take_zero,List.take_zero];rfl
  | succ i ih=>
   intro hi
   obtain⟨fuel',d',q,hdi,he'⟩:=array_elem ht h i (by omega)
   rw[List.getElem?_map,List.getElem?_eq_getElem (by omega:i<rows.length)]at hdi
   simp only[Option.map_some,Option.some.injEq]at hdi
   subst hdi
   rw[hce]at he'
   have hcs:=ints_of_struct he hf hce he'
   rw[Nat.succ_mul,List.take_add,ih (by omega),hcs,List.take_succ_eq_append_getElem (by omega:i<rows.length),List.map_append]
   have app:∀(a b:List (DataW Unit)),Ub (a++b)=Ub a++Ub b:=fun a b=>by
    induction a with
    | nil=>rfl
    | cons x a ih=>rw[List.cons_append,Ub,Ub,ih,List.append_assoc]
   rw[app,List.map_cons,List.map_nil,Ub,dcs,V1]
   simp[Ub]
 have h2:=key n (Nat.le_refl _)
 rw[<- hn,List.take_length]at h2
 rw[dcs,<- h2]at hv
 rw[List.getElem?_take]at hv
 split at hv
 ·exact hv
 ·cases hv
abbrev W6:Known:=⟨[0,1]⟩
theorem J0 : @KnownU8 W6:=@KnownU8.mk W6 (List.mem_cons_self ..) (List.mem_cons_of_mem _ (List.mem_cons_self ..))
def Io:List Int:=Pinned.utf8FirstZ.map Int.ofNat
def OJ:List (List Int):=[[128,191],[160,191],[128,159],[144,191],[128,143],[0,0],[0,0],[0,0],[0,0],[0,0],[0,0],[0,0],[0,0],[0,0],[0,0],[0,0]]
theorem Ip {W:World}{laid:List (String × DataW Unit)}(h1:("unicode/utf8.first",Rows.laid_unicode_utf8_first) ∈ laid)(h2:("unicode/utf8.acceptRanges",Rows.laid_unicode_utf8_acceptRanges) ∈ laid)(h:laidMet Tryd.prog laid W) : @Gls W6 (g0 W).C W:=by
 have r1:=laidMet.reads h h1
 have r2:=laidMet.reads h h2
 have c1:=Ju (P:=Tryd.prog) (g:=0) (t:=68) (by kernel_rfl) (by kernel_rfl) r1 (OH Io (by kernel_rfl) (n:=256) (by kernel_rfl) Tryd.underlying5 (by kernel_rfl) (by kernel_rfl))
 have c2:=Ju (P:=Tryd.prog) (g:=1) (t:=71) (by kernel_rfl) (by kernel_rfl) r2 (OI OJ (by kernel_rfl) (n:=16) rfl Tryd.underlying71 Tryd.underlying70 (fun i f hf=>by
  match i,hf with
  | 0,hf=>simp at hf;subst hf;exact⟨Tryd.underlying5,rfl,by kernel_rfl⟩
  | 1,hf=>simp at hf;subst hf;exact⟨Tryd.underlying5,rfl,by kernel_rfl⟩
  | i+2,hf=>simp at hf) (by kernel_rfl))
 refine⟨fun k cs hk=>?_,fun k t hk=>?_⟩
 ·obtain⟨hk,hm⟩:=hk
  simp only[QK,List.mem_cons,List.not_mem_nil,or_false,Prod.mk.injEq]at hm
  have hk:k ∈ [0,1]:=hk
  simp only[List.mem_cons,List.not_mem_nil,or_false]at hk
  clear r1 r2 h1 h2 h
  rcases hk with rfl|rfl
  all_goals repeat'(refine Or.elim hm (fun hm=>?_) (fun hm=>?_))
  all_goals first
   | (obtain⟨h,rfl⟩:=hm;exact c1)
   | (obtain⟨h,rfl⟩:=hm;exact c2)
   | (obtain⟨h,_⟩:=hm;exact absurd h (by decide))
 ·obtain⟨hk,hm⟩:=hk
  have hk:k ∈ [0,1]:=hk
  simp only[List.mem_cons,List.not_mem_nil,or_false]at hk
  simp only[Ir,List.mem_cons,List.not_mem_nil,or_false,Prod.mk.injEq]at hm
  all_goals omega
end Go.Proofs.YthdgejfglbjogaaDoor
end
section
open Go.RowKit Go.Pl Go.Av
namespace Go.Proofs.YthdgejfglbjogaaDoor
set_option maxHeartbeats 4000000
theorem OK {W:World}{v:Value}{b:List UInt8}(h:Sl Rep.byte W (· < W.heap.size) v b):V W (g0 W) [] (byE b) v:=.sl .ext _ _ (ToE.byte.sl (C:=(g0 W).C) (fun k hk o=>hk) h) trivial
theorem UL (n0:Nat)(v1:Value)(a2:ByteArray)(x1:List UInt8)(W:World)(h0:n0<18446744073709551616)(h1:Sl Rep.byte W (· < W.heap.size) v1 x1)(h2:a2.size<=maxLen)(hl:laidMet Tryd.prog Rows.cborMadeRow.laid W) :
  Calls Tryd.prog 3 #[.int .u64 (n0:Int),v1,.string a2] W fun e w'=>e=.returned (.bool true)/\Below W.heap.size W w':=by
 have hg:=Ip (laid:=Rows.cborMadeRow.laid) (by unfold Rows.cborMadeRow;repeat (first|exact List.mem_cons_self .. | apply List.mem_cons_of_mem)) (by unfold Rows.cborMadeRow;repeat (first|exact List.mem_cons_self .. | apply List.mem_cons_of_mem)) hl
 have h:=@Jt W6 J0 n0 x1 a2.data.toList h0
 refine @IL W6 Tryd.prog 3 _ (@AC.mono W6 _ _ _ _ _ _ _ h fun r b t h=>h.1) W [.int .u64 (n0:Int),v1,.string a2] hg rfl ?_
 intro j d v hd hv
 match j,hd,hv with
 | 0,hd,hv=>cases hd;cases hv;exact .int _ _
 | 1,hd,hv=>cases hd;cases hv;exact OK h1
 | 2,hd,hv=>
  cases hd;cases hv
  have h:=V.str (w:=W) (g:=g0 W) (fr:=[]) a2.data.toList (by simpa using h2)
  simpa using h
 | j+3,hd,hv=>cases hd
end Go.Proofs.YthdgejfglbjogaaDoor
end
