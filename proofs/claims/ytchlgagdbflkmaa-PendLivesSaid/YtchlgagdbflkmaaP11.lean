/- PendLives: its Len, Ready, Drop (pdgen3.py). -/
import Derived.Test.YtchlgagdbflkmaaP10
import Derived.Test.YtchlgagdbflkmaaP06
set_option linter.unusedVariables false
set_option linter.unusedSimpArgs false
section
open Go.RowKit Go.Pl Go.Av
namespace Go.Proofs.Ytchlgagdbflkmaa
set_option maxHeartbeats 4000000
theorem W7 (P:En->Bool){M:List Ev}{i:Nat}{e:Ev}(h:M[i]?=some e):ZL P 0 (M.take (i+1))=ZL P 0 (M.take i)++(match(!e.2&&P e.1) with|true=>[(i,e.1)]|false=>[]):=by
 have hi:=(List.getElem?_eq_some_iff.1 h).1
 rw[List.take_add_one,h,VZ]
 show _++ZL P (0+(M.take i).length) [e]=_
 rw[Wf,Nat.zero_add,List.length_take,Nat.min_eq_left (by omega)]
 rfl
theorem Wz (P:En->Bool):∀(M:List Ev) (k:Nat),(ZL P k M).length<=M.length
 | [],k=>Nat.le_refl _
 | e::M,k=>by
  have ih:=Wz P M (k+1)
  rw[Wf,List.length_cons]
  cases(!e.2&&P e.1)
  ·exact Nat.le_succ_of_le ih
  ·exact Nat.succ_le_succ ih
theorem Jz (M:List Ev):(Zb M).length=(ZL (fun _=>true) 0 M).length:=by
 have h:=YK (fun _=>true) M 0
 rw[List.filter_eq_self.2 (fun _ _=>rfl)]at h
 rw[<- h,List.length_map]
theorem YP [Known]:AT Try.prog 14 [.ptr 0 0] [[.sl .nil []]] [] (.int .i64 0) [[.sl .nil []]] []:=by
 refine ZF Try.func14 rfl Try.ntmps14 rfl rfl ?_
 repeat'(first|refine ZW 2 ?_|refine Yb ?_|(apply Zk Za;exact Z)|(apply Zh Za;exact Z)|(apply Zr Za;exact Z)|(apply Zd;exact Z;(first|with_reducible assumption|decide +kernel|(solve|simp only[bn])))|refine Zo Za Z Z Z Z ?_)
 all_goals(apply Yu [0] [];(apply Zm Za;exact Z);(iterate 7 exact Z))
 all_goals rfl
theorem ZE [Known](M:List Ev)(hM:M.length<=1000)(z c:Nat):AQ Try.prog 14 [.ptr 0 0] [[.bsl 1 0 M.length c],[.row z (reF M)]] (.int .i64 (((Zb M).length:Nat):Int)) [[.bsl 1 0 M.length c],[.row z (reF M)]]:=by
 rw[Jz]
 refine AQ.weak (ZF Try.func14 Z Try.ntmps14 Z Z ?_)
 repeat'(first|(apply Zh Za;exact Z))
 refine Z7 (fun k tm bx fr=>∃ i:Nat,k+i=M.length/\tm=[(0,.ptr 0 0),(3,.int .i64 (((ZL (fun _=>true) 0 (M.take i)).length:Nat):Int)),(4,.int .i64 (i:Int))]/\bx=[[.bsl 1 0 M.length c],[.row z (reF M)]]/\fr=[]) (M.length+1) (Lands.mk' (m:=M.length) (Nat.lt_succ_self _) ⟨0,rfl,rfl,rfl,rfl⟩ ?_ rfl rfl rfl rfl rfl rfl) ?_
 ·exact .cons rfl (.cons rfl (.cons rfl .nil))
 rintro k tm bx fr ⟨i,hk,rfl,rfl,rfl⟩
 rcases Nat.lt_or_ge i M.length with hlt|hge
 ·skip
  have hd:decide ((i:Int)<((M.length:Nat):Int))=true:=decide_eq_true (by omega)
  have hlt2:(i:Int)<((M.length:Nat):Int):=of_decide_eq_true hd
  obtain⟨e,he⟩:∃ e,M[i]?=some e:=⟨_,List.getElem?_eq_getElem hlt⟩
  have ei:IntKind.i64.wrap ((i:Int)+1)=((i+1:Nat):Int):=by rw[IntWalk.i64_in _ (by omega)];omega
  have h3:(reF M)[((i:Nat):Int).toNat*4+3]?=some (.bool e.2):=by rw[Int.toNat_natCast,We 3 he (by decide)];rfl
  have hs:=W7 (fun _=>true) he
  have hl0:=Wz (fun _=>true) (M.take i) 0
  rw[List.length_take]at hl0
  have en:IntKind.i64.wrap ((((ZL (fun _=>true) 0 (M.take i)).length:Nat):Int)+1)=(((ZL (fun _=>true) 0 (M.take i)).length+1:Nat):Int):=by rw[IntWalk.i64_in _ (by omega)];omega
  cases hg:e.2 with
  | true=>
   rw[hg]at h3 hs
   simp only[Bool.not_true,Bool.false_and,List.append_nil]at hs
   repeat'(first|refine Zx Za Z Z Z Z ?_|refine ZU Za Z Z Z Z Z Z (Int.natCast_nonneg _) hlt2 Z ?_|(apply ZI Za;(iterate 4 exact Z);(first|exact h3);exact Z;exact Z)|rw[ei]|(apply Zk Za;exact Z)|(apply Zh Za;exact Z)|(apply Zr Za;exact Z)|refine ZQ Za Z Z Z Z Z Z Z ?_|(apply Zf;exact Z;(first|with_reducible assumption|decide +kernel|(solve|simp only[bn])))|(apply Zd;exact Z;(first|with_reducible assumption|decide +kernel|(solve|simp only[bn]))))
   refine Lands.mk' (m:=k-1) (by omega) ⟨i+1,by omega,rfl,rfl,rfl⟩ ?_ rfl rfl rfl rfl rfl rfl
   exact .cons rfl (.cons (by rw[hs];rfl) (.cons rfl .nil))
  | false=>
   rw[hg]at h3 hs
   simp only[Bool.not_false,Bool.true_and]at hs
   repeat'(first|refine Zx Za Z Z Z Z ?_|refine ZU Za Z Z Z Z Z Z (Int.natCast_nonneg _) hlt2 Z ?_|(apply ZI Za;(iterate 4 exact Z);(first|exact h3);exact Z;exact Z)|rw[ei]|rw[en]|(apply Zk Za;exact Z)|(apply Zh Za;exact Z)|(apply Zr Za;exact Z)|refine ZQ Za Z Z Z Z Z Z Z ?_|(apply Zf;exact Z;(first|with_reducible assumption|decide +kernel|(solve|simp only[bn]))))
   refine Lands.mk' (m:=k-1) (by omega) ⟨i+1,by omega,rfl,rfl,rfl⟩ ?_ rfl rfl rfl rfl rfl rfl
   exact .cons rfl (.cons (by rw[hs,List.length_append];rfl) (.cons rfl .nil))
 ·have hd:decide ((i:Int)<((M.length:Nat):Int))=false:=decide_eq_false (by omega)
  repeat'(first|refine Zx Za Z Z Z Z ?_|(apply Zk Za;exact Z)|(apply Zh Za;exact Z)|(apply Zr Za;exact Z)|(apply Zd;exact Z;(first|with_reducible assumption|decide +kernel|(solve|simp only[bn]))))
  all_goals(apply Wp [0,1];(apply Zm Za;exact Z);(iterate 4 exact Z))
  all_goals first|rfl|(rw[List.take_of_length_le hge])
theorem QT [Known](n:Int):AT Try.prog 9 [.ptr 0 0,.int .i64 n] [[.sl .nil []]] [] (.sl .nil []) [[.sl .nil []]] []:=by
 refine ZF Try.func9 rfl Try.ntmps9 rfl rfl ?_
 repeat'(first|refine ZW 2 ?_|refine Yb ?_|(apply Zk Za;exact Z)|(apply Zh Za;exact Z)|(apply Zr Za;exact Z)|(apply Zd;exact Z;(first|with_reducible assumption|decide +kernel|(solve|simp only[bn])))|refine Zo Za Z Z Z Z ?_)
 all_goals(apply Yu [0] [];(apply Zm Za;exact Z);(iterate 7 exact Z))
 all_goals rfl
theorem WV [Known](n:Int)(M:List Ev)(hM:M.length<=1000)(z c:Nat):AQ Try.prog 9 [.ptr 0 0,.int .i64 n] [[.bsl 1 0 M.length c],[.row z (reF M)]] (.sl .ext ((ZL (fun x=>decide (x.need<=n)) 0 M).map fun p=>E.int .i64 (p.1:Int))) [[.bsl 1 0 M.length c],[.row z (reF (Zu (fun x=>decide (x.need<=n)) M))]]:=by
 obtain⟨P,hP⟩:∃ P:En->Bool,P=(fun x=>decide (x.need<=n)):=⟨_,rfl⟩
 rw[<- hP]
 have hPx:∀ x:En,P x=(decide (x.need<=n)):=fun x=>by rw[hP]
 clear hP
 refine AQ.weak (ZF Try.func9 Z Try.ntmps9 Z Z ?_)
 repeat'(first|(apply Zh Za;exact Z))
 refine Z7 (fun k tm bx fr=>∃(i:Nat) (od:D),k+i=M.length/\tm=[(0,.ptr 0 0),(1,.int .i64 n),(5,od),(6,.int .i64 (i:Int))]/\bx=[[.bsl 1 0 M.length c],[.row z (reF (YL P M i))]]/\((ZL P 0 (M.take i)=[]/\od=.sl .nil []/\fr=[])\/(ZL P 0 (M.take i) ≠ []/\od=.sl (.own 1) ((ZL P 0 (M.take i)).map fun p=>E.int .i64 (p.1:Int))/\fr=[⟨1,1,3⟩,⟨(ZL P 0 (M.take i)).length,1,3⟩]))) (M.length+1) (Lands.mk' (m:=M.length) (Nat.lt_succ_self _) ⟨0,.sl .nil [],rfl,rfl,by rw[UG],.inl ⟨rfl,rfl,rfl⟩⟩ ?_ rfl rfl rfl rfl rfl rfl) ?_
 ·exact .cons rfl (.cons rfl (.cons rfl (.cons rfl .nil)))
 rintro k tm bx fr ⟨i,od,hk,rfl,rfl,hst⟩
 have hml:=Qr P M i
 rcases Nat.lt_or_ge i M.length with hlt|hge
 ·skip
  have hd:decide ((i:Int)<((M.length:Nat):Int))=true:=decide_eq_true (by omega)
  have hlt2:(i:Int)<((M.length:Nat):Int):=of_decide_eq_true hd
  obtain⟨e,he⟩:∃ e,M[i]?=some e:=⟨_,List.getElem?_eq_getElem hlt⟩
  have ei:IntKind.i64.wrap ((i:Int)+1)=((i+1:Nat):Int):=by rw[IntWalk.i64_in _ (by omega)];omega
  have hm:=(Ug P hlt).trans he
  have h0:(reF (YL P M i))[((i:Nat):Int).toNat*4]?=some (.int .i64 e.1.who):=by rw[Int.toNat_natCast];have:=We 0 hm (by decide);rw[Nat.add_zero]at this;rw[this];rfl
  have h2:(reF (YL P M i))[((i:Nat):Int).toNat*4+2]?=some (.int .i64 e.1.need):=by rw[Int.toNat_natCast,We 2 hm (by decide)];rfl
  have h3:(reF (YL P M i))[((i:Nat):Int).toNat*4+3]?=some (.bool e.2):=by rw[Int.toNat_natCast,We 3 hm (by decide)];rfl
  have hs:=W7 P he
  have hl0:=Wz P (M.take i) 0
  rw[List.length_take]at hl0
  have hsk:=UH P he
  have hnx:=Vz P he
  have hle:((i:Nat):Int).toNat*4+3 + [E.bool true].length<=(reF (YL P M i)).length:=by rw[Int.toNat_natCast,Vg,hml];simp;omega
  have hst0:Z2 (reF (YL P M i)) (((i:Nat):Int).toNat*4+3) [.bool true]=reF ((YL P M i).set i (e.1,true)):=by rw[Int.toNat_natCast];exact U6 hm
  obtain⟨x,g⟩:=e
  dsimp only at h0 h2 h3 hs hsk hnx hst0
  have hpx:=(hPx x).symm
  cases g with
  | true=>
   simp only[Bool.not_true,Bool.false_and,List.append_nil,true_implies]at hs hsk
   rcases hst with⟨hz,rfl,rfl⟩ | ⟨hz,rfl,rfl⟩
   all_goals
    repeat'(first|refine Zx Za Z Z Z Z ?_|refine ZU Za Z Z Z Z Z Z (Int.natCast_nonneg _) hlt2 Z ?_|(apply ZI Za;(iterate 4 exact Z);(first|exact h3|exact h2|exact h0);exact Z;exact Z)|rw[ei]|(apply Zk Za;exact Z)|(apply Zh Za;exact Z)|(apply Zr Za;exact Z)|refine ZQ Za Z Z Z Z Z Z Z ?_|(apply Yl;(iterate 3 exact Z);(first|with_reducible assumption|decide +kernel|(solve|simp only[bn])))|(apply Zj;exact Z;(first|with_reducible assumption|decide +kernel|(solve|simp only[bn]));exact Z;exact Z)|(apply Zf;exact Z;(first|with_reducible assumption|decide +kernel|(solve|simp only[bn])))|(apply Zd;exact Z;(first|with_reducible assumption|decide +kernel|(solve|simp only[bn]))))
    refine Lands.mk' (m:=k-1) (by omega) ⟨i+1,_,by omega,rfl,by rw[hsk],by rw[hs];first|exact .inl ⟨hz,rfl,rfl⟩ | exact .inr ⟨hz,rfl,rfl⟩⟩ ?_ rfl rfl rfl rfl rfl rfl
    exact .cons rfl (.cons rfl (.cons rfl (.cons rfl .nil)))
  | false=>
   simp only[Bool.not_false,Bool.true_and,Bool.false_or]at hs hsk hnx
   cases hp:P x with
   | true=>
    rw[hp]at hs hnx hpx
    simp only at hs
    have hst1:=hst0
    rw[<- hnx]at hst1
    rcases hst with⟨hz,rfl,rfl⟩ | ⟨hz,rfl,rfl⟩
    ·repeat'(first|refine Zx Za Z Z Z Z ?_|refine ZU Za Z Z Z Z Z Z (Int.natCast_nonneg _) hlt2 Z ?_|(apply ZI Za;(iterate 4 exact Z);(first|exact h3|exact h2|exact h0);exact Z;exact Z)|refine Z6 Za Z Z Z Z Z Z hle hst1 Z ?_|rw[ei]|refine Z1 Za Z Z Z Z Z Z (Zg rfl) (List.cons_ne_nil _ _) Z Qd Qd Z Z Z ?_|(apply Zk Za;exact Z)|(apply Zh Za;exact Z)|(apply Zr Za;exact Z)|refine ZQ Za Z Z Z Z Z Z Z ?_|(apply Ze;(iterate 3 exact Z);(first|with_reducible assumption|decide +kernel|(solve|simp only[bn])))|(apply Zl;exact Z;(first|with_reducible assumption|decide +kernel|(solve|simp only[bn]));exact Z;exact Z)|(apply Zf;exact Z;(first|with_reducible assumption|decide +kernel|(solve|simp only[bn])))|refine ZY Za Z Z Z Z Z Z Z Z Z Z Z Z ?_)
     ·refine Lands.mk' (m:=k-1) (fr:=[⟨1,1,3⟩,⟨1,1,3⟩]) (by omega) ⟨i+1,.sl (.own 1) [E.int .i64 (i:Int)],by omega,rfl,rfl,.inr ⟨by rw[hs];simp,by rw[hs,hz];try rfl,by rw[hs,hz];try rfl⟩⟩ ?_ rfl rfl rfl rfl rfl rfl
      exact .cons rfl (.cons rfl (.cons rfl (.cons rfl .nil)))
     all_goals first|(show 1<=maxLen;decide)|(show 1*8<=140737488355328;decide)
    ·have hhm:((ZL P 0 (M.take i)).map fun p=>E.int .i64 (p.1:Int)).length=(ZL P 0 (M.take i)).length:=List.length_map ..
     have hUh:Uni 1 ((ZL P 0 (M.take i)).map fun p=>E.int .i64 (p.1:Int)):=Uni.map (f:=fun p:Nat × En=>E.int .i64 (p.1:Int)) (fun _=>rfl) _
     repeat'(first|refine Zx Za Z Z Z Z ?_|refine ZU Za Z Z Z Z Z Z (Int.natCast_nonneg _) hlt2 Z ?_|(apply ZI Za;(iterate 4 exact Z);(first|exact h3|exact h2|exact h0);exact Z;exact Z)|refine Z6 Za Z Z Z Z Z Z hle hst1 Z ?_|rw[ei]|(apply Zk Za;exact Z)|(apply Zh Za;exact Z)|(apply Zr Za;exact Z)|refine ZQ Za Z Z Z Z Z Z Z ?_|(apply Ze;(iterate 3 exact Z);(first|with_reducible assumption|decide +kernel|(solve|simp only[bn])))|(apply Zl;exact Z;(first|with_reducible assumption|decide +kernel|(solve|simp only[bn]));exact Z;exact Z)|(apply Zf;exact Z;(first|with_reducible assumption|decide +kernel|(solve|simp only[bn])))|refine ZY Za Z Z Z Z Z Z Z Z Z Z Z Z ?_|(apply Yr Za;(iterate 6 exact Z);(first|with_reducible assumption|decide +kernel|exact Z|rotate_left);exact Z;exact Z;(first|exact Zg rfl|with_reducible assumption|decide +kernel|rotate_left);(first|exact Zg rfl|with_reducible assumption|decide +kernel|rotate_left);(first|exact Qt|rotate_left);(first|exact Qt|rotate_left);(first|exact Qt|rotate_left);exact Z;exact Z))
     ·refine Lands.mk' (m:=k-1) (by omega) ⟨i+1,.sl (.own 1) ((ZL P 0 (M.take (i+1))).map fun p=>E.int .i64 (p.1:Int)),by omega,rfl,rfl,.inr ⟨by rw[hs];simp,rfl,rfl⟩⟩ ?_ rfl (by rw[hs,List.length_append,<- hhm];rfl) rfl rfl rfl rfl
      exact .cons rfl (.cons rfl (.cons (by rw[hs,List.map_append];rfl) (.cons rfl .nil)))
     all_goals first|(show((ZL P 0 (M.take i)).map fun p=>E.int .i64 (p.1:Int)).length+1<=maxLen;rw[hhm];unfold maxLen;omega)|(show(((ZL P 0 (M.take i)).map fun p=>E.int .i64 (p.1:Int)).length+1)*8<=140737488355328;rw[hhm];omega)|exact hhm.symm
   | false=>
    rw[hp]at hs hpx
    simp only[List.append_nil]at hs
    have hsk:=hsk hp
    rcases hst with⟨hz,rfl,rfl⟩ | ⟨hz,rfl,rfl⟩
    all_goals
     repeat'(first|refine Zx Za Z Z Z Z ?_|refine ZU Za Z Z Z Z Z Z (Int.natCast_nonneg _) hlt2 Z ?_|(apply ZI Za;(iterate 4 exact Z);(first|exact h3|exact h2|exact h0);exact Z;exact Z)|rw[ei]|(apply Zk Za;exact Z)|(apply Zh Za;exact Z)|(apply Zr Za;exact Z)|refine ZQ Za Z Z Z Z Z Z Z ?_|(apply Ze;(iterate 3 exact Z);(first|with_reducible assumption|decide +kernel|(solve|simp only[bn])))|(apply Zl;exact Z;(first|with_reducible assumption|decide +kernel|(solve|simp only[bn]));exact Z;exact Z)|(apply Zf;exact Z;(first|with_reducible assumption|decide +kernel|(solve|simp only[bn])))|(apply Zd;exact Z;(first|with_reducible assumption|decide +kernel|(solve|simp only[bn]))))
     refine Lands.mk' (m:=k-1) (by omega) ⟨i+1,_,by omega,rfl,by rw[hsk],by rw[hs];first|exact .inl ⟨hz,rfl,rfl⟩ | exact .inr ⟨hz,rfl,rfl⟩⟩ ?_ rfl rfl rfl rfl rfl rfl
     exact .cons rfl (.cons rfl (.cons rfl (.cons rfl .nil)))
 ·have hd:decide ((i:Int)<((M.length:Nat):Int))=false:=decide_eq_false (by omega)
  have hii:i=M.length:=by omega
  rcases hst with⟨hz,rfl,rfl⟩ | ⟨hz,rfl,rfl⟩
  all_goals
   subst hii
   rw[List.take_length]at hz
   rw[Uc]
   repeat'(first|refine Zx Za Z Z Z Z ?_|(apply Zk Za;exact Z)|(apply Zh Za;exact Z)|(apply Zr Za;exact Z)|(apply Zd;exact Z;(first|with_reducible assumption|decide +kernel|(solve|simp only[bn]))))
   all_goals(apply Wp [0,1];(apply Zm Za;exact Z);(iterate 4 exact Z))
   all_goals first|rfl|(rw[hz];rfl)|(rw[List.take_length])
theorem UI [Known](n:Int):AT Try.prog 11 [.ptr 0 0,.int .i64 n] [[.sl .nil []]] [] (.int .i64 0) [[.sl .nil []]] []:=by
 refine ZF Try.func11 rfl Try.ntmps11 rfl rfl ?_
 repeat'(first|refine ZW 2 ?_|refine Yb ?_|(apply Zk Za;exact Z)|(apply Zh Za;exact Z)|(apply Zr Za;exact Z)|(apply Zd;exact Z;(first|with_reducible assumption|decide +kernel|(solve|simp only[bn])))|refine Zo Za Z Z Z Z ?_)
 all_goals(apply Yu [0] [];(apply Zm Za;exact Z);(iterate 7 exact Z))
 all_goals rfl
theorem Vh [Known](n:Int)(M:List Ev)(hM:M.length<=1000)(z c:Nat):AQ Try.prog 11 [.ptr 0 0,.int .i64 n] [[.bsl 1 0 M.length c],[.row z (reF M)]] (.int .i64 (((ZL (fun x=>n==0||x.who==n) 0 M).length:Nat):Int)) [[.bsl 1 0 M.length c],[.row z (reF (Zu (fun x=>n==0||x.who==n) M))]]:=by
 obtain⟨P,hP⟩:∃ P:En->Bool,P=(fun x=>n==0||x.who==n):=⟨_,rfl⟩
 rw[<- hP]
 have hPx:∀ x:En,P x=(n==0||x.who==n):=fun x=>by rw[hP]
 clear hP
 refine AQ.weak (ZF Try.func11 Z Try.ntmps11 Z Z ?_)
 repeat'(first|(apply Zh Za;exact Z))
 refine Z7 (fun k tm bx fr=>∃ i:Nat,k+i=M.length/\tm=[(0,.ptr 0 0),(1,.int .i64 n),(5,.int .i64 (((ZL P 0 (M.take i)).length:Nat):Int)),(6,.int .i64 (i:Int))]/\bx=[[.bsl 1 0 M.length c],[.row z (reF (YL P M i))]]/\fr=[]) (M.length+1) (Lands.mk' (m:=M.length) (Nat.lt_succ_self _) ⟨0,rfl,rfl,by rw[UG],rfl⟩ ?_ rfl rfl rfl rfl rfl rfl) ?_
 ·exact .cons rfl (.cons rfl (.cons rfl (.cons rfl .nil)))
 rintro k tm bx fr ⟨i,hk,rfl,rfl,rfl⟩
 have hml:=Qr P M i
 rcases Nat.lt_or_ge i M.length with hlt|hge
 ·skip
  have hd:decide ((i:Int)<((M.length:Nat):Int))=true:=decide_eq_true (by omega)
  have hlt2:(i:Int)<((M.length:Nat):Int):=of_decide_eq_true hd
  obtain⟨e,he⟩:∃ e,M[i]?=some e:=⟨_,List.getElem?_eq_getElem hlt⟩
  have ei:IntKind.i64.wrap ((i:Int)+1)=((i+1:Nat):Int):=by rw[IntWalk.i64_in _ (by omega)];omega
  have hm:=(Ug P hlt).trans he
  have h0:(reF (YL P M i))[((i:Nat):Int).toNat*4]?=some (.int .i64 e.1.who):=by rw[Int.toNat_natCast];have:=We 0 hm (by decide);rw[Nat.add_zero]at this;rw[this];rfl
  have h2:(reF (YL P M i))[((i:Nat):Int).toNat*4+2]?=some (.int .i64 e.1.need):=by rw[Int.toNat_natCast,We 2 hm (by decide)];rfl
  have h3:(reF (YL P M i))[((i:Nat):Int).toNat*4+3]?=some (.bool e.2):=by rw[Int.toNat_natCast,We 3 hm (by decide)];rfl
  have hs:=W7 P he
  have hl0:=Wz P (M.take i) 0
  rw[List.length_take]at hl0
  have hsk:=UH P he
  have hnx:=Vz P he
  have hle:((i:Nat):Int).toNat*4+3 + [E.bool true].length<=(reF (YL P M i)).length:=by rw[Int.toNat_natCast,Vg,hml];simp;omega
  have hst0:Z2 (reF (YL P M i)) (((i:Nat):Int).toNat*4+3) [.bool true]=reF ((YL P M i).set i (e.1,true)):=by rw[Int.toNat_natCast];exact U6 hm
  obtain⟨x,g⟩:=e
  dsimp only at h0 h2 h3 hs hsk hnx hst0
  have hpx:=(hPx x).symm
  cases g with
  | true=>
   simp only[Bool.not_true,Bool.false_and,List.append_nil,true_implies]at hs hsk
   cases hz0:(n==0)
   all_goals
    repeat'(first|refine Zx Za Z Z Z Z ?_|refine ZU Za Z Z Z Z Z Z (Int.natCast_nonneg _) hlt2 Z ?_|(apply ZI Za;(iterate 4 exact Z);(first|exact h3|exact h2|exact h0);exact Z;exact Z)|rw[ei]|(apply Zk Za;exact Z)|(apply Zh Za;exact Z)|(apply Zr Za;exact Z)|refine ZQ Za Z Z Z Z Z Z Z ?_|(apply Yl;(iterate 3 exact Z);(first|with_reducible assumption|decide +kernel|(solve|simp only[bn])))|refine QK Z Z Z ?_|(apply Zj;exact Z;(first|with_reducible assumption|decide +kernel|(solve|simp only[bn]));exact Z;exact Z)|(apply Zf;exact Z;(first|with_reducible assumption|decide +kernel|(solve|simp only[bn])))|(apply Zd;exact Z;(first|with_reducible assumption|decide +kernel|(solve|simp only[bn]))))
    refine Lands.mk' (m:=k-1) (by omega) ⟨i+1,by omega,rfl,by rw[hsk],rfl⟩ ?_ rfl rfl rfl rfl rfl rfl
    exact .cons rfl (.cons rfl (.cons (by rw[hs];rfl) (.cons rfl .nil)))
  | false=>
   simp only[Bool.not_false,Bool.true_and,Bool.false_or]at hs hsk hnx
   cases hp:P x with
   | true=>
    rw[hp]at hs hnx hpx
    simp only at hs
    have hst1:=hst0
    rw[<- hnx]at hst1
    cases hz0:(n==0)
    all_goals
     rw[hz0]at hpx
     try simp only[Bool.false_or]at hpx
     have en:IntKind.i64.wrap ((((ZL P 0 (M.take i)).length:Nat):Int)+1)=(((ZL P 0 (M.take i)).length+1:Nat):Int):=by rw[IntWalk.i64_in _ (by omega)];omega
     repeat'(first|refine Zx Za Z Z Z Z ?_|refine ZU Za Z Z Z Z Z Z (Int.natCast_nonneg _) hlt2 Z ?_|(apply ZI Za;(iterate 4 exact Z);(first|exact h3|exact h2|exact h0);exact Z;exact Z)|refine Z6 Za Z Z Z Z Z Z hle hst1 Z ?_|rw[ei]|rw[en]|(apply Zk Za;exact Z)|(apply Zh Za;exact Z)|(apply Zr Za;exact Z)|refine ZQ Za Z Z Z Z Z Z Z ?_|(apply Ze;(iterate 3 exact Z);(first|with_reducible assumption|decide +kernel|(solve|simp only[bn])))|(apply Ym;(iterate 3 exact Z);(first|with_reducible assumption|decide +kernel|(solve|simp only[bn])))|(apply Zl;exact Z;(first|with_reducible assumption|decide +kernel|(solve|simp only[bn]));exact Z;exact Z)|(apply Zj;exact Z;(first|with_reducible assumption|decide +kernel|(solve|simp only[bn]));exact Z;exact Z)|(apply Zf;exact Z;(first|with_reducible assumption|decide +kernel|(solve|simp only[bn]))))
     refine Lands.mk' (m:=k-1) (by omega) ⟨i+1,by omega,rfl,rfl,rfl⟩ ?_ rfl rfl rfl rfl rfl rfl
     exact .cons rfl (.cons rfl (.cons (by rw[hs,List.length_append];rfl) (.cons rfl .nil)))
   | false=>
    rw[hp]at hs hpx
    simp only[List.append_nil]at hs
    have hsk:=hsk hp
    rw[Bool.or_eq_false_iff]at hpx
    obtain⟨hz0,hw0⟩:=hpx
    repeat'(first|refine Zx Za Z Z Z Z ?_|refine ZU Za Z Z Z Z Z Z (Int.natCast_nonneg _) hlt2 Z ?_|(apply ZI Za;(iterate 4 exact Z);(first|exact h3|exact h2|exact h0);exact Z;exact Z)|rw[ei]|(apply Zk Za;exact Z)|(apply Zh Za;exact Z)|(apply Zr Za;exact Z)|refine ZQ Za Z Z Z Z Z Z Z ?_|(apply Ze;(iterate 3 exact Z);(first|with_reducible assumption|decide +kernel|(solve|simp only[bn])))|(apply Zl;exact Z;(first|with_reducible assumption|decide +kernel|(solve|simp only[bn]));exact Z;exact Z)|(apply Zj;exact Z;(first|with_reducible assumption|decide +kernel|(solve|simp only[bn]));exact Z;exact Z)|(apply Zf;exact Z;(first|with_reducible assumption|decide +kernel|(solve|simp only[bn])))|(apply Zd;exact Z;(first|with_reducible assumption|decide +kernel|(solve|simp only[bn]))))
    refine Lands.mk' (m:=k-1) (by omega) ⟨i+1,by omega,rfl,by rw[hsk],rfl⟩ ?_ rfl rfl rfl rfl rfl rfl
    exact .cons rfl (.cons rfl (.cons (by rw[hs];rfl) (.cons rfl .nil)))
 ·have hd:decide ((i:Int)<((M.length:Nat):Int))=false:=decide_eq_false (by omega)
  have hii:i=M.length:=by omega
  subst hii
  rw[List.take_length,Uc]
  repeat'(first|refine Zx Za Z Z Z Z ?_|(apply Zk Za;exact Z)|(apply Zh Za;exact Z)|(apply Zr Za;exact Z)|(apply Zd;exact Z;(first|with_reducible assumption|decide +kernel|(solve|simp only[bn]))))
  all_goals(apply Wp [0,1];(apply Zm Za;exact Z);(iterate 4 exact Z))
  all_goals rfl
end Go.Proofs.Ytchlgagdbflkmaa
end
section
open Go.RowKit Go.Pl
namespace Go.Av
theorem UJ (f h:Nat->Option Nat):∀(tm:List (Nat × D)) (t:Nat),look (tm.map fun p=>(p.1,p.2.ren f h)) t=(look tm t).ren f h
 | [],t=>rfl
 | (x,d)::l,t=>by
  simp only[List.map_cons,Go.Av.look]
  cases hb:Nat.beq x t with
  | true=>rfl
  | false=>exact UJ f h l t
theorem Inv.sel [Known][Dfr]{b0:Bs}{n:Nat}{ee:Nat × Nat}{tm:List (Nat × D)}{bx:List (List D)}{fr:List Fr}{g:G}{a:Act}{w:World}{bs ts:List Nat}(h:Inv b0 ⟨n,tm,bx,fr,ee⟩ g a w)(hb:Yj bs bx.length)(ht:Yj ts fr.length)
  (hk:∀ i,i<ee.1->bs[i]?=some i) (hm:∀ i,i<ee.2->ts[i]?=some i):Inv b0 ⟨n,tm.map fun p=>(p.1,p.2.ren (idx bs) (idx ts)),Wk bs ts bx,YV ts fr,ee⟩ (g.sel bs ts) a w:=by
 have hM:=h.mem
 have hbd:=h.bd
 dsimp only at hM hbd
 refine⟨h.size,h.defers,hM.sel hb ht,fun t=>?_,?_,h.bd⟩
 ·dsimp only
  rw[UJ]
  exact V.sel hM hb ht (h.tm t)
 ·have he:=h.evo
  refine⟨he.os,he.tape,he.output,he.size,he.block,he.C,he.cell,he.newC,fun i b hi=>?_,fun b hb'=>?_,fun b c hb'=>?_,fun i f hf=>?_⟩
  ·have h1:=(List.getElem?_eq_some_iff.1 hi).1
   have h2:=he.ρp i b hi
   show(bs.map fun i=>g.ρ.getD i 0)[i]?=some b
   rw[List.getElem?_map,hk i (by omega)]
   have h2:g.ρ[i]?=some b:=h2
   simp[List.getD,h2]
  ·obtain⟨i,hi⟩:=List.getElem?_of_mem hb'
   obtain⟨j,_,hj⟩:=WB hM hb hi
   exact he.ρn b (List.mem_of_getElem? hj)
  ·obtain⟨i,hi⟩:=List.getElem?_of_mem hb'
   obtain⟨j,_,hj⟩:=WK hM ht hi
   exact he.τn b c (List.mem_of_getElem? hj)
  ·have h1:=(List.getElem?_eq_some_iff.1 hf).1
   obtain⟨f',q1,q2,q3⟩:=he.tok i f hf
   have q1:fr[i]?=some f':=q1
   refine⟨f',?_,q2,fun e=>?_⟩
   ·show(ts.map fun i=>fr.getD i default)[i]?=some f'
    rw[List.getElem?_map,hm i (by omega)]
    simp[List.getD,q1]
   ·have q3:=q3 e
    show(ts.map fun i=>g.τ.getD i (0,0))[i]?=_
    rw[<- q3,List.getElem?_map,hm i (by omega)]
    have hl:i<g.τ.length:=by rw[hM.tl];exact(List.getElem?_eq_some_iff.1 q1).1
    show some (g.τ.getD i (0,0))=g.τ[i]?
    exact(getD_some hl).symm
def WI (l:List Nat):Nat->Bool
 | 0=>true
 | k+1=>(l[k]? == some k)&&WI l k
theorem W8 {l:List Nat}:∀ {k:Nat},WI l k=true->∀ i,i<k->l[i]?=some i
 | 0,_,i,hi=>by omega
 | k+1,h,i,hi=>by
  simp only[WI,Bool.and_eq_true,beq_iff_eq]at h
  rcases Nat.lt_or_ge i k with h1|h1
  ·exact W8 h.2 i h1
  ·have:i=k:=by omega
   subst this
   exact h.1
structure LandS (J:Nat->List (Nat × D)->List (List D)->List Fr->Prop) (n:Nat) (ee:Nat × Nat) (k:Nat) (S:St):Prop where
 out:∃ m bs ts tm tm1 bx fr,m<k/\J m tm bx fr/\S.n=n/\S.e=ee/\YC bs S.bx.length=true/\YC ts S.fr.length=true/\WI bs ee.1=true/\WI ts ee.2=true/\Sub S.tm tm1/\(tm1.map fun p=>(p.1,p.2.ren (idx bs) (idx ts)))=tm/\Wk bs ts S.bx=bx/\YV ts S.fr=fr
theorem LandS.mk' {J:Nat->List (Nat × D)->List (List D)->List Fr->Prop}{n k m:Nat}{ee:Nat × Nat}{tm0 tm tm1:List (Nat × D)}{bx0 bx:List (List D)}{fr0 fr:List Fr}(bs ts:List Nat)(hm:m<k)(hJ:J m tm bx fr)(h1:YC bs bx0.length=true)(h2:YC ts fr0.length=true)(h3:WI bs ee.1=true)(h4:WI ts ee.2=true)
  (hs:Sub tm0 tm1) (ht:(tm1.map fun p=>(p.1,p.2.ren (idx bs) (idx ts)))=tm) (hbx:Wk bs ts bx0=bx) (hfr:YV ts fr0=fr):LandS J n ee k ⟨n,tm0,bx0,fr0,ee⟩:=
 ⟨m,bs,ts,tm,tm1,bx,fr,hm,hJ,rfl,rfl,h1,h2,h3,h4,hs,ht,hbx,hfr⟩
theorem LandS.inv [Known][Dfr]{J:Nat->List (Nat × D)->List (List D)->List Fr->Prop}{n k:Nat}{ee:Nat × Nat}{S:St}(h:LandS J n ee k S){b0:Bs}{g:G}{a:Act}{w:World}(hi:Inv b0 S g a w):∃ m,m<k/\∃ tm bx fr g',J m tm bx fr/\Inv b0 ⟨n,tm,bx,fr,ee⟩ g' a w:=by
 obtain⟨m,bs,ts,tm,tm1,bx,fr,h1,h2,h3,h4,h5,h6,h7,h8,h9,h10,h11,h12⟩:=h.out
 obtain⟨n',tm',bx',fr',ee'⟩:=S
 dsimp only at h3 h4 h5 h6 h9 h11 h12
 subst h3 h4
 have:=(hi.sub h9).sel (Yc h5) (Yc h6) (W8 h7) (W8 h8)
 rw[h10,h11,h12]at this
 exact⟨m,h1,tm,bx,fr,_,h2,this⟩
theorem UK [Known][Dfr]{P:Program}{Q:X->St->Prop}{c:Code}{n:Nat}{ee:Nat × Nat}{tm0:List (Nat × D)}{bx0:List (List D)}{fr0:List Fr}(J:Nat->List (Nat × D)->List (List D)->List Fr->Prop)
  (k0:Nat) (h0:LandS J n ee k0 ⟨n,tm0,bx0,fr0,ee⟩) (hr:∀ k tm bx fr,J k tm bx fr->AW P c ⟨n,tm,bx,fr,ee⟩ (X.then (LandS J n ee k) Q)):AW P (.loop c) ⟨n,tm0,bx0,fr0,ee⟩ Q:=by
 refine⟨fun b0 g a w hi=>?_⟩
 obtain⟨m,_,tm,bx,fr,g',hJ,hi'⟩:=h0.inv hi
 refine wp_loop_ghost (fun k a w=>∃ tm bx fr g,J k tm bx fr/\Inv b0 ⟨n,tm,bx,fr,ee⟩ g a w) m ⟨tm,bx,fr,g',hJ,hi'⟩ fun k a w hI=>?_
 obtain⟨tm,bx,fr,g,hJ,hi⟩:=hI
 refine wp_mono ((hr k tm bx fr hJ).run b0 g a w hi) fun e a w hc=>?_
 cases e<;>simp only[Wm,X.then,Exit.then]at hc ⊢
 ·obtain⟨S',g',hi',hL⟩:=hc
  obtain⟨m,hm,tm,bx,fr,g',hJ,hi'⟩:=hL.inv hi'
  exact⟨m,hm,tm,bx,fr,g',hJ,hi'⟩
 all_goals exact hc
end Go.Av
end
