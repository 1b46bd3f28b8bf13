/- History: copies; New, Len, Safe, Sure, Tell (hsgen.py). -/
import Derived.Test.YtchlgagdbflkmaaGreatDoorK34
import Derived.Test.YtchlgagdbflkmaaGreatDoorK12
import Derived.Test.YtchlgagdbflkmaaGreatDoorK32
import Derived.Test.YtchlgagdbflkmaaGreatDoorK13
import Derived.Laws.BitsAllLaws
set_option linter.unusedVariables false
set_option linter.unusedSimpArgs false
section
open Go.RowKit Go.Pl Go.Av
namespace Go.Proofs.YtchlgagdbflkmaaGreatDoor
set_option maxHeartbeats 4000000
theorem UA [Known](x:Ln)(hk:Vb x):AP Tryz.prog 62 [.agg (lnC x)] (.agg (lnC x)) []:=by
 have h1:=Vh x.e.data (by have:=hk;unfold Vb at this;omega)
 have h2:=Vh x.e.rq.pay (by have:=hk;unfold Vb at this;omega)
 have h3:=Vh x.r.data (by have:=hk;unfold Vb at this;omega)
 refine AP.ofA (Zl Tryz.func62 Z Tryz.ntmps62 Z Z ?_)
 repeat'(first|(apply Zb (h1);kernel_rfl;(iterate 4 exact Z))|(apply Zb (h2);kernel_rfl;(iterate 4 exact Z))|(apply Zb (h3);kernel_rfl;(iterate 4 exact Z))|(apply Zg Za;exact Z)|(apply Zh Za;exact Z))
 all_goals exact Qe
theorem MH [Known]:AT Tryz.prog 26 [] [] [] (.ptr 0 0) hsN []:=by
 refine Zl Tryz.func26 rfl Tryz.ntmps26 rfl rfl ?_
 repeat'(first|(apply Zh Za;exact Z))
 all_goals(apply Wg [0] [];(apply Zc Za;exact Z);(iterate 7 exact Z))
 all_goals rfl
theorem DC [Known]:AT Tryz.prog 36 [.ptr 0 0] hsN [] (.int .i64 0) hsN []:=by
 refine Zl Tryz.func36 rfl Tryz.ntmps36 rfl rfl ?_
 repeat'(first|(apply Zg Za;exact Z)|(apply Zh Za;exact Z)|(apply Zf;exact Z;(first|with_reducible assumption|decide +kernel|(solve|simp only[bn])))|refine Zn Za Z Z Z Z ?_)
 all_goals(apply Wg [0] [];(apply Zc Za;exact Z);(iterate 7 exact Z))
 all_goals rfl
theorem LY [Known](L:List Ln)(s c:Nat):AT Tryz.prog 36 [.ptr 0 0] (hsR L s c) [] (.int .i64 (L.length:Int)) (hsR L s c) []:=by
 refine Zl Tryz.func36 rfl Tryz.ntmps36 rfl rfl ?_
 repeat'(first|refine YR Za Z Z Z Z ?_|(apply Zg Za;exact Z)|(apply Zh Za;exact Z)|(apply Zf;exact Z;(first|with_reducible assumption|decide +kernel|(solve|simp only[bn]))))
 all_goals(apply Wg [0,1] [];(apply Zc Za;exact Z);(iterate 7 exact Z))
 all_goals rfl
theorem Dx [Known]:AT Tryz.prog 35 [.ptr 0 0] hsN [] (.int .i64 0) hsN []:=by
 refine Zl Tryz.func35 rfl Tryz.ntmps35 rfl rfl ?_
 repeat'(first|(apply Zh Za;exact Z)|(apply Zf;exact Z;(first|with_reducible assumption|decide +kernel|(solve|simp only[bn]))))
 all_goals(apply Wg [0] [];(apply Zc Za;exact Z);(iterate 7 exact Z))
 all_goals rfl
theorem Dy [Known](L:List Ln)(s c:Nat):AT Tryz.prog 35 [.ptr 0 0] (hsR L s c) [] (.int .i64 (s:Int)) (hsR L s c) []:=by
 refine Zl Tryz.func35 rfl Tryz.ntmps35 rfl rfl ?_
 repeat'(first|(apply Zh Za;exact Z)|(apply Zf;exact Z;(first|with_reducible assumption|decide +kernel|(solve|simp only[bn]))))
 all_goals(apply Wg [0,1] [];(apply Zc Za;exact Z);(iterate 7 exact Z))
 all_goals rfl
theorem DK [Known]:AT Tryz.prog 35 [.nilp] [] [] (.int .i64 0) [] []:=by
 refine Zl Tryz.func35 rfl Tryz.ntmps35 rfl rfl ?_
 repeat'(first|(apply Zh Za;exact Z)|(apply Zs Za;exact Z)|(apply Ze;exact Z;(first|with_reducible assumption|decide +kernel|(solve|simp only[bn]))))
 all_goals(apply Wg [] [];(apply Zc Za;exact Z);(iterate 7 exact Z))
 all_goals rfl
theorem MI [Known](n:Int)(h:n=0):AT Tryz.prog 31 [.ptr 0 0,.int .i64 n] hsN [] (.int .i64 0) hsN []:=by
 subst h
 refine Zl Tryz.func31 rfl Tryz.ntmps31 rfl rfl ?_
 repeat'(first|(apply Zg Za;exact Z)|(apply Zh Za;exact Z)|(apply Zs Za;exact Z)|(apply Zd;(iterate 3 exact Z);(first|with_reducible assumption|decide +kernel|(solve|simp only[bn])))|(apply Zi;exact Z;(first|with_reducible assumption|decide +kernel|(solve|simp only[bn]));exact Z;exact Z)|(apply Zf;exact Z;(first|with_reducible assumption|decide +kernel|(solve|simp only[bn])))|refine Zn Za Z Z Z Z ?_)
 all_goals(apply Wg [0] [];(apply Zc Za;exact Z);(iterate 7 exact Z))
 all_goals rfl
theorem T8 [Known](n:Int)(h:n ≠ 0):AT Tryz.prog 31 [.ptr 0 0,.int .i64 n] hsN [] (.int .i64 1) hsN []:=by
 rcases(show n<0\/(¬ n<0/\n>0) by omega) with h|⟨h1,h2⟩
 ·have d1:decide (n<0)=true:=decide_eq_true h
  refine Zl Tryz.func31 rfl Tryz.ntmps31 rfl rfl ?_
  repeat'(first|(apply Zg Za;exact Z)|(apply Zh Za;exact Z)|(apply Zs Za;exact Z)|(apply Zd;(iterate 3 exact Z);(first|with_reducible assumption|decide +kernel|(solve|simp only[bn])))|(apply Zo;(iterate 3 exact Z);(first|with_reducible assumption|decide +kernel|(solve|simp only[bn])))|(apply Zj;exact Z;(first|with_reducible assumption|decide +kernel|(solve|simp only[bn]));exact Z;exact Z)|(apply Zi;exact Z;(first|with_reducible assumption|decide +kernel|(solve|simp only[bn]));exact Z;exact Z)|(apply Ze;exact Z;(first|with_reducible assumption|decide +kernel|(solve|simp only[bn])))|(apply Zf;exact Z;(first|with_reducible assumption|decide +kernel|(solve|simp only[bn]))))
  all_goals(apply Wg [0] [];(apply Zc Za;exact Z);(iterate 7 exact Z))
  all_goals rfl
 ·have d1:decide (n<0)=false:=decide_eq_false h1
  have d2:decide (n>(([]:List E).length:Int))=true:=decide_eq_true h2
  refine Zl Tryz.func31 rfl Tryz.ntmps31 rfl rfl ?_
  repeat'(first|(apply Zg Za;exact Z)|(apply Zh Za;exact Z)|(apply Zs Za;exact Z)|(apply Zd;(iterate 3 exact Z);(first|with_reducible assumption|decide +kernel|(solve|simp only[bn])))|(apply Zi;exact Z;(first|with_reducible assumption|decide +kernel|(solve|simp only[bn]));exact Z;exact Z)|(apply Ze;exact Z;(first|with_reducible assumption|decide +kernel|(solve|simp only[bn])))|(apply Zf;exact Z;(first|with_reducible assumption|decide +kernel|(solve|simp only[bn])))|refine Zn Za Z Z Z Z ?_)
  all_goals(apply Wg [0] [];(apply Zc Za;exact Z);(iterate 7 exact Z))
  all_goals rfl
theorem Gu [Known](L:List Ln)(s c n:Nat)(h:s<=n)(hn:n<=L.length):AT Tryz.prog 31 [.ptr 0 0,.int .i64 (n:Int)] (hsR L s c) [] (.int .i64 0) (hsR L n c) []:=by
 have d1:decide ((n:Int)<(s:Int))=false:=decide_eq_false (by omega)
 have d2:decide ((n:Int)>(L.length:Int))=false:=decide_eq_false (by omega)
 refine Zl Tryz.func31 rfl Tryz.ntmps31 rfl rfl ?_
 repeat'(first|refine YR Za Z Z Z Z ?_|(apply Zg Za;exact Z)|(apply Zh Za;exact Z)|(apply Zs Za;exact Z)|(apply Zd;(iterate 3 exact Z);(first|with_reducible assumption|decide +kernel|(solve|simp only[bn])))|(apply Zi;exact Z;(first|with_reducible assumption|decide +kernel|(solve|simp only[bn]));exact Z;exact Z)|(apply Zf;exact Z;(first|with_reducible assumption|decide +kernel|(solve|simp only[bn]))))
 all_goals(apply Wg [0,1] [];(apply Zc Za;exact Z);(iterate 7 exact Z))
 all_goals rfl
theorem T9 [Known](L:List Ln)(s c:Nat)(n:Int)(h:n<(s:Int)\/(L.length:Int)<n):AT Tryz.prog 31 [.ptr 0 0,.int .i64 n] (hsR L s c) [] (.int .i64 1) (hsR L s c) []:=by
 rcases(show n<(s:Int)\/(¬ n<(s:Int)/\n>(L.length:Int)) by omega) with h|⟨h1,h2⟩
 ·have d1:decide (n<(s:Int))=true:=decide_eq_true h
  refine Zl Tryz.func31 rfl Tryz.ntmps31 rfl rfl ?_
  repeat'(first|(apply Zg Za;exact Z)|(apply Zh Za;exact Z)|(apply Zs Za;exact Z)|(apply Zd;(iterate 3 exact Z);(first|with_reducible assumption|decide +kernel|(solve|simp only[bn])))|(apply Zo;(iterate 3 exact Z);(first|with_reducible assumption|decide +kernel|(solve|simp only[bn])))|(apply Zj;exact Z;(first|with_reducible assumption|decide +kernel|(solve|simp only[bn]));exact Z;exact Z)|(apply Zi;exact Z;(first|with_reducible assumption|decide +kernel|(solve|simp only[bn]));exact Z;exact Z)|(apply Ze;exact Z;(first|with_reducible assumption|decide +kernel|(solve|simp only[bn])))|(apply Zf;exact Z;(first|with_reducible assumption|decide +kernel|(solve|simp only[bn]))))
  all_goals(apply Wg [0,1] [];(apply Zc Za;exact Z);(iterate 7 exact Z))
  all_goals rfl
 ·have d1:decide (n<(s:Int))=false:=decide_eq_false h1
  have d2:decide (n>(L.length:Int))=true:=decide_eq_true h2
  refine Zl Tryz.func31 rfl Tryz.ntmps31 rfl rfl ?_
  repeat'(first|refine YR Za Z Z Z Z ?_|(apply Zg Za;exact Z)|(apply Zh Za;exact Z)|(apply Zs Za;exact Z)|(apply Zd;(iterate 3 exact Z);(first|with_reducible assumption|decide +kernel|(solve|simp only[bn])))|(apply Zi;exact Z;(first|with_reducible assumption|decide +kernel|(solve|simp only[bn]));exact Z;exact Z)|(apply Ze;exact Z;(first|with_reducible assumption|decide +kernel|(solve|simp only[bn])))|(apply Zf;exact Z;(first|with_reducible assumption|decide +kernel|(solve|simp only[bn]))))
  all_goals(apply Wg [0,1] [];(apply Zc Za;exact Z);(iterate 7 exact Z))
  all_goals rfl
theorem MJ [Known](n:Int):AT Tryz.prog 30 [.ptr 0 0,.int .i64 n] hsN [] (.int .i64 1) hsN []:=by
 rcases(show n<0\/(¬ n<0/\n ≥ 0) by omega) with h|⟨h1,h2⟩
 ·have d1:decide (n<0)=true:=decide_eq_true h
  refine Zl Tryz.func30 rfl Tryz.ntmps30 rfl rfl ?_
  repeat'(first|(apply Zg Za;exact Z)|(apply Zh Za;exact Z)|(apply Zs Za;exact Z)|(apply Zd;(iterate 3 exact Z);(first|with_reducible assumption|decide +kernel|(solve|simp only[bn])))|(apply Zo;(iterate 3 exact Z);(first|with_reducible assumption|decide +kernel|(solve|simp only[bn])))|(apply Zj;exact Z;(first|with_reducible assumption|decide +kernel|(solve|simp only[bn]));exact Z;exact Z)|(apply Zi;exact Z;(first|with_reducible assumption|decide +kernel|(solve|simp only[bn]));exact Z;exact Z)|(apply Ze;exact Z;(first|with_reducible assumption|decide +kernel|(solve|simp only[bn])))|(apply Zf;exact Z;(first|with_reducible assumption|decide +kernel|(solve|simp only[bn]))))
  all_goals(apply Wg [0] [];(apply Zc Za;exact Z);(iterate 7 exact Z))
  all_goals rfl
 ·have d1:decide (n<0)=false:=decide_eq_false h1
  have d2:decide (n ≥ (([]:List E).length:Int))=true:=decide_eq_true h2
  refine Zl Tryz.func30 rfl Tryz.ntmps30 rfl rfl ?_
  repeat'(first|(apply Zg Za;exact Z)|(apply Zh Za;exact Z)|(apply Zs Za;exact Z)|(apply Zd;(iterate 3 exact Z);(first|with_reducible assumption|decide +kernel|(solve|simp only[bn])))|(apply Zi;exact Z;(first|with_reducible assumption|decide +kernel|(solve|simp only[bn]));exact Z;exact Z)|(apply Ze;exact Z;(first|with_reducible assumption|decide +kernel|(solve|simp only[bn])))|(apply Zf;exact Z;(first|with_reducible assumption|decide +kernel|(solve|simp only[bn])))|refine Zn Za Z Z Z Z ?_)
  all_goals(apply Wg [0] [];(apply Zc Za;exact Z);(iterate 7 exact Z))
  all_goals rfl
theorem Na [Known](L:List Ln)(s c:Nat)(n:Int)(h:n<0\/(L.length:Int)<=n):AT Tryz.prog 30 [.ptr 0 0,.int .i64 n] (hsR L s c) [] (.int .i64 1) (hsR L s c) []:=by
 rcases(show n<0\/(¬ n<0/\n ≥ (L.length:Int)) by omega) with h|⟨h1,h2⟩
 ·have d1:decide (n<0)=true:=decide_eq_true h
  refine Zl Tryz.func30 rfl Tryz.ntmps30 rfl rfl ?_
  repeat'(first|(apply Zg Za;exact Z)|(apply Zh Za;exact Z)|(apply Zs Za;exact Z)|(apply Zd;(iterate 3 exact Z);(first|with_reducible assumption|decide +kernel|(solve|simp only[bn])))|(apply Zo;(iterate 3 exact Z);(first|with_reducible assumption|decide +kernel|(solve|simp only[bn])))|(apply Zj;exact Z;(first|with_reducible assumption|decide +kernel|(solve|simp only[bn]));exact Z;exact Z)|(apply Zi;exact Z;(first|with_reducible assumption|decide +kernel|(solve|simp only[bn]));exact Z;exact Z)|(apply Ze;exact Z;(first|with_reducible assumption|decide +kernel|(solve|simp only[bn])))|(apply Zf;exact Z;(first|with_reducible assumption|decide +kernel|(solve|simp only[bn]))))
  all_goals(apply Wg [0,1] [];(apply Zc Za;exact Z);(iterate 7 exact Z))
  all_goals rfl
 ·have d1:decide (n<0)=false:=decide_eq_false h1
  have d2:decide (n ≥ (L.length:Int))=true:=decide_eq_true h2
  refine Zl Tryz.func30 rfl Tryz.ntmps30 rfl rfl ?_
  repeat'(first|refine YR Za Z Z Z Z ?_|(apply Zg Za;exact Z)|(apply Zh Za;exact Z)|(apply Zs Za;exact Z)|(apply Zd;(iterate 3 exact Z);(first|with_reducible assumption|decide +kernel|(solve|simp only[bn])))|(apply Zi;exact Z;(first|with_reducible assumption|decide +kernel|(solve|simp only[bn]));exact Z;exact Z)|(apply Ze;exact Z;(first|with_reducible assumption|decide +kernel|(solve|simp only[bn])))|(apply Zf;exact Z;(first|with_reducible assumption|decide +kernel|(solve|simp only[bn]))))
  all_goals(apply Wg [0,1] [];(apply Zc Za;exact Z);(iterate 7 exact Z))
  all_goals rfl
theorem J8 [Known](L:List Ln)(s c n:Nat)(x:Ln)(hx:L[n]?=some x)(h:x.lost=true\/s<=n):AT Tryz.prog 30 [.ptr 0 0,.int .i64 (n:Int)] (hsR L s c) [] (.int .i64 7) (hsR L s c) []:=by
 have hlt2:(n:Int)<((L.length:Nat):Int):=by have:=(List.getElem?_eq_some_iff.1 hx).1;omega
 have d1:decide ((n:Int)<0)=false:=decide_eq_false (by omega)
 have d2:decide ((n:Int) ≥ (L.length:Int))=false:=decide_eq_false (by omega)
 have g1:(lnF L)[((n:Nat):Int).toNat*32+31]?=some (.bool x.lost):=by rw[Int.toNat_natCast,J7 31 hx (by decide)];rfl
 have g2:(lnF L)[((n:Nat):Int).toNat*32+30]?=some (.bool x.told):=by rw[Int.toNat_natCast,J7 30 hx (by decide)];rfl
 cases hl:x.lost with
 | true=>
  rw[hl]at g1
  refine Zl Tryz.func30 rfl Tryz.ntmps30 rfl rfl ?_
  repeat'(first|refine YR Za Z Z Z Z ?_|refine YK Za Z Z Z Z Z Z (Int.natCast_nonneg _) hlt2 Z ?_|(apply VK Za;(iterate 4 exact Z);(first|exact g1|exact g2);exact Z;exact Z)|(apply Zg Za;exact Z)|(apply Zh Za;exact Z)|(apply Zs Za;exact Z)|refine YU Za Z Z Z Z Z Z Z ?_|(apply Zd;(iterate 3 exact Z);(first|with_reducible assumption|decide +kernel|(solve|simp only[bn])))|(apply Zo;(iterate 3 exact Z);(first|with_reducible assumption|decide +kernel|(solve|simp only[bn])))|(apply Zj;exact Z;(first|with_reducible assumption|decide +kernel|(solve|simp only[bn]));exact Z;exact Z)|(apply Zi;exact Z;(first|with_reducible assumption|decide +kernel|(solve|simp only[bn]));exact Z;exact Z)|(apply Ze;exact Z;(first|with_reducible assumption|decide +kernel|(solve|simp only[bn])))|(apply Zf;exact Z;(first|with_reducible assumption|decide +kernel|(solve|simp only[bn]))))
  all_goals(apply Wg [0,1] [];(apply Zc Za;exact Z);(iterate 7 exact Z))
  all_goals rfl
 | false=>
  rw[hl]at g1
  have d3:decide ((n:Int) ≥ (s:Int))=true:=decide_eq_true (h.elim (fun h=>by rw[hl]at h;cases h) fun h=>by omega)
  refine Zl Tryz.func30 rfl Tryz.ntmps30 rfl rfl ?_
  repeat'(first|refine YR Za Z Z Z Z ?_|refine YK Za Z Z Z Z Z Z (Int.natCast_nonneg _) hlt2 Z ?_|(apply VK Za;(iterate 4 exact Z);(first|exact g1|exact g2);exact Z;exact Z)|(apply Zg Za;exact Z)|(apply Zh Za;exact Z)|(apply Zs Za;exact Z)|refine YU Za Z Z Z Z Z Z Z ?_|(apply Zd;(iterate 3 exact Z);(first|with_reducible assumption|decide +kernel|(solve|simp only[bn])))|(apply Zi;exact Z;(first|with_reducible assumption|decide +kernel|(solve|simp only[bn]));exact Z;exact Z)|(apply Ze;exact Z;(first|with_reducible assumption|decide +kernel|(solve|simp only[bn])))|(apply Zf;exact Z;(first|with_reducible assumption|decide +kernel|(solve|simp only[bn]))))
  all_goals(apply Wg [0,1] [];(apply Zc Za;exact Z);(iterate 7 exact Z))
  all_goals rfl
theorem OM [Known](L:List Ln)(s c n:Nat)(x:Ln)(hx:L[n]?=some x)(hl:x.lost=false)(hs:n<s)(ht:x.told=true):AT Tryz.prog 30 [.ptr 0 0,.int .i64 (n:Int)] (hsR L s c) [] (.int .i64 11) (hsR L s c) []:=by
 have hlt2:(n:Int)<((L.length:Nat):Int):=by have:=(List.getElem?_eq_some_iff.1 hx).1;omega
 have d1:decide ((n:Int)<0)=false:=decide_eq_false (by omega)
 have d2:decide ((n:Int) ≥ (L.length:Int))=false:=decide_eq_false (by omega)
 have g1:(lnF L)[((n:Nat):Int).toNat*32+31]?=some (.bool x.lost):=by rw[Int.toNat_natCast,J7 31 hx (by decide)];rfl
 have g2:(lnF L)[((n:Nat):Int).toNat*32+30]?=some (.bool x.told):=by rw[Int.toNat_natCast,J7 30 hx (by decide)];rfl
 have d3:decide ((n:Int) ≥ (s:Int))=false:=decide_eq_false (by omega)
 rw[hl]at g1
 rw[ht]at g2
 refine Zl Tryz.func30 rfl Tryz.ntmps30 rfl rfl ?_
 repeat'(first|refine YR Za Z Z Z Z ?_|refine YK Za Z Z Z Z Z Z (Int.natCast_nonneg _) hlt2 Z ?_|(apply VK Za;(iterate 4 exact Z);(first|exact g1|exact g2);exact Z;exact Z)|(apply Zg Za;exact Z)|(apply Zh Za;exact Z)|(apply Zs Za;exact Z)|refine YU Za Z Z Z Z Z Z Z ?_|(apply Zd;(iterate 3 exact Z);(first|with_reducible assumption|decide +kernel|(solve|simp only[bn])))|(apply Zi;exact Z;(first|with_reducible assumption|decide +kernel|(solve|simp only[bn]));exact Z;exact Z)|(apply Ze;exact Z;(first|with_reducible assumption|decide +kernel|(solve|simp only[bn])))|(apply Zf;exact Z;(first|with_reducible assumption|decide +kernel|(solve|simp only[bn]))))
 all_goals(apply Wg [0,1] [];(apply Zc Za;exact Z);(iterate 7 exact Z))
 all_goals rfl
theorem Gv [Known](L L2:List Ln)(s c n:Nat)(x:Ln)(hx:L[n]?=some x)(hl:x.lost=false)(hs:n<s)(ht:x.told=false)(h2:L2=L.set n ⟨x.e,x.r,true,x.lost⟩):AT Tryz.prog 30 [.ptr 0 0,.int .i64 (n:Int)] (hsR L s c) [] (.int .i64 0) (hsR L2 s c) []:=by
 have hll:L2.length=L.length:=by rw[h2,List.length_set]
 have hsr:WB (lnF L) (((n:Nat):Int).toNat*32+30) [.bool true]=lnF L2:=by rw[Int.toNat_natCast,Tl true hx,h2]
 have hle2:((n:Nat):Int).toNat*32+30 + [E.bool true].length<=(lnF L).length:=by
  have:=(List.getElem?_eq_some_iff.1 hx).1
  rw[UR,Int.toNat_natCast];simp only[List.length_cons,List.length_nil];omega
 clear h2
 have hlt2:(n:Int)<((L.length:Nat):Int):=by have:=(List.getElem?_eq_some_iff.1 hx).1;omega
 have d1:decide ((n:Int)<0)=false:=decide_eq_false (by omega)
 have d2:decide ((n:Int) ≥ (L.length:Int))=false:=decide_eq_false (by omega)
 have g1:(lnF L)[((n:Nat):Int).toNat*32+31]?=some (.bool x.lost):=by rw[Int.toNat_natCast,J7 31 hx (by decide)];rfl
 have g2:(lnF L)[((n:Nat):Int).toNat*32+30]?=some (.bool x.told):=by rw[Int.toNat_natCast,J7 30 hx (by decide)];rfl
 have d3:decide ((n:Int) ≥ (s:Int))=false:=decide_eq_false (by omega)
 rw[hl]at g1
 rw[ht]at g2
 unfold hsR
 rw[hll]
 refine Zl Tryz.func30 rfl Tryz.ntmps30 rfl rfl ?_
 repeat'(first|refine YR Za Z Z Z Z ?_|refine YK Za Z Z Z Z Z Z (Int.natCast_nonneg _) hlt2 Z ?_|(apply VK Za;(iterate 4 exact Z);(first|exact g1|exact g2);exact Z;exact Z)|refine J0 Za Z Z Z Z Z Z hle2 hsr Z ?_|(apply Zg Za;exact Z)|(apply Zh Za;exact Z)|(apply Zs Za;exact Z)|refine YU Za Z Z Z Z Z Z Z ?_|(apply Zd;(iterate 3 exact Z);(first|with_reducible assumption|decide +kernel|(solve|simp only[bn])))|(apply Zi;exact Z;(first|with_reducible assumption|decide +kernel|(solve|simp only[bn]));exact Z;exact Z)|(apply Zf;exact Z;(first|with_reducible assumption|decide +kernel|(solve|simp only[bn]))))
 all_goals(apply Wg [0,1] [];(apply Zc Za;exact Z);(iterate 7 exact Z))
 all_goals rfl
theorem LZ [Known]:AT Tryz.prog 33 [.ptr 0 0] hsN [] (.sl .nil []) hsN []:=by
 refine Zl Tryz.func33 rfl Tryz.ntmps33 rfl rfl ?_
 repeat'(first|refine Ws 2 ?_|refine W0 ?_|(apply Zg Za;exact Z)|(apply Zh Za;exact Z)|(apply Ze;exact Z;(first|with_reducible assumption|decide +kernel|(solve|simp only[bn])))|(apply Zf;exact Z;(first|with_reducible assumption|decide +kernel|(solve|simp only[bn])))|refine Zn Za Z Z Z Z ?_)
 all_goals(apply Wg [0] [];(apply Zc Za;exact Z);(iterate 7 exact Z))
 all_goals rfl
theorem DD [Known](L:List Ln)(s c:Nat)(hl:L.length<=1000)(hk:∀ x ∈ L,Vb x):AQ Tryz.prog 33 [.ptr 0 0] (hsR L s c) (.sl .ext (L.map lnE)) (hsR L s c):=by
 refine AQ.weak (Zl Tryz.func33 Z Tryz.ntmps33 Z Z ?_)
 repeat'(first|refine YR Za Z Z Z Z ?_|(apply Zg Za;exact Z)|(apply Zh Za;exact Z)|(apply Ze;exact Z;(first|with_reducible assumption|decide +kernel|(solve|simp only[bn]))))
 refine Yf (fun k tm bx fr=>∃(i:Nat) (od:D),k+i=L.length/\tm=[(0,.ptr 0 0),(3,od),(11,.bsl 1 0 L.length c),(12,.int .i64 (L.length:Int)),(13,.int .i64 (i:Int))]/\bx=hsR L s c/\((i=0/\od=.sl .nil []/\fr=[])\/(i ≠ 0/\od=.sl (.own 1) ((L.take i).map lnE)/\fr=[⟨1,32,82⟩,⟨i,32,82⟩]))) (L.length+1) (Lands.mk' (m:=L.length) (Nat.lt_succ_self _) ⟨0,.sl .nil [],rfl,rfl,rfl,.inl ⟨rfl,rfl,rfl⟩⟩ ?_ rfl rfl rfl rfl rfl rfl) ?_
 ·exact .cons rfl (.cons rfl (.cons rfl (.cons rfl (.cons rfl .nil))))
 rintro k tm bx fr ⟨i,od,hki,rfl,rfl,hst⟩
 rcases Nat.lt_or_ge i L.length with hlt|hge
 ·skip
  have hd:decide ((i:Int)<((L.length:Nat):Int))=true:=decide_eq_true (by omega)
  have hlt2:(i:Int)<((L.length:Nat):Int):=of_decide_eq_true hd
  obtain⟨x,hx⟩:∃ x,L[i]?=some x:=⟨_,List.getElem?_eq_getElem hlt⟩
  have ei:IntKind.i64.wrap ((i:Int)+1)=((i+1:Nat):Int):=by rw[IntWalk.i64_in _ (by omega)];omega
  have hrow:((lnF L).drop (((i:Nat):Int).toNat*32)).take 32=lnL x:=by rw[Int.toNat_natCast];exact KE hx
  have hrle:((i:Nat):Int).toNat*32+32<=(lnF L).length:=by rw[Int.toNat_natCast,UR];omega
  have hC:=UA x (hk x (List.mem_of_getElem? hx))
  have hT:L.take (i+1)=L.take i++[x]:=by rw[List.take_add_one,hx];rfl
  rcases hst with⟨rfl,rfl,rfl⟩ | ⟨hz,rfl,rfl⟩
  ·repeat'(first|refine YK Za Z Z Z Z Z Z (Int.natCast_nonneg _) hlt2 Z ?_|refine YT Za Z Z Z Z hrow hrle Z Z ?_|(apply Zb (hC);kernel_rfl;(iterate 4 exact Z))|rw[ei]|refine Z9 Za Z Z Z Z Z Z (Zk rfl) (List.cons_ne_nil _ _) Z Qd Qd Z Z Z ?_|(apply Zg Za;exact Z)|(apply Zh Za;exact Z)|(apply Ze;exact Z;(first|with_reducible assumption|decide +kernel|(solve|simp only[bn])))|refine ZO Za Z Z Z Z Z Z Z Z Z Z Z Z ?_)
   ·refine Lands.mk' (m:=k-1) (fr:=[⟨1,32,82⟩,⟨1,32,82⟩]) (by omega) ⟨1,.sl (.own 1) [lnE x],by omega,rfl,rfl,.inr ⟨by decide,by rw[hT];rfl,rfl⟩⟩ ?_ rfl rfl rfl rfl rfl rfl
    exact .cons rfl (.cons rfl (.cons rfl (.cons rfl (.cons rfl .nil))))
   all_goals first|(show 1<=maxLen;decide)|(show 1*328<=140737488355328;decide)|decide
  ·have hUh:=Gt (L.take i)
   have hhm:((L.take i).map lnE).length=i:=by rw[List.length_map,List.length_take];omega
   repeat'(first|refine YK Za Z Z Z Z Z Z (Int.natCast_nonneg _) hlt2 Z ?_|refine YT Za Z Z Z Z hrow hrle Z Z ?_|(apply Zb (hC);kernel_rfl;(iterate 4 exact Z))|rw[ei]|(apply Zg Za;exact Z)|(apply Zh Za;exact Z)|(apply Ze;exact Z;(first|with_reducible assumption|decide +kernel|(solve|simp only[bn])))|refine ZO Za Z Z Z Z Z Z Z Z Z Z Z Z ?_|(apply Z3 Za;(iterate 6 exact Z);(first|with_reducible assumption|decide +kernel|exact Z|rotate_left);exact Z;exact Z;(first|exact Zk rfl|with_reducible assumption|decide +kernel|rotate_left);(first|exact Zk rfl|with_reducible assumption|decide +kernel|rotate_left);(first|exact Qt|rotate_left);(first|exact Qt|rotate_left);(first|exact Qt|rotate_left);exact Z;exact Z))
   ·refine Lands.mk' (m:=k-1) (by omega) ⟨i+1,.sl (.own 1) ((L.take (i+1)).map lnE),by omega,rfl,rfl,.inr ⟨by omega,rfl,rfl⟩⟩ ?_ rfl (by rw[hhm];rfl) rfl rfl rfl rfl
    exact .cons rfl (.cons (by rw[hT,List.map_append];rfl) (.cons rfl (.cons rfl (.cons rfl .nil))))
   all_goals first|with_reducible exact hhm.symm|(simp only[List.length_cons,List.length_nil,hhm,maxLen];omega)|(simp only[List.length_cons,List.length_nil,maxLen];omega)
 ·have hd:decide ((i:Int)<((L.length:Nat):Int))=false:=decide_eq_false (by omega)
  have hTa:L.take i=L:=List.take_of_length_le hge
  rcases hst with⟨rfl,rfl,rfl⟩ | ⟨hz,rfl,rfl⟩
  ·obtain rfl:L=[]:=List.length_eq_zero_iff.1 (by omega)
   repeat'(first|(apply Zh Za;exact Z)|(apply Zf;exact Z;(first|with_reducible assumption|decide +kernel|(solve|simp only[bn]))))
   all_goals(apply Zt [0,1];(apply Zc Za;exact Z);(iterate 4 exact Z))
   all_goals rfl
  ·repeat'(first|(apply Zh Za;exact Z)|(apply Zf;exact Z;(first|with_reducible assumption|decide +kernel|(solve|simp only[bn]))))
   all_goals(apply Zt [0,1];(apply Zc Za;exact Z);(iterate 4 exact Z))
   all_goals first|rfl|(rw[hTa])
end Go.Proofs.YtchlgagdbflkmaaGreatDoor
end
section
open Go.RowKit Go.Pl
namespace Go.Av
def AFQ [Known](P:Program)(f:FuncId)(args:List D)(bx:List (List D))(m:Nat)(d:D)(bx':Nat->List (List D)):Prop:=AC P f args bx [] fun r b t=>∃ c,m<=c/\r=.ret d/\b=bx' c/\t=[]
theorem Rw {P:Program}{rs:List ResultVar}{S:St}{m0:Nat}{d d':D}{ds:List D}{bx':Nat->List (List D)}{B:List (List D)}{k:Nat}(bs:List Nat)(c:Nat)(hm:m0<=c)(h:ResL P S rs ds)(hb:WQ bs S.bx.length=true)(hk:XZ k bs=true)
  (hn:nf ((XS ds).ren (idx bs) (idx []))=some d') (hB:nfb (VM bs [] S.bx)=some B) (hd:d'=d) (hB':B=bx' c) :
  VO P rs k 0 (fun r b t=>∃ c,m0<=c/\r=.ret d/\b=bx' c/\t=[]) .ret S:=
 ⟨ds,bs,[],h,Yw hb,ZH _,U9 hk,fun i h=>by omega,c,hm,by rw[YA hn,hd],by rw[Wl hB,hB'],rfl⟩
section
variable {P:Program} {Q:X->St->Prop} {n:Nat} {ee:Nat × Nat} {tm:List (Nat × D)} {bx:List (List D)} {fr:List Fr} {ops:Array Oper} {rest:List Oper} {ty:Nat} {pos:String} {after:Array Edge} {f:FuncId} {ars:Array Operand} {ats:Array TypeId}
theorem UB [Known][Dfr]{t m:Nat}{cds:List D}{d d':D}{bxs:List (List D)}{bxs' bx2:Nat->List (List D)}(bs:List Nat)(hQ:AFQ P f cds bxs m d bxs')(hf:QP P f=true)
  (hc:(ars.toList.map (ev tm)).map (D.ren (idx bs) (idx []))=cds) (hb:WQ bs bx.length=true) (hbx:VM bs [] bx=bxs) (hle:∀ c,Nat.ble bs.length (bxs' c).length=true) (htd:Nat.blt t n=true)
  (hd:nf (d.ren (upN bs bx.length) (upN [] fr.length))=some d') (hB:∀ c,nfb (U6 bs [] bx fr.length (bxs' c))=some (bx2 c))
  (k:∀ c,m<=c->AL P ops rest ⟨n,(t,d')::tm,bx2 c,fr,ee⟩ Q):AL P ops (⟨some t,.call { callee:=.value (.func f),args:=ars,argTypes:=ats },ty,pos,after,none⟩::rest) ⟨n,tm,bx,fr,ee⟩ Q:=by
 refine QB bs [] hf hQ hc (Yw hb) (ZH _) hbx rfl htd (fun _ _ _ h=>by obtain⟨_,_,h,_⟩:=h;cases h) fun d0 bx' fr' h=>?_
 obtain⟨c,hcm,h1,rfl,rfl⟩:=h
 injection h1 with h1
 subst h1
 refine⟨Nat.le_of_ble_eq_true (hle c),?_⟩
 have e1:=YA hd
 have e2:=Wl (hB c)
 have:=k c hcm
 rw[<- e1,<- e2]at this
 simpa[St.aft,Uh,WV]using this
end
end Go.Av
end
section
open Go.RowKit Go.Pl Go.Av
namespace Go.Proofs.YtchlgagdbflkmaaGreatDoor
set_option maxHeartbeats 4000000
theorem MK [Known](x:EvV):AP Tryz.prog 80 [.agg (evC x)] (.agg (evC (OK x))) []:=by
 obtain⟨now,kd,tok,ses,⟨id,rk,⟨ei,en,es,eh,ed⟩,⟨di,dn,dq,dh,dd⟩,pol,num,tik,pay,life,rt,on⟩,data⟩:=x
 unfold OK
 dsimp only
 rcases Ru kd with rfl|rfl|rfl|rfl|rfl|rfl|rfl|rfl|⟨n1,n2,n3,n4,n5,n6,n7,n8⟩
 all_goals
  refine AP.ofA (Zl Tryz.func80 Z Tryz.ntmps80 Z Z ?_)
  repeat'(first|(apply Zg Za;exact Z)|(apply Zh Za;exact Z)|(apply Zs Za;exact Z)|(apply Ze;exact Z;(first|with_reducible assumption|decide +kernel|(solve|simp only[bn])))|(apply Zf;exact Z;(first|with_reducible assumption|decide +kernel|(solve|simp only[bn])))|(apply WW;exact Z;all_goals intro hb)|(apply Zm 6 ZG;decide +kernel;kernel_rfl;kernel_rfl;kernel_rfl;exact Z;exact Z)|(apply Zq;(iterate 4 exact Z))|exact AE.nil _ _ _ _|(apply Zv;exact Z)|(apply Vv;exact Z)|(apply ZA;exact Z;exact Z;decide +kernel;exact Z)|(apply ZB;exact Z)|(apply UZ;exact Z)|exact AO.nil _ _ _|(apply Zp;(decide +kernel))|(apply ZZ;(iterate 3 exact Z))|exact AOs.nil|exact ZJ rfl rfl|exact VS rfl)
  all_goals(apply Zt [];(apply Zc Za;exact Z);(iterate 4 exact Z))
  all_goals first|rfl|(simp only[*];rfl)
theorem ML [Known](n:Int):AP Tryz.prog 108 [.int .i64 n] (.bool (Gr n)) []:=by
 unfold Gr
 cases t1:decide (n ≥ 1)
 all_goals
  refine AP.ofA (Zl Tryz.func108 Z Tryz.ntmps108 Z Z ?_)
  repeat'(first|(apply Zg Za;exact Z)|(apply Zh Za;exact Z)|(apply Zd;(iterate 3 exact Z);(first|with_reducible assumption|decide +kernel|(solve|simp only[bn])))|(apply Zr;(iterate 3 exact Z);(first|with_reducible assumption|decide +kernel|(solve|simp only[bn])))|(apply Zj;exact Z;(first|with_reducible assumption|decide +kernel|(solve|simp only[bn]));exact Z;exact Z)|(apply Zi;exact Z;(first|with_reducible assumption|decide +kernel|(solve|simp only[bn]));exact Z;exact Z))
  all_goals exact Qe
theorem Hm [Known][KnownU8](x:EvV)(hd:x.data.length<=3000):AP Tryz.prog 81 [.agg (evC x)] (.bool (XJ x)) []:=by
 have hS:=ML x.ses
 have hR:=GU x.rq
 have hB:=Hj x.data hd
 unfold XJ
 generalize Gr x.ses=s at *
 generalize Xx x.rq=r at *
 generalize XF x.data=z at *
 clear hd
 obtain⟨now,kd,tok,ses,⟨id,rk,⟨ei,en,es,eh,ed⟩,⟨di,dn,dq,dh,dd⟩,pol,num,tik,pay,life,rt,on⟩,data⟩:=x
 replace hS:AP Tryz.prog 108 [.int .i64 ses] (.bool s) []:=hS
 replace hR:AP Tryz.prog 99 [.agg [.int .u64 (id:Int),.int .i64 rk,.bool ei,.int .u64 (en:Int),.int .u64 (es:Int),.str eh,.str ed,.bool di,.int .u64 (dn:Int),.int .u64 (dq:Int),.str dh,.str dd,.int .i64 pol,.int .i64 num,.int .i64 tik,.sl .ext (pay.map E.byte),.int .u64 (life:Int),.int .u64 (rt:Int),.bool on]] (.bool r) []:=hR
 replace hB:AP Tryz.prog 109 [.sl .ext (data.map E.byte)] (.bool z) []:=hB
 show AP Tryz.prog 81 [.agg [.int .u64 (now:Int),.int .i64 kd,.int .u64 (tok:Int),.int .i64 ses,.int .u64 (id:Int),.int .i64 rk,.bool ei,.int .u64 (en:Int),.int .u64 (es:Int),.str eh,.str ed,.bool di,.int .u64 (dn:Int),.int .u64 (dq:Int),.str dh,.str dd,.int .i64 pol,.int .i64 num,.int .i64 tik,.sl .ext (pay.map E.byte),.int .u64 (life:Int),.int .u64 (rt:Int),.bool on,.sl .ext (data.map E.byte)]] (.bool (if kd==1||kd==2 then decide ((tok:Int) ≥ 1)&&decide ((tok:Int)<=2147483648) else if kd==3 then s else if kd==4 then s&&(r&&((rk != 11)&&(rk != 12))) else if kd==5 then z else kd==6||(kd==7||kd==8))) []
 rcases Ru kd with rfl|rfl|rfl|rfl|rfl|rfl|rfl|rfl|⟨n1,n2,n3,n4,n5,n6,n7,n8⟩
 ·cases t1:decide ((tok:Int) ≥ 1)
  all_goals
   refine AP.ofA (Zl Tryz.func81 Z Tryz.ntmps81 Z Z ?_)
   repeat'(first|(apply Zg Za;exact Z)|(apply Zh Za;exact Z)|(apply Zs Za;exact Z)|(apply Zd;(iterate 3 exact Z);(first|with_reducible assumption|decide +kernel|(solve|simp only[bn])))|(apply Zr;(iterate 3 exact Z);(first|with_reducible assumption|decide +kernel|(solve|simp only[bn])))|(apply Zj;exact Z;(first|with_reducible assumption|decide +kernel|(solve|simp only[bn]));exact Z;exact Z)|(apply Zi;exact Z;(first|with_reducible assumption|decide +kernel|(solve|simp only[bn]));exact Z;exact Z)|(apply Ze;exact Z;(first|with_reducible assumption|decide +kernel|(solve|simp only[bn]))))
   all_goals(apply Zt [];(apply Zc Za;exact Z);(iterate 4 exact Z))
   all_goals first|rfl|(simp only[*];rfl)
 ·cases t1:decide ((tok:Int) ≥ 1)
  all_goals
   refine AP.ofA (Zl Tryz.func81 Z Tryz.ntmps81 Z Z ?_)
   repeat'(first|(apply Zg Za;exact Z)|(apply Zh Za;exact Z)|(apply Zs Za;exact Z)|(apply Zd;(iterate 3 exact Z);(first|with_reducible assumption|decide +kernel|(solve|simp only[bn])))|(apply Zr;(iterate 3 exact Z);(first|with_reducible assumption|decide +kernel|(solve|simp only[bn])))|(apply Zj;exact Z;(first|with_reducible assumption|decide +kernel|(solve|simp only[bn]));exact Z;exact Z)|(apply Zi;exact Z;(first|with_reducible assumption|decide +kernel|(solve|simp only[bn]));exact Z;exact Z)|(apply Ze;exact Z;(first|with_reducible assumption|decide +kernel|(solve|simp only[bn])))|(apply Zf;exact Z;(first|with_reducible assumption|decide +kernel|(solve|simp only[bn]))))
   all_goals(apply Zt [];(apply Zc Za;exact Z);(iterate 4 exact Z))
   all_goals first|rfl|(simp only[*];rfl)
 ·skip
  refine AP.ofA (Zl Tryz.func81 Z Tryz.ntmps81 Z Z ?_)
  repeat'(first|(apply Zb (hS);kernel_rfl;(iterate 4 exact Z))|(apply Zg Za;exact Z)|(apply Zh Za;exact Z)|(apply Zs Za;exact Z)|(apply Ze;exact Z;(first|with_reducible assumption|decide +kernel|(solve|simp only[bn])))|(apply Zf;exact Z;(first|with_reducible assumption|decide +kernel|(solve|simp only[bn]))))
  all_goals(apply Zt [];(apply Zc Za;exact Z);(iterate 4 exact Z))
  all_goals first|rfl|(simp only[*];rfl)
 ·cases s<;>cases r<;>cases t1:(rk != 11)
  all_goals
   refine AP.ofA (Zl Tryz.func81 Z Tryz.ntmps81 Z Z ?_)
   repeat'(first|(apply Zb (hS);kernel_rfl;(iterate 4 exact Z))|(apply Zb (hR);kernel_rfl;(iterate 4 exact Z))|(apply Zg Za;exact Z)|(apply Zh Za;exact Z)|(apply Zs Za;exact Z)|(apply Zd;(iterate 3 exact Z);(first|with_reducible assumption|decide +kernel|(solve|simp only[bn])))|(apply Zr;(iterate 3 exact Z);(first|with_reducible assumption|decide +kernel|(solve|simp only[bn])))|(apply Zj;exact Z;(first|with_reducible assumption|decide +kernel|(solve|simp only[bn]));exact Z;exact Z)|(apply Zi;exact Z;(first|with_reducible assumption|decide +kernel|(solve|simp only[bn]));exact Z;exact Z)|(apply Ze;exact Z;(first|with_reducible assumption|decide +kernel|(solve|simp only[bn])))|(apply Zf;exact Z;(first|with_reducible assumption|decide +kernel|(solve|simp only[bn]))))
   all_goals(apply Zt [];(apply Zc Za;exact Z);(iterate 4 exact Z))
   all_goals first|rfl|(simp only[*];rfl)
 ·skip
  refine AP.ofA (Zl Tryz.func81 Z Tryz.ntmps81 Z Z ?_)
  repeat'(first|(apply Zb (hB);kernel_rfl;(iterate 4 exact Z))|(apply Zg Za;exact Z)|(apply Zh Za;exact Z)|(apply Zs Za;exact Z)|(apply Ze;exact Z;(first|with_reducible assumption|decide +kernel|(solve|simp only[bn])))|(apply Zf;exact Z;(first|with_reducible assumption|decide +kernel|(solve|simp only[bn]))))
  all_goals(apply Zt [];(apply Zc Za;exact Z);(iterate 4 exact Z))
  all_goals first|rfl|(simp only[*];rfl)
 ·skip
  refine AP.ofA (Zl Tryz.func81 Z Tryz.ntmps81 Z Z ?_)
  repeat'(first|(apply Zg Za;exact Z)|(apply Zh Za;exact Z)|(apply Zs Za;exact Z)|(apply Zo;(iterate 3 exact Z);(first|with_reducible assumption|decide +kernel|(solve|simp only[bn])))|(apply Zj;exact Z;(first|with_reducible assumption|decide +kernel|(solve|simp only[bn]));exact Z;exact Z)|(apply Zf;exact Z;(first|with_reducible assumption|decide +kernel|(solve|simp only[bn]))))
  all_goals(apply Zt [];(apply Zc Za;exact Z);(iterate 4 exact Z))
  all_goals first|rfl|(simp only[*];rfl)
 ·skip
  refine AP.ofA (Zl Tryz.func81 Z Tryz.ntmps81 Z Z ?_)
  repeat'(first|(apply Zg Za;exact Z)|(apply Zh Za;exact Z)|(apply Zs Za;exact Z)|(apply Zd;(iterate 3 exact Z);(first|with_reducible assumption|decide +kernel|(solve|simp only[bn])))|(apply Zo;(iterate 3 exact Z);(first|with_reducible assumption|decide +kernel|(solve|simp only[bn])))|(apply Zj;exact Z;(first|with_reducible assumption|decide +kernel|(solve|simp only[bn]));exact Z;exact Z)|(apply Zi;exact Z;(first|with_reducible assumption|decide +kernel|(solve|simp only[bn]));exact Z;exact Z)|(apply Zf;exact Z;(first|with_reducible assumption|decide +kernel|(solve|simp only[bn]))))
  all_goals(apply Zt [];(apply Zc Za;exact Z);(iterate 4 exact Z))
  all_goals first|rfl|(simp only[*];rfl)
 ·skip
  refine AP.ofA (Zl Tryz.func81 Z Tryz.ntmps81 Z Z ?_)
  repeat'(first|(apply Zg Za;exact Z)|(apply Zh Za;exact Z)|(apply Zs Za;exact Z)|(apply Zd;(iterate 3 exact Z);(first|with_reducible assumption|decide +kernel|(solve|simp only[bn])))|(apply Zi;exact Z;(first|with_reducible assumption|decide +kernel|(solve|simp only[bn]));exact Z;exact Z)|(apply Zf;exact Z;(first|with_reducible assumption|decide +kernel|(solve|simp only[bn]))))
  all_goals(apply Zt [];(apply Zc Za;exact Z);(iterate 4 exact Z))
  all_goals first|rfl|(simp only[*];rfl)
 ·rw[n1,n2,n3,n4,n5]
  refine AP.ofA (Zl Tryz.func81 Z Tryz.ntmps81 Z Z ?_)
  repeat'(first|(apply Zg Za;exact Z)|(apply Zh Za;exact Z)|(apply Zs Za;exact Z)|(apply Zd;(iterate 3 exact Z);(first|with_reducible assumption|decide +kernel|(solve|simp only[bn])))|(apply Zi;exact Z;(first|with_reducible assumption|decide +kernel|(solve|simp only[bn]));exact Z;exact Z)|(apply Zf;exact Z;(first|with_reducible assumption|decide +kernel|(solve|simp only[bn]))))
  all_goals(apply Zt [];(apply Zc Za;exact Z);(iterate 4 exact Z))
  all_goals first|rfl|(simp only[*];rfl)
theorem Nb [Known](a b:EvV):AP Tryz.prog 45 [.agg (evC a),.agg (evC b)] (.bool (Ih a b)) []:=by
 have hR:=Oa a.rq b.rq
 have hB:=Q4 a.data b.data
 unfold Ih
 generalize JU a.rq b.rq=r at *
 generalize (a.data==b.data)=z at *
 obtain⟨now,kd,tok,ses,⟨id,rk,⟨ei,en,es,eh,ed⟩,⟨di,dn,dq,dh,dd⟩,pol,num,tik,pay,life,rt,on⟩,data⟩:=a
 obtain⟨now2,kd2,tok2,ses2,⟨id2,rk2,⟨ei2,en2,es2,eh2,ed2⟩,⟨di2,dn2,dq2,dh2,dd2⟩,pol2,num2,tik2,pay2,life2,rt2,on2⟩,data2⟩:=b
 dsimp only at *
 refine AP.ofA (Zl Tryz.func45 Z Tryz.ntmps45 Z Z ?_)
 repeat'(first|(apply Zb (hR);kernel_rfl;(iterate 4 exact Z))|(apply Zb (hB);kernel_rfl;(iterate 4 exact Z))|(apply Zg Za;exact Z)|(apply Zh Za;exact Z)|(apply Zd;(iterate 3 exact Z);(first|with_reducible assumption|(solve|simp only[bn])))|(apply Zr;(iterate 3 exact Z);(first|with_reducible assumption|(solve|simp only[bn])))|(apply Ym;exact Z;exact Z;all_goals intro hb)|(apply Zj;exact Z;(first|with_reducible assumption|(solve|simp only[bn]));exact Z;exact Z)|(apply Zi;exact Z;(first|with_reducible assumption|(solve|simp only[bn]));exact Z;exact Z))
 all_goals(apply Zt [];(apply Zc Za;exact Z);(iterate 4 exact Z))
 all_goals first|rfl|(simp only[*,Bool.true_and,Bool.false_and];done)
theorem V2 [Known][KnownU8](x:EvV)(hd:x.data.length<=3000):AP Tryz.prog 42 [.agg (evC x)] (.bool (Ye x)) []:=by
 have hO:=MK x
 have hS:=Nb x (OK x)
 have hP:=Hm x hd
 unfold Ye
 clear hd
 generalize Ih x (OK x)=s at *
 generalize XJ x=p at *
 generalize OK x=y at *
 obtain⟨now,kd,tok,ses,⟨id,rk,⟨ei,en,es,eh,ed⟩,⟨di,dn,dq,dh,dd⟩,pol,num,tik,pay,life,rt,on⟩,data⟩:=x
 obtain⟨now2,kd2,tok2,ses2,⟨id2,rk2,⟨ei2,en2,es2,eh2,ed2⟩,⟨di2,dn2,dq2,dh2,dd2⟩,pol2,num2,tik2,pay2,life2,rt2,on2⟩,data2⟩:=y
 replace hO:AP Tryz.prog 80 [.agg [.int .u64 (now:Int),.int .i64 kd,.int .u64 (tok:Int),.int .i64 ses,.int .u64 (id:Int),.int .i64 rk,.bool ei,.int .u64 (en:Int),.int .u64 (es:Int),.str eh,.str ed,.bool di,.int .u64 (dn:Int),.int .u64 (dq:Int),.str dh,.str dd,.int .i64 pol,.int .i64 num,.int .i64 tik,.sl .ext (pay.map E.byte),.int .u64 (life:Int),.int .u64 (rt:Int),.bool on,.sl .ext (data.map E.byte)]] (.agg [.int .u64 (now2:Int),.int .i64 kd2,.int .u64 (tok2:Int),.int .i64 ses2,.int .u64 (id2:Int),.int .i64 rk2,.bool ei2,.int .u64 (en2:Int),.int .u64 (es2:Int),.str eh2,.str ed2,.bool di2,.int .u64 (dn2:Int),.int .u64 (dq2:Int),.str dh2,.str dd2,.int .i64 pol2,.int .i64 num2,.int .i64 tik2,.sl .ext (pay2.map E.byte),.int .u64 (life2:Int),.int .u64 (rt2:Int),.bool on2,.sl .ext (data2.map E.byte)]) []:=hO
 replace hS:AP Tryz.prog 45 [.agg [.int .u64 (now:Int),.int .i64 kd,.int .u64 (tok:Int),.int .i64 ses,.int .u64 (id:Int),.int .i64 rk,.bool ei,.int .u64 (en:Int),.int .u64 (es:Int),.str eh,.str ed,.bool di,.int .u64 (dn:Int),.int .u64 (dq:Int),.str dh,.str dd,.int .i64 pol,.int .i64 num,.int .i64 tik,.sl .ext (pay.map E.byte),.int .u64 (life:Int),.int .u64 (rt:Int),.bool on,.sl .ext (data.map E.byte)],.agg [.int .u64 (now2:Int),.int .i64 kd2,.int .u64 (tok2:Int),.int .i64 ses2,.int .u64 (id2:Int),.int .i64 rk2,.bool ei2,.int .u64 (en2:Int),.int .u64 (es2:Int),.str eh2,.str ed2,.bool di2,.int .u64 (dn2:Int),.int .u64 (dq2:Int),.str dh2,.str dd2,.int .i64 pol2,.int .i64 num2,.int .i64 tik2,.sl .ext (pay2.map E.byte),.int .u64 (life2:Int),.int .u64 (rt2:Int),.bool on2,.sl .ext (data2.map E.byte)]] (.bool s) []:=hS
 replace hP:AP Tryz.prog 81 [.agg [.int .u64 (now:Int),.int .i64 kd,.int .u64 (tok:Int),.int .i64 ses,.int .u64 (id:Int),.int .i64 rk,.bool ei,.int .u64 (en:Int),.int .u64 (es:Int),.str eh,.str ed,.bool di,.int .u64 (dn:Int),.int .u64 (dq:Int),.str dh,.str dd,.int .i64 pol,.int .i64 num,.int .i64 tik,.sl .ext (pay.map E.byte),.int .u64 (life:Int),.int .u64 (rt:Int),.bool on,.sl .ext (data.map E.byte)]] (.bool p) []:=hP
 show AP Tryz.prog 42 [.agg [.int .u64 (now:Int),.int .i64 kd,.int .u64 (tok:Int),.int .i64 ses,.int .u64 (id:Int),.int .i64 rk,.bool ei,.int .u64 (en:Int),.int .u64 (es:Int),.str eh,.str ed,.bool di,.int .u64 (dn:Int),.int .u64 (dq:Int),.str dh,.str dd,.int .i64 pol,.int .i64 num,.int .i64 tik,.sl .ext (pay.map E.byte),.int .u64 (life:Int),.int .u64 (rt:Int),.bool on,.sl .ext (data.map E.byte)]] (.bool (decide ((now:Int)<=1099511627776)&&(s&&p))) []
 cases t1:decide ((now:Int)<=1099511627776)<;>cases s
 all_goals
  refine AP.ofA (Zl Tryz.func42 Z Tryz.ntmps42 Z Z ?_)
  repeat'(first|(apply Zb (hO);kernel_rfl;(iterate 4 exact Z))|(apply Zb (hS);kernel_rfl;(iterate 4 exact Z))|(apply Zb (hP);kernel_rfl;(iterate 4 exact Z))|(apply Zg Za;exact Z)|(apply Zh Za;exact Z)|(apply Zd;(iterate 3 exact Z);(first|with_reducible assumption|decide +kernel|(solve|simp only[bn])))|(apply Zr;(iterate 3 exact Z);(first|with_reducible assumption|decide +kernel|(solve|simp only[bn])))|(apply Zj;exact Z;(first|with_reducible assumption|decide +kernel|(solve|simp only[bn]));exact Z;exact Z)|(apply Zi;exact Z;(first|with_reducible assumption|decide +kernel|(solve|simp only[bn]));exact Z;exact Z)|(apply Zm 7 ZG;decide +kernel;kernel_rfl;kernel_rfl;kernel_rfl;exact Z;exact Z)|(apply Zq;(iterate 4 exact Z))|exact AE.nil _ _ _ _|(apply Zv;exact Z)|(apply ZA;exact Z;exact Z;decide +kernel;exact Z)|(apply ZB;exact Z)|exact AO.nil _ _ _|(apply Zp;(decide +kernel))|exact AOs.nil|exact ZJ rfl rfl)
  all_goals exact Qe
def vnF:Nat->Nat->List UInt8
 | 0,n=>[UInt8.ofNat n]
 | f+1,n=>if n>127 then UInt8.ofNat (n % 128+128)::vnF f (n/128) else [UInt8.ofNat n]
def vn (n:Nat):List UInt8:=vnF 9 n
end Go.Proofs.YtchlgagdbflkmaaGreatDoor
end
