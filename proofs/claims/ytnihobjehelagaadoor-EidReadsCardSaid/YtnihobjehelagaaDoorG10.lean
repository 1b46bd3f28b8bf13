/- Package ident: numbers, and a maker of numbers. -/
import Derived.Test.YtnihobjehelagaaDoorG04
import Derived.Test.YtnihobjehelagaaDoorG09
import Derived.Test.YtnihobjehelagaaDoorG07
import Derived.Test.YtnihobjehelagaaDoorG08
import Derived.Test.YtnihobjehelagaaDoorG01
import Derived.Test.YtnihobjehelagaaDoorG05
import Derived.Test.YtnihobjehelagaaDoorG03
import Derived.SizedLaws
import Derived.Test.YtnihobjehelagaaDoorG06
section
open Go.RowKit Go.Pl Go.Av
namespace Go.Proofs.YtnihobjehelagaaDoor
set_option linter.unusedVariables false
set_option linter.unusedSimpArgs false
set_option maxHeartbeats 1000000
abbrev iC (x : EidV) (t q : Nat) : List D := [.bool x.i, .int .u64 (x.n : Int), .int .u64 (x.s : Int), .str x.h, .str x.d, .int .u64 (t : Int), .int .u64 (q : Int)]
abbrev mC (x : EidV) (t q : Nat) (b : Bool) : List (List D) := [[.bool x.i, .int .u64 (x.n : Int), .int .u64 (x.s : Int), .str x.h, .str x.d, .int .u64 (t : Int), .int .u64 (q : Int), .bool b]]
def iRight (x : EidV) (t q : Nat) : Bool := eRight x && decide ((t : Int) ≤ 1099511627776) && decide ((q : Int) ≤ 1099511627776)
theorem av_iRight [Known] (x : EidV) (t q : Nat) : AP Tryd.prog 67 [.agg (iC x t q)] (.bool (iRight x t q)) [] := by
  refine AP.ofA ?_
  refine AC_of Tryd.func67 rfl Tryd.ntmps67 rfl rfl ?_
  repeat' (first | (apply AL_callPw (av_eRight x); kernel_rfl; (iterate 4 exact rfl)) | (apply AL_move; exact rfl; exact rfl) | (apply AL_assign; exact rfl; exact rfl) | (apply AL_bin; (iterate 5 exact rfl)) | (apply AL_load1 ttok; (iterate 6 exact rfl)) | (apply AL_loadn ttok; (iterate 7 exact rfl)) | (apply AL_fieldAddr ttok; (iterate 7 exact rfl)) | (apply AL_box; (iterate 5 exact rfl)) | refine AL_nil ?_ | (apply AL_guardT; (iterate 3 exact rfl); (first | with_reducible assumption | (guard_target =ₛ true = true; rfl) | (guard_target =ₛ false = false; rfl) | (guard_target =ₛ (!true) = false; rfl) | (guard_target =ₛ (!false) = true; rfl))) | (apply AL_guardFt; (iterate 3 exact rfl); (first | with_reducible assumption | (guard_target =ₛ true = true; rfl) | (guard_target =ₛ false = false; rfl) | (guard_target =ₛ (!true) = false; rfl) | (guard_target =ₛ (!false) = true; rfl))) | (apply AL_guardS; exact rfl; exact rfl; all_goals intro hb) | (apply AL_pickT; exact rfl; (first | with_reducible assumption | (guard_target =ₛ true = true; rfl) | (guard_target =ₛ false = false; rfl) | (guard_target =ₛ (!true) = false; rfl) | (guard_target =ₛ (!false) = true; rfl)); exact rfl; exact rfl) | (apply AL_pickF; exact rfl; (first | with_reducible assumption | (guard_target =ₛ true = true; rfl) | (guard_target =ₛ false = false; rfl) | (guard_target =ₛ (!true) = false; rfl) | (guard_target =ₛ (!false) = true; rfl)); exact rfl; exact rfl) | refine AW_region ?_ | refine AW_seq' ?_ | refine then_norm ?_ | refine AW_ret ?_)
  all_goals (apply endQ []; (repeat (first | exact ResL.nil | (apply ResL.cons; first | exact .tmp _ _ rfl | (apply res_n ttok; (iterate 6 exact rfl)) | (apply res_1 ttok; (iterate 5 exact rfl))))); (iterate 4 exact rfl))
  all_goals first | rfl | (unfold iRight; simp only [*]; done) | (unfold iRight; simp only [*]; simp only [Bool.and_true, Bool.true_and, Bool.and_false, Bool.false_and]; done)
def aheadI (a : EidV) (t q : Nat) (b : EidV) (t' q' : Nat) : Bool :=
  if ((t : Int) != (t' : Int)) then decide ((t : Int) < (t' : Int)) else if ((q : Int) != (q' : Int)) then decide ((q : Int) < (q' : Int)) else lessE a b
theorem av_ahead [Known] (a : EidV) (t q : Nat) (b : EidV) (t' q' : Nat) : AP Tryd.prog 66 [.agg (iC a t q), .agg (iC b t' q')] (.bool (aheadI a t q b t' q')) [] := by
  refine AP.ofA ?_
  refine AC_of Tryd.func66 rfl Tryd.ntmps66 rfl rfl ?_
  repeat' (first | (apply AL_callPw (av_less a b); kernel_rfl; (iterate 4 exact rfl)) | (apply AL_assign; exact rfl; exact rfl) | (apply AL_bin; (iterate 5 exact rfl)) | (apply AL_load1 ttok; (iterate 6 exact rfl)) | (apply AL_loadn ttok; (iterate 7 exact rfl)) | (apply AL_fieldAddr ttok; (iterate 7 exact rfl)) | (apply AL_box; (iterate 5 exact rfl)) | refine AL_nil ?_ | refine AW_region ?_ | refine AW_seq' ?_ | (apply AW_cond'; exact rfl; all_goals intro hb) | refine then_norm ?_ | refine AW_block ?_ | refine AW_ret ?_ | refine then_ret ?_ | refine blk_ret ?_ | refine AW_skip ?_)
  all_goals (apply endQ []; (repeat (first | exact ResL.nil | (apply ResL.cons; first | exact .tmp _ _ rfl | (apply res_n ttok; (iterate 6 exact rfl)) | (apply res_1 ttok; (iterate 5 exact rfl))))); (iterate 4 exact rfl))
  all_goals first | rfl | (unfold aheadI; simp only [*, if_true, if_false]; done) | (unfold aheadI; simp [*]; done)
theorem av_greatN [Known] (x : EidV) (t q : Nat) : AP Tryd.prog 29 [.agg (iC x t q)] (.bool (decide (IntKind.i64.wrap ((x.h.length : Int) + (x.d.length : Int)) > 300))) [] := by
  refine AP.ofA ?_
  refine AC_of Tryd.func29 rfl Tryd.ntmps29 rfl rfl ?_
  repeat' (first | (apply AL_assign; exact rfl; exact rfl) | (apply AL_bin; (iterate 5 exact rfl)) | (apply AL_load1 ttok; (iterate 6 exact rfl)) | (apply AL_fieldAddr ttok; (iterate 7 exact rfl)) | (apply AL_box; (iterate 5 exact rfl)) | refine AL_nil ?_ | refine AW_region ?_ | refine AW_seq' ?_ | refine then_norm ?_ | refine AW_ret ?_ | (apply AL_lens ttok; (iterate 4 exact rfl)))
  (apply endQ []; (repeat (first | exact ResL.nil | (apply ResL.cons; first | exact .tmp _ _ rfl | (apply res_n ttok; (iterate 6 exact rfl)) | (apply res_1 ttok; (iterate 5 exact rfl))))); (iterate 4 exact rfl))
  all_goals rfl
theorem av_newN [Known] (x : EidV) (h : eRight x = false ∨ isZ x = true) : AP Tryd.prog 63 [.agg (eC x)] (.tup [.nilp, .int .i64 3]) [] := by
  refine AP.ofA ?_
  refine AC_of Tryd.func63 rfl Tryd.ntmps63 rfl rfl ?_
  cases hr : eRight x with
  | false =>
    repeat' (first | rw [hr] | (apply AL_callPw (av_eRight x); kernel_rfl; (iterate 4 exact rfl)) | (apply AL_move; exact rfl; exact rfl) | (apply AL_assign; exact rfl; exact rfl) | (apply AL_loadn ttok; (iterate 7 exact rfl)) | (apply AL_box; (iterate 5 exact rfl)) | (apply AL_not; exact rfl; exact rfl) | refine AL_nil ?_ | (apply AL_guardFf; (iterate 3 exact rfl); (first | with_reducible assumption | (guard_target =ₛ true = true; rfl) | (guard_target =ₛ false = false; rfl) | (guard_target =ₛ (!true) = false; rfl) | (guard_target =ₛ (!false) = true; rfl))) | (apply AL_pickT; exact rfl; (first | with_reducible assumption | (guard_target =ₛ true = true; rfl) | (guard_target =ₛ false = false; rfl) | (guard_target =ₛ (!true) = false; rfl) | (guard_target =ₛ (!false) = true; rfl)); exact rfl; exact rfl) | refine AW_region ?_ | refine AW_seq' ?_ | (apply AW_condA; exact rfl; (first | with_reducible assumption | (guard_target =ₛ true = true; rfl) | (guard_target =ₛ false = false; rfl) | (guard_target =ₛ (!true) = false; rfl) | (guard_target =ₛ (!false) = true; rfl))) | refine then_norm ?_ | refine AW_ret ?_ | refine then_ret ?_)
    (apply endQ []; (repeat (first | exact ResL.nil | (apply ResL.cons; first | exact .tmp _ _ rfl | (apply res_n ttok; (iterate 6 exact rfl)) | (apply res_1 ttok; (iterate 5 exact rfl))))); (iterate 4 exact rfl))
    all_goals rfl
  | true =>
    have hz : isZ x = true := by
      rcases h with h | h
      · rw [h] at hr; cases hr
      · exact h
    unfold isZ at hz
    repeat' (first | rw [hr] | (apply AL_callPw (av_eRight x); kernel_rfl; (iterate 4 exact rfl)) | (apply AL_move; exact rfl; exact rfl) | (apply AL_assign; exact rfl; exact rfl) | (apply AL_loadn ttok; (iterate 7 exact rfl)) | (apply AL_box; (iterate 5 exact rfl)) | (apply AL_not; exact rfl; exact rfl) | refine AL_nil ?_ | (apply AL_guardT; (iterate 3 exact rfl); (first | with_reducible assumption | (guard_target =ₛ true = true; rfl) | (guard_target =ₛ false = false; rfl) | (guard_target =ₛ (!true) = false; rfl) | (guard_target =ₛ (!false) = true; rfl))) | (apply AL_pickF; exact rfl; (first | with_reducible assumption | (guard_target =ₛ true = true; rfl) | (guard_target =ₛ false = false; rfl) | (guard_target =ₛ (!true) = false; rfl) | (guard_target =ₛ (!false) = true; rfl)); exact rfl; exact rfl) | refine AW_region ?_ | refine AW_seq' ?_ | (apply AW_condA; exact rfl; (first | with_reducible assumption | (guard_target =ₛ true = true; rfl) | (guard_target =ₛ false = false; rfl) | (guard_target =ₛ (!true) = false; rfl) | (guard_target =ₛ (!false) = true; rfl))) | refine then_norm ?_ | refine AW_ret ?_ | refine then_ret ?_ | (apply AL_build ttok; (iterate 6 exact rfl)) | (apply AL_eqS ttok; (iterate 4 exact rfl); (kernel_rfl); (kernel_rfl); (iterate 3 exact rfl)))
    (apply endQ []; (repeat (first | exact ResL.nil | (apply ResL.cons; first | exact .tmp _ _ rfl | (apply res_n ttok; (iterate 6 exact rfl)) | (apply res_1 ttok; (iterate 5 exact rfl))))); (iterate 4 exact rfl))
    all_goals rfl
theorem av_newI [Known] (x : EidV) (h : eRight x = true) (hz : isZ x = false) : AQ Tryd.prog 63 [.agg (eC x)] [] (.tup [.ptr 0 0, .int .i64 0]) (mC x 0 0 true) := by
  refine AQ.weak ?_
  refine AC_of Tryd.func63 rfl Tryd.ntmps63 rfl rfl ?_
  unfold isZ at hz
  repeat' (first | rw [h] | (apply AL_callPw (av_eRight x); kernel_rfl; (iterate 4 exact rfl)) | (apply AL_move; exact rfl; exact rfl) | (apply AL_assign; exact rfl; exact rfl) | (apply AL_loadn ttok; (iterate 7 exact rfl)) | (apply AL_box; (iterate 5 exact rfl)) | (apply AL_not; exact rfl; exact rfl) | refine AL_nil ?_ | (apply AL_guardT; (iterate 3 exact rfl); (first | with_reducible assumption | (guard_target =ₛ true = true; rfl) | (guard_target =ₛ false = false; rfl) | (guard_target =ₛ (!true) = false; rfl) | (guard_target =ₛ (!false) = true; rfl))) | (apply AL_pickF; exact rfl; (first | with_reducible assumption | (guard_target =ₛ true = true; rfl) | (guard_target =ₛ false = false; rfl) | (guard_target =ₛ (!true) = false; rfl) | (guard_target =ₛ (!false) = true; rfl)); exact rfl; exact rfl) | refine AW_region ?_ | refine AW_seq' ?_ | (apply AW_condB; exact rfl; (first | with_reducible assumption | (guard_target =ₛ true = true; rfl) | (guard_target =ₛ false = false; rfl) | (guard_target =ₛ (!true) = false; rfl) | (guard_target =ₛ (!false) = true; rfl))) | refine then_norm ?_ | refine AW_ret ?_ | (apply AL_build ttok; (iterate 6 exact rfl)) | (apply AL_eqS ttok; (iterate 4 exact rfl); (kernel_rfl); (kernel_rfl); (iterate 3 exact rfl)) | refine AW_skip ?_)
  (apply endQ [1]; (repeat (first | exact ResL.nil | (apply ResL.cons; first | exact .tmp _ _ rfl | (apply res_n ttok; (iterate 6 exact rfl)) | (apply res_1 ttok; (iterate 5 exact rfl))))); (iterate 4 exact rfl))
  all_goals rfl
theorem av_nextBig [Known] (x : EidV) (t q now : Nat) (h : now > 1099511627776) : AQ Tryd.prog 64 [.ptr 0 0, .int .u64 (now : Int)] (mC x t q true) (.tup [.agg (iC eidZ 0 0), .int .i64 1]) (mC x t q true) := by
  refine AQ.weak ?_
  refine AC_of Tryd.func64 rfl Tryd.ntmps64 rfl rfl ?_
  have g1 : decide ((now : Int) > 1099511627776) = true := decide_eq_true (by omega)
  repeat' (first | (apply AL_move; exact rfl; exact rfl) | (apply AL_assign; exact rfl; exact rfl) | (apply AL_bin; (iterate 5 exact rfl)) | (apply AL_load1 ttok; (iterate 6 exact rfl)) | (apply AL_fieldAddr ttok; (iterate 7 exact rfl)) | (apply AL_nilCheck; exact rfl; exact rfl) | (apply AL_store ttok; (iterate 8 exact rfl)) | (apply AL_not; exact rfl; exact rfl) | refine AL_nil ?_ | (apply AL_guardT; (iterate 3 exact rfl); (first | with_reducible assumption | (guard_target =ₛ true = true; rfl) | (guard_target =ₛ false = false; rfl) | (guard_target =ₛ (!true) = false; rfl) | (guard_target =ₛ (!false) = true; rfl))) | (apply AL_pickF; exact rfl; (first | with_reducible assumption | (guard_target =ₛ true = true; rfl) | (guard_target =ₛ false = false; rfl) | (guard_target =ₛ (!true) = false; rfl) | (guard_target =ₛ (!false) = true; rfl)); exact rfl; exact rfl) | refine AW_region ?_ | refine AW_seq' ?_ | (apply AW_condA; exact rfl; (first | with_reducible assumption | (guard_target =ₛ true = true; rfl) | (guard_target =ₛ false = false; rfl) | (guard_target =ₛ (!true) = false; rfl) | (guard_target =ₛ (!false) = true; rfl))) | (apply AW_condB; exact rfl; (first | with_reducible assumption | (guard_target =ₛ true = true; rfl) | (guard_target =ₛ false = false; rfl) | (guard_target =ₛ (!true) = false; rfl) | (guard_target =ₛ (!false) = true; rfl))) | refine then_norm ?_ | refine AW_block ?_ | refine AW_ret ?_ | refine then_ret ?_ | refine blk_ret ?_ | (apply AL_build ttok; (iterate 6 exact rfl)) | (apply AL_alloc ttok; (iterate 4 exact rfl)) | (apply AL_nilp ttok; (iterate 6 exact rfl)))
  (apply endQ [0]; (repeat (first | exact ResL.nil | (apply ResL.cons; first | exact .tmp _ _ rfl | (apply res_n ttok; (iterate 6 exact rfl)) | (apply res_1 ttok; (iterate 5 exact rfl))))); (iterate 4 exact rfl))
  all_goals rfl
theorem av_nextNew [Known] (x : EidV) (t q now : Nat) (h : now ≤ 1099511627776) (h2 : now > t) : AQ Tryd.prog 64 [.ptr 0 0, .int .u64 (now : Int)] (mC x t q true) (.tup [.agg (iC x now 0), .int .i64 0]) (mC x now 0 true) := by
  refine AQ.weak ?_
  refine AC_of Tryd.func64 rfl Tryd.ntmps64 rfl rfl ?_
  have g1 : decide ((now : Int) > 1099511627776) = false := decide_eq_false (by omega)
  have g2 : decide ((now : Int) > (t : Int)) = true := decide_eq_true (by omega)
  repeat' (first | (apply AL_move; exact rfl; exact rfl) | (apply AL_assign; exact rfl; exact rfl) | (apply AL_bin; (iterate 5 exact rfl)) | (apply AL_load1 ttok; (iterate 6 exact rfl)) | (apply AL_loadn ttok; (iterate 7 exact rfl)) | (apply AL_fieldAddr ttok; (iterate 7 exact rfl)) | (apply AL_nilCheck; exact rfl; exact rfl) | (apply AL_store ttok; (iterate 8 exact rfl)) | (apply AL_not; exact rfl; exact rfl) | refine AL_nil ?_ | (apply AL_guardT; (iterate 3 exact rfl); (first | with_reducible assumption | (guard_target =ₛ true = true; rfl) | (guard_target =ₛ false = false; rfl) | (guard_target =ₛ (!true) = false; rfl) | (guard_target =ₛ (!false) = true; rfl))) | (apply AL_pickF; exact rfl; (first | with_reducible assumption | (guard_target =ₛ true = true; rfl) | (guard_target =ₛ false = false; rfl) | (guard_target =ₛ (!true) = false; rfl) | (guard_target =ₛ (!false) = true; rfl)); exact rfl; exact rfl) | refine AW_region ?_ | refine AW_seq' ?_ | (apply AW_condA; exact rfl; (first | with_reducible assumption | (guard_target =ₛ true = true; rfl) | (guard_target =ₛ false = false; rfl) | (guard_target =ₛ (!true) = false; rfl) | (guard_target =ₛ (!false) = true; rfl))) | (apply AW_condB; exact rfl; (first | with_reducible assumption | (guard_target =ₛ true = true; rfl) | (guard_target =ₛ false = false; rfl) | (guard_target =ₛ (!true) = false; rfl) | (guard_target =ₛ (!false) = true; rfl))) | refine then_norm ?_ | refine AW_block ?_ | refine AW_ret ?_ | (apply AL_alloc ttok; (iterate 4 exact rfl)) | (apply AL_nilp ttok; (iterate 6 exact rfl)))
  (apply endQ [0]; (repeat (first | exact ResL.nil | (apply ResL.cons; first | exact .tmp _ _ rfl | (apply res_n ttok; (iterate 6 exact rfl)) | (apply res_1 ttok; (iterate 5 exact rfl))))); (iterate 4 exact rfl))
  all_goals rfl
theorem av_nextFull [Known] (x : EidV) (t q now : Nat) (h : now ≤ 1099511627776) (h2 : now ≤ t) (h3 : q ≥ 1099511627776) : AQ Tryd.prog 64 [.ptr 0 0, .int .u64 (now : Int)] (mC x t q true) (.tup [.agg (iC eidZ 0 0), .int .i64 5]) (mC x t q true) := by
  refine AQ.weak ?_
  refine AC_of Tryd.func64 rfl Tryd.ntmps64 rfl rfl ?_
  have g1 : decide ((now : Int) > 1099511627776) = false := decide_eq_false (by omega)
  have g2 : decide ((now : Int) > (t : Int)) = false := decide_eq_false (by omega)
  have g3 : decide ((q : Int) ≥ 1099511627776) = true := decide_eq_true (by omega)
  repeat' (first | (apply AL_move; exact rfl; exact rfl) | (apply AL_assign; exact rfl; exact rfl) | (apply AL_bin; (iterate 5 exact rfl)) | (apply AL_load1 ttok; (iterate 6 exact rfl)) | (apply AL_fieldAddr ttok; (iterate 7 exact rfl)) | (apply AL_nilCheck; exact rfl; exact rfl) | (apply AL_store ttok; (iterate 8 exact rfl)) | (apply AL_not; exact rfl; exact rfl) | refine AL_nil ?_ | (apply AL_guardT; (iterate 3 exact rfl); (first | with_reducible assumption | (guard_target =ₛ true = true; rfl) | (guard_target =ₛ false = false; rfl) | (guard_target =ₛ (!true) = false; rfl) | (guard_target =ₛ (!false) = true; rfl))) | (apply AL_pickF; exact rfl; (first | with_reducible assumption | (guard_target =ₛ true = true; rfl) | (guard_target =ₛ false = false; rfl) | (guard_target =ₛ (!true) = false; rfl) | (guard_target =ₛ (!false) = true; rfl)); exact rfl; exact rfl) | refine AW_region ?_ | refine AW_seq' ?_ | (apply AW_condA; exact rfl; (first | with_reducible assumption | (guard_target =ₛ true = true; rfl) | (guard_target =ₛ false = false; rfl) | (guard_target =ₛ (!true) = false; rfl) | (guard_target =ₛ (!false) = true; rfl))) | (apply AW_condB; exact rfl; (first | with_reducible assumption | (guard_target =ₛ true = true; rfl) | (guard_target =ₛ false = false; rfl) | (guard_target =ₛ (!true) = false; rfl) | (guard_target =ₛ (!false) = true; rfl))) | refine then_norm ?_ | refine AW_block ?_ | refine AW_ret ?_ | refine then_ret ?_ | refine blk_ret ?_ | (apply AL_build ttok; (iterate 6 exact rfl)) | (apply AL_alloc ttok; (iterate 4 exact rfl)) | (apply AL_nilp ttok; (iterate 6 exact rfl)))
  (apply endQ [0]; (repeat (first | exact ResL.nil | (apply ResL.cons; first | exact .tmp _ _ rfl | (apply res_n ttok; (iterate 6 exact rfl)) | (apply res_1 ttok; (iterate 5 exact rfl))))); (iterate 4 exact rfl))
  all_goals rfl
theorem av_nextInc [Known] (x : EidV) (t q now : Nat) (h : now ≤ 1099511627776) (h2 : now ≤ t) (h3 : q < 1099511627776) : AQ Tryd.prog 64 [.ptr 0 0, .int .u64 (now : Int)] (mC x t q true) (.tup [.agg (iC x t (q + 1)), .int .i64 0]) (mC x t (q + 1) true) := by
  refine AQ.weak ?_
  refine AC_of Tryd.func64 rfl Tryd.ntmps64 rfl rfl ?_
  have g1 : decide ((now : Int) > 1099511627776) = false := decide_eq_false (by omega)
  have g2 : decide ((now : Int) > (t : Int)) = false := decide_eq_false (by omega)
  have g3 : decide ((q : Int) ≥ 1099511627776) = false := decide_eq_false (by omega)
  have e : IntKind.u64.wrap ((q : Int) + 1) = ((q + 1 : Nat) : Int) := by rw [IntKind.wrap_u64]; omega
  repeat' (first | rw [e] | (apply AL_move; exact rfl; exact rfl) | (apply AL_assign; exact rfl; exact rfl) | (apply AL_bin; (iterate 5 exact rfl)) | (apply AL_load1 ttok; (iterate 6 exact rfl)) | (apply AL_loadn ttok; (iterate 7 exact rfl)) | (apply AL_fieldAddr ttok; (iterate 7 exact rfl)) | (apply AL_nilCheck; exact rfl; exact rfl) | (apply AL_store ttok; (iterate 8 exact rfl)) | (apply AL_not; exact rfl; exact rfl) | refine AL_nil ?_ | (apply AL_guardT; (iterate 3 exact rfl); (first | with_reducible assumption | (guard_target =ₛ true = true; rfl) | (guard_target =ₛ false = false; rfl) | (guard_target =ₛ (!true) = false; rfl) | (guard_target =ₛ (!false) = true; rfl))) | (apply AL_pickF; exact rfl; (first | with_reducible assumption | (guard_target =ₛ true = true; rfl) | (guard_target =ₛ false = false; rfl) | (guard_target =ₛ (!true) = false; rfl) | (guard_target =ₛ (!false) = true; rfl)); exact rfl; exact rfl) | refine AW_region ?_ | refine AW_seq' ?_ | (apply AW_condB; exact rfl; (first | with_reducible assumption | (guard_target =ₛ true = true; rfl) | (guard_target =ₛ false = false; rfl) | (guard_target =ₛ (!true) = false; rfl) | (guard_target =ₛ (!false) = true; rfl))) | refine then_norm ?_ | refine AW_block ?_ | refine AW_ret ?_ | (apply AL_alloc ttok; (iterate 4 exact rfl)) | (apply AL_nilp ttok; (iterate 6 exact rfl)))
  (apply endQ [0]; (repeat (first | exact ResL.nil | (apply ResL.cons; first | exact .tmp _ _ rfl | (apply res_n ttok; (iterate 6 exact rfl)) | (apply res_1 ttok; (iterate 5 exact rfl))))); (iterate 4 exact rfl))
  all_goals rfl
end Go.Proofs.YtnihobjehelagaaDoor
end
/- Package ident: a number's item. -/
section
open Go.RowKit Go.Pl Go.Av
namespace Go.Proofs.YtnihobjehelagaaDoor
set_option linter.unusedVariables false
set_option linter.unusedSimpArgs false
set_option maxHeartbeats 4000000
/-- a number's item -/
def itemN (x : EidV) (t q : Nat) : It := .mk 4 0 [] [itemE x, .mk 4 0 [] [.mk 0 t [] [], .mk 0 q [] []]]
theorem iRight_iff {x : EidV} {t q : Nat} : iRight x t q = true ↔ eRight x = true ∧ t ≤ 1099511627776 ∧ q ≤ 1099511627776 := by
  unfold iRight
  simp only [Bool.and_eq_true, decide_eq_true_eq]
  rw [and_assoc]
  exact and_congr Iff.rfl (and_congr (by omega) (by omega))
theorem wf_itemN {x : EidV} {t q : Nat} (h : iRight x t q = true) : wfI (itemN x t q) := by
  obtain ⟨h1, h2, h3⟩ := iRight_iff.1 h
  have hw := wf_itemE h1
  unfold itemN
  generalize itemE x = y at *
  simp [wfI, wfs, hw]
  omega
theorem av_iWrite [Known] (x : EidV) (t q : Nat) : AP Tryd.prog 31 [.agg (iC x t q)] (.tup [itD (if iRight x t q then itemN x t q else .mk 0 0 [] []), .int .i64 (if iRight x t q then 0 else 3)]) [] := by
  have hR := av_iRight x t q
  cases hr : iRight x t q with
  | false =>
    rw [hr] at hR
    refine AP.ofA ?_
    refine AC_of Tryd.func31 rfl Tryd.ntmps31 rfl rfl ?_
    repeat' (first | (apply AL_callPw (hR); kernel_rfl; (iterate 4 exact rfl)) | (apply AL_assign; exact rfl; exact rfl) | (apply AL_loadn ttok; (iterate 7 exact rfl)) | (apply AL_boxZ; (iterate 5 exact rfl)) | (apply AL_store ttok; (iterate 8 exact rfl)) | (apply AL_not; exact rfl; exact rfl) | refine AL_nil ?_ | refine AW_region ?_ | refine AW_seq' ?_ | (apply AW_condA; exact rfl; (first | with_reducible assumption | decide +kernel)) | refine then_norm ?_ | refine AW_ret ?_ | refine then_ret ?_ | (apply AL_build ttok; (iterate 6 exact rfl)) | (apply AL_allocZ ttok; (iterate 4 exact rfl)))
    all_goals (apply endQ []; (repeat (first | exact ResL.nil | (apply ResL.cons; first | exact .tmp _ _ rfl | (apply res_n ttok; (iterate 6 exact rfl)) | (apply res_1 ttok; (iterate 5 exact rfl))))); (iterate 4 exact rfl))
    all_goals rfl
  | true =>
    rw [hr] at hR
    rw [if_pos rfl, if_pos rfl]
    obtain ⟨h1, h2, h3⟩ := iRight_iff.1 hr
    have hE := av_eWrite x
    rw [h1, if_pos rfl, if_pos rfl] at hE
    have hw := wf_itemE h1
    have nt := av_num t
    have nq := av_num q
    unfold itemN
    generalize itemE x = y at *
    have hL1 := av_list [.mk 0 t [] [], .mk 0 q [] []] (by simp) (by simp [wfI, wfs]; omega)
    have hL := av_list [y, .mk 4 0 [] [.mk 0 t [] [], .mk 0 q [] []]] (by simp) (by simp [wfI, wfs, hw]; omega)
    obtain ⟨k, n, b, l⟩ := y
    replace nt : AP Tryd.prog _ [.int .u64 (t : Int)] (.agg [.int .i64 0, .int .u64 (t : Int), .sl .ext [], .sl .ext []]) [] := nt
    replace nq : AP Tryd.prog _ [.int .u64 (q : Int)] (.agg [.int .i64 0, .int .u64 (q : Int), .sl .ext [], .sl .ext []]) [] := nq
    replace hE : AP Tryd.prog _ [.agg (eC x)] (.tup [.agg [.int .i64 k, .int .u64 (n : Int), byE b, .sl .ext (itEs l)], .int .i64 0]) [] := hE
    replace hL1 : AP Tryd.prog _ _ (.agg [.int .i64 4, .int .u64 0, .sl .ext [], .sl .ext [.agg [.int .i64 0, .int .u64 (t : Int), .sl [], .sl []], .agg [.int .i64 0, .int .u64 (q : Int), .sl [], .sl []]]]) [] := hL1
    refine AP.ofA ?_
    refine AC_of Tryd.func31 rfl Tryd.ntmps31 rfl rfl ?_
    repeat' (first | (apply AL_callPw (hR); kernel_rfl; (iterate 4 exact rfl)) | (apply AL_callPw (hE); kernel_rfl; (iterate 4 exact rfl)) | (apply AL_callPw (nt); kernel_rfl; (iterate 4 exact rfl)) | (apply AL_callPw (nq); kernel_rfl; (iterate 4 exact rfl)) | (apply AL_callPw (hL1); kernel_rfl; (iterate 4 exact rfl)) | (apply AL_callPw (hL); kernel_rfl; (iterate 4 exact rfl)) | (apply AL_move; exact rfl; exact rfl) | (apply AL_assign; exact rfl; exact rfl) | (apply AL_load1 ttok; (iterate 6 exact rfl)) | (apply AL_loadn ttok; (iterate 7 exact rfl)) | (apply AL_fieldAddr ttok; (iterate 7 exact rfl)) | (apply AL_boxZ; (iterate 5 exact rfl)) | (apply AL_store ttok; (iterate 8 exact rfl)) | (apply AL_not; exact rfl; exact rfl) | (apply AL_extract; (iterate 3 exact rfl)) | refine AL_nil ?_ | refine AW_region ?_ | refine AW_seq' ?_ | (apply AW_condB; exact rfl; (first | with_reducible assumption | decide +kernel)) | refine then_norm ?_ | refine AW_ret ?_ | (apply AL_allocZ ttok; (iterate 4 exact rfl)) | (apply AL_bsZ ttok; (iterate 12 exact rfl)) | (apply AW_drawE 13 hmix; (decide +kernel); (kernel_rfl); (kernel_rfl); (kernel_rfl); exact rfl; exact rfl) | (apply AE_consZ; (iterate 4 exact rfl)) | exact AE.nil _ _ _ _ | (apply AEk_puT; exact rfl) | (apply AEk_ef; exact rfl) | (apply AOt_mk; exact rfl; exact rfl; (decide +kernel); exact rfl) | (apply AO_puT; exact rfl) | (apply AO_ef; exact rfl) | exact AO.nil _ _ _ | (apply AOs_skip; (decide +kernel)) | (apply AOs_goZ; (iterate 3 exact rfl)) | exact AOs.nil | exact qY_ok rfl rfl | exact qY_wk rfl rfl rfl rfl rfl | exact qY_efn rfl | refine AW_skip ?_)
    all_goals (apply endQ []; (repeat (first | exact ResL.nil | (apply ResL.cons; first | exact .tmp _ _ rfl | (apply res_n ttok; (iterate 6 exact rfl)) | (apply res_1 ttok; (iterate 5 exact rfl))))); (iterate 4 exact rfl))
    all_goals rfl
end Go.Proofs.YtnihobjehelagaaDoor
end
/- Package ident: an item's number. -/
section
open Go.RowKit Go.Pl Go.Av
namespace Go.Proofs.YtnihobjehelagaaDoor
set_option linter.unusedVariables false
set_option linter.unusedSimpArgs false
set_option maxHeartbeats 4000000
/-- the name that is read, or none's -/
abbrev readZ (y : It) : EidV := match (readV y).2 with | true => (readV y).1 | false => eidZ
/-- is an item the number's that its parts tell? -/
def readNm (y p r x : It) : Bool := match (readV y).2, iRight (readZ y) p.n r.n with
  | true, true => It.beq (itemN (readZ y) p.n r.n) x
  | _, _ => false
abbrev resN (x : EidV) (t q : Nat) (b : Bool) : D := .tup [.agg (iC (match b with | true => x | false => eidZ) (match b with | true => t | false => 0) (match b with | true => q | false => 0)), .int .i64 (match b with | true => 0 | false => 3)]
/-- no item of a number's form -/
def noForm : It → Bool
  | .mk k _ _ [_, .mk k2 _ _ [_, _]] => !(k == 4 && k2 == 4)
  | _ => true
theorem av_iReadNo [Known] [KnownU8] (x : It) (h : noForm x = true) : AP Tryd.prog 32 [itD x] (resN eidZ 0 0 false) [] := by
  show AP Tryd.prog _ _ (.tup [.agg [.bool false, .int .u64 0, .int .u64 0, .str [], .str [], .int .u64 0, .int .u64 0], .int .i64 3]) []
  obtain ⟨k, n, b, l⟩ := x
  by_cases hk : k = 4
  · have t1 : (k != 4) = false := by simpa using hk
    by_cases hl : l.length = 2
    · obtain ⟨y, z, rfl⟩ : ∃ y z, l = [y, z] := by
        match l, hl with
        | [y, z], _ => exact ⟨y, z, rfl⟩
      have t2 : (((itEs [y, z]).length : Int) != 2) = false := rfl
      have hU := uniI [y, z]
      obtain ⟨ky, ny, bY, ly⟩ := y
      obtain ⟨kz, nz, bz, lz⟩ := z
      by_cases hk2 : kz = 4
      · have t3 : (kz != 4) = false := by simpa using hk2
        have hl2 : lz.length ≠ 2 := by
          intro e
          match lz, e with
          | [p, r], _ => simp [noForm, hk, hk2] at h
        have t4 : (((itEs lz).length : Int) != 2) = true := by rw [itEs_len]; simp; omega
        refine AP.ofA ?_
        refine AC_of Tryd.func32 rfl Tryd.ntmps32 rfl rfl ?_
        repeat' (first | (apply AL_move; exact rfl; exact rfl) | (apply AL_assign; exact rfl; exact rfl) | (apply AL_bin; (iterate 5 exact rfl)) | (apply AL_load1 ttok; (iterate 6 exact rfl)) | (apply AL_fieldAddr ttok; (iterate 7 exact rfl)) | (apply AL_boxZ; (iterate 5 exact rfl)) | (apply AL_store ttok; (iterate 8 exact rfl)) | refine AL_nil ?_ | (apply AL_guardT; (iterate 3 exact rfl); (first | with_reducible assumption | decide +kernel)) | (apply AL_pickF; exact rfl; (first | with_reducible assumption | decide +kernel); exact rfl; exact rfl) | refine AW_region ?_ | refine AW_seq' ?_ | (apply AW_condA; exact rfl; (first | with_reducible assumption | decide +kernel)) | refine then_norm ?_ | refine AW_ret ?_ | refine then_ret ?_ | (apply AL_len ttok; (iterate 4 exact rfl)) | (apply AL_eload1 ttok; (iterate 6 exact rfl)) | (apply AL_efieldAddr ttok; (iterate 7 exact rfl)) | (apply AL_build ttok; (iterate 6 exact rfl)) | (apply AL_allocZ ttok; (iterate 4 exact rfl)) | (apply AL_idx ttok; (iterate 6 exact rfl); (first | with_reducible assumption | decide +kernel | exact Int.natCast_nonneg _ | (guard_target = (0:Int) ≤ (OfNat.ofNat _ : Int); decide) | rotate_left); (first | with_reducible assumption | decide +kernel | exact rfl); (first | exact uniB_ok rfl | with_reducible assumption | decide +kernel | rotate_left)))
        all_goals (apply endQ []; (repeat (first | exact ResL.nil | (apply ResL.cons; first | exact .tmp _ _ rfl | (apply res_n ttok; (iterate 6 exact rfl)) | (apply res_1 ttok; (iterate 5 exact rfl))))); (iterate 4 exact rfl))
        all_goals rfl
      · have t3 : (kz != 4) = true := by simpa using hk2
        refine AP.ofA ?_
        refine AC_of Tryd.func32 rfl Tryd.ntmps32 rfl rfl ?_
        repeat' (first | (apply AL_move; exact rfl; exact rfl) | (apply AL_assign; exact rfl; exact rfl) | (apply AL_bin; (iterate 5 exact rfl)) | (apply AL_load1 ttok; (iterate 6 exact rfl)) | (apply AL_fieldAddr ttok; (iterate 7 exact rfl)) | (apply AL_boxZ; (iterate 5 exact rfl)) | (apply AL_store ttok; (iterate 8 exact rfl)) | refine AL_nil ?_ | (apply AL_guardT; (iterate 3 exact rfl); (first | with_reducible assumption | decide +kernel)) | (apply AL_guardFf; (iterate 3 exact rfl); (first | with_reducible assumption | decide +kernel)) | (apply AL_pickT; exact rfl; (first | with_reducible assumption | decide +kernel); exact rfl; exact rfl) | (apply AL_pickF; exact rfl; (first | with_reducible assumption | decide +kernel); exact rfl; exact rfl) | refine AW_region ?_ | refine AW_seq' ?_ | (apply AW_condA; exact rfl; (first | with_reducible assumption | decide +kernel)) | refine then_norm ?_ | refine AW_ret ?_ | refine then_ret ?_ | (apply AL_len ttok; (iterate 4 exact rfl)) | (apply AL_eload1 ttok; (iterate 6 exact rfl)) | (apply AL_efieldAddr ttok; (iterate 7 exact rfl)) | (apply AL_build ttok; (iterate 6 exact rfl)) | (apply AL_allocZ ttok; (iterate 4 exact rfl)) | (apply AL_idx ttok; (iterate 6 exact rfl); (first | with_reducible assumption | decide +kernel | exact Int.natCast_nonneg _ | (guard_target = (0:Int) ≤ (OfNat.ofNat _ : Int); decide) | rotate_left); (first | with_reducible assumption | decide +kernel | exact rfl); (first | exact uniB_ok rfl | with_reducible assumption | decide +kernel | rotate_left)))
        all_goals (apply endQ []; (repeat (first | exact ResL.nil | (apply ResL.cons; first | exact .tmp _ _ rfl | (apply res_n ttok; (iterate 6 exact rfl)) | (apply res_1 ttok; (iterate 5 exact rfl))))); (iterate 4 exact rfl))
        all_goals rfl
    · have t2 : (((itEs l).length : Int) != 2) = true := by rw [itEs_len]; simp; omega
      refine AP.ofA ?_
      refine AC_of Tryd.func32 rfl Tryd.ntmps32 rfl rfl ?_
      repeat' (first | (apply AL_move; exact rfl; exact rfl) | (apply AL_assign; exact rfl; exact rfl) | (apply AL_bin; (iterate 5 exact rfl)) | (apply AL_load1 ttok; (iterate 6 exact rfl)) | (apply AL_fieldAddr ttok; (iterate 7 exact rfl)) | (apply AL_boxZ; (iterate 5 exact rfl)) | (apply AL_store ttok; (iterate 8 exact rfl)) | refine AL_nil ?_ | (apply AL_guardT; (iterate 3 exact rfl); (first | with_reducible assumption | decide +kernel)) | (apply AL_guardFf; (iterate 3 exact rfl); (first | with_reducible assumption | decide +kernel)) | (apply AL_pickT; exact rfl; (first | with_reducible assumption | decide +kernel); exact rfl; exact rfl) | (apply AL_pickF; exact rfl; (first | with_reducible assumption | decide +kernel); exact rfl; exact rfl) | refine AW_region ?_ | refine AW_seq' ?_ | (apply AW_condA; exact rfl; (first | with_reducible assumption | decide +kernel)) | refine then_norm ?_ | refine AW_ret ?_ | refine then_ret ?_ | (apply AL_len ttok; (iterate 4 exact rfl)) | (apply AL_build ttok; (iterate 6 exact rfl)) | (apply AL_allocZ ttok; (iterate 4 exact rfl)))
      all_goals (apply endQ []; (repeat (first | exact ResL.nil | (apply ResL.cons; first | exact .tmp _ _ rfl | (apply res_n ttok; (iterate 6 exact rfl)) | (apply res_1 ttok; (iterate 5 exact rfl))))); (iterate 4 exact rfl))
      all_goals rfl
  · have t1 : (k != 4) = true := by simpa using hk
    refine AP.ofA ?_
    refine AC_of Tryd.func32 rfl Tryd.ntmps32 rfl rfl ?_
    repeat' (first | (apply AL_move; exact rfl; exact rfl) | (apply AL_assign; exact rfl; exact rfl) | (apply AL_bin; (iterate 5 exact rfl)) | (apply AL_load1 ttok; (iterate 6 exact rfl)) | (apply AL_fieldAddr ttok; (iterate 7 exact rfl)) | (apply AL_boxZ; (iterate 5 exact rfl)) | (apply AL_store ttok; (iterate 8 exact rfl)) | refine AL_nil ?_ | (apply AL_guardFf; (iterate 3 exact rfl); (first | with_reducible assumption | decide +kernel)) | (apply AL_pickT; exact rfl; (first | with_reducible assumption | decide +kernel); exact rfl; exact rfl) | refine AW_region ?_ | refine AW_seq' ?_ | (apply AW_condA; exact rfl; (first | with_reducible assumption | decide +kernel)) | refine then_norm ?_ | refine AW_ret ?_ | refine then_ret ?_ | (apply AL_build ttok; (iterate 6 exact rfl)) | (apply AL_allocZ ttok; (iterate 4 exact rfl)))
    all_goals (apply endQ []; (repeat (first | exact ResL.nil | (apply ResL.cons; first | exact .tmp _ _ rfl | (apply res_n ttok; (iterate 6 exact rfl)) | (apply res_1 ttok; (iterate 5 exact rfl))))); (iterate 4 exact rfl))
    all_goals rfl
end Go.Proofs.YtnihobjehelagaaDoor
end
/- Package ident: an item of a number's form. -/
section
open Go.RowKit Go.Pl Go.Av
namespace Go.Proofs.YtnihobjehelagaaDoor
set_option linter.unusedVariables false
set_option linter.unusedSimpArgs false
set_option maxHeartbeats 4000000
theorem ird_f [Known] (y z : It) (n : Nat) (b : List UInt8) (n2 : Nat) (b2 : List UInt8) (kp : Int) (np : Nat) (bp : List UInt8) (lp : List It) (kr : Int) (nr : Nat) (br : List UInt8) (lr : List It) (c : Int)
    (hE : AP Tryd.prog 40 [itD y] (.tup [.agg (eC eidZ), .int .i64 3]) []) (hW : AP Tryd.prog 31 [.agg (iC eidZ np nr)] (.tup [itD z, .int .i64 c]) []) :
    AP Tryd.prog 32 [itD (.mk 4 n b [y, .mk 4 n2 b2 [.mk kp np bp lp, .mk kr nr br lr]])] (.tup [.agg (iC eidZ 0 0), .int .i64 3]) [] := by
  have hU := uniI [y, .mk 4 n2 b2 [.mk kp np bp lp, .mk kr nr br lr]]
  have hU2 := uniI [.mk kp np bp lp, .mk kr nr br lr]
  have t2 : (((itEs [y, .mk 4 n2 b2 [.mk kp np bp lp, .mk kr nr br lr]]).length : Int) != 2) = false := rfl
  have t3 : (((itEs [.mk kp np bp lp, .mk kr nr br lr]).length : Int) != 2) = false := rfl
  obtain ⟨yk, yn, yb, yl⟩ := y
  obtain ⟨zk, zn, zb, zl⟩ := z
  replace hE : AP Tryd.prog _ [.agg [.int .i64 yk, .int .u64 (yn : Int), byE yb, .sl .ext (itEs yl)]] (.tup [.agg [.bool false, .int .u64 0, .int .u64 0, .str [], .str []], .int .i64 3]) [] := hE
  replace hW : AP Tryd.prog _ [.agg [.bool false, .int .u64 0, .int .u64 0, .str [], .str [], .int .u64 (np : Int), .int .u64 (nr : Int)]] (.tup [.agg [.int .i64 zk, .int .u64 (zn : Int), byE zb, .sl .ext (itEs zl)], .int .i64 c]) [] := hW
  refine AP.ofA ?_
  refine AC_of Tryd.func32 rfl Tryd.ntmps32 rfl rfl ?_
  repeat' (first | (apply AL_callPw (hE); kernel_rfl; (iterate 4 exact rfl)) | (apply AL_callPw (hW); kernel_rfl; (iterate 4 exact rfl)) | (apply AL_move; exact rfl; exact rfl) | (apply AL_assign; exact rfl; exact rfl) | (apply AL_bin; (iterate 5 exact rfl)) | (apply AL_load1 ttok; (iterate 6 exact rfl)) | (apply AL_loadn ttok; (iterate 7 exact rfl)) | (apply AL_fieldAddr ttok; (iterate 7 exact rfl)) | (apply AL_boxZ; (iterate 5 exact rfl)) | (apply AL_store ttok; (iterate 8 exact rfl)) | (apply AL_extract; (iterate 3 exact rfl)) | refine AL_nil ?_ | (apply AL_guardT; (iterate 3 exact rfl); (first | with_reducible assumption | decide +kernel)) | (apply AL_guardFf; (iterate 3 exact rfl); (first | with_reducible assumption | decide +kernel)) | (apply AL_pickT; exact rfl; (first | with_reducible assumption | decide +kernel); exact rfl; exact rfl) | (apply AL_pickF; exact rfl; (first | with_reducible assumption | decide +kernel); exact rfl; exact rfl) | refine AW_region ?_ | refine AW_seq' ?_ | (apply AW_condA; exact rfl; (first | with_reducible assumption | decide +kernel)) | (apply AW_condB; exact rfl; (first | with_reducible assumption | decide +kernel)) | refine then_norm ?_ | refine AW_ret ?_ | refine then_ret ?_ | (apply AL_len ttok; (iterate 4 exact rfl)) | (apply AL_eload1 ttok; (iterate 6 exact rfl)) | (apply AL_eloadn ttok; (iterate 6 exact rfl)) | (apply AL_efieldAddr ttok; (iterate 7 exact rfl)) | (apply AL_build ttok; (iterate 6 exact rfl)) | (apply AL_allocZ ttok; (iterate 4 exact rfl)) | (apply AW_drawE 19 hmix; (decide +kernel); (kernel_rfl); (kernel_rfl); (kernel_rfl); exact rfl; exact rfl) | (apply AE_consZ; (iterate 4 exact rfl)) | exact AE.nil _ _ _ _ | (apply AEk_puT; exact rfl) | (apply AEk_efT; exact rfl) | (apply AOt_mk; exact rfl; exact rfl; (decide +kernel); exact rfl) | (apply AO_puT; exact rfl) | (apply AO_efT; exact rfl) | exact AO.nil _ _ _ | (apply AOs_skip; (decide +kernel)) | (apply AOs_goZ; (iterate 3 exact rfl)) | exact AOs.nil | exact qY_ok rfl rfl | exact qY_ef rfl rfl | refine AW_skip ?_ | (apply AL_idx ttok; (iterate 6 exact rfl); (first | with_reducible assumption | decide +kernel | exact Int.natCast_nonneg _ | (guard_target = (0:Int) ≤ (OfNat.ofNat _ : Int); decide) | rotate_left); (first | with_reducible assumption | decide +kernel | exact rfl); (first | exact uniB_ok rfl | with_reducible assumption | decide +kernel | rotate_left)))
  all_goals (apply endQ []; (repeat (first | exact ResL.nil | (apply ResL.cons; first | exact .tmp _ _ rfl | (apply res_n ttok; (iterate 6 exact rfl)) | (apply res_1 ttok; (iterate 5 exact rfl))))); (iterate 4 exact rfl))
  all_goals rfl
theorem ird_w [Known] (x : EidV) (y z : It) (n : Nat) (b : List UInt8) (n2 : Nat) (b2 : List UInt8) (kp : Int) (np : Nat) (bp : List UInt8) (lp : List It) (kr : Int) (nr : Nat) (br : List UInt8) (lr : List It)
    (hE : AP Tryd.prog 40 [itD y] (.tup [.agg (eC x), .int .i64 0]) []) (hW : AP Tryd.prog 31 [.agg (iC x np nr)] (.tup [itD z, .int .i64 3]) []) :
    AP Tryd.prog 32 [itD (.mk 4 n b [y, .mk 4 n2 b2 [.mk kp np bp lp, .mk kr nr br lr]])] (.tup [.agg (iC eidZ 0 0), .int .i64 3]) [] := by
  have hU := uniI [y, .mk 4 n2 b2 [.mk kp np bp lp, .mk kr nr br lr]]
  have hU2 := uniI [.mk kp np bp lp, .mk kr nr br lr]
  have t2 : (((itEs [y, .mk 4 n2 b2 [.mk kp np bp lp, .mk kr nr br lr]]).length : Int) != 2) = false := rfl
  have t3 : (((itEs [.mk kp np bp lp, .mk kr nr br lr]).length : Int) != 2) = false := rfl
  obtain ⟨yk, yn, yb, yl⟩ := y
  obtain ⟨zk, zn, zb, zl⟩ := z
  obtain ⟨xi, xn, xs, xh, xd⟩ := x
  replace hE : AP Tryd.prog _ [.agg [.int .i64 yk, .int .u64 (yn : Int), byE yb, .sl .ext (itEs yl)]] (.tup [.agg [.bool xi, .int .u64 (xn : Int), .int .u64 (xs : Int), .str xh, .str xd], .int .i64 0]) [] := hE
  replace hW : AP Tryd.prog _ [.agg [.bool xi, .int .u64 (xn : Int), .int .u64 (xs : Int), .str xh, .str xd, .int .u64 (np : Int), .int .u64 (nr : Int)]] (.tup [.agg [.int .i64 zk, .int .u64 (zn : Int), byE zb, .sl .ext (itEs zl)], .int .i64 3]) [] := hW
  refine AP.ofA ?_
  refine AC_of Tryd.func32 rfl Tryd.ntmps32 rfl rfl ?_
  repeat' (first | (apply AL_callPw (hE); kernel_rfl; (iterate 4 exact rfl)) | (apply AL_callPw (hW); kernel_rfl; (iterate 4 exact rfl)) | (apply AL_move; exact rfl; exact rfl) | (apply AL_assign; exact rfl; exact rfl) | (apply AL_bin; (iterate 5 exact rfl)) | (apply AL_load1 ttok; (iterate 6 exact rfl)) | (apply AL_loadn ttok; (iterate 7 exact rfl)) | (apply AL_fieldAddr ttok; (iterate 7 exact rfl)) | (apply AL_boxZ; (iterate 5 exact rfl)) | (apply AL_store ttok; (iterate 8 exact rfl)) | (apply AL_extract; (iterate 3 exact rfl)) | refine AL_nil ?_ | (apply AL_guardT; (iterate 3 exact rfl); (first | with_reducible assumption | decide +kernel)) | (apply AL_guardFf; (iterate 3 exact rfl); (first | with_reducible assumption | decide +kernel)) | (apply AL_pickT; exact rfl; (first | with_reducible assumption | decide +kernel); exact rfl; exact rfl) | (apply AL_pickF; exact rfl; (first | with_reducible assumption | decide +kernel); exact rfl; exact rfl) | refine AW_region ?_ | refine AW_seq' ?_ | (apply AW_condA; exact rfl; (first | with_reducible assumption | decide +kernel)) | (apply AW_condB; exact rfl; (first | with_reducible assumption | decide +kernel)) | refine then_norm ?_ | refine AW_ret ?_ | refine then_ret ?_ | (apply AL_len ttok; (iterate 4 exact rfl)) | (apply AL_eload1 ttok; (iterate 6 exact rfl)) | (apply AL_eloadn ttok; (iterate 6 exact rfl)) | (apply AL_efieldAddr ttok; (iterate 7 exact rfl)) | (apply AL_build ttok; (iterate 6 exact rfl)) | (apply AL_allocZ ttok; (iterate 4 exact rfl)) | (apply AW_drawE 19 hmix; (decide +kernel); (kernel_rfl); (kernel_rfl); (kernel_rfl); exact rfl; exact rfl) | (apply AE_consZ; (iterate 4 exact rfl)) | exact AE.nil _ _ _ _ | (apply AEk_puT; exact rfl) | (apply AEk_efT; exact rfl) | (apply AOt_mk; exact rfl; exact rfl; (decide +kernel); exact rfl) | (apply AO_puT; exact rfl) | (apply AO_efT; exact rfl) | exact AO.nil _ _ _ | (apply AOs_skip; (decide +kernel)) | (apply AOs_goZ; (iterate 3 exact rfl)) | exact AOs.nil | exact qY_ok rfl rfl | exact qY_ef rfl rfl | refine AW_skip ?_ | (apply AL_idx ttok; (iterate 6 exact rfl); (first | with_reducible assumption | decide +kernel | exact Int.natCast_nonneg _ | (guard_target = (0:Int) ≤ (OfNat.ofNat _ : Int); decide) | rotate_left); (first | with_reducible assumption | decide +kernel | exact rfl); (first | exact uniB_ok rfl | with_reducible assumption | decide +kernel | rotate_left)))
  all_goals (apply endQ []; (repeat (first | exact ResL.nil | (apply ResL.cons; first | exact .tmp _ _ rfl | (apply res_n ttok; (iterate 6 exact rfl)) | (apply res_1 ttok; (iterate 5 exact rfl))))); (iterate 4 exact rfl))
  all_goals rfl
theorem ird_s [Known] (x : EidV) (y z : It) (n : Nat) (b : List UInt8) (n2 : Nat) (b2 : List UInt8) (kp : Int) (np : Nat) (bp : List UInt8) (lp : List It) (kr : Int) (nr : Nat) (br : List UInt8) (lr : List It) (R : Bool)
    (hE : AP Tryd.prog 40 [itD y] (.tup [.agg (eC x), .int .i64 0]) []) (hW : AP Tryd.prog 31 [.agg (iC x np nr)] (.tup [itD z, .int .i64 0]) [])
    (hS : AP Tryd.prog 27 [itD z, itD (.mk 4 n b [y, .mk 4 n2 b2 [.mk kp np bp lp, .mk kr nr br lr]])] (.bool R) []) :
    AP Tryd.prog 32 [itD (.mk 4 n b [y, .mk 4 n2 b2 [.mk kp np bp lp, .mk kr nr br lr]])] (resN x np nr R) [] := by
  have hU := uniI [y, .mk 4 n2 b2 [.mk kp np bp lp, .mk kr nr br lr]]
  have hU2 := uniI [.mk kp np bp lp, .mk kr nr br lr]
  have t2 : (((itEs [y, .mk 4 n2 b2 [.mk kp np bp lp, .mk kr nr br lr]]).length : Int) != 2) = false := rfl
  have t3 : (((itEs [.mk kp np bp lp, .mk kr nr br lr]).length : Int) != 2) = false := rfl
  obtain ⟨yk, yn, yb, yl⟩ := y
  obtain ⟨zk, zn, zb, zl⟩ := z
  obtain ⟨xi, xn, xs, xh, xd⟩ := x
  replace hE : AP Tryd.prog _ [.agg [.int .i64 yk, .int .u64 (yn : Int), byE yb, .sl .ext (itEs yl)]] (.tup [.agg [.bool xi, .int .u64 (xn : Int), .int .u64 (xs : Int), .str xh, .str xd], .int .i64 0]) [] := hE
  replace hW : AP Tryd.prog _ [.agg [.bool xi, .int .u64 (xn : Int), .int .u64 (xs : Int), .str xh, .str xd, .int .u64 (np : Int), .int .u64 (nr : Int)]] (.tup [.agg [.int .i64 zk, .int .u64 (zn : Int), byE zb, .sl .ext (itEs zl)], .int .i64 0]) [] := hW
  replace hS : AP Tryd.prog _ [.agg [.int .i64 zk, .int .u64 (zn : Int), byE zb, .sl .ext (itEs zl)], itD (.mk 4 n b [.mk yk yn yb yl, .mk 4 n2 b2 [.mk kp np bp lp, .mk kr nr br lr]])] (.bool R) [] := hS
  cases R with
  | true =>
    show AP Tryd.prog _ _ (.tup [.agg [.bool xi, .int .u64 (xn : Int), .int .u64 (xs : Int), .str xh, .str xd, .int .u64 (np : Int), .int .u64 (nr : Int)], .int .i64 0]) []
    refine AP.ofA ?_
    refine AC_of Tryd.func32 rfl Tryd.ntmps32 rfl rfl ?_
    repeat' (first | (apply AL_callPw (hE); kernel_rfl; (iterate 4 exact rfl)) | (apply AL_callPw (hW); kernel_rfl; (iterate 4 exact rfl)) | (apply AL_callPw (hS); kernel_rfl; (iterate 4 exact rfl)) | (apply AL_move; exact rfl; exact rfl) | (apply AL_assign; exact rfl; exact rfl) | (apply AL_bin; (iterate 5 exact rfl)) | (apply AL_load1 ttok; (iterate 6 exact rfl)) | (apply AL_loadn ttok; (iterate 7 exact rfl)) | (apply AL_fieldAddr ttok; (iterate 7 exact rfl)) | (apply AL_boxZ; (iterate 5 exact rfl)) | (apply AL_store ttok; (iterate 8 exact rfl)) | (apply AL_not; exact rfl; exact rfl) | (apply AL_extract; (iterate 3 exact rfl)) | refine AL_nil ?_ | (apply AL_guardT; (iterate 3 exact rfl); (first | with_reducible assumption | decide +kernel)) | (apply AL_pickF; exact rfl; (first | with_reducible assumption | decide +kernel); exact rfl; exact rfl) | refine AW_region ?_ | refine AW_seq' ?_ | (apply AW_condB; exact rfl; (first | with_reducible assumption | decide +kernel)) | refine then_norm ?_ | refine AW_ret ?_ | (apply AL_len ttok; (iterate 4 exact rfl)) | (apply AL_eload1 ttok; (iterate 6 exact rfl)) | (apply AL_eloadn ttok; (iterate 6 exact rfl)) | (apply AL_efieldAddr ttok; (iterate 7 exact rfl)) | (apply AL_build ttok; (iterate 6 exact rfl)) | (apply AL_allocZ ttok; (iterate 4 exact rfl)) | (apply AW_drawE 19 hmix; (decide +kernel); (kernel_rfl); (kernel_rfl); (kernel_rfl); exact rfl; exact rfl) | (apply AE_consZ; (iterate 4 exact rfl)) | exact AE.nil _ _ _ _ | (apply AEk_puT; exact rfl) | (apply AEk_efT; exact rfl) | (apply AOt_mk; exact rfl; exact rfl; (decide +kernel); exact rfl) | (apply AO_puT; exact rfl) | (apply AO_efT; exact rfl) | exact AO.nil _ _ _ | (apply AOs_skip; (decide +kernel)) | (apply AOs_goZ; (iterate 3 exact rfl)) | exact AOs.nil | exact qY_ok rfl rfl | exact qY_ef rfl rfl | refine AW_skip ?_ | (apply AL_idx ttok; (iterate 6 exact rfl); (first | with_reducible assumption | decide +kernel | exact Int.natCast_nonneg _ | (guard_target = (0:Int) ≤ (OfNat.ofNat _ : Int); decide) | rotate_left); (first | with_reducible assumption | decide +kernel | exact rfl); (first | exact uniB_ok rfl | with_reducible assumption | decide +kernel | rotate_left)))
    all_goals (apply endQ []; (repeat (first | exact ResL.nil | (apply ResL.cons; first | exact .tmp _ _ rfl | (apply res_n ttok; (iterate 6 exact rfl)) | (apply res_1 ttok; (iterate 5 exact rfl))))); (iterate 4 exact rfl))
    all_goals rfl
  | false =>
    show AP Tryd.prog _ _ (.tup [.agg [.bool false, .int .u64 0, .int .u64 0, .str [], .str [], .int .u64 0, .int .u64 0], .int .i64 3]) []
    refine AP.ofA ?_
    refine AC_of Tryd.func32 rfl Tryd.ntmps32 rfl rfl ?_
    repeat' (first | (apply AL_callPw (hE); kernel_rfl; (iterate 4 exact rfl)) | (apply AL_callPw (hW); kernel_rfl; (iterate 4 exact rfl)) | (apply AL_callPw (hS); kernel_rfl; (iterate 4 exact rfl)) | (apply AL_move; exact rfl; exact rfl) | (apply AL_assign; exact rfl; exact rfl) | (apply AL_bin; (iterate 5 exact rfl)) | (apply AL_load1 ttok; (iterate 6 exact rfl)) | (apply AL_loadn ttok; (iterate 7 exact rfl)) | (apply AL_fieldAddr ttok; (iterate 7 exact rfl)) | (apply AL_boxZ; (iterate 5 exact rfl)) | (apply AL_store ttok; (iterate 8 exact rfl)) | (apply AL_not; exact rfl; exact rfl) | (apply AL_extract; (iterate 3 exact rfl)) | refine AL_nil ?_ | (apply AL_guardT; (iterate 3 exact rfl); (first | with_reducible assumption | decide +kernel)) | (apply AL_pickF; exact rfl; (first | with_reducible assumption | decide +kernel); exact rfl; exact rfl) | refine AW_region ?_ | refine AW_seq' ?_ | (apply AW_condA; exact rfl; (first | with_reducible assumption | decide +kernel)) | (apply AW_condB; exact rfl; (first | with_reducible assumption | decide +kernel)) | refine then_norm ?_ | refine AW_ret ?_ | refine then_ret ?_ | (apply AL_len ttok; (iterate 4 exact rfl)) | (apply AL_eload1 ttok; (iterate 6 exact rfl)) | (apply AL_eloadn ttok; (iterate 6 exact rfl)) | (apply AL_efieldAddr ttok; (iterate 7 exact rfl)) | (apply AL_build ttok; (iterate 6 exact rfl)) | (apply AL_allocZ ttok; (iterate 4 exact rfl)) | (apply AW_drawE 19 hmix; (decide +kernel); (kernel_rfl); (kernel_rfl); (kernel_rfl); exact rfl; exact rfl) | (apply AE_consZ; (iterate 4 exact rfl)) | exact AE.nil _ _ _ _ | (apply AEk_puT; exact rfl) | (apply AEk_efT; exact rfl) | (apply AOt_mk; exact rfl; exact rfl; (decide +kernel); exact rfl) | (apply AO_puT; exact rfl) | (apply AO_efT; exact rfl) | exact AO.nil _ _ _ | (apply AOs_skip; (decide +kernel)) | (apply AOs_goZ; (iterate 3 exact rfl)) | exact AOs.nil | exact qY_ok rfl rfl | exact qY_ef rfl rfl | refine AW_skip ?_ | (apply AL_idx ttok; (iterate 6 exact rfl); (first | with_reducible assumption | decide +kernel | exact Int.natCast_nonneg _ | (guard_target = (0:Int) ≤ (OfNat.ofNat _ : Int); decide) | rotate_left); (first | with_reducible assumption | decide +kernel | exact rfl); (first | exact uniB_ok rfl | with_reducible assumption | decide +kernel | rotate_left)))
    all_goals (apply endQ []; (repeat (first | exact ResL.nil | (apply ResL.cons; first | exact .tmp _ _ rfl | (apply res_n ttok; (iterate 6 exact rfl)) | (apply res_1 ttok; (iterate 5 exact rfl))))); (iterate 4 exact rfl))
    all_goals rfl
theorem av_iReadYes [Known] [KnownU8] (n : Nat) (b : List UInt8) (y : It) (n2 : Nat) (b2 : List UInt8) (p r : It) (hw : wfI (.mk 4 n b [y, .mk 4 n2 b2 [p, r]])) :
    AP Tryd.prog 32 [itD (.mk 4 n b [y, .mk 4 n2 b2 [p, r]])] (resN (readZ y) p.n r.n (readNm y p r (.mk 4 n b [y, .mk 4 n2 b2 [p, r]]))) [] := by
  have hwy : wfI y := hw.2.2.2.1
  have hE := av_eRead y hwy
  have hW := av_iWrite (readZ y) p.n r.n
  unfold readNm
  cases hv : (readV y).2 with
  | false =>
    have e0 : readZ y = eidZ := by unfold readZ; rw [hv]
    unfold resE at hE
    rw [hv] at hE
    rw [e0] at hW
    obtain ⟨kp, np, bp, lp⟩ := p
    obtain ⟨kr, nr, br, lr⟩ := r
    exact ird_f y _ n b n2 b2 kp np bp lp kr nr br lr _ hE hW
  | true =>
    have e0 : readZ y = (readV y).1 := by unfold readZ; rw [hv]
    unfold resE at hE
    rw [hv] at hE
    rw [← e0] at hE
    cases hr : iRight (readZ y) p.n r.n with
    | false =>
      rw [hr] at hW
      obtain ⟨kp, np, bp, lp⟩ := p
      obtain ⟨kr, nr, br, lr⟩ := r
      exact ird_w _ y _ n b n2 b2 kp np bp lp kr nr br lr hE hW
    | true =>
      rw [hr, if_pos rfl, if_pos rfl] at hW
      have hS := av_same _ (wf_itemN hr) _ hw
      obtain ⟨kp, np, bp, lp⟩ := p
      obtain ⟨kr, nr, br, lr⟩ := r
      exact ird_s _ y _ n b n2 b2 kp np bp lp kr nr br lr _ hE hW hS
end Go.Proofs.YtnihobjehelagaaDoor
end
/- Package ident: the law's fixed calls. -/
section
open Go.RowKit Go.Pl Go.Av
namespace Go.Proofs.YtnihobjehelagaaDoor
set_option linter.unusedVariables false
set_option linter.unusedSimpArgs false
set_option maxHeartbeats 1000000
theorem digit_cut (n : Nat) (h : n < 10) : (([48, 49, 50, 51, 52, 53, 54, 55, 56, 57, 97, 98, 99, 100, 101, 102, 103, 104, 105, 106, 107, 108, 109, 110, 111, 112, 113, 114, 115, 116, 117, 118, 119, 120, 121, 122] : List UInt8).take ((n + 1 : Nat) : Int).toNat).drop ((n : Nat) : Int).toNat = [UInt8.ofNat (48 + n)] := by
  have : n = 0 ∨ n = 1 ∨ n = 2 ∨ n = 3 ∨ n = 4 ∨ n = 5 ∨ n = 6 ∨ n = 7 ∨ n = 8 ∨ n = 9 := by omega
  rcases this with rfl | rfl | rfl | rfl | rfl | rfl | rfl | rfl | rfl | rfl <;> rfl
theorem av_small [Known] (n : Nat) (h : n < 10) : AP Tryd.prog 124 [.int .i64 (n : Int)] (.str [UInt8.ofNat (48 + n)]) [] := by
  refine AP.ofA ?_
  refine AC_of Tryd.func124 rfl Tryd.ntmps124 rfl rfl ?_
  have g : decide ((n : Int) < 10) = true := decide_eq_true (by omega)
  have e : IntKind.i64.wrap ((n : Int) + 1) = ((n + 1 : Nat) : Int) := by rw [IntWalk.i64_in _ (by omega)]; omega
  have hpq : ((n : Nat) : Int).toNat ≤ ((n + 1 : Nat) : Int).toNat := by omega
  have hq : ((n + 1 : Nat) : Int).toNat ≤ 36 := by omega
  repeat' (first | rw [e] | (apply AL_sliceS ttok; (iterate 4 exact rfl); exact .lit _ _ _ _ rfl (Int.natCast_nonneg _); exact .lit _ _ _ _ rfl (Int.natCast_nonneg _); exact hpq; exact hq; exact digit_cut n h) | (apply AL_move; exact rfl; exact rfl) | (apply AL_assign; exact rfl; exact rfl) | (apply AL_bin; (iterate 5 exact rfl)) | refine AL_nil ?_ | refine AW_region ?_ | refine AW_seq' ?_ | (apply AW_condA; exact rfl; (first | with_reducible assumption | (guard_target =ₛ true = true; rfl) | (guard_target =ₛ false = false; rfl) | (guard_target =ₛ (!true) = false; rfl) | (guard_target =ₛ (!false) = true; rfl))) | refine then_norm ?_ | refine AW_ret ?_ | refine then_ret ?_)
  all_goals (apply endQ []; (repeat (first | exact ResL.nil | (apply ResL.cons; first | exact .tmp _ _ rfl | (apply res_n ttok; (iterate 6 exact rfl)) | (apply res_1 ttok; (iterate 5 exact rfl))))); (iterate 4 exact rfl))
  all_goals rfl
theorem av_fmt0 [Known] (n : Nat) (h : n < 10) : AP Tryd.prog 105 [.int .u64 (n : Int), .int .i64 10] (.str [UInt8.ofNat (48 + n)]) [] := by
  refine AP.ofA ?_
  refine AC_of Tryd.func105 rfl Tryd.ntmps105 rfl rfl ?_
  have g : decide ((n : Int) < 100) = true := decide_eq_true (by omega)
  have g2 : ((10 : Int) == 10) = true := rfl
  have e : IntKind.i64.wrap (n : Int) = (n : Int) := IntWalk.i64_in _ (by omega)
  repeat' (first | rw [e] | (apply AL_callPw (av_small n h); kernel_rfl; (iterate 4 exact rfl)) | (apply AL_move; exact rfl; exact rfl) | (apply AL_assign; exact rfl; exact rfl) | (apply AL_bin; (iterate 5 exact rfl)) | (apply AL_convT ttok; (iterate 5 exact rfl)) | refine AL_nil ?_ | refine AW_region ?_ | refine AW_seq' ?_ | (apply AW_condA; exact rfl; (first | with_reducible assumption | (guard_target =ₛ true = true; rfl) | (guard_target =ₛ false = false; rfl) | (guard_target =ₛ (!true) = false; rfl) | (guard_target =ₛ (!false) = true; rfl))) | refine then_norm ?_ | refine AW_ret ?_ | refine then_ret ?_)
  all_goals (apply endQ []; (repeat (first | exact ResL.nil | (apply ResL.cons; first | exact .tmp _ _ rfl | (apply res_n ttok; (iterate 6 exact rfl)) | (apply res_1 ttok; (iterate 5 exact rfl))))); (iterate 4 exact rfl))
  all_goals rfl
theorem av_fmt [Known] (n : Nat) (h : n < 10) : AP Tryd.prog 70 [.int .u64 (n : Int), .int .i64 10] (.str [UInt8.ofNat (48 + n)]) [] := by
  refine AP.ofA ?_
  refine AC_of Tryd.func70 rfl Tryd.ntmps70 rfl rfl ?_
  repeat' (first | (apply AL_callPw (av_fmt0 n h); kernel_rfl; (iterate 4 exact rfl)) | (apply AL_move; exact rfl; exact rfl) | (apply AL_assign; exact rfl; exact rfl) | refine AL_nil ?_ | refine AW_region ?_ | refine AW_seq' ?_ | refine then_norm ?_ | refine AW_ret ?_)
  all_goals (apply endQ []; (repeat (first | exact ResL.nil | (apply ResL.cons; first | exact .tmp _ _ rfl | (apply res_n ttok; (iterate 6 exact rfl)) | (apply res_1 ttok; (iterate 5 exact rfl))))); (iterate 4 exact rfl))
  all_goals rfl
def e7 : EidV := ⟨true, 7, 0, [], []⟩
theorem av_text7 [Known] : AP Tryd.prog 36 [.agg (eC e7)] (.tup [.str [105, 112, 110, 58, 55, 46, 48], .int .i64 0]) [] := by
  refine AP.ofA ?_
  refine AC_of Tryd.func36 rfl Tryd.ntmps36 rfl rfl ?_
  repeat' (first | (apply AL_callPw (av_eRight e7); kernel_rfl; (iterate 4 exact rfl)) | (apply AL_callPw (av_fmt 7 (by decide)); kernel_rfl; (iterate 4 exact rfl)) | (apply AL_callPw (av_fmt 0 (by decide)); kernel_rfl; (iterate 4 exact rfl)) | (apply AL_cat; exact rfl; exact rfl; decide; exact rfl) | (apply AL_assign; exact rfl; exact rfl) | (apply AL_load1 ttok; (iterate 6 exact rfl)) | (apply AL_loadn ttok; (iterate 7 exact rfl)) | (apply AL_fieldAddr ttok; (iterate 7 exact rfl)) | (apply AL_box; (iterate 5 exact rfl)) | (apply AL_not; exact rfl; exact rfl) | refine AL_nil ?_ | refine AW_region ?_ | refine AW_seq' ?_ | (apply AW_condA; exact rfl; (first | with_reducible assumption | decide +kernel)) | (apply AW_condB; exact rfl; (first | with_reducible assumption | decide +kernel)) | refine then_norm ?_ | refine AW_block ?_ | refine AW_ret ?_ | refine then_ret ?_ | refine blk_ret ?_ | (apply AL_build ttok; (iterate 6 exact rfl)) | (apply AL_eqS ttok; (iterate 4 exact rfl); (kernel_rfl); (kernel_rfl); (iterate 3 exact rfl)) | (apply AW_drawM 8 hmix; (decide +kernel); (kernel_rfl); (kernel_rfl); exact rfl; exact rfl) | (apply AD_cons; (iterate 3 exact rfl)) | refine AD.nil _ | exact qp_ok rfl)
  all_goals (apply endQ []; (repeat (first | exact ResL.nil | (apply ResL.cons; first | exact .tmp _ _ rfl | (apply res_n ttok; (iterate 6 exact rfl)) | (apply res_1 ttok; (iterate 5 exact rfl))))); (iterate 4 exact rfl))
  all_goals rfl
theorem av_textI [Known] : AP Tryd.prog 65 [.agg (iC e7 5 2)] (.tup [.str [105, 112, 110, 58, 55, 46, 48, 45, 53, 45, 50], .int .i64 0]) [] := by
  refine AP.ofA ?_
  refine AC_of Tryd.func65 rfl Tryd.ntmps65 rfl rfl ?_
  repeat' (first | (apply AL_callPw (av_iRight e7 5 2); kernel_rfl; (iterate 4 exact rfl)) | (apply AL_callPw (av_text7); kernel_rfl; (iterate 4 exact rfl)) | (apply AL_callPw (av_fmt 5 (by decide)); kernel_rfl; (iterate 4 exact rfl)) | (apply AL_callPw (av_fmt 2 (by decide)); kernel_rfl; (iterate 4 exact rfl)) | (apply AL_cat; exact rfl; exact rfl; decide; exact rfl) | (apply AL_move; exact rfl; exact rfl) | (apply AL_assign; exact rfl; exact rfl) | (apply AL_load1 ttok; (iterate 6 exact rfl)) | (apply AL_loadn ttok; (iterate 7 exact rfl)) | (apply AL_fieldAddr ttok; (iterate 7 exact rfl)) | (apply AL_box; (iterate 5 exact rfl)) | (apply AL_not; exact rfl; exact rfl) | (apply AL_extract; (iterate 3 exact rfl)) | refine AL_nil ?_ | refine AW_region ?_ | refine AW_seq' ?_ | (apply AW_condB; exact rfl; (first | with_reducible assumption | decide +kernel)) | refine then_norm ?_ | refine AW_ret ?_ | (apply AW_drawM 13 hmix; (decide +kernel); (kernel_rfl); (kernel_rfl); exact rfl; exact rfl) | (apply AD_cons; (iterate 3 exact rfl)) | refine AD.nil _ | exact qp_ok rfl | refine AW_skip ?_)
  all_goals (apply endQ []; (repeat (first | exact ResL.nil | (apply ResL.cons; first | exact .tmp _ _ rfl | (apply res_n ttok; (iterate 6 exact rfl)) | (apply res_1 ttok; (iterate 5 exact rfl))))); (iterate 4 exact rfl))
  all_goals rfl
theorem av_n1 [Known] : AQ Tryd.prog 64 [.ptr 0 0, .int .u64 5] (mC e7 0 0 true) (.tup [.agg (iC e7 5 0), .int .i64 0]) (mC e7 5 0 true) := av_nextNew e7 0 0 5 (by decide) (by decide)
theorem av_n2 [Known] : AQ Tryd.prog 64 [.ptr 0 0, .int .u64 5] (mC e7 5 0 true) (.tup [.agg (iC e7 5 1), .int .i64 0]) (mC e7 5 1 true) := av_nextInc e7 5 0 5 (by decide) (by decide) (by decide)
theorem av_n3 [Known] : AQ Tryd.prog 64 [.ptr 0 0, .int .u64 3] (mC e7 5 1 true) (.tup [.agg (iC e7 5 2), .int .i64 0]) (mC e7 5 2 true) := av_nextInc e7 5 1 3 (by decide) (by decide) (by decide)
theorem av_aliveI [Known] : AP Tryd.prog 30 [] (.bool true) [] := by
  refine AP.ofA ?_
  refine AC_of Tryd.func30 rfl Tryd.ntmps30 rfl rfl ?_
  repeat' (first | (apply AL_callQw [] (av_newI e7 (by decide) (by decide)); kernel_rfl; (iterate 7 exact rfl)) | (apply AL_callQw [0] (av_n1); kernel_rfl; (iterate 7 exact rfl)) | (apply AL_callQw [0] (av_n2); kernel_rfl; (iterate 7 exact rfl)) | (apply AL_callQw [0] (av_n3); kernel_rfl; (iterate 7 exact rfl)) | (apply AL_callPw (av_textI); kernel_rfl; (iterate 4 exact rfl)) | (apply AL_callPw (av_newN eidZ (.inr rfl)); kernel_rfl; (iterate 4 exact rfl)) | (apply AL_callPw (av_ahead e7 5 0 e7 5 1); kernel_rfl; (iterate 4 exact rfl)) | (apply AL_move; exact rfl; exact rfl) | (apply AL_assign; exact rfl; exact rfl) | (apply AL_bin; (iterate 5 exact rfl)) | (apply AL_load1 ttok; (iterate 6 exact rfl)) | (apply AL_loadn ttok; (iterate 7 exact rfl)) | (apply AL_fieldAddr ttok; (iterate 7 exact rfl)) | (apply AL_store ttok; (iterate 8 exact rfl)) | (apply AL_extract; (iterate 3 exact rfl)) | refine AL_nil ?_ | (apply AL_guardT; (iterate 3 exact rfl); (first | with_reducible assumption | decide +kernel)) | (apply AL_pickT; exact rfl; (first | with_reducible assumption | decide +kernel); exact rfl; exact rfl) | (apply AL_pickF; exact rfl; (first | with_reducible assumption | decide +kernel); exact rfl; exact rfl) | refine AW_region ?_ | refine AW_seq' ?_ | (apply AW_condB; exact rfl; (first | with_reducible assumption | decide +kernel)) | refine then_norm ?_ | refine AW_ret ?_ | (apply AL_build ttok; (iterate 6 exact rfl)) | (apply AL_alloc ttok; (iterate 4 exact rfl)) | (apply AL_nilp ttok; (iterate 6 exact rfl)) | (apply AL_str; (iterate 5 exact rfl)) | refine AW_skip ?_)
  all_goals (apply endQ []; (repeat (first | exact ResL.nil | (apply ResL.cons; first | exact .tmp _ _ rfl | (apply res_n ttok; (iterate 6 exact rfl)) | (apply res_1 ttok; (iterate 5 exact rfl))))); (iterate 4 exact rfl))
  all_goals rfl
end Go.Proofs.YtnihobjehelagaaDoor
end
/- IdentBack: the law's walk. -/
section
open Go.RowKit Go.Pl Go.Av
namespace Go.Proofs.YtnihobjehelagaaDoor
set_option linter.unusedVariables false
set_option linter.unusedSimpArgs false
set_option maxHeartbeats 4000000
/-- the second half of the law: what an item's number is written as -/
def second [Known] (z : It) : Prop := (∃ j : It, AP Tryd.prog 32 [itD z] (.tup [.agg [.bool false, .int .u64 0, .int .u64 0, .str [], .str [], .int .u64 0, .int .u64 0], .int .i64 3]) [] ∧ AP Tryd.prog 31 [.agg [.bool false, .int .u64 0, .int .u64 0, .str [], .str [], .int .u64 0, .int .u64 0]] (.tup [itD j, .int .i64 0]) []) ∨
  ∃ (u : EidV) (a c : Nat) (j : It), AP Tryd.prog 32 [itD z] (.tup [.agg (iC u a c), .int .i64 0]) [] ∧ AP Tryd.prog 31 [.agg (iC u a c)] (.tup [itD j, .int .i64 0]) [] ∧ AP Tryd.prog 27 [itD j, itD z] (.bool true) []
theorem second_no [Known] {z : It} (h : AP Tryd.prog 32 [itD z] (.tup [.agg (iC eidZ 0 0), .int .i64 3]) []) : second z := by
  refine .inl ⟨itemN eidZ 0 0, h, ?_⟩
  have hW := av_iWrite eidZ 0 0
  rw [show iRight eidZ 0 0 = true by decide, if_pos rfl, if_pos rfl] at hW
  exact hW
theorem av_second [Known] [KnownU8] (z : It) (hw : wfI z) : second z := by
  cases h : noForm z with
  | true => exact second_no (av_iReadNo z h)
  | false =>
    obtain ⟨n, b, y, n2, b2, p, r, rfl⟩ : ∃ n b y n2 b2 p r, z = .mk 4 n b [y, .mk 4 n2 b2 [p, r]] := by
      unfold noForm at h
      split at h
      · simp only [Bool.not_eq_false', Bool.and_eq_true, beq_iff_eq] at h
        obtain ⟨rfl, rfl⟩ := h
        exact ⟨_, _, _, _, _, _, _, rfl⟩
      · cases h
    have hR := av_iReadYes n b y n2 b2 p r hw
    cases hb : readNm y p r (.mk 4 n b [y, .mk 4 n2 b2 [p, r]]) with
    | false => rw [hb] at hR; exact second_no hR
    | true =>
      rw [hb] at hR
      have hi : iRight (readZ y) p.n r.n = true := by
        unfold readNm at hb
        split at hb
        · assumption
        · cases hb
      have hq : It.beq (itemN (readZ y) p.n r.n) (.mk 4 n b [y, .mk 4 n2 b2 [p, r]]) = true := by
        unfold readNm at hb
        split at hb
        · exact hb
        · cases hb
      have hW := av_iWrite (readZ y) p.n r.n
      rw [hi, if_pos rfl, if_pos rfl] at hW
      have hS := av_same _ (wf_itemN hi) _ hw
      rw [hq] at hS
      exact .inr ⟨_, _, _, _, hR, hW, hS⟩
theorem read_itemN [Known] [KnownU8] {x : EidV} {t q : Nat} (h : iRight x t q = true) : AP Tryd.prog 32 [itD (itemN x t q)] (.tup [.agg (iC x t q), .int .i64 0]) [] := by
  have h1 := (iRight_iff.1 h).1
  have hR := av_iReadYes 0 [] (itemE x) 0 [] (.mk 0 t [] []) (.mk 0 q [] []) (wf_itemN h)
  have e1 := readV_itemE h1 (right_itemE h1)
  have e2 : readZ (itemE x) = x := by unfold readZ; rw [e1]
  have e3 : readNm (itemE x) (.mk 0 t [] []) (.mk 0 q [] []) (.mk 4 0 [] [itemE x, .mk 4 0 [] [.mk 0 t [] [], .mk 0 q [] []]]) = true := by
    unfold readNm
    rw [e2, e1]
    simp only [It.n, h]
    exact It.beq_iff.2 rfl
  rw [e2, e3] at hR
  exact hR
abbrev eqN (a : EidV) (t q : Nat) (b : EidV) (t' q' : Nat) : Bool := a.i == b.i && ((a.n : Int) == (b.n : Int) && ((a.s : Int) == (b.s : Int) && (a.h == b.h && (a.d == b.d && ((t : Int) == (t' : Int) && ((q : Int) == (q' : Int) && true))))))
theorem av_identBack [Known] [KnownU8] (x : EidV) (t q : Nat) (z : It) (hz : wfI z) : AP Tryd.prog 7 [.agg (iC x t q), itD z] (.bool true) [] := by
  have hA := av_aliveI
  have hG := av_greatN x t q
  have h2 := av_second z hz
  have hW := av_iWrite x t q
  have t4 : eqN x t q x t q = true := by simp [eqN]
  obtain ⟨zk, zn, zb, zl⟩ := z
  cases hg : decide (IntKind.i64.wrap ((x.h.length : Int) + (x.d.length : Int)) > 300) with
  | true =>
    rw [hg] at hG
    refine AP.ofA ?_
    refine AC_of Tryd.func7 rfl Tryd.ntmps7 rfl rfl ?_
    repeat' (first | (apply AL_callPw (hA); kernel_rfl; (iterate 4 exact rfl)) | (apply AL_callPw (hG); kernel_rfl; (iterate 4 exact rfl)) | (apply AL_assign; exact rfl; exact rfl) | (apply AL_loadn ttok; (iterate 7 exact rfl)) | (apply AL_box; (iterate 5 exact rfl)) | refine AL_nil ?_ | refine AW_region ?_ | refine AW_seq' ?_ | (apply AW_condA; exact rfl; (first | with_reducible assumption | decide +kernel)) | refine then_norm ?_ | refine AW_ret ?_ | refine then_ret ?_)
    all_goals (apply endQ []; (repeat (first | exact ResL.nil | (apply ResL.cons; first | exact .tmp _ _ rfl | (apply res_n ttok; (iterate 6 exact rfl)) | (apply res_1 ttok; (iterate 5 exact rfl))))); (iterate 4 exact rfl))
    all_goals rfl
  | false =>
    rw [hg] at hG
    cases hr : iRight x t q with
    | false =>
      rw [hr, if_neg (by simp), if_neg (by simp)] at hW
      replace hW : AP Tryd.prog _ [.agg (iC x t q)] (.tup [.agg [.int .i64 0, .int .u64 0, .sl .ext [], .sl .ext []], .int .i64 3]) [] := hW
      obtain ⟨xi, xn, xs, xh, xd⟩ := x
      rcases h2 with ⟨⟨jk, jn, jb, jl⟩, hR, hV⟩ | ⟨⟨ui, un, us, uh, ud⟩, a, c, ⟨jk, jn, jb, jl⟩, hR, hV, hS⟩
      · refine AP.ofA ?_
        refine AC_of Tryd.func7 rfl Tryd.ntmps7 rfl rfl ?_
        repeat' (first | (apply AL_callPw (hA); kernel_rfl; (iterate 4 exact rfl)) | (apply AL_callPw (hG); kernel_rfl; (iterate 4 exact rfl)) | (apply AL_callPw (hW); kernel_rfl; (iterate 4 exact rfl)) | (apply AL_callPw (hR); kernel_rfl; (iterate 4 exact rfl)) | (apply AL_callPw (hV); kernel_rfl; (iterate 4 exact rfl)) | (apply AL_move; exact rfl; exact rfl) | (apply AL_assign; exact rfl; exact rfl) | (apply AL_bin; (iterate 5 exact rfl)) | (apply AL_loadn ttok; (iterate 7 exact rfl)) | (apply AL_box; (iterate 5 exact rfl)) | (apply AL_store ttok; (iterate 8 exact rfl)) | (apply AL_extract; (iterate 3 exact rfl)) | refine AL_nil ?_ | (apply AL_guardT; (iterate 3 exact rfl); (first | with_reducible assumption | decide +kernel)) | (apply AL_guardFf; (iterate 3 exact rfl); (first | with_reducible assumption | decide +kernel)) | (apply AL_guardU; (iterate 3 exact rfl)) | (apply AL_pickT; exact rfl; (first | with_reducible assumption | decide +kernel); exact rfl; exact rfl) | refine AW_region ?_ | refine AW_seq' ?_ | (apply AW_condB; exact rfl; (first | with_reducible assumption | decide +kernel)) | refine then_norm ?_ | refine AW_ret ?_ | (apply AL_alloc ttok; (iterate 4 exact rfl)) | refine AW_skip ?_)
        all_goals (apply endQ []; (repeat (first | exact ResL.nil | (apply ResL.cons; first | exact .tmp _ _ rfl | (apply res_n ttok; (iterate 6 exact rfl)) | (apply res_1 ttok; (iterate 5 exact rfl))))); (iterate 4 exact rfl))
        all_goals rfl
      · refine AP.ofA ?_
        refine AC_of Tryd.func7 rfl Tryd.ntmps7 rfl rfl ?_
        repeat' (first | (apply AL_callPw (hA); kernel_rfl; (iterate 4 exact rfl)) | (apply AL_callPw (hG); kernel_rfl; (iterate 4 exact rfl)) | (apply AL_callPw (hW); kernel_rfl; (iterate 4 exact rfl)) | (apply AL_callPw (hR); kernel_rfl; (iterate 4 exact rfl)) | (apply AL_callPw (hV); kernel_rfl; (iterate 4 exact rfl)) | (apply AL_callPw (hS); kernel_rfl; (iterate 4 exact rfl)) | (apply AL_move; exact rfl; exact rfl) | (apply AL_assign; exact rfl; exact rfl) | (apply AL_bin; (iterate 5 exact rfl)) | (apply AL_loadn ttok; (iterate 7 exact rfl)) | (apply AL_box; (iterate 5 exact rfl)) | (apply AL_store ttok; (iterate 8 exact rfl)) | (apply AL_extract; (iterate 3 exact rfl)) | refine AL_nil ?_ | (apply AL_guardT; (iterate 3 exact rfl); (first | with_reducible assumption | decide +kernel)) | (apply AL_pickT; exact rfl; (first | with_reducible assumption | decide +kernel); exact rfl; exact rfl) | (apply AL_pickF; exact rfl; (first | with_reducible assumption | decide +kernel); exact rfl; exact rfl) | refine AW_region ?_ | refine AW_seq' ?_ | (apply AW_condB; exact rfl; (first | with_reducible assumption | decide +kernel)) | refine then_norm ?_ | refine AW_ret ?_ | (apply AL_alloc ttok; (iterate 4 exact rfl)) | refine AW_skip ?_)
        all_goals (apply endQ []; (repeat (first | exact ResL.nil | (apply ResL.cons; first | exact .tmp _ _ rfl | (apply res_n ttok; (iterate 6 exact rfl)) | (apply res_1 ttok; (iterate 5 exact rfl))))); (iterate 4 exact rfl))
        all_goals rfl
    | true =>
      rw [hr, if_pos rfl, if_pos rfl] at hW
      have hB := read_itemN hr
      generalize itemN x t q = i at *
      obtain ⟨ik, iN, ib, il⟩ := i
      obtain ⟨xi, xn, xs, xh, xd⟩ := x
      try dsimp only at t4
      rcases h2 with ⟨⟨jk, jn, jb, jl⟩, hR, hV⟩ | ⟨⟨ui, un, us, uh, ud⟩, a, c, ⟨jk, jn, jb, jl⟩, hR, hV, hS⟩
      · refine AP.ofA ?_
        refine AC_of Tryd.func7 rfl Tryd.ntmps7 rfl rfl ?_
        repeat' (first | (apply AL_callPw (hA); kernel_rfl; (iterate 4 exact rfl)) | (apply AL_callPw (hG); kernel_rfl; (iterate 4 exact rfl)) | (apply AL_callPw (hW); kernel_rfl; (iterate 4 exact rfl)) | (apply AL_callPw (hB); kernel_rfl; (iterate 4 exact rfl)) | (apply AL_callPw (hR); kernel_rfl; (iterate 4 exact rfl)) | (apply AL_callPw (hV); kernel_rfl; (iterate 4 exact rfl)) | (apply AL_move; exact rfl; exact rfl) | (apply AL_assign; exact rfl; exact rfl) | (apply AL_bin; (iterate 5 exact rfl)) | (apply AL_loadn ttok; (iterate 7 exact rfl)) | (apply AL_box; (iterate 5 exact rfl)) | (apply AL_store ttok; (iterate 8 exact rfl)) | (apply AL_extract; (iterate 3 exact rfl)) | refine AL_nil ?_ | (apply AL_guardT; (iterate 3 exact rfl); (first | with_reducible assumption | decide +kernel)) | (apply AL_guardFf; (iterate 3 exact rfl); (first | with_reducible assumption | decide +kernel)) | (apply AL_guardU; (iterate 3 exact rfl)) | (apply AL_pickT; exact rfl; (first | with_reducible assumption | decide +kernel); exact rfl; exact rfl) | (apply AL_pickF; exact rfl; (first | with_reducible assumption | decide +kernel); exact rfl; exact rfl) | refine AW_region ?_ | refine AW_seq' ?_ | (apply AW_condA; exact rfl; (first | with_reducible assumption | decide +kernel)) | (apply AW_condB; exact rfl; (first | with_reducible assumption | decide +kernel)) | (apply AW_cond'; exact rfl; all_goals intro hb) | refine then_norm ?_ | refine AW_ret ?_ | refine then_ret ?_ | (apply AL_alloc ttok; (iterate 4 exact rfl)) | (apply AL_eqS ttok; (iterate 4 exact rfl); (kernel_rfl); (kernel_rfl); (iterate 3 exact rfl)) | refine AW_skip ?_)
        all_goals (apply endQ []; (repeat (first | exact ResL.nil | (apply ResL.cons; first | exact .tmp _ _ rfl | (apply res_n ttok; (iterate 6 exact rfl)) | (apply res_1 ttok; (iterate 5 exact rfl))))); (iterate 4 exact rfl))
        all_goals first | rfl | (exfalso; revert hb; simp)
      · refine AP.ofA ?_
        refine AC_of Tryd.func7 rfl Tryd.ntmps7 rfl rfl ?_
        repeat' (first | (apply AL_callPw (hA); kernel_rfl; (iterate 4 exact rfl)) | (apply AL_callPw (hG); kernel_rfl; (iterate 4 exact rfl)) | (apply AL_callPw (hW); kernel_rfl; (iterate 4 exact rfl)) | (apply AL_callPw (hB); kernel_rfl; (iterate 4 exact rfl)) | (apply AL_callPw (hR); kernel_rfl; (iterate 4 exact rfl)) | (apply AL_callPw (hV); kernel_rfl; (iterate 4 exact rfl)) | (apply AL_callPw (hS); kernel_rfl; (iterate 4 exact rfl)) | (apply AL_move; exact rfl; exact rfl) | (apply AL_assign; exact rfl; exact rfl) | (apply AL_bin; (iterate 5 exact rfl)) | (apply AL_loadn ttok; (iterate 7 exact rfl)) | (apply AL_box; (iterate 5 exact rfl)) | (apply AL_store ttok; (iterate 8 exact rfl)) | (apply AL_extract; (iterate 3 exact rfl)) | refine AL_nil ?_ | (apply AL_guardT; (iterate 3 exact rfl); (first | with_reducible assumption | decide +kernel)) | (apply AL_pickT; exact rfl; (first | with_reducible assumption | decide +kernel); exact rfl; exact rfl) | (apply AL_pickF; exact rfl; (first | with_reducible assumption | decide +kernel); exact rfl; exact rfl) | refine AW_region ?_ | refine AW_seq' ?_ | (apply AW_condA; exact rfl; (first | with_reducible assumption | decide +kernel)) | (apply AW_condB; exact rfl; (first | with_reducible assumption | decide +kernel)) | (apply AW_cond'; exact rfl; all_goals intro hb) | refine then_norm ?_ | refine AW_ret ?_ | refine then_ret ?_ | (apply AL_alloc ttok; (iterate 4 exact rfl)) | (apply AL_eqS ttok; (iterate 4 exact rfl); (kernel_rfl); (kernel_rfl); (iterate 3 exact rfl)) | refine AW_skip ?_)
        all_goals (apply endQ []; (repeat (first | exact ResL.nil | (apply ResL.cons; first | exact .tmp _ _ rfl | (apply res_n ttok; (iterate 6 exact rfl)) | (apply res_1 ttok; (iterate 5 exact rfl))))); (iterate 4 exact rfl))
        all_goals first | rfl | (exfalso; revert hb; simp)
end Go.Proofs.YtnihobjehelagaaDoor
end
/- Items that are too much for a statement. -/
section
open Go.RowKit Go.Pl Go.Av
namespace Go.Proofs.YtnihobjehelagaaDoor
set_option linter.unusedVariables false
set_option linter.unusedSimpArgs false
set_option maxHeartbeats 4000000
mutual
/-- how many items more there may be; below 0: there are too many -/
def greatI : It → Nat → Int → Int
  | .mk k n b l, d, m => if 9 < d then -1 else if 3000 < b.length then -1 else greats l (d + 1) (m - 1)
def greats : List It → Nat → Int → Int
  | [], _, m => m
  | x :: l, d, m => if m < 0 then m else greats l d (greatI x d m)
end
mutual
theorem greatI_lt : ∀ (x : It) (d : Nat) (m : Int), 0 ≤ m → greatI x d m < m ∧ -1 ≤ greatI x d m
  | .mk k n b l, d, m, h => by
    rw [greatI]
    split
    · omega
    · split
      · omega
      · have := greats_le l (d + 1) (m - 1) (by omega); omega
theorem greats_le : ∀ (l : List It) (d : Nat) (m : Int), -1 ≤ m → greats l d m ≤ m ∧ -1 ≤ greats l d m
  | [], _, m, h => by rw [greats]; omega
  | x :: l, d, m, h => by
    rw [greats]
    split
    · omega
    · have h1 := greatI_lt x d m (by omega)
      have h2 := greats_le l d (greatI x d m) (by omega)
      omega
end
mutual
def nI : It → Prop
  | .mk _ n _ l => n < 18446744073709551616 ∧ nIs l
def nIs : List It → Prop
  | [] => True
  | x :: l => nI x ∧ nIs l
end
mutual
def deepI : It → Nat → Bool
  | .mk _ _ _ l, d => match d with
    | 0 => false
    | d + 1 => deeps l d
def deeps : List It → Nat → Bool
  | [], _ => true
  | x :: l, d => deepI x d && deeps l d
end
mutual
theorem small_wf : ∀ (x : It) (d : Nat) (m : Int), m ≤ 400 → 0 ≤ greatI x d m → nI x → wfI x ∧ (putI x).length ≤ 3009 * (m - greatI x d m) ∧ m - greatI x d m ≥ 1 ∧ deepI x (10 - d) = true
  | .mk k n b l, d, m, hm, h, hn => by
    rw [greatI] at h ⊢
    split at h
    · omega
    split at h
    · omega
    rename_i h1 h2
    rw [if_neg h1, if_neg h2]
    obtain ⟨q1, q2, q3, q4⟩ := smalls_wf l (d + 1) (m - 1) (by omega) h hn.2
    refine ⟨⟨hn.1, by omega, by omega, q1⟩, ?_, by omega, ?_⟩
    · rw [putI]
      have hw : (if rightB (k, (It.mk k n b l).hn, false) then writeL (k, (It.mk k n b l).hn, false) else []).length ≤ 9 := by
        split
        · rename_i hr; rw [writeL_length _ hr]; exact sizeN_le _
        · exact Nat.zero_le _
      rw [List.length_append, List.length_append]
      omega
    · obtain ⟨e, he⟩ : ∃ e, 10 - d = e + 1 := ⟨9 - d, by omega⟩
      rw [he, deepI]
      rw [show 10 - (d + 1) = e by omega] at q4
      exact q4
theorem smalls_wf : ∀ (l : List It) (d : Nat) (m : Int), m ≤ 400 → 0 ≤ greats l d m → nIs l → wfs l ∧ (puts l).length ≤ 3009 * (m - greats l d m) ∧ m - greats l d m ≥ l.length ∧ deeps l (10 - d) = true
  | [], _, m, _, h, hn => by simp [wfs, puts, greats, deeps]
  | x :: l, d, m, hm, h, hn => by
    rw [greats] at h ⊢
    split at h
    · omega
    rename_i h1
    rw [if_neg h1]
    have h0 : 0 ≤ greatI x d m := by
      rcases Int.lt_or_le (greatI x d m) 0 with hlt | hge
      · have := greats_le l d (greatI x d m) (by have := greatI_lt x d m (by omega); omega); omega
      · exact hge
    obtain ⟨q1, q2, q3, q4⟩ := small_wf x d m hm h0 hn.1
    obtain ⟨r1, r2, r3, r4⟩ := smalls_wf l d _ (by have := greatI_lt x d m (by omega); omega) h hn.2
    refine ⟨⟨q1, r1⟩, ?_, ?_, ?_⟩
    · rw [puts, List.length_append]; omega
    · rw [List.length_cons]; omega
    · rw [deeps, q4, r4]; rfl
end
theorem av_great [Known] : ∀ (x : It) (d : Nat) (m : Int), d ≤ 10 → 0 ≤ m → m ≤ 400 → AP Tryd.prog 38 [itD x, .int .i64 (d : Int), .int .i64 m] (.int .i64 (greatI x d m)) [] := by
  refine It.ind fun k n b l ih d m hd hm hm' => ?_
  have hlen := itEs_len l
  have hbl : (b.map E.byte).length = b.length := List.length_map ..
  show AP Tryd.prog _ [.agg (itC k n b l), _, _] _ _
  rw [greatI]
  have em : 0 ≤ m → IntKind.i64.wrap (m - 1) = m - 1 := fun h => by rw [IntWalk.i64_in _ (by omega)]
  have ed : IntKind.i64.wrap ((d : Int) + 1) = ((d + 1 : Nat) : Int) := by rw [IntWalk.i64_in _ (by omega)]; omega
  by_cases hd9 : 9 < d
  · rw [if_pos hd9]
    have t1 : decide ((d : Int) > 9) = true := by simp; omega
    refine AP.ofA ?_
    refine AC_of Tryd.func38 rfl Tryd.ntmps38 rfl rfl ?_
    repeat' (first | (apply AL_move; exact rfl; exact rfl) | (apply AL_assign; exact rfl; exact rfl) | (apply AL_bin; (iterate 5 exact rfl)) | (apply AL_box; (iterate 5 exact rfl)) | refine AL_nil ?_ | (apply AL_guardFf; (iterate 3 exact rfl); (first | with_reducible assumption | decide +kernel)) | (apply AL_pickT; exact rfl; (first | with_reducible assumption | decide +kernel); exact rfl; exact rfl) | refine AW_region ?_ | refine AW_seq' ?_ | (apply AW_condA; exact rfl; (first | with_reducible assumption | decide +kernel)) | refine then_norm ?_ | refine AW_ret ?_ | refine then_ret ?_)
    all_goals (apply endQ []; (repeat (first | exact ResL.nil | (apply ResL.cons; first | exact .tmp _ _ rfl | (apply res_n ttok; (iterate 6 exact rfl)) | (apply res_1 ttok; (iterate 5 exact rfl))))); (iterate 4 exact rfl))
    all_goals rfl
  have t1 : decide ((d : Int) > 9) = false := by simp; omega
  rw [if_neg hd9]
  by_cases hb : 3000 < b.length
  · rw [if_pos hb]
    have t2 : decide ((((b.map E.byte).length : Nat) : Int) > 3000) = true := by rw [hbl]; simp; omega
    refine AP.ofA ?_
    refine AC_of Tryd.func38 rfl Tryd.ntmps38 rfl rfl ?_
    repeat' (first | (apply AL_move; exact rfl; exact rfl) | (apply AL_assign; exact rfl; exact rfl) | (apply AL_bin; (iterate 5 exact rfl)) | (apply AL_load1 ttok; (iterate 6 exact rfl)) | (apply AL_fieldAddr ttok; (iterate 7 exact rfl)) | (apply AL_box; (iterate 5 exact rfl)) | refine AL_nil ?_ | (apply AL_guardT; (iterate 3 exact rfl); (first | with_reducible assumption | decide +kernel)) | (apply AL_pickF; exact rfl; (first | with_reducible assumption | decide +kernel); exact rfl; exact rfl) | refine AW_region ?_ | refine AW_seq' ?_ | (apply AW_condA; exact rfl; (first | with_reducible assumption | decide +kernel)) | refine then_norm ?_ | refine AW_ret ?_ | refine then_ret ?_ | (apply AL_len ttok; (iterate 4 exact rfl)))
    all_goals (apply endQ []; (repeat (first | exact ResL.nil | (apply ResL.cons; first | exact .tmp _ _ rfl | (apply res_n ttok; (iterate 6 exact rfl)) | (apply res_1 ttok; (iterate 5 exact rfl))))); (iterate 4 exact rfl))
    all_goals rfl
  have t2 : decide ((((b.map E.byte).length : Nat) : Int) > 3000) = false := by rw [hbl]; simp; omega
  rw [if_neg hb]
  generalize hfin : greats l (d + 1) (m - 1) = fin
  have em := em hm
  refine AP.ofA ?_
  refine AC_of Tryd.func38 rfl Tryd.ntmps38 rfl rfl ?_
  repeat' (first | rw [em] | (apply AL_move; exact rfl; exact rfl) | (apply AL_assign; exact rfl; exact rfl) | (apply AL_bin; (iterate 5 exact rfl)) | (apply AL_load1 ttok; (iterate 6 exact rfl)) | (apply AL_fieldAddr ttok; (iterate 7 exact rfl)) | (apply AL_box; (iterate 5 exact rfl)) | refine AL_nil ?_ | (apply AL_guardT; (iterate 3 exact rfl); (first | with_reducible assumption | decide +kernel)) | (apply AL_pickF; exact rfl; (first | with_reducible assumption | decide +kernel); exact rfl; exact rfl) | refine AW_region ?_ | refine AW_seq' ?_ | (apply AW_condB; exact rfl; (first | with_reducible assumption | decide +kernel)) | refine then_norm ?_ | refine AW_block ?_ | (apply AL_len ttok; (iterate 4 exact rfl)) | refine AW_skip ?_)
  refine AW_loopJ (fun f tm bx fr => ∃ (i : Nat) (m' : Int), f + i = l.length ∧ -1 ≤ m' ∧ m' + i ≤ 399 ∧ greats (l.drop i) (d + 1) m' = fin ∧ tm = [(1, .int .i64 (d : Int)), (2, .int .i64 m'), (3, .ptr 0 0), (7, .int .i64 (i : Int)), (6, .int .i64 0)] ∧ bx = [itC k n b l] ∧ fr = []) (l.length + 1) (Lands.mk' (m := l.length) (Nat.lt_succ_self _) ⟨0, m - 1, rfl, by omega, by omega, hfin, rfl, rfl, rfl⟩ ?_ rfl rfl rfl rfl rfl rfl) ?_
  · exact .cons rfl (.cons rfl (.cons rfl (.cons rfl (.cons rfl .nil))))
  rintro f tm bx fr ⟨i, m', hf, hm1, hm2, hfin, rfl, rfl, rfl⟩
  have hU := uniI l
  rcases Nat.lt_or_ge i l.length with hlt | hge
  · have hdl : decide ((i : Int) < ((itEs l).length : Int)) = true := decide_eq_true (by omega)
    obtain ⟨⟨k1, n1, b1, l1⟩, hy⟩ : ∃ y, l[i]? = some y := ⟨_, List.getElem?_eq_getElem hlt⟩
    have hv : (itEs l)[((i : Nat) : Int).toNat]? = some (.agg [.int .i64 k1, .int .u64 (n1 : Int), .sl (b1.map E.byte), .sl (itEs l1)]) := by
      rw [Int.toNat_natCast, itEs_map, List.getElem?_map, hy]; rfl
    have hdr : l.drop i = It.mk k1 n1 b1 l1 :: l.drop (i + 1) := by
      rw [List.drop_eq_getElem_cons hlt]; congr 1
      have := (List.getElem?_eq_some_iff.1 hy).2; exact this
    rw [hdr, greats] at hfin
    rcases Int.lt_or_le m' 0 with hml | hmg
    · have hdm : decide (m' ≥ 0) = false := decide_eq_false (by omega)
      rw [if_pos hml] at hfin
      subst hfin
      repeat' (first | (apply AL_move; exact rfl; exact rfl) | (apply AL_assign; exact rfl; exact rfl) | (apply AL_bin; (iterate 5 exact rfl)) | (apply AL_load1 ttok; (iterate 6 exact rfl)) | (apply AL_fieldAddr ttok; (iterate 7 exact rfl)) | refine AL_nil ?_ | (apply AL_guardT; (iterate 3 exact rfl); (first | with_reducible assumption | decide +kernel)) | (apply AL_pickT; exact rfl; (first | with_reducible assumption | decide +kernel); exact rfl; exact rfl) | refine AW_region ?_ | refine AW_seq' ?_ | (apply AW_condB; exact rfl; (first | with_reducible assumption | decide +kernel)) | refine then_norm ?_ | refine AW_exit ?_ | refine AW_ret ?_ | (apply AL_len ttok; (iterate 4 exact rfl)))
      all_goals (apply endQ []; (repeat (first | exact ResL.nil | (apply ResL.cons; first | exact .tmp _ _ rfl | (apply res_n ttok; (iterate 6 exact rfl)) | (apply res_1 ttok; (iterate 5 exact rfl))))); (iterate 4 exact rfl))
      all_goals rfl
    · have hdm : decide (m' ≥ 0) = true := decide_eq_true (by omega)
      rw [if_neg (by omega)] at hfin
      have hmem := List.mem_of_getElem? hy
      have hc := ih _ hmem (d + 1) m' (by omega) hmg (by omega)
      have ei : IntKind.i64.wrap ((i : Int) + 1) = ((i + 1 : Nat) : Int) := by rw [IntWalk.i64_in _ (by omega)]; omega
      have hgl := greatI_lt (.mk k1 n1 b1 l1) (d + 1) m' hmg
      generalize hgr : greatI (.mk k1 n1 b1 l1) (d + 1) m' = r at hc hfin hgl
      repeat' (first | rw [ed] | rw [ei] | (apply AL_callPw (hc); kernel_rfl; (iterate 4 exact rfl)) | (apply AL_move; exact rfl; exact rfl) | (apply AL_assign; exact rfl; exact rfl) | (apply AL_bin; (iterate 5 exact rfl)) | (apply AL_load1 ttok; (iterate 6 exact rfl)) | (apply AL_fieldAddr ttok; (iterate 7 exact rfl)) | refine AL_nil ?_ | (apply AL_guardT; (iterate 3 exact rfl); (first | with_reducible assumption | decide +kernel)) | (apply AL_pickT; exact rfl; (first | with_reducible assumption | decide +kernel); exact rfl; exact rfl) | refine AW_region ?_ | refine AW_seq' ?_ | (apply AW_condA; exact rfl; (first | with_reducible assumption | decide +kernel)) | refine then_norm ?_ | refine AW_block ?_ | (apply AL_len ttok; (iterate 4 exact rfl)) | (apply AL_eloadn ttok; (iterate 6 exact rfl)) | refine AW_skip ?_ | (apply AL_idx ttok; (iterate 6 exact rfl); (first | with_reducible assumption | decide +kernel | exact Int.natCast_nonneg _ | (guard_target = (0:Int) ≤ (OfNat.ofNat _ : Int); decide) | rotate_left); (first | with_reducible assumption | decide +kernel | exact rfl); (first | exact uniB_ok rfl | with_reducible assumption | decide +kernel | rotate_left)))
      refine Lands.mk' (m := f - 1) (by omega) ⟨i + 1, r, by omega, by omega, by omega, hfin, rfl, rfl, rfl⟩ ?_ rfl rfl rfl rfl rfl rfl
      exact .cons rfl (.cons rfl (.cons rfl (.cons rfl (.cons rfl .nil))))
  · have hdl : decide ((i : Int) < ((itEs l).length : Int)) = false := decide_eq_false (by omega)
    have hdr : l.drop i = [] := List.drop_eq_nil_of_le hge
    rw [hdr, greats] at hfin
    subst hfin
    repeat' (first | (apply AL_move; exact rfl; exact rfl) | (apply AL_assign; exact rfl; exact rfl) | (apply AL_bin; (iterate 5 exact rfl)) | (apply AL_load1 ttok; (iterate 6 exact rfl)) | (apply AL_fieldAddr ttok; (iterate 7 exact rfl)) | refine AL_nil ?_ | (apply AL_guardFt; (iterate 3 exact rfl); (first | with_reducible assumption | decide +kernel)) | (apply AL_pickF; exact rfl; (first | with_reducible assumption | decide +kernel); exact rfl; exact rfl) | refine AW_region ?_ | refine AW_seq' ?_ | (apply AW_condB; exact rfl; (first | with_reducible assumption | decide +kernel)) | refine then_norm ?_ | refine AW_exit ?_ | refine AW_ret ?_ | (apply AL_len ttok; (iterate 4 exact rfl)))
    all_goals (apply endQ []; (repeat (first | exact ResL.nil | (apply ResL.cons; first | exact .tmp _ _ rfl | (apply res_n ttok; (iterate 6 exact rfl)) | (apply res_1 ttok; (iterate 5 exact rfl))))); (iterate 4 exact rfl))
    all_goals rfl
/-- is an item too much for a statement? -/
def bigI (x : It) : Bool := decide (greatI x 1 400 < 0)
theorem av_bigI [Known] (x : It) : AP Tryd.prog 14 [itD x] (.bool (bigI x)) [] := by
  have hk := av_great x 1 400 (by omega) (by omega) (by omega)
  obtain ⟨k, n, b, l⟩ := x
  refine AP.ofA ?_
  refine AC_of Tryd.func14 rfl Tryd.ntmps14 rfl rfl ?_
  repeat' (first | (apply AL_callPw (hk); kernel_rfl; (iterate 4 exact rfl)) | (apply AL_assign; exact rfl; exact rfl) | (apply AL_bin; (iterate 5 exact rfl)) | (apply AL_loadn ttok; (iterate 7 exact rfl)) | (apply AL_box; (iterate 5 exact rfl)) | refine AL_nil ?_ | refine AW_region ?_ | refine AW_seq' ?_ | refine then_norm ?_ | refine AW_ret ?_)
  all_goals (apply endQ []; (repeat (first | exact ResL.nil | (apply ResL.cons; first | exact .tmp _ _ rfl | (apply res_n ttok; (iterate 6 exact rfl)) | (apply res_1 ttok; (iterate 5 exact rfl))))); (iterate 4 exact rfl))
  all_goals rfl
theorem bigI_no {x : It} (h : bigI x = false) (hn : nI x) : wfI x ∧ (putI x).length ≤ 1203600 ∧ deepI x 9 = true := by
  have h := of_decide_eq_false h
  obtain ⟨h1, h2, _, h4⟩ := small_wf x 1 400 (by omega) (by omega) hn
  exact ⟨h1, by omega, h4⟩
end Go.Proofs.YtnihobjehelagaaDoor
end
/- An item as an argument: from the form's own reading to this seat's words. -/
section
open Go.RowKit Go.Pl Go.Av
namespace Go.Proofs.YtnihobjehelagaaDoor
set_option linter.unusedVariables false
def viaR {α β : Type} (R : Rep α) (f : β → α) : Rep β where
  n := R.n
  ok := fun w S cs x => R.ok w S cs (f x)
  len := R.len
  one := R.one
  frame := R.frame
  mono := R.mono
  lt := R.lt
def none4 : Rep It where
  n := 4
  ok := fun _ _ _ _ => False
  len := fun h => h.elim
  one := fun h => h.elim
  frame := fun _ h => h
  mono := fun _ h => h
  lt := fun h => h
def RI : Nat → {R : Rep It // R.n = 4}
  | 0 => ⟨none4, rfl⟩
  | m + 1 => ⟨viaR (Rep.i64.prod (Rep.u64.prod ((Rep.slice Rep.byte (by decide)).prod (Rep.slice (RI m).1 (by rw [(RI m).2]; decide))))) fun x => (x.k, x.n, x.b, x.l), rfl⟩
theorem toE_item : ∀ m : Nat, ToE (RI m).1 itE
  | 0 => ⟨fun _ _ _ _ _ _ h => h.elim⟩
  | m + 1 => ⟨fun w S C cs x hC h => by
    have h0 := ((ToE.i64.prod (ToE.u64.prod ((ToE.byte.slice (by decide)).prod ((toE_item m).slice (by rw [(RI m).2]; decide))))).cells w S C cs (x.k, x.n, x.b, x.l) hC h)
    obtain ⟨k, n, b, l⟩ := x
    have e : (itE (.mk k n b l)).cells = [.int .i64 k, .int .u64 (n : Int), .sl (b.map E.byte), .sl (l.map itE)] := by rw [← itEs_map]; rfl
    rw [e]
    exact h0⟩
theorem run_all {α : Type} {R : Rep α} {w : World} {S : Nat → Prop} : ∀ {l : List α} {cs : List Value}, Run R w S cs l → ∀ x ∈ l, ∃ cs', R.ok w S cs' x
  | [], _, _, x, hx => nomatch hx
  | y :: l, cs, h, x, hx => by
    obtain ⟨c1, c2, _, h1, h2⟩ := h
    rcases List.mem_cons.1 hx with rfl | hx
    · exact ⟨c1, h1⟩
    · exact run_all h2 x hx
theorem nIs_of : ∀ {l : List It}, (∀ x ∈ l, nI x) → nIs l
  | [], _ => trivial
  | x :: l, h => ⟨h x (List.mem_cons_self ..), nIs_of fun y hy => h y (List.mem_cons_of_mem _ hy)⟩
theorem item_nI : ∀ (m : Nat) {w : World} {S : Nat → Prop} {cs : List Value} {x : It}, (RI m).1.ok w S cs x → nI x
  | 0, _, _, _, _, h => h.elim
  | m + 1, w, S, cs, x, h => by
    obtain ⟨k, n, b, l⟩ := x
    obtain ⟨_, _, _, _, _, _, _, ⟨_, hn⟩, _, _, _, _, v, _, A, cap, _, _, _, cs', hr, _⟩ := h
    exact ⟨hn, nIs_of fun y hy => let ⟨c, hc⟩ := run_all hr y hy; item_nI m hc⟩
variable {P : Program} {t : TypeId}
theorem opens_sliceF {α : Type} {R : Rep α} {e : TypeId} (hR : 0 < R.n) (ht : P.underlying t = some (.slice e)) (hc : P.cellsOf e = R.n) {H : Type} {enc : TypeId × Value → H} {W : World} {spare : Nat → Bool} {held : Bool} {fuel : Nat} {cs : List Value} {y : DataW H × List MemPlace}
    (he : ∀ (f : Nat) (cs : List Value) (y : DataW H × List MemPlace), f < fuel → DataW.trod enc P W 0 spare held f e cs = some y → ∃ x, R.ok W (· < W.heap.size) cs x) (h : DataW.trod enc P W 0 spare held fuel t cs = some y) : ∃ x, (Rep.slice R hR).ok W (· < W.heap.size) cs x := by
  rcases DataW.trod_slice ht h with ⟨rfl, _⟩ | ⟨a, len, cap, elems, rest, n, hn, rfl, _, _, hl, hm, hlen, hi, _, _⟩
  · exact ⟨[], _, rfl, Sl.nil _ _ _⟩
  · rw [hc] at hi
    have key : ∀ k, k ≤ len → ∃ (l : List α) (cs : List Value), l.length = k ∧ Run R W (· < W.heap.size) cs l ∧ ∀ j, j < cs.length → W.cell? (a.add j) = cs[j]? := by
      intro k
      induction k with
      | zero => intro _; exact ⟨[], [], rfl, rfl, fun j hj => by simp at hj⟩
      | succ k ih =>
        intro hk
        obtain ⟨l, cs, hll, hr, hcc⟩ := ih (by omega)
        have hik := hi k (by omega)
        rw [List.getElem?_eq_getElem (by omega)] at hik
        obtain ⟨cs', hcs', ht'⟩ := Option.bind_eq_some_iff.1 hik
        obtain ⟨x, hx⟩ := he n cs' _ (by omega) ht'
        obtain ⟨_, hcl, hat⟩ := World.cells?_some hcs'
        refine ⟨l ++ [x], cs ++ cs', by simp [hll], hr.append (Run.single hx), fun j hj => ?_⟩
        have hlen := hr.length
        rw [hll] at hlen
        rcases Nat.lt_or_ge j cs.length with h1 | h1
        · rw [List.getElem?_append_left h1]; exact hcc j h1
        · rw [List.getElem?_append_right h1]
          have h2 : j - cs.length < R.n := by rw [List.length_append, hcl] at hj; omega
          have := hat (j - cs.length) h2
          rw [Go.Deep.add_add] at this
          rw [← this]
          congr 2
          omega
    obtain ⟨l, cs, hll, hr, hcc⟩ := key len (Nat.le_refl _)
    subst hll
    refine ⟨l, _, rfl, some a, cap, rfl, hl, hm, cs, hr, fun hne => ?_⟩
    have hlen := hr.length
    have hpos : 0 < cs.length := by rw [hlen]; exact Nat.mul_pos (List.length_pos_iff.2 hne) hR
    obtain ⟨b, off, spot⟩ := a
    have h0 := (hcc 0 hpos).trans (List.getElem?_eq_getElem hpos)
    have hspot : spot = none := by simpa [Addr.add] using World.cell?_spot h0
    subst hspot
    refine ⟨b, off, rfl, World.block_lt_of_cell? W _ (by simpa [Addr.add] using h0), fun j hj => ?_⟩
    rw [← hcc j hj]
    congr 1
    unfold Addr.add; split <;> simp_all
theorem opens_item {fs : Array Field} {f0 f1 f2 f3 : Field} (hs : P.underlying t = some (.struct fs)) (hfs : fs = #[f0, f1, f2, f3]) (hc : P.cellsOf t = 4)
    (h00 : f0.offset = 0) (h01 : f1.offset = 1) (h02 : f2.offset = 2) (h03 : f3.offset = 3) (hc0 : P.cellsOf f0.type = 1) (hc1 : P.cellsOf f1.type = 1) (hc2 : P.cellsOf f2.type = 1) (hc3 : P.cellsOf f3.type = 1)
    (h0 : Opens P f0.type Rep.i64) (h1 : Opens P f1.type Rep.u64) (h2 : Opens P f2.type (Rep.slice Rep.byte (by decide))) (h3 : P.underlying f3.type = some (.slice t))
    {H : Type} {enc : TypeId × Value → H} {W : World} {spare : Nat → Bool} {held : Bool} : ∀ (fuel : Nat) (cs : List Value) (y : DataW H × List MemPlace), DataW.trod enc P W 0 spare held fuel t cs = some y → ∀ j, fuel ≤ j → ∃ x, (RI j).1.ok W (· < W.heap.size) cs x := by
  intro fuel
  induction fuel using Nat.strongRecOn with
  | _ fuel ih =>
    intro cs y h j hj
    obtain ⟨xs, n, hn, _, hl, hxl, hg⟩ := DataW.trod_struct hs h
    subst hfs
    obtain ⟨j, rfl⟩ : ∃ i, j = i + 1 := ⟨j - 1, by omega⟩
    have e0 := hg 0 f0 rfl
    have e1 := hg 1 f1 rfl
    have e2 := hg 2 f2 rfl
    have e3 := hg 3 f3 rfl
    rw [hc] at hl
    match cs, hl with
    | [v0, v1, v2, v3], _ =>
    rw [h00, hc0] at e0
    rw [h01, hc1] at e1
    rw [h02, hc2] at e2
    rw [h03, hc3] at e3
    have hn4 : xs.length = 4 := hxl
    obtain ⟨k, hk⟩ := h0 H enc W spare held n _ _ (e0.trans (List.getElem?_eq_getElem (by omega)))
    obtain ⟨m, hm⟩ := h1 H enc W spare held n _ _ (e1.trans (List.getElem?_eq_getElem (by omega)))
    obtain ⟨b, hb⟩ := h2 H enc W spare held n _ _ (e2.trans (List.getElem?_eq_getElem (by omega)))
    obtain ⟨l, hll⟩ := opens_sliceF (R := (RI j).1) (by rw [(RI j).2]; decide) h3 (by rw [hc, (RI j).2]) (fun f cs y hf hy => ih f (by omega) cs y hy j (by omega)) (e3.trans (List.getElem?_eq_getElem (by omega)))
    exact ⟨.mk k m b l, [v0], [v1, v2, v3], rfl, hk, [v1], [v2, v3], rfl, hm, [v2], [v3], rfl, hb, hll⟩
end Go.Proofs.YtnihobjehelagaaDoor
end
/- An item as an argument, with the sizes that a statement promises. -/
section
open Go.RowKit Go.Pl Go.Av
namespace Go.Proofs.YtnihobjehelagaaDoor
set_option linter.unusedVariables false
variable {P : Program} {t : TypeId}
theorem weightsAll_in {H : Type} {P : Program} {e : TypeId} : ∀ {l : List (DataW H)} {d : DataW H}, d ∈ l → ∀ n ∈ d.weights P e, n ∈ DataW.weightsAll P e l
  | x :: l, d, hd, n, hn => by
    simp only [DataW.weightsAll, List.mem_append]
    rcases List.mem_cons.1 hd with rfl | hd
    · exact .inl hn
    · exact .inr (weightsAll_in hd n hn)
/-- how long a slice is at most -/
theorem slice_len {α : Type} {R : Rep α} (hR : 0 < R.n) {e : TypeId} (ht : P.underlying t = some (.slice e)) {H : Type} {enc : TypeId × Value → H} {W : World} {spare : Nat → Bool} {held : Bool} {fuel : Nat} {cs : List Value} {y : DataW H × List MemPlace} {l : List α}
    (h : DataW.trod enc P W 0 spare held fuel t cs = some y) (hok : (Rep.slice R hR).ok W (· < W.heap.size) cs l) (hs : ∀ n ∈ y.1.weights P t, n ≤ reachBytes) : l.length * P.bytesOf e ≤ reachBytes := by
  obtain ⟨v, rfl, A, cap, hv, _⟩ := hok
  rcases DataW.trod_slice ht h with ⟨h1, _⟩ | ⟨a, len, cap', elems, rest, n, _, h1, rfl, _, _, _, hlen, _, _, _⟩
  · rw [hv] at h1
    simp only [List.cons.injEq, Value.slice.injEq, and_true] at h1
    rw [h1.2.1]; simp
  · rw [hv] at h1
    simp only [List.cons.injEq, Value.slice.injEq, and_true] at h1
    have h2 := hs ((elems.length + rest.length) * P.bytesOf e) (by simp [DataW.weights, ht])
    rw [h1.2.1, ← hlen]
    exact Nat.le_trans (Nat.mul_le_mul_right _ (Nat.le_add_right _ _)) h2
theorem opens_sliceQ {α : Type} {R : Rep α} {Q : α → Prop} {e : TypeId} (hR : 0 < R.n) (ht : P.underlying t = some (.slice e)) (hc : P.cellsOf e = R.n) {H : Type} {enc : TypeId × Value → H} {W : World} {spare : Nat → Bool} {held : Bool} {fuel : Nat} {cs : List Value} {y : DataW H × List MemPlace} (hsz : ∀ n ∈ y.1.weights P t, n ≤ reachBytes)
    (he : ∀ (f : Nat) (cs : List Value) (y : DataW H × List MemPlace), f < fuel → DataW.trod enc P W 0 spare held f e cs = some y → (∀ n ∈ y.1.weights P e, n ≤ reachBytes) → ∃ x, R.ok W (· < W.heap.size) cs x ∧ Q x) (h : DataW.trod enc P W 0 spare held fuel t cs = some y) : ∃ x, (Rep.slice R hR).ok W (· < W.heap.size) cs x ∧ (∀ a ∈ x, Q a) ∧ x.length * P.bytesOf e ≤ reachBytes := by
  have h9 := h
  rcases DataW.trod_slice ht h with ⟨rfl, _⟩ | ⟨a, len, cap, elems, rest, n, hn, rfl, rfl, _, hl, hm, hlen, hi, _, _⟩
  · exact ⟨[], ⟨_, rfl, Sl.nil _ _ _⟩, by simp, by simp⟩
  · rw [hc] at hi
    have hwe : ∀ z ∈ elems, ∀ n ∈ z.1.weights P e, n ≤ reachBytes := fun z hz n hn => hsz n (by
      simp only [DataW.weights, ht, List.mem_cons, List.mem_append]
      exact .inr (.inl (weightsAll_in (List.mem_map_of_mem hz) n hn)))
    have key : ∀ k, k ≤ len → ∃ (l : List α) (cs : List Value), l.length = k ∧ Run R W (· < W.heap.size) cs l ∧ (∀ j, j < cs.length → W.cell? (a.add j) = cs[j]?) ∧ ∀ a ∈ l, Q a := by
      intro k
      induction k with
      | zero => intro _; exact ⟨[], [], rfl, rfl, fun j hj => by simp at hj, by simp⟩
      | succ k ih =>
        intro hk
        obtain ⟨l, cs, hll, hr, hcc, hq⟩ := ih (by omega)
        have hik := hi k (by omega)
        rw [List.getElem?_eq_getElem (by omega)] at hik
        obtain ⟨cs', hcs', ht'⟩ := Option.bind_eq_some_iff.1 hik
        obtain ⟨x, hx, hqx⟩ := he n cs' _ (by omega) ht' (hwe _ (List.getElem_mem _))
        obtain ⟨_, hcl, hat⟩ := World.cells?_some hcs'
        refine ⟨l ++ [x], cs ++ cs', by simp [hll], hr.append (Run.single hx), fun j hj => ?_, fun b hb => ?_⟩
        · have hlen := hr.length
          rw [hll] at hlen
          rcases Nat.lt_or_ge j cs.length with h1 | h1
          · rw [List.getElem?_append_left h1]; exact hcc j h1
          · rw [List.getElem?_append_right h1]
            have h2 : j - cs.length < R.n := by rw [List.length_append, hcl] at hj; omega
            have := hat (j - cs.length) h2
            rw [Go.Deep.add_add] at this
            rw [← this]
            congr 2
            omega
        · rcases List.mem_append.1 hb with hb | hb
          · exact hq b hb
          · rw [List.mem_singleton] at hb; subst hb; exact hqx
    obtain ⟨l, cs, hll, hr, hcc, hq⟩ := key len (Nat.le_refl _)
    subst hll
    have hok : (Rep.slice R hR).ok W (· < W.heap.size) [.slice (some a) l.length cap] l := by
      refine ⟨_, rfl, some a, cap, rfl, hl, hm, cs, hr, fun hne => ?_⟩
      have hlen := hr.length
      have hpos : 0 < cs.length := by rw [hlen]; exact Nat.mul_pos (List.length_pos_iff.2 hne) hR
      obtain ⟨b, off, spot⟩ := a
      have h0 := (hcc 0 hpos).trans (List.getElem?_eq_getElem hpos)
      have hspot : spot = none := by simpa [Addr.add] using World.cell?_spot h0
      subst hspot
      refine ⟨b, off, rfl, World.block_lt_of_cell? W _ (by simpa [Addr.add] using h0), fun j hj => ?_⟩
      rw [← hcc j hj]
      congr 1
      unfold Addr.add; split <;> simp_all
    exact ⟨l, hok, hq, slice_len hR ht h9 hok hsz⟩
theorem wfs_of : ∀ {l : List It}, (∀ x ∈ l, wfI x) → wfs l
  | [], _ => trivial
  | x :: l, h => ⟨h x (List.mem_cons_self ..), wfs_of fun y hy => h y (List.mem_cons_of_mem _ hy)⟩
theorem opens_itemW {fs : Array Field} {f0 f1 f2 f3 : Field} {eb : TypeId} (hs : P.underlying t = some (.struct fs)) (hfs : fs = #[f0, f1, f2, f3]) (hc : P.cellsOf t = 4)
    (h00 : f0.offset = 0) (h01 : f1.offset = 1) (h02 : f2.offset = 2) (h03 : f3.offset = 3) (hc0 : P.cellsOf f0.type = 1) (hc1 : P.cellsOf f1.type = 1) (hc2 : P.cellsOf f2.type = 1) (hc3 : P.cellsOf f3.type = 1)
    (h0 : Opens P f0.type Rep.i64) (h1 : Opens P f1.type Rep.u64) (h2 : Opens P f2.type (Rep.slice Rep.byte (by decide))) (h3 : P.underlying f3.type = some (.slice t)) (h2t : P.underlying f2.type = some (.slice eb)) (hb1 : P.bytesOf eb = 1) (hbt : P.bytesOf t = 64)
    {H : Type} {enc : TypeId × Value → H} {W : World} {spare : Nat → Bool} {held : Bool} : ∀ (fuel : Nat) (cs : List Value) (y : DataW H × List MemPlace), DataW.trod enc P W 0 spare held fuel t cs = some y → (∀ n ∈ y.1.weights P t, n ≤ reachBytes) → ∀ j, fuel ≤ j → ∃ x, (RI j).1.ok W (· < W.heap.size) cs x ∧ wfI x := by
  intro fuel
  induction fuel using Nat.strongRecOn with
  | _ fuel ih =>
    intro cs y h hsz j hj
    obtain ⟨xs, n, hn, hy, hl, hxl, hg⟩ := DataW.trod_struct hs h
    subst hfs
    obtain ⟨j, rfl⟩ : ∃ i, j = i + 1 := ⟨j - 1, by omega⟩
    have e0 := hg 0 f0 rfl
    have e1 := hg 1 f1 rfl
    have e2 := hg 2 f2 rfl
    have e3 := hg 3 f3 rfl
    rw [hc] at hl
    match cs, hl with
    | [v0, v1, v2, v3], _ =>
    rw [h00, hc0] at e0
    rw [h01, hc1] at e1
    rw [h02, hc2] at e2
    rw [h03, hc3] at e3
    have hn4 : xs.length = 4 := hxl
    have hw : ∀ (i : Nat) (f : Field) (z : DataW H × List MemPlace), (#[f0, f1, f2, f3] : Array Field)[i]? = some f → xs[i]? = some z → ∀ m ∈ z.1.weights P f.type, m ≤ reachBytes := fun i f z hf hz m hm => by
      refine hsz m ?_
      rw [hy]
      simp only [DataW.weights, hs]
      exact DataW.weights_mem_each (j := i) (by rw [List.getElem?_map, Array.getElem?_toList, hf]; rfl) (by rw [List.getElem?_map, hz]; rfl) m hm
    have g2 := e2.trans (List.getElem?_eq_getElem (by omega))
    have g3 := e3.trans (List.getElem?_eq_getElem (by omega))
    obtain ⟨k, hk⟩ := h0 H enc W spare held n _ _ (e0.trans (List.getElem?_eq_getElem (by omega)))
    obtain ⟨m, hm⟩ := h1 H enc W spare held n _ _ (e1.trans (List.getElem?_eq_getElem (by omega)))
    obtain ⟨b, hb⟩ := h2 H enc W spare held n _ _ g2
    have hbl := slice_len (by decide) h2t g2 hb (hw 2 f2 _ rfl (List.getElem?_eq_getElem (by omega)))
    obtain ⟨l, hll, hq, hlen⟩ := opens_sliceQ (R := (RI j).1) (Q := wfI) (by rw [(RI j).2]; decide) h3 (by rw [hc, (RI j).2]) (hw 3 f3 _ rfl (List.getElem?_eq_getElem (by omega))) (fun f cs y hf hy hz => ih f (by omega) cs y hy hz j (by omega)) g3
    rw [hb1] at hbl
    rw [hbt] at hlen
    have hrb : reachBytes = 140737488351232 := rfl
    rw [hrb] at hbl hlen
    have hok : (RI (j + 1)).1.ok W (· < W.heap.size) [v0, v1, v2, v3] (.mk k m b l) := ⟨[v0], [v1, v2, v3], rfl, hk, [v1], [v2, v3], rfl, hm, [v2], [v3], rfl, hb, hll⟩
    refine ⟨.mk k m b l, hok, (item_nI _ hok).1, by omega, by omega, wfs_of hq⟩
end Go.Proofs.YtnihobjehelagaaDoor
end
/- Items and bytes as arguments: what they are. -/
section
open Go.RowKit Go.Pl Go.Av
namespace Go.Proofs.YtnihobjehelagaaDoor
set_option linter.unusedVariables false
theorem item_V {W : World} {cs : List Value} {x : It} {m : Nat} (h : (RI m).1.ok W (· < W.heap.size) cs x) : V W (g0 W) [] (itD x) (.agg cs.toArray) := by
  obtain ⟨k, n, b, l⟩ := x
  have h1 := ToE.agg (toE_item m) (l := [.int .i64 k, .int .u64 (n : Int), .sl (b.map E.byte), .sl (itEs l)]) (hf := rfl) h
  exact h1
theorem bytes_V {W : World} {v : Value} {b : List UInt8} (h : Sl Rep.byte W (· < W.heap.size) v b) : V W (g0 W) [] (byE b) v := .sl .ext _ _ (ToE.byte.sl (C := (g0 W).C) (fun k hk o => hk) h) trivial
end Go.Proofs.YtnihobjehelagaaDoor
end
/- IdentBack: the walk, from the row's arguments. -/
section
open Go.RowKit Go.Pl Go.Av
namespace Go.Proofs.YtnihobjehelagaaDoor
set_option linter.unusedVariables false
theorem toE_ident : ToE Go.Pl.RI (fun x => .agg [.bool x.1.1, .int .u64 (x.1.2.1 : Int), .int .u64 (x.1.2.2.1 : Int), .str x.1.2.2.2.1, .str x.1.2.2.2.2, .int .u64 (x.2.1 : Int), .int .u64 (x.2.2 : Int)]) :=
  toE_eid.prod (ToE.u64.prod ToE.u64)
abbrev XI := XE × Nat × Nat
theorem ident_V [Known] {W : World} {cs : List Value} {x : XI} (h : Go.Pl.RI.ok W (· < W.heap.size) cs x) : V W (g0 W) [] (.agg (iC x.1.v x.2.1 x.2.2)) (.agg cs.toArray) :=
  toE_ident.agg (l := [.bool x.1.1, .int .u64 (x.1.2.1 : Int), .int .u64 (x.1.2.2.1 : Int), .str x.1.2.2.2.1, .str x.1.2.2.2.2, .int .u64 (x.2.1 : Int), .int .u64 (x.2.2 : Int)]) rfl h
theorem identBack_walk (c0 c1 : List Value) (x0 : XI) (x1 : It) (W : World) (h0 : Go.Pl.RI.ok W (· < W.heap.size) c0 x0) (h1 : ∃ m, (RI m).1.ok W (· < W.heap.size) c1 x1) (hw : wfI x1) (hl : laidMet Tryd.prog Rows.identBackRow.laid W) :
    Calls Tryd.prog 7 #[.agg c0.toArray, .agg ⟨c1⟩] W fun e w' => e = .returned (.bool true) ∧ Below W.heap.size W w' := by
  obtain ⟨m, h1⟩ := h1
  have hg := gls_u8 (laid := Rows.identBackRow.laid) (by unfold Rows.identBackRow; repeat (first | exact List.mem_cons_self .. | apply List.mem_cons_of_mem)) (by unfold Rows.identBackRow; repeat (first | exact List.mem_cons_self .. | apply List.mem_cons_of_mem)) hl
  have h := @av_identBack knownU8 knownU8_ok x0.1.v x0.2.1 x0.2.2 x1 hw
  refine @topG knownU8 Tryd.prog 7 _ (@AC.mono knownU8 _ _ _ _ _ _ _ h fun r b t h => h.1) W [.agg c0.toArray, .agg ⟨c1⟩] hg rfl ?_
  intro j d v hd hv
  match j, hd, hv with
  | 0, hd, hv => cases hd; cases hv; exact @ident_V knownU8 _ _ _ h0
  | 1, hd, hv => cases hd; cases hv; exact item_V h1
  | j + 2, hd, hv => cases hd
end Go.Proofs.YtnihobjehelagaaDoor
end
