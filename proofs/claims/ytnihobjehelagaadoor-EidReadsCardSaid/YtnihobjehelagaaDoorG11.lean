/- The document's answers for names: kinds. -/
import Derived.Test.YtnihobjehelagaaDoorG06
import Derived.Lib.ItoaNum
import Derived.Test.YtnihobjehelagaaDoorG09
import Derived.Test.YtnihobjehelagaaDoorG10
section
open Go.RowKit Go.Pl Go.Av
namespace Go.Proofs.YtnihobjehelagaaDoor
set_option linter.unusedVariables false
set_option linter.unusedSimpArgs false
set_option maxHeartbeats 1000000
theorem eRight_iffI {x : EidV} (hi : x.i = true) : eRight x = true ↔ x.h = [] ∧ x.d = [] ∧ 1 ≤ (x.n : Int) ∧ (x.n : Int) ≤ 4294967295 ∧ (x.s : Int) ≤ 4294967295 := by
  have hz : isZ x = false := by simp [isZ, hi]
  rw [eRight_I hz hi]
  simp [hi, and_assoc]
theorem isZ_iffK {x : EidV} (hi : x.i = false) : isZ x = true ↔ (x.n : Int) = 0 ∧ (x.s : Int) = 0 ∧ x.h = [] ∧ x.d = [] := by
  simp [isZ, hi]
theorem eRight_iffT {x : EidV} (hi : x.i = false) (hz : isZ x = false) : eRight x = true ↔ (x.n : Int) = 0 ∧ (x.s : Int) = 0 ∧ (x.h.length : Int) ≥ 1 ∧ (x.h.length : Int) ≤ 16 ∧ (x.d.length : Int) ≤ 24 ∧ x.h.all (okB 45) = true ∧ x.d.all (okB 47) = true := by
  rw [eRight_T hz hi]
  simp only [Bool.and_eq_true, beq_iff_eq, decide_eq_true_eq, and_true, true_and, and_assoc, hi, beq_self_eq_true]
/-- which kind: none 0, numbers 1, texts 2, none at all -1 -/
def kindN (x : EidV) : Int := if x.i then (if eRight x then 1 else -1) else if isZ x then 0 else if eRight x then 2 else -1
theorem kind_ge (x : EidV) : decide (kindN x ≥ 0) = eRight x := by
  unfold kindN
  cases hi : x.i with
  | true => cases eRight x <;> rfl
  | false =>
    cases hz : isZ x with
    | true => rw [eRight_Z hz]; rfl
    | false => cases eRight x <;> rfl
theorem kind_lt (x : EidV) : decide (kindN x < 1) = (!(eRight x) || isZ x) := by
  unfold kindN
  cases hi : x.i with
  | true =>
    have hz : isZ x = false := by simp [isZ, hi]
    rw [hz]; cases eRight x <;> rfl
  | false =>
    cases hz : isZ x with
    | true => rw [eRight_Z hz]; rfl
    | false => cases eRight x <;> rfl
theorem av_refPlain [Known] (s : List UInt8) (b : Bool) (m : Nat) (hm : m = if b then 47 else 45) (hs : s.length ≤ 9223372036854775807) : AP Tryd.prog 109 [.str s, .bool b] (.bool (s.all (okB m))) [] := by
  refine AP.ofA ?_
  refine AC_of Tryd.func109 rfl Tryd.ntmps109 rfl rfl ?_
  repeat' (first | (apply AL_assign; exact rfl; exact rfl) | refine AL_nil ?_ | refine AW_region ?_ | refine AW_seq' ?_ | refine then_norm ?_ | refine AW_block ?_)
  refine AW_loopJ (fun k tm bx fr => ∃ i, k + i = s.length ∧ (∀ c ∈ s.take i, okB m c = true) ∧ tm = [(0, .str s), (1, .bool b), (5, .int .i64 (i : Int))] ∧ bx = [] ∧ fr = []) (s.length + 1) (Lands.mk' (m := s.length) (Nat.lt_succ_self _) ⟨0, rfl, by simp, rfl, rfl, rfl⟩ ?_ rfl rfl rfl rfl rfl rfl) ?_
  · exact .cons rfl (.cons rfl (.cons rfl .nil))
  rintro k tm bx fr ⟨i, hk, hall, rfl, rfl, rfl⟩
  rcases Nat.lt_or_ge i s.length with hlt | hge
  · have hd : decide ((i : Int) < (s.length : Int)) = true := by simp; omega
    obtain ⟨c, hc⟩ : ∃ c, s[i]? = some c := ⟨_, List.getElem?_eq_getElem hlt⟩
    have hv : s[((i : Nat) : Int).toNat]? = some c := by simpa using hc
    have ei : IntKind.i64.wrap ((i : Int) + 1) = ((i + 1 : Nat) : Int) := by rw [IntWalk.i64_in _ (by omega)]; omega
    have hstep : okB m c = true → ∀ x ∈ s.take (i + 1), okB m x = true := fun h x hx => by
      rw [List.take_add_one, hc] at hx
      rcases List.mem_append.1 hx with hx | hx
      · exact hall x hx
      · simp at hx; subst hx; exact h
    have hbad : ¬ okB m c = true → s.all (okB m) = false := fun h => List.all_eq_false.2 ⟨c, List.mem_of_getElem? hc, h⟩
    cases b with
    | false =>
      have hm' : m = 45 := hm
      subst hm'
      repeat' (first | rw [ei] | (apply AL_idxs ttok; (iterate 5 exact rfl); exact Int.natCast_nonneg _; exact hv) | (apply AL_move; exact rfl; exact rfl) | (apply AL_assign; exact rfl; exact rfl) | (apply AL_bin; (iterate 5 exact rfl)) | (apply AL_not; exact rfl; exact rfl) | refine AL_nil ?_ | (apply AL_guardT; (iterate 3 exact rfl); (first | with_reducible assumption | (guard_target =ₛ true = true; rfl) | (guard_target =ₛ false = false; rfl) | (guard_target =ₛ (!true) = false; rfl) | (guard_target =ₛ (!false) = true; rfl))) | (apply AL_guardFt; (iterate 3 exact rfl); (first | with_reducible assumption | (guard_target =ₛ true = true; rfl) | (guard_target =ₛ false = false; rfl) | (guard_target =ₛ (!true) = false; rfl) | (guard_target =ₛ (!false) = true; rfl))) | (apply AL_guardFf; (iterate 3 exact rfl); (first | with_reducible assumption | (guard_target =ₛ true = true; rfl) | (guard_target =ₛ false = false; rfl) | (guard_target =ₛ (!true) = false; rfl) | (guard_target =ₛ (!false) = true; rfl))) | (apply AL_guardU; (iterate 3 exact rfl)) | (apply AL_guardS; exact rfl; exact rfl; all_goals intro hb) | (apply AL_pickT; exact rfl; (first | with_reducible assumption | (guard_target =ₛ true = true; rfl) | (guard_target =ₛ false = false; rfl) | (guard_target =ₛ (!true) = false; rfl) | (guard_target =ₛ (!false) = true; rfl)); exact rfl; exact rfl) | (apply AL_pickF; exact rfl; (first | with_reducible assumption | (guard_target =ₛ true = true; rfl) | (guard_target =ₛ false = false; rfl) | (guard_target =ₛ (!true) = false; rfl) | (guard_target =ₛ (!false) = true; rfl)); exact rfl; exact rfl) | refine AW_region ?_ | refine AW_seq' ?_ | (apply AW_condA; exact rfl; (first | with_reducible assumption | (guard_target =ₛ true = true; rfl) | (guard_target =ₛ false = false; rfl) | (guard_target =ₛ (!true) = false; rfl) | (guard_target =ₛ (!false) = true; rfl))) | (apply AW_condB; exact rfl; (first | with_reducible assumption | (guard_target =ₛ true = true; rfl) | (guard_target =ₛ false = false; rfl) | (guard_target =ₛ (!true) = false; rfl) | (guard_target =ₛ (!false) = true; rfl))) | refine then_norm ?_ | refine AW_block ?_ | refine AW_ret ?_ | refine then_ret ?_ | refine blk_ret ?_ | (apply AL_lens ttok; (iterate 4 exact rfl)) | refine AW_skip ?_)
      all_goals first
        | (refine Lands.mk' (m := k - 1) (by omega) ⟨i + 1, by omega, hstep ?_, rfl, rfl, rfl⟩ ?_ rfl rfl rfl rfl rfl rfl
           · rw [okB_true]
             clear hstep hbad hall
             simp only [decide_eq_true_eq, decide_eq_false_iff_not, beq_iff_eq, beq_eq_false_iff_ne, ne_eq, Bool.not_eq_false', Bool.not_eq_true'] at *
             omega
           · exact .cons rfl (.cons rfl (.cons rfl .nil)))
        | ((apply endQ []; (repeat (first | exact ResL.nil | (apply ResL.cons; first | exact .tmp _ _ rfl | (apply res_n ttok; (iterate 6 exact rfl)) | (apply res_1 ttok; (iterate 5 exact rfl))))); (iterate 4 exact rfl))
           · rw [hbad (fun h => by
               rw [okB_true] at h
               clear hstep hbad hall
               simp only [decide_eq_true_eq, decide_eq_false_iff_not, beq_iff_eq, beq_eq_false_iff_ne, ne_eq, Bool.not_eq_false', Bool.not_eq_true'] at *
               omega)]
           · rfl)
    | true =>
      have hm' : m = 47 := hm
      subst hm'
      repeat' (first | rw [ei] | (apply AL_idxs ttok; (iterate 5 exact rfl); exact Int.natCast_nonneg _; exact hv) | (apply AL_move; exact rfl; exact rfl) | (apply AL_assign; exact rfl; exact rfl) | (apply AL_bin; (iterate 5 exact rfl)) | (apply AL_not; exact rfl; exact rfl) | refine AL_nil ?_ | (apply AL_guardT; (iterate 3 exact rfl); (first | with_reducible assumption | (guard_target =ₛ true = true; rfl) | (guard_target =ₛ false = false; rfl) | (guard_target =ₛ (!true) = false; rfl) | (guard_target =ₛ (!false) = true; rfl))) | (apply AL_guardFt; (iterate 3 exact rfl); (first | with_reducible assumption | (guard_target =ₛ true = true; rfl) | (guard_target =ₛ false = false; rfl) | (guard_target =ₛ (!true) = false; rfl) | (guard_target =ₛ (!false) = true; rfl))) | (apply AL_guardFf; (iterate 3 exact rfl); (first | with_reducible assumption | (guard_target =ₛ true = true; rfl) | (guard_target =ₛ false = false; rfl) | (guard_target =ₛ (!true) = false; rfl) | (guard_target =ₛ (!false) = true; rfl))) | (apply AL_guardU; (iterate 3 exact rfl)) | (apply AL_guardS; exact rfl; exact rfl; all_goals intro hb) | (apply AL_pickT; exact rfl; (first | with_reducible assumption | (guard_target =ₛ true = true; rfl) | (guard_target =ₛ false = false; rfl) | (guard_target =ₛ (!true) = false; rfl) | (guard_target =ₛ (!false) = true; rfl)); exact rfl; exact rfl) | (apply AL_pickF; exact rfl; (first | with_reducible assumption | (guard_target =ₛ true = true; rfl) | (guard_target =ₛ false = false; rfl) | (guard_target =ₛ (!true) = false; rfl) | (guard_target =ₛ (!false) = true; rfl)); exact rfl; exact rfl) | refine AW_region ?_ | refine AW_seq' ?_ | (apply AW_condA; exact rfl; (first | with_reducible assumption | (guard_target =ₛ true = true; rfl) | (guard_target =ₛ false = false; rfl) | (guard_target =ₛ (!true) = false; rfl) | (guard_target =ₛ (!false) = true; rfl))) | (apply AW_condB; exact rfl; (first | with_reducible assumption | (guard_target =ₛ true = true; rfl) | (guard_target =ₛ false = false; rfl) | (guard_target =ₛ (!true) = false; rfl) | (guard_target =ₛ (!false) = true; rfl))) | (apply AW_cond'; exact rfl; all_goals intro hb) | refine then_norm ?_ | refine AW_block ?_ | refine AW_ret ?_ | refine then_ret ?_ | refine blk_ret ?_ | (apply AL_lens ttok; (iterate 4 exact rfl)) | refine AW_skip ?_)
      all_goals first
        | (refine Lands.mk' (m := k - 1) (by omega) ⟨i + 1, by omega, hstep ?_, rfl, rfl, rfl⟩ ?_ rfl rfl rfl rfl rfl rfl
           · rw [okB_true]
             clear hstep hbad hall
             simp only [decide_eq_true_eq, decide_eq_false_iff_not, beq_iff_eq, beq_eq_false_iff_ne, ne_eq, Bool.not_eq_false', Bool.not_eq_true'] at *
             omega
           · exact .cons rfl (.cons rfl (.cons rfl .nil)))
        | ((apply endQ []; (repeat (first | exact ResL.nil | (apply ResL.cons; first | exact .tmp _ _ rfl | (apply res_n ttok; (iterate 6 exact rfl)) | (apply res_1 ttok; (iterate 5 exact rfl))))); (iterate 4 exact rfl))
           · rw [hbad (fun h => by
               rw [okB_true] at h
               clear hstep hbad hall
               simp only [decide_eq_true_eq, decide_eq_false_iff_not, beq_iff_eq, beq_eq_false_iff_ne, ne_eq, Bool.not_eq_false', Bool.not_eq_true'] at *
               omega)]
           · rfl)
  · have hd : decide ((i : Int) < (s.length : Int)) = false := by simp; omega
    repeat' (first | (apply AL_move; exact rfl; exact rfl) | (apply AL_assign; exact rfl; exact rfl) | (apply AL_bin; (iterate 5 exact rfl)) | refine AL_nil ?_ | refine AW_region ?_ | refine AW_seq' ?_ | (apply AW_condB; exact rfl; (first | with_reducible assumption | (guard_target =ₛ true = true; rfl) | (guard_target =ₛ false = false; rfl) | (guard_target =ₛ (!true) = false; rfl) | (guard_target =ₛ (!false) = true; rfl))) | refine then_norm ?_ | refine AW_exit ?_ | refine AW_ret ?_ | (apply AL_lens ttok; (iterate 4 exact rfl)))
    (apply endQ []; (repeat (first | exact ResL.nil | (apply ResL.cons; first | exact .tmp _ _ rfl | (apply res_n ttok; (iterate 6 exact rfl)) | (apply res_1 ttok; (iterate 5 exact rfl))))); (iterate 4 exact rfl))
    · rw [List.take_of_length_le hge] at hall
      rw [List.all_eq_true.2 hall]
    · rfl
/-- of texts that are not too long -/
def Fit (x : EidV) : Prop := x.h.length ≤ 9223372036854775807 ∧ x.d.length ≤ 9223372036854775807
theorem av_kind [Known] (x : EidV) (hx : Fit x) : AP Tryd.prog 76 [.agg (eC x)] (.int .i64 (kindN x)) [] := by
  refine AP.ofA ?_
  refine AC_of Tryd.func76 rfl Tryd.ntmps76 rfl rfl ?_
  cases hi : x.i with
  | true =>
    have hE := eRight_iffI hi
    repeat' (first | (apply AL_move; exact rfl; exact rfl) | (apply AL_assign; exact rfl; exact rfl) | (apply AL_bin; (iterate 5 exact rfl)) | (apply AL_load1 ttok; (iterate 6 exact rfl)) | (apply AL_fieldAddr ttok; (iterate 7 exact rfl)) | (apply AL_box; (iterate 5 exact rfl)) | refine AL_nil ?_ | (apply AL_guardT; (iterate 3 exact rfl); (first | with_reducible assumption | (guard_target =ₛ true = true; rfl) | (guard_target =ₛ false = false; rfl) | (guard_target =ₛ (!true) = false; rfl) | (guard_target =ₛ (!false) = true; rfl))) | (apply AL_guardFf; (iterate 3 exact rfl); (first | with_reducible assumption | (guard_target =ₛ true = true; rfl) | (guard_target =ₛ false = false; rfl) | (guard_target =ₛ (!true) = false; rfl) | (guard_target =ₛ (!false) = true; rfl))) | (apply AL_guardS; exact rfl; exact rfl; all_goals intro hb) | (apply AL_pickT; exact rfl; (first | with_reducible assumption | (guard_target =ₛ true = true; rfl) | (guard_target =ₛ false = false; rfl) | (guard_target =ₛ (!true) = false; rfl) | (guard_target =ₛ (!false) = true; rfl)); exact rfl; exact rfl) | (apply AL_pickF; exact rfl; (first | with_reducible assumption | (guard_target =ₛ true = true; rfl) | (guard_target =ₛ false = false; rfl) | (guard_target =ₛ (!true) = false; rfl) | (guard_target =ₛ (!false) = true; rfl)); exact rfl; exact rfl) | refine AW_region ?_ | refine AW_seq' ?_ | (apply AW_condA; exact rfl; (first | with_reducible assumption | (guard_target =ₛ true = true; rfl) | (guard_target =ₛ false = false; rfl) | (guard_target =ₛ (!true) = false; rfl) | (guard_target =ₛ (!false) = true; rfl))) | (apply AW_cond'; exact rfl; all_goals intro hb) | refine then_norm ?_ | refine AW_ret ?_ | refine then_ret ?_ | (apply AL_str; (iterate 5 exact rfl)) | refine AW_skip ?_)
    all_goals (apply endQ []; (repeat (first | exact ResL.nil | (apply ResL.cons; first | exact .tmp _ _ rfl | (apply res_n ttok; (iterate 6 exact rfl)) | (apply res_1 ttok; (iterate 5 exact rfl))))); (iterate 4 exact rfl))
    all_goals first
      | rfl
      | (unfold kindN
         rw [hi]
         simp only [if_true]
         simp only [decide_eq_true_eq, decide_eq_false_iff_not, beq_iff_eq, beq_eq_false_iff_ne, ne_eq, bne_iff_ne, bne_eq_false_iff_eq, Bool.not_eq_false', Bool.not_eq_true'] at *
         split
         · first
             | rfl
             | (exfalso; rename_i h; obtain ⟨h1, h2, h3, h4, h5⟩ := hE.1 h; first | contradiction | omega)
         · first
             | rfl
             | (exfalso; rename_i h; exact h (hE.2 ⟨by assumption, by assumption, by omega, by omega, by omega⟩)))
  | false =>
    have hZ := isZ_iffK hi
    have hE := fun hz => eRight_iffT (x := x) hi hz
    repeat' (first | (apply AL_callPw (av_refPlain x.h false 45 rfl hx.1); kernel_rfl; (iterate 4 exact rfl)) | (apply AL_callPw (av_refPlain x.d true 47 rfl hx.2); kernel_rfl; (iterate 4 exact rfl)) | (apply AL_move; exact rfl; exact rfl) | (apply AL_assign; exact rfl; exact rfl) | (apply AL_bin; (iterate 5 exact rfl)) | (apply AL_load1 ttok; (iterate 6 exact rfl)) | (apply AL_fieldAddr ttok; (iterate 7 exact rfl)) | (apply AL_box; (iterate 5 exact rfl)) | (apply AL_not; exact rfl; exact rfl) | refine AL_nil ?_ | (apply AL_guardT; (iterate 3 exact rfl); (first | with_reducible assumption | (guard_target =ₛ true = true; rfl) | (guard_target =ₛ false = false; rfl) | (guard_target =ₛ (!true) = false; rfl) | (guard_target =ₛ (!false) = true; rfl))) | (apply AL_guardFt; (iterate 3 exact rfl); (first | with_reducible assumption | (guard_target =ₛ true = true; rfl) | (guard_target =ₛ false = false; rfl) | (guard_target =ₛ (!true) = false; rfl) | (guard_target =ₛ (!false) = true; rfl))) | (apply AL_guardFf; (iterate 3 exact rfl); (first | with_reducible assumption | (guard_target =ₛ true = true; rfl) | (guard_target =ₛ false = false; rfl) | (guard_target =ₛ (!true) = false; rfl) | (guard_target =ₛ (!false) = true; rfl))) | (apply AL_guardS; exact rfl; exact rfl; all_goals intro hb) | (apply AL_pickT; exact rfl; (first | with_reducible assumption | (guard_target =ₛ true = true; rfl) | (guard_target =ₛ false = false; rfl) | (guard_target =ₛ (!true) = false; rfl) | (guard_target =ₛ (!false) = true; rfl)); exact rfl; exact rfl) | (apply AL_pickF; exact rfl; (first | with_reducible assumption | (guard_target =ₛ true = true; rfl) | (guard_target =ₛ false = false; rfl) | (guard_target =ₛ (!true) = false; rfl) | (guard_target =ₛ (!false) = true; rfl)); exact rfl; exact rfl) | refine AW_region ?_ | refine AW_seq' ?_ | (apply AW_condA; exact rfl; (first | with_reducible assumption | (guard_target =ₛ true = true; rfl) | (guard_target =ₛ false = false; rfl) | (guard_target =ₛ (!true) = false; rfl) | (guard_target =ₛ (!false) = true; rfl))) | (apply AW_condB; exact rfl; (first | with_reducible assumption | (guard_target =ₛ true = true; rfl) | (guard_target =ₛ false = false; rfl) | (guard_target =ₛ (!true) = false; rfl) | (guard_target =ₛ (!false) = true; rfl))) | (apply AW_cond'; exact rfl; all_goals intro hb) | refine then_norm ?_ | refine AW_ret ?_ | refine then_ret ?_ | (apply AL_lens ttok; (iterate 4 exact rfl)) | (apply AL_str; (iterate 5 exact rfl)) | refine AW_skip ?_)
    all_goals (apply endQ []; (repeat (first | exact ResL.nil | (apply ResL.cons; first | exact .tmp _ _ rfl | (apply res_n ttok; (iterate 6 exact rfl)) | (apply res_1 ttok; (iterate 5 exact rfl))))); (iterate 4 exact rfl))
    all_goals first
      | rfl
      | (unfold kindN
         rw [hi]
         simp only [Bool.false_eq_true, if_false]
         simp only [decide_eq_true_eq, decide_eq_false_iff_not, beq_iff_eq, beq_eq_false_iff_ne, ne_eq, bne_iff_ne, bne_eq_false_iff_eq, Bool.not_eq_false', Bool.not_eq_true'] at *
         split
         · first
             | rfl
             | (exfalso; rename_i h; obtain ⟨h1, h2, h3, h4⟩ := hZ.1 h; first | contradiction | omega)
         · rename_i hz
           have hz' : isZ x = false := by simpa using hz
           split
           · first
               | rfl
               | (exfalso; rename_i h; obtain ⟨h1, h2, h3, h4, h5, h6, h7⟩ := (hE hz').1 h; first | contradiction | omega | (simp_all; done))
           · first
               | rfl
               | (exfalso; rename_i h; exact h ((hE hz').2 ⟨by omega, by omega, by omega, by omega, by omega, by assumption, by assumption⟩))
               | (exfalso; exact hz (hZ.2 ⟨by assumption, by assumption, by assumption, by assumption⟩)))
theorem av_as4 [Known] (x : EidV) : AP Tryd.prog 42 [.agg (eC x)] (.agg (eC x)) [] := by
  refine AP.ofA ?_
  refine AC_of Tryd.func42 rfl Tryd.ntmps42 rfl rfl ?_
  repeat' (first | (apply AL_load1 ttok; (iterate 6 exact rfl)) | (apply AL_fieldAddr ttok; (iterate 7 exact rfl)) | (apply AL_box; (iterate 5 exact rfl)) | (apply AL_store ttok; (iterate 8 exact rfl)) | refine AL_nil ?_ | refine AW_region ?_ | refine AW_seq' ?_ | refine then_norm ?_ | refine AW_ret ?_ | (apply AL_build ttok; (iterate 6 exact rfl)) | (apply AL_alloc ttok; (iterate 4 exact rfl)))
  (apply endQ []; (repeat (first | exact ResL.nil | (apply ResL.cons; first | exact .tmp _ _ rfl | (apply res_n ttok; (iterate 6 exact rfl)) | (apply res_1 ttok; (iterate 5 exact rfl))))); (iterate 4 exact rfl))
  all_goals rfl
end Go.Proofs.YtnihobjehelagaaDoor
end
/- The document's answers for names: digits, texts. -/
section
open Go.RowKit Go.Pl Go.Av
namespace Go.Proofs.YtnihobjehelagaaDoor
set_option linter.unusedVariables false
set_option linter.unusedSimpArgs false
set_option maxHeartbeats 1000000
theorem dec_step {n : Nat} (h : 0 < n / 10) : Lib.decDigits n = Lib.decDigits (n / 10) ++ [UInt8.ofNat (48 + n % 10)] := by
  rw [Lib.decDigits, dif_neg (by omega)]
theorem dec_last {n : Nat} (h : n / 10 = 0) : Lib.decDigits n = [UInt8.ofNat (48 + n % 10)] := by
  rw [Lib.decDigits, dif_pos (by omega), Nat.mod_eq_of_lt (by omega)]
theorem dig_nat' {k : Nat} (h : k < 10) : (UInt8.ofNat (48 + k)).toNat = 48 + k := by
  rw [UInt8.toNat_ofNat']; omega
theorem dec_le : ∀ (k u : Nat), u < 10 ^ (k + 1) → (Lib.decDigits u).length ≤ k + 1
  | 0, u, h => by rw [Lib.decDigits, dif_pos (by simpa using h)]; simp
  | k + 1, u, h => by
    rw [Lib.decDigits]
    by_cases h1 : u < 10
    · rw [dif_pos h1]; simp
    · rw [dif_neg h1, List.length_append]
      have := dec_le k (u / 10) (by rw [Nat.pow_succ] at h; omega)
      simp; omega
theorem av_digits [Known] (N : Nat) (hN : N < 18446744073709551616) : AP Tryd.prog 110 [.int .u64 (N : Int)] (.str (Lib.decDigits N)) [] := by
  refine AP.ofA ?_
  refine AC_of Tryd.func110 rfl Tryd.ntmps110 rfl rfl ?_
  repeat' (first | (apply AL_assign; exact rfl; exact rfl) | refine AL_nil ?_ | refine AW_region ?_ | refine AW_seq' ?_ | refine AW_block ?_)
  refine AW_loopJ (fun k tm bx fr => ∃ (n : Nat) (out : List UInt8), k = n + (if out = [] then 1 else 0) ∧ n ≤ N ∧ ((out = [] ∧ n = N) ∨ (out ≠ [] ∧ (if n = 0 then out = Lib.decDigits N else Lib.decDigits n ++ out = Lib.decDigits N))) ∧ tm = [(0, .int .u64 (n : Int)), (2, .str []), (3, .str out)] ∧ bx = [] ∧ fr = []) (N + 2) (Lands.mk' (m := N + 1) (by omega) ⟨N, [], by simp, Nat.le_refl _, .inl ⟨rfl, rfl⟩, rfl, rfl, rfl⟩ ?_ rfl rfl rfl rfl rfl rfl) ?_
  · exact .cons rfl (.cons rfl (.cons rfl .nil))
  rintro k tm bx fr ⟨n, out, hk, hn, hI, rfl, rfl, rfl⟩
  have hol : out.length ≤ 20 := by
    have hd := dec_le 19 N (by omega)
    rcases hI with ⟨rfl, _⟩ | ⟨_, h⟩
    · simp
    · split at h
      · rw [h]; exact hd
      · rw [← h, List.length_append] at hd; omega
  have e0 : IntKind.u8.wrap (IntKind.u64.wrap (48 + ((n : Int)).tmod 10)) = ((UInt8.ofNat (48 + n % 10)).toNat : Int) := by
    have hm : ((n : Int)).tmod 10 = ((n % 10 : Nat) : Int) := by rw [Int.tmod_eq_emod_of_nonneg (by omega)]; omega
    rw [hm, IntWalk.u64_in _ (by omega), dig_nat' (by omega), IntWalk.u8_in _ (by omega)]; omega
  have e1 : ((n : Int)).tdiv 10 = ((n / 10 : Nat) : Int) := by rw [Int.tdiv_eq_ediv_of_nonneg (by omega)]; omega
  have e2 : IntKind.u64.wrap ((n / 10 : Nat) : Int) = ((n / 10 : Nat) : Int) := IntWalk.u64_in _ (by omega)
  have l1 : [UInt8.ofNat (48 + n % 10)].length + out.length ≤ maxLen := by simp; unfold maxLen; omega
  have hgo : ((out = [] ∧ n = N) ∨ (out ≠ [] ∧ 0 < n ∧ Lib.decDigits n ++ out = Lib.decDigits N)) → (if n / 10 = 0 then [UInt8.ofNat (48 + n % 10)] ++ out = Lib.decDigits N else Lib.decDigits (n / 10) ++ ([UInt8.ofNat (48 + n % 10)] ++ out) = Lib.decDigits N) := fun h => by
    have hh : Lib.decDigits n ++ out = Lib.decDigits N := by
      rcases h with ⟨rfl, rfl⟩ | ⟨_, _, h⟩
      · simp
      · exact h
    split
    · rename_i h1; rw [← hh, dec_last h1]
    · rename_i h1; rw [← hh, dec_step (n := n) (by omega), List.append_assoc]
  rcases Nat.eq_zero_or_pos n with h0 | h0
  · subst h0
    have t1 : decide (((0 : Nat) : Int) > 0) = false := by decide
    cases out with
    | nil =>
      repeat' (first | rw [e0] | rw [e2] | rw [e1] | (apply AL_b2s ttok; exact rfl; exact (show _ = [UInt8.ofNat (48 + 0 % 10)].map E.byte from rfl); (iterate 7 exact rfl)) | (apply AL_cat; exact rfl; exact rfl; exact l1; exact rfl) | (apply AL_move; exact rfl; exact rfl) | (apply AL_assign; exact rfl; exact rfl) | (apply AL_bin; (iterate 5 exact rfl)) | (apply AL_convT ttok; (iterate 5 exact rfl)) | refine AL_nil ?_ | (apply AL_guardT; (iterate 3 exact rfl); (first | with_reducible assumption | decide +kernel)) | (apply AL_pickF; exact rfl; (first | with_reducible assumption | decide +kernel); exact rfl; exact rfl) | refine AW_region ?_ | refine AW_seq' ?_ | (apply AW_condA; exact rfl; (first | with_reducible assumption | decide +kernel)) | refine then_norm ?_ | refine blk_norm ?_ | refine AW_block ?_ | (apply AL_bs ttok; (iterate 12 exact rfl)) | (apply AL_str; (iterate 5 exact rfl)) | refine AW_skip ?_ | (apply AL_quo; exact rfl; exact rfl; (first | (exact (by decide)) | with_reducible assumption | decide +kernel | rotate_left); exact rfl) | (apply AL_rem; exact rfl; exact rfl; (first | (exact (by decide)) | with_reducible assumption | decide +kernel | rotate_left); exact rfl))
      refine Lands.mk' (m := 0) (by simp at hk; omega) ⟨0, [UInt8.ofNat (48 + 0 % 10)] ++ [], by simp, by omega, .inr ⟨by simp, ?_⟩, rfl, rfl, rfl⟩ ?_ rfl rfl rfl rfl rfl rfl
      · rw [if_pos rfl]
        rcases hI with ⟨_, rfl⟩ | ⟨h, _⟩
        · rw [dec_last (by omega)]; rfl
        · exact absurd rfl h
      · exact .cons rfl (.cons rfl (.cons rfl .nil))
    | cons c r =>
      have t2 : (c :: r == []) = false := by simp
      have hR : c :: r = Lib.decDigits N := by
        rcases hI with ⟨h, _⟩ | ⟨_, h⟩
        · cases h
        · exact h
      repeat' (first | (apply AL_move; exact rfl; exact rfl) | (apply AL_assign; exact rfl; exact rfl) | (apply AL_bin; (iterate 5 exact rfl)) | refine AL_nil ?_ | (apply AL_guardT; (iterate 3 exact rfl); (first | with_reducible assumption | decide +kernel)) | (apply AL_pickF; exact rfl; (first | with_reducible assumption | decide +kernel); exact rfl; exact rfl) | refine AW_region ?_ | refine AW_seq' ?_ | (apply AW_condB; exact rfl; (first | with_reducible assumption | decide +kernel)) | refine then_norm ?_ | refine AW_exit ?_ | refine AW_ret ?_ | (apply AL_str; (iterate 5 exact rfl)))
      all_goals (apply endQ []; (repeat (first | exact ResL.nil | (apply ResL.cons; first | exact .tmp _ _ rfl | (apply res_n ttok; (iterate 6 exact rfl)) | (apply res_1 ttok; (iterate 5 exact rfl))))); (iterate 4 exact rfl))
      all_goals first | rfl | (rw [hR]; done) | (rw [← hR]; rfl)
  · have t1 : decide ((n : Int) > 0) = true := decide_eq_true (by omega)
    have hx := hgo (by
      rcases hI with h | ⟨h, h2⟩
      · exact .inl h
      · rw [if_neg (by omega)] at h2; exact .inr ⟨h, h0, h2⟩)
    repeat' (first | rw [e0] | rw [e2] | rw [e1] | (apply AL_b2s ttok; exact rfl; exact (show _ = [UInt8.ofNat (48 + n % 10)].map E.byte from rfl); (iterate 7 exact rfl)) | (apply AL_cat; exact rfl; exact rfl; exact l1; exact rfl) | (apply AL_move; exact rfl; exact rfl) | (apply AL_assign; exact rfl; exact rfl) | (apply AL_bin; (iterate 5 exact rfl)) | (apply AL_convT ttok; (iterate 5 exact rfl)) | refine AL_nil ?_ | (apply AL_guardFf; (iterate 3 exact rfl); (first | with_reducible assumption | decide +kernel)) | (apply AL_pickT; exact rfl; (first | with_reducible assumption | decide +kernel); exact rfl; exact rfl) | refine AW_region ?_ | refine AW_seq' ?_ | (apply AW_condA; exact rfl; (first | with_reducible assumption | decide +kernel)) | refine then_norm ?_ | refine blk_norm ?_ | refine AW_block ?_ | (apply AL_bs ttok; (iterate 12 exact rfl)) | refine AW_skip ?_ | (apply AL_quo; exact rfl; exact rfl; (first | (exact (by decide)) | with_reducible assumption | decide +kernel | rotate_left); exact rfl) | (apply AL_rem; exact rfl; exact rfl; (first | (exact (by decide)) | with_reducible assumption | decide +kernel | rotate_left); exact rfl))
    refine Lands.mk' (m := n / 10) (by omega) ⟨n / 10, [UInt8.ofNat (48 + n % 10)] ++ out, by simp, by omega, .inr ⟨by simp, hx⟩, rfl, rfl, rfl⟩ ?_ rfl rfl rfl rfl rfl rfl
    exact .cons rfl (.cons rfl (.cons rfl .nil))
end Go.Proofs.YtnihobjehelagaaDoor
end
/- The document's answers for names: numbers in a text, plain. -/
section
open Go.RowKit Go.Pl Go.Av
namespace Go.Proofs.YtnihobjehelagaaDoor
set_option linter.unusedVariables false
def isD (c : UInt8) : Bool := decide ((c.toNat : Int) ≥ 48) && decide ((c.toNat : Int) ≤ 57)
/-- a number of at most so many digits, and how many there are -/
def numR : Nat → Nat → List UInt8 → Nat × Nat
  | 0, a, _ => (a, 0)
  | f + 1, a, [] => (a, 0)
  | f + 1, a, c :: r => if isD c then ((numR f (10 * a + (c.toNat - 48)) r).1, (numR f (10 * a + (c.toNat - 48)) r).2 + 1) else (a, 0)
theorem isD_iff {c : UInt8} : isD c = true ↔ 48 ≤ c.toNat ∧ c.toNat ≤ 57 := by
  simp only [isD, Bool.and_eq_true, decide_eq_true_eq]; omega
end Go.Proofs.YtnihobjehelagaaDoor
end
/- The document's answers for names, plain: what it reads a text and an item as; no program in sight. -/
section
open Go.RowKit Go.Pl Go.Av
namespace Go.Proofs.YtnihobjehelagaaDoor
set_option linter.unusedVariables false
set_option linter.unusedSimpArgs false
theorem numR_app : ∀ (l r : List UInt8) (f a : Nat), l.all isD = true → l.length ≤ f → numR f a (l ++ r) = ((numR (f - l.length) (l.foldl (fun a c => 10 * a + (c.toNat - 48)) a) r).1, (numR (f - l.length) (l.foldl (fun a c => 10 * a + (c.toNat - 48)) a) r).2 + l.length)
  | [], r, f, a, _, _ => by simp
  | c :: l, r, 0, a, _, h => by simp at h
  | c :: l, r, f + 1, a, ha, h => by
    rw [List.all_cons, Bool.and_eq_true] at ha
    rw [List.cons_append, numR, if_pos ha.1, numR_app l r f _ ha.2 (by simpa using h), List.foldl_cons]
    simp [Nat.add_assoc]
theorem dec_all (u : Nat) : (Lib.decDigits u).all isD = true := List.all_eq_true.2 fun c hc => isD_iff.2 (dec_digit u c hc)
theorem dec_fold : ∀ u : Nat, (Lib.decDigits u).foldl (fun a c => 10 * a + (c.toNat - 48)) 0 = u := by
  intro u
  induction u using Nat.strongRecOn with
  | _ u ih =>
    rw [Lib.decDigits]
    by_cases h : u < 10
    · rw [dif_pos h, List.foldl_cons, List.foldl_nil, dig_nat h]; omega
    · rw [dif_neg h, List.foldl_append, ih (u / 10) (by omega), List.foldl_cons, List.foldl_nil, dig_nat (by omega)]; omega
/-- digits, and behind them nothing, or no digit -/
theorem numR_dec {u : Nat} (hu : u ≤ 4294967295) (r : List UInt8) (hr : ∀ c t, r = c :: t → isD c = false) : numR 11 0 (Lib.decDigits u ++ r) = (u, (Lib.decDigits u).length) := by
  have hl := dec_le 9 u (by omega)
  rw [numR_app _ _ _ _ (dec_all u) (by omega), dec_fold]
  have e : ∀ f, numR f u r = (u, 0) := fun f => by
    match f, r, hr with
    | 0, r, _ => rfl
    | f + 1, [], _ => rfl
    | f + 1, c :: t, hr => rw [numR, hr c t rfl]; rfl
  rw [e]
  simp
/-- the name that two numbers in a text would be -/
def candI (r : List UInt8) : EidV := ⟨true, (numR 11 0 r).1, if 4 + (numR 11 0 r).2 < 4 + r.length then (numR 11 0 (r.drop ((numR 11 0 r).2 + 1))).1 else 0, [], []⟩
theorem textE_Z : textE eidZ = noneT := by decide
theorem text_cases {y : EidV} (h : eRight y = true) (hz : isZ y = false) : (y.i = true ∧ textE y = ipnT ++ (Lib.decDigits y.n ++ 46 :: Lib.decDigits y.s) ∧ y.n ≤ 4294967295 ∧ y.s ≤ 4294967295 ∧ y.h = [] ∧ y.d = []) ∨ (y.i = false ∧ textE y = [100, 116, 110, 58, 47, 47] ++ (y.h ++ 47 :: y.d) ∧ y.n = 0 ∧ y.s = 0 ∧ y.h ≠ [] ∧ (47 : UInt8) ∉ y.h) := by
  cases hi : y.i with
  | true =>
    obtain ⟨b1, b2, b3, b4, b5⟩ := eRight_num h hz hi
    refine .inl ⟨rfl, ?_, b1, b2, b3, b4⟩
    unfold textE
    rw [hz, if_neg (by simp), hi, if_pos rfl]
    simp [ipnT]
  | false =>
    obtain ⟨b1, b2, b3, b4, b5, b6, b7⟩ := eRight_txt h hz hi
    refine .inr ⟨rfl, ?_, b1, b2, fun e => (by rw [e] at b3; simp at b3), not_mem_ok b6 (by decide)⟩
    unfold textE
    rw [hz, if_neg (by simp), hi, if_neg (by simp)]
    simp [pathE]
theorem candI_ok {r : List UInt8} (h : (parseE (ipnT ++ r)).2 = true) : candI r = (parseE (ipnT ++ r)).1 := by
  obtain ⟨h1, h2⟩ := parse_text h
  generalize (parseE (ipnT ++ r)).1 = y at *
  cases hz : isZ y with
  | true => rw [isZ_iff.1 hz, textE_Z] at h2; exact absurd h2 (by simp [noneT, ipnT])
  | false =>
    rcases text_cases h1 hz with ⟨hi, ht, b1, b2, b3, b4⟩ | ⟨hi, ht, b⟩
    · rw [ht] at h2
      have hr : r = Lib.decDigits y.n ++ 46 :: Lib.decDigits y.s := (List.append_cancel_left h2).symm
      have e1 := numR_dec b1 (46 :: Lib.decDigits y.s) (fun c t hc => by cases hc; decide)
      have e2 := numR_dec b2 [] (fun c t hc => by cases hc)
      rw [List.append_nil] at e2
      unfold candI
      rw [hr, e1]
      have e3 : (Lib.decDigits y.n ++ 46 :: Lib.decDigits y.s).drop ((Lib.decDigits y.n).length + 1) = Lib.decDigits y.s := by
        rw [List.drop_append, List.drop_of_length_le (by omega)]; simp
      dsimp only
      rw [e3, e2, if_pos (by simp)]
      obtain ⟨i, n, s, hh, dd⟩ := y
      simp only at hi b3 b4
      rw [hi, b3, b4]
    · rw [ht] at h2; exact absurd h2 (by simp [ipnT])
theorem candT_ok {h d : List UInt8} (hn : (47 : UInt8) ∉ h) (hp : (parseE ([100, 116, 110, 58, 47, 47] ++ (h ++ 47 :: d))).2 = true) : (⟨false, 0, 0, h, d⟩ : EidV) = (parseE ([100, 116, 110, 58, 47, 47] ++ (h ++ 47 :: d))).1 := by
  obtain ⟨h1, h2⟩ := parse_text hp
  generalize (parseE ([100, 116, 110, 58, 47, 47] ++ (h ++ 47 :: d))).1 = y at *
  cases hz : isZ y with
  | true => rw [isZ_iff.1 hz, textE_Z] at h2; exact absurd h2 (by simp [noneT])
  | false =>
    rcases text_cases h1 hz with ⟨hi, ht, b⟩ | ⟨hi, ht, b1, b2, b3, b4⟩
    · rw [ht] at h2; exact absurd h2 (by simp [ipnT])
    · rw [ht] at h2
      have e := List.append_cancel_left h2
      have e1 := cutV_yes (b := y.d) b4
      rw [e, cutV_yes hn] at e1
      obtain ⟨i, n, s, hh, dd⟩ := y
      simp only [Prod.mk.injEq, and_true] at e1
      simp only at hi b1 b2
      rw [e1.1, e1.2, hi, b1, b2]
/-- no name's text -/
theorem parse_no {s : List UInt8} (h0 : s ≠ noneT) (h1 : ∀ r, r ≠ [] → s ≠ ipnT ++ r) (h2 : ∀ h d, (47 : UInt8) ∉ h → s ≠ [100, 116, 110, 58, 47, 47] ++ (h ++ 47 :: d)) : (parseE s).2 = false := by
  cases hp : (parseE s).2 with
  | false => rfl
  | true =>
    obtain ⟨k1, k2⟩ := parse_text hp
    generalize (parseE s).1 = y at *
    cases hz : isZ y with
    | true => rw [isZ_iff.1 hz, textE_Z] at k2; exact absurd k2.symm h0
    | false =>
      rcases text_cases k1 hz with ⟨hi, ht, b⟩ | ⟨hi, ht, b1, b2, b3, b4⟩
      · exact absurd (k2.symm.trans ht) (h1 _ (by intro e; have := congrArg List.length e; simp at this))
      · exact absurd (k2.symm.trans ht) (h2 _ _ b4)
abbrev parseR (s : List UInt8) : D := .tup [.agg (eC (match (parseE s).2 with | true => (parseE s).1 | false => eidZ)), .bool (parseE s).2]
theorem parseR_no {s : List UInt8} (h : (parseE s).2 = false) : parseR s = .tup [.agg (eC eidZ), .bool false] := by unfold parseR; rw [h]
theorem parseR_yes {s : List UInt8} {y : EidV} (h : parseE s = (y, true)) : parseR s = .tup [.agg (eC y), .bool true] := by unfold parseR; rw [h]
/-- a candidate that has no kind -/
theorem cand_k {s : List UInt8} {c : EidV} (h0 : s ≠ noneT) (hc : (parseE s).2 = true → c = (parseE s).1) (hk : decide (kindN c < 1) = true) : (parseE s).2 = false := by
  cases hp : (parseE s).2 with
  | false => rfl
  | true =>
    obtain ⟨k1, k2⟩ := parse_text hp
    rw [← hc hp] at k1 k2
    rw [kind_lt, k1] at hk
    simp only [Bool.not_true, Bool.false_or] at hk
    rw [isZ_iff.1 hk, textE_Z] at k2
    exact absurd k2.symm h0
/-- a candidate whose text is another one -/
theorem cand_t {s : List UInt8} {c : EidV} (hc : (parseE s).2 = true → c = (parseE s).1) (ht : (textE c != s) = true) : (parseE s).2 = false := by
  cases hp : (parseE s).2 with
  | false => rfl
  | true =>
    obtain ⟨k1, k2⟩ := parse_text hp
    rw [← hc hp] at k2
    rw [bne_iff_ne] at ht
    exact absurd k2 ht
/-- a candidate that it is -/
theorem cand_y {s : List UInt8} {c : EidV} (hk : decide (kindN c < 1) = false) (ht : (textE c != s) = false) : parseE s = (c, true) := by
  rw [kind_lt] at hk
  simp only [Bool.or_eq_false_iff, Bool.not_eq_false'] at hk
  have e : textE c = s := by simpa using ht
  rw [← e, text_parse hk.1]
/-! ### items -/
theorem right_own {k : Int} {n : Nat} {b : List UInt8} {l : List It} (h : rightI (.mk k n b l) = true) : ownI k n b l = true ∧ ∀ y ∈ l, ∃ d m m', walkI y d m = some m' := by
  unfold rightI at h
  cases hw : walkI (.mk k n b l) 1 256 with
  | none => rw [hw] at h; cases h
  | some m =>
    obtain ⟨_, _, h1, h2⟩ := walkI_own hw
    refine ⟨h1, ?_⟩
    clear hw h h1
    generalize (256 : Nat) - 1 = m0 at h2
    induction l generalizing m0 with
    | nil => intro y hy; cases hy
    | cons x l ih =>
      intro y hy
      obtain ⟨m1, w1, w2⟩ := walks_cons h2
      rcases List.mem_cons.1 hy with rfl | hy
      · exact ⟨_, _, _, w1⟩
      · exact ih _ w2 y hy
theorem numsV_some {x : It} {a c : Nat} (h : numsV x = some (a, c)) : ∃ n b, x = .mk 4 n b [.mk 0 a [] [], .mk 0 c [] []] := by
  unfold numsV at h
  split at h
  · rename_i k n b y0 y1
    split at h
    · rename_i hk
      split at h
      · rename_i hy
        simp only [Option.some.injEq, Prod.mk.injEq] at h
        rw [Bool.and_eq_true] at hy
        have e0 := It.beq_iff.1 hy.1
        have e1 := It.beq_iff.1 hy.2
        rw [h.1] at e0
        rw [h.2] at e1
        rw [hk, e0, e1]
        exact ⟨n, b, rfl⟩
      · cases h
    · cases h
  · cases h
/-- what is read as a name is that name's item -/
theorem readV_back {x : It} (h : (readV x).2 = true) : eRight (readV x).1 = true ∧ itemE (readV x).1 = x := by
  unfold readV at h ⊢
  cases hr : rightI x with
  | false => rw [hr] at h; cases h
  | true =>
    obtain ⟨k, n, b, l⟩ := x
    rw [hr] at h
    match l, hr, h with
    | [], hr, h => cases h
    | [s], hr, h => cases h
    | s :: r :: y :: l, hr, h => cases h
    | [s, r], hr, h =>
      dsimp only at h ⊢
      by_cases hk : k = 4
      case neg => rw [if_neg hk] at h; cases h
      rw [if_pos hk] at h ⊢
      subst hk
      obtain ⟨ho, hm⟩ := right_own hr
      have hn : n = 0 ∧ b = [] := by simpa [ownI] using ho
      obtain ⟨rfl, rfl⟩ := hn
      obtain ⟨rk, rn, rb, rl⟩ := r
      obtain ⟨d, m, m', hwr⟩ := hm (.mk rk rn rb rl) (by simp)
      obtain ⟨_, _, ho2, _⟩ := walkI_own hwr
      unfold readV2 at h ⊢
      cases h1 : isNum 1 s with
      | true =>
        have es := It.beq_iff.1 h1
        rw [h1] at h
        cases h0 : isNum 0 (.mk rk rn rb rl) with
        | true =>
          have er := It.beq_iff.1 h0
          dsimp only
          rw [es, er]
          exact ⟨by decide, rfl⟩
        | false =>
          rw [h0] at h
          dsimp only at h ⊢
          cases h3 : (It.mk rk rn rb rl).k == 3 with
          | false => rw [h3] at h; cases h
          | true =>
            rw [h3] at h
            have hk3 : rk = 3 := by simpa [It.k] using h3
            subst hk3
            have hn : rn = 0 ∧ rl = [] := by
              have : ownI 3 rn rb rl = true := ho2
              simp [ownI] at this
              exact ⟨this.1, this.2.1⟩
            obtain ⟨rfl, rfl⟩ := hn
            dsimp only [It.b] at h ⊢
            unfold ppV at h ⊢
            dsimp only at h ⊢
            simp only [Bool.and_eq_true, bne_iff_ne] at h
            obtain ⟨k3, k4, k5, k6⟩ := h
            have e2 := preV_back k3
            generalize (preV [47, 47] rb).1 = q at *
            refine ⟨k6, ?_⟩
            unfold itemE
            rw [if_neg (by rw [isZ_iff]; intro e; exact k5 (congrArg EidV.h e)), if_neg (by simp), es, e2]
            have := cutV_back k4
            conv => rhs; rw [this]
            simp [pathE]
      | false =>
        rw [h1] at h
        cases h2 : isNum 2 s with
        | false => rw [h2] at h; cases h
        | true =>
          have es := It.beq_iff.1 h2
          rw [h2] at h
          dsimp only at h ⊢
          cases hq : numsV (.mk rk rn rb rl) with
          | none => rw [hq] at h; cases h
          | some ac =>
            obtain ⟨a, c⟩ := ac
            rw [hq] at h
            dsimp only at h ⊢
            refine ⟨h, ?_⟩
            obtain ⟨n2, b2, e2⟩ := numsV_some hq
            cases e2
            have hn : rn = 0 ∧ rb = [] := by simpa [ownI] using ho2
            obtain ⟨rfl, rfl⟩ := hn
            unfold itemE
            rw [if_neg (by simp [isZ]), if_pos rfl, es]
end Go.Proofs.YtnihobjehelagaaDoor
end
/- The document's answers for names: texts and items. -/
section
open Go.RowKit Go.Pl Go.Av
namespace Go.Proofs.YtnihobjehelagaaDoor
set_option linter.unusedVariables false
set_option linter.unusedSimpArgs false
set_option maxHeartbeats 4000000
theorem fit_right {x : EidV} (h : eRight x = true) : Fit x := by
  cases hz : isZ x with
  | true => rw [isZ_iff.1 hz]; exact ⟨by decide, by decide⟩
  | false =>
    cases hi : x.i with
    | true =>
      obtain ⟨_, _, h1, h2, _⟩ := eRight_num h hz hi
      unfold Fit; rw [h1, h2]; exact ⟨by decide, by decide⟩
    | false =>
      obtain ⟨_, _, _, h1, h2, _⟩ := eRight_txt h hz hi
      exact ⟨by omega, by omega⟩
theorem kind_Z {x : EidV} (h : isZ x = true) : kindN x = 0 := by rw [isZ_iff.1 h]; decide
theorem kind_I {x : EidV} (h : eRight x = true) (hi : x.i = true) : kindN x = 1 := by unfold kindN; rw [hi, h]; rfl
theorem kind_T {x : EidV} (h : eRight x = true) (hz : isZ x = false) (hi : x.i = false) : kindN x = 2 := by unfold kindN; rw [hi, hz, h]; rfl
theorem av_refText [Known] (x : EidV) (h : eRight x = true) : AP Tryd.prog 77 [.agg (eC x)] (.str (textE x)) [] := by
  have hK := av_kind x (fit_right h)
  unfold textE
  cases hz : isZ x with
  | true =>
    rw [kind_Z hz] at hK
    rw [if_pos rfl]
    refine AP.ofA ?_
    refine AC_of Tryd.func77 rfl Tryd.ntmps77 rfl rfl ?_
    repeat' (first | (apply AL_callPw (hK); kernel_rfl; (iterate 4 exact rfl)) | (apply AL_assign; exact rfl; exact rfl) | (apply AL_bin; (iterate 5 exact rfl)) | (apply AL_loadn ttok; (iterate 7 exact rfl)) | (apply AL_box; (iterate 5 exact rfl)) | refine AL_nil ?_ | refine AW_region ?_ | refine AW_seq' ?_ | (apply AW_condA; exact rfl; (first | with_reducible assumption | decide +kernel)) | refine then_norm ?_ | refine AW_block ?_ | refine AW_ret ?_ | refine then_ret ?_ | refine blk_ret ?_)
    all_goals (apply endQ []; (repeat (first | exact ResL.nil | (apply ResL.cons; first | exact .tmp _ _ rfl | (apply res_n ttok; (iterate 6 exact rfl)) | (apply res_1 ttok; (iterate 5 exact rfl))))); (iterate 4 exact rfl))
    all_goals rfl
  | false =>
    rw [if_neg (by simp)]
    cases hi : x.i with
    | true =>
      obtain ⟨b1, b2, _⟩ := eRight_num h hz hi
      rw [kind_I h hi] at hK
      rw [if_pos rfl]
      have d1 := dec_len x.n (by omega)
      have d2 := dec_len x.s (by omega)
      have hD1 := av_digits x.n (by omega)
      have hD2 := av_digits x.s (by omega)
      have l1 : [(105 : UInt8), 112, 110, 58].length + (Lib.decDigits x.n).length ≤ maxLen := by simp; unfold maxLen; omega
      have l2 : ([(105 : UInt8), 112, 110, 58] ++ Lib.decDigits x.n).length + [(46 : UInt8)].length ≤ maxLen := by simp; unfold maxLen; omega
      have l3 : ([(105 : UInt8), 112, 110, 58] ++ Lib.decDigits x.n ++ [46]).length + (Lib.decDigits x.s).length ≤ maxLen := by simp; unfold maxLen; omega
      refine AP.ofA ?_
      refine AC_of Tryd.func77 rfl Tryd.ntmps77 rfl rfl ?_
      repeat' (first | (apply AL_callPw (hK); kernel_rfl; (iterate 4 exact rfl)) | (apply AL_callPw (hD1); kernel_rfl; (iterate 4 exact rfl)) | (apply AL_callPw (hD2); kernel_rfl; (iterate 4 exact rfl)) | (apply AL_cat; exact rfl; exact rfl; (first | exact l1 | exact l2 | exact l3); exact rfl) | (apply AL_assign; exact rfl; exact rfl) | (apply AL_bin; (iterate 5 exact rfl)) | (apply AL_load1 ttok; (iterate 6 exact rfl)) | (apply AL_loadn ttok; (iterate 7 exact rfl)) | (apply AL_fieldAddr ttok; (iterate 7 exact rfl)) | (apply AL_box; (iterate 5 exact rfl)) | refine AL_nil ?_ | refine AW_region ?_ | refine AW_seq' ?_ | (apply AW_condA; exact rfl; (first | with_reducible assumption | decide +kernel)) | (apply AW_condB; exact rfl; (first | with_reducible assumption | decide +kernel)) | refine then_norm ?_ | refine AW_block ?_ | refine AW_ret ?_ | refine then_ret ?_ | refine blk_ret ?_ | (apply AW_drawM 8 hmix; (decide +kernel); (kernel_rfl); (kernel_rfl); exact rfl; exact rfl) | (apply AD_cons; (iterate 3 exact rfl)) | refine AD.nil _ | exact qp_ok rfl)
      all_goals (apply endQ []; (repeat (first | exact ResL.nil | (apply ResL.cons; first | exact .tmp _ _ rfl | (apply res_n ttok; (iterate 6 exact rfl)) | (apply res_1 ttok; (iterate 5 exact rfl))))); (iterate 4 exact rfl))
      all_goals rfl
    | false =>
      obtain ⟨_, _, _, b1, b2, _⟩ := eRight_txt h hz hi
      rw [kind_T h hz hi] at hK
      rw [if_neg (by simp)]
      have l1 : [(100 : UInt8), 116, 110, 58, 47, 47].length + x.h.length ≤ maxLen := by simp; unfold maxLen; omega
      have l2 : ([(100 : UInt8), 116, 110, 58, 47, 47] ++ x.h).length + [(47 : UInt8)].length ≤ maxLen := by simp; unfold maxLen; omega
      have l3 : ([(100 : UInt8), 116, 110, 58, 47, 47] ++ x.h ++ [47]).length + x.d.length ≤ maxLen := by simp; unfold maxLen; omega
      refine AP.ofA ?_
      refine AC_of Tryd.func77 rfl Tryd.ntmps77 rfl rfl ?_
      repeat' (first | (apply AL_callPw (hK); kernel_rfl; (iterate 4 exact rfl)) | (apply AL_cat; exact rfl; exact rfl; (first | exact l1 | exact l2 | exact l3); exact rfl) | (apply AL_assign; exact rfl; exact rfl) | (apply AL_bin; (iterate 5 exact rfl)) | (apply AL_load1 ttok; (iterate 6 exact rfl)) | (apply AL_loadn ttok; (iterate 7 exact rfl)) | (apply AL_fieldAddr ttok; (iterate 7 exact rfl)) | (apply AL_box; (iterate 5 exact rfl)) | refine AL_nil ?_ | refine AW_region ?_ | refine AW_seq' ?_ | (apply AW_condB; exact rfl; (first | with_reducible assumption | decide +kernel)) | refine then_norm ?_ | refine AW_block ?_ | refine AW_ret ?_ | refine AW_skip ?_)
      all_goals (apply endQ []; (repeat (first | exact ResL.nil | (apply ResL.cons; first | exact .tmp _ _ rfl | (apply res_n ttok; (iterate 6 exact rfl)) | (apply res_1 ttok; (iterate 5 exact rfl))))); (iterate 4 exact rfl))
      all_goals rfl
theorem av_refNum [Known] (n : Nat) : AP Tryd.prog 111 [.int .u64 (n : Int)] (.agg [.int .i64 0, .int .u64 (n : Int), .sl .ext [], .sl .ext []]) [] := by
  refine AP.ofA ?_
  refine AC_of Tryd.func111 rfl Tryd.ntmps111 rfl rfl ?_
  repeat' (first | (apply AL_move; exact rfl; exact rfl) | (apply AL_store ttok; (iterate 8 exact rfl)) | refine AL_nil ?_ | refine AW_region ?_ | refine AW_seq' ?_ | refine then_norm ?_ | refine AW_ret ?_ | (apply AL_build ttok; (iterate 6 exact rfl)) | (apply AL_allocZ ttok; (iterate 4 exact rfl)))
  all_goals (apply endQ []; (repeat (first | exact ResL.nil | (apply ResL.cons; first | exact .tmp _ _ rfl | (apply res_n ttok; (iterate 6 exact rfl)) | (apply res_1 ttok; (iterate 5 exact rfl))))); (iterate 4 exact rfl))
  all_goals rfl
theorem av_refEWrite [Known] (x : EidV) (h : eRight x = true) : AP Tryd.prog 79 [.agg (eC x)] (itD (itemE x)) [] := by
  have hK := av_kind x (fit_right h)
  unfold itemE
  cases hz : isZ x with
  | true =>
    rw [kind_Z hz] at hK
    rw [if_pos rfl]
    have n1 := av_refNum 1
    have n0 := av_refNum 0
    replace n1 : AP Tryd.prog _ [.int .u64 1] (.agg [.int .i64 0, .int .u64 1, .sl .ext [], .sl .ext []]) [] := n1
    replace n0 : AP Tryd.prog _ [.int .u64 0] (.agg [.int .i64 0, .int .u64 0, .sl .ext [], .sl .ext []]) [] := n0
    refine AP.ofA ?_
    refine AC_of Tryd.func79 rfl Tryd.ntmps79 rfl rfl ?_
    repeat' (first | (apply AL_callPw (hK); kernel_rfl; (iterate 4 exact rfl)) | (apply AL_callPw (n1); kernel_rfl; (iterate 4 exact rfl)) | (apply AL_callPw (n0); kernel_rfl; (iterate 4 exact rfl)) | (apply AL_assign; exact rfl; exact rfl) | (apply AL_bin; (iterate 5 exact rfl)) | (apply AL_loadn ttok; (iterate 7 exact rfl)) | (apply AL_fieldAddr ttok; (iterate 7 exact rfl)) | (apply AL_boxZ; (iterate 5 exact rfl)) | (apply AL_store ttok; (iterate 8 exact rfl)) | refine AL_nil ?_ | refine AW_region ?_ | refine AW_seq' ?_ | (apply AW_condA; exact rfl; (first | with_reducible assumption | decide +kernel)) | refine then_norm ?_ | refine AW_block ?_ | refine AW_ret ?_ | (apply AL_build ttok; (iterate 6 exact rfl)) | (apply AL_allocZ ttok; (iterate 4 exact rfl)) | (apply AL_bsZ ttok; (iterate 12 exact rfl)))
    all_goals (apply endQ []; (repeat (first | exact ResL.nil | (apply ResL.cons; first | exact .tmp _ _ rfl | (apply res_n ttok; (iterate 6 exact rfl)) | (apply res_1 ttok; (iterate 5 exact rfl))))); (iterate 4 exact rfl))
    all_goals rfl
  | false =>
    rw [if_neg (by simp)]
    cases hi : x.i with
    | true =>
      obtain ⟨b1, b2, _⟩ := eRight_num h hz hi
      rw [kind_I h hi] at hK
      rw [if_pos rfl]
      have n2 := av_refNum 2
      have nn := av_refNum x.n
      have ns := av_refNum x.s
      replace n2 : AP Tryd.prog _ [.int .u64 2] (.agg [.int .i64 0, .int .u64 2, .sl .ext [], .sl .ext []]) [] := n2
      refine AP.ofA ?_
      refine AC_of Tryd.func79 rfl Tryd.ntmps79 rfl rfl ?_
      repeat' (first | (apply AL_callPw (hK); kernel_rfl; (iterate 4 exact rfl)) | (apply AL_callPw (n2); kernel_rfl; (iterate 4 exact rfl)) | (apply AL_callPw (nn); kernel_rfl; (iterate 4 exact rfl)) | (apply AL_callPw (ns); kernel_rfl; (iterate 4 exact rfl)) | (apply AL_assign; exact rfl; exact rfl) | (apply AL_bin; (iterate 5 exact rfl)) | (apply AL_load1 ttok; (iterate 6 exact rfl)) | (apply AL_loadn ttok; (iterate 7 exact rfl)) | (apply AL_fieldAddr ttok; (iterate 7 exact rfl)) | (apply AL_boxZ; (iterate 5 exact rfl)) | (apply AL_store ttok; (iterate 8 exact rfl)) | refine AL_nil ?_ | refine AW_region ?_ | refine AW_seq' ?_ | (apply AW_condA; exact rfl; (first | with_reducible assumption | decide +kernel)) | (apply AW_condB; exact rfl; (first | with_reducible assumption | decide +kernel)) | refine then_norm ?_ | refine AW_block ?_ | refine AW_ret ?_ | (apply AL_build ttok; (iterate 6 exact rfl)) | (apply AL_allocZ ttok; (iterate 4 exact rfl)) | (apply AL_bsZ ttok; (iterate 12 exact rfl)) | (apply AW_drawE 6 hmix; (decide +kernel); (kernel_rfl); (kernel_rfl); (kernel_rfl); exact rfl; exact rfl) | (apply AE_consZ; (iterate 4 exact rfl)) | exact AE.nil _ _ _ _ | (apply AEk_puT; exact rfl) | (apply AOt_mk; exact rfl; exact rfl; (decide +kernel); exact rfl) | (apply AO_puT; exact rfl) | exact AO.nil _ _ _ | (apply AOs_skip; (decide +kernel)) | exact AOs.nil | exact qY_ok rfl rfl)
      all_goals (apply endQ []; (repeat (first | exact ResL.nil | (apply ResL.cons; first | exact .tmp _ _ rfl | (apply res_n ttok; (iterate 6 exact rfl)) | (apply res_1 ttok; (iterate 5 exact rfl))))); (iterate 4 exact rfl))
      all_goals rfl
    | false =>
      obtain ⟨_, _, _, b1, b2, _⟩ := eRight_txt h hz hi
      rw [kind_T h hz hi] at hK
      rw [if_neg (by simp)]
      have n1 := av_refNum 1
      replace n1 : AP Tryd.prog _ [.int .u64 1] (.agg [.int .i64 0, .int .u64 1, .sl .ext [], .sl .ext []]) [] := n1
      have l1 : [(47 : UInt8), 47].length + x.h.length ≤ maxLen := by simp; unfold maxLen; omega
      have l2 : ([(47 : UInt8), 47] ++ x.h).length + [(47 : UInt8)].length ≤ maxLen := by simp; unfold maxLen; omega
      have l3 : ([(47 : UInt8), 47] ++ x.h ++ [47]).length + x.d.length ≤ maxLen := by simp; unfold maxLen; omega
      refine AP.ofA ?_
      refine AC_of Tryd.func79 rfl Tryd.ntmps79 rfl rfl ?_
      repeat' (first | (apply AL_callPw (hK); kernel_rfl; (iterate 4 exact rfl)) | (apply AL_callPw (n1); kernel_rfl; (iterate 4 exact rfl)) | (apply AL_cat; exact rfl; exact rfl; (first | exact l1 | exact l2 | exact l3); exact rfl) | (apply AL_s2b ttok; (iterate 8 exact rfl)) | (apply AL_assign; exact rfl; exact rfl) | (apply AL_bin; (iterate 5 exact rfl)) | (apply AL_load1 ttok; (iterate 6 exact rfl)) | (apply AL_loadn ttok; (iterate 7 exact rfl)) | (apply AL_fieldAddr ttok; (iterate 7 exact rfl)) | (apply AL_boxZ; (iterate 5 exact rfl)) | (apply AL_store ttok; (iterate 8 exact rfl)) | refine AL_nil ?_ | refine AW_region ?_ | refine AW_seq' ?_ | (apply AW_condB; exact rfl; (first | with_reducible assumption | decide +kernel)) | refine then_norm ?_ | refine AW_block ?_ | refine AW_ret ?_ | (apply AL_build ttok; (iterate 6 exact rfl)) | (apply AL_allocZ ttok; (iterate 4 exact rfl)) | (apply AL_bsZ ttok; (iterate 12 exact rfl)) | (apply AW_drawE 10 hmix; (decide +kernel); (kernel_rfl); (kernel_rfl); (kernel_rfl); exact rfl; exact rfl) | (apply AE_consZ; (iterate 4 exact rfl)) | exact AE.nil _ _ _ _ | (apply AEk_puT; exact rfl) | (apply AOt_mk; exact rfl; exact rfl; (decide +kernel); exact rfl) | (apply AO_puT; exact rfl) | exact AO.nil _ _ _ | (apply AOs_skip; (decide +kernel)) | exact AOs.nil | exact qY_ok rfl rfl)
      all_goals (apply endQ []; (repeat (first | exact ResL.nil | (apply ResL.cons; first | exact .tmp _ _ rfl | (apply res_n ttok; (iterate 6 exact rfl)) | (apply res_1 ttok; (iterate 5 exact rfl))))); (iterate 4 exact rfl))
      all_goals rfl
end Go.Proofs.YtnihobjehelagaaDoor
end
/- The document's answers for names: a number in a text. -/
section
open Go.RowKit Go.Pl Go.Av
namespace Go.Proofs.YtnihobjehelagaaDoor
set_option linter.unusedVariables false
set_option linter.unusedSimpArgs false
set_option maxHeartbeats 1000000
theorem numR_lt : ∀ (f a B : Nat) (r : List UInt8), a < B → (numR f a r).1 < B * 10 ^ f
  | 0, a, B, r, h => by simpa [numR] using h
  | f + 1, a, B, [], h => by rw [numR]; exact Nat.lt_of_lt_of_le h (Nat.le_mul_of_pos_right _ (Nat.pow_pos (by decide)))
  | f + 1, a, B, c :: r, h => by
    rw [numR]
    split
    · rename_i hc
      have hd := isD_iff.1 hc
      have := numR_lt f (10 * a + (c.toNat - 48)) (B * 10) r (by omega)
      rw [Nat.pow_succ, Nat.mul_comm (10 ^ f), ← Nat.mul_assoc]; exact this
    · exact Nat.lt_of_lt_of_le h (Nat.le_mul_of_pos_right _ (Nat.pow_pos (by decide)))
theorem numR_len : ∀ (f a : Nat) (r : List UInt8), (numR f a r).2 ≤ r.length ∧ (numR f a r).2 ≤ f
  | 0, a, r => by simp [numR]
  | f + 1, a, [] => by simp [numR]
  | f + 1, a, c :: r => by
    rw [numR]
    split
    · have := numR_len f (10 * a + (c.toNat - 48)) r
      simp; omega
    · simp
theorem av_number [Known] (s : List UInt8) (at0 : Nat) (hs : s.length ≤ 1099511627776) (h0 : at0 ≤ s.length) : AP Tryd.prog 75 [.str s, .int .i64 (at0 : Int)] (.tup [.int .u64 ((numR 11 0 (s.drop at0)).1 : Int), .int .i64 ((at0 + (numR 11 0 (s.drop at0)).2 : Nat) : Int)]) [] := by
  refine AP.ofA ?_
  refine AC_of Tryd.func75 rfl Tryd.ntmps75 rfl rfl ?_
  repeat' (first | (apply AL_assign; exact rfl; exact rfl) | refine AL_nil ?_ | refine AW_region ?_ | refine AW_seq' ?_ | refine then_norm ?_ | refine AW_block ?_)
  refine AW_loopJ (fun k tm bx fr => ∃ (i n a : Nat), k + i = 11 ∧ n < 10 ^ i ∧ a ≤ s.length ∧ (numR k n (s.drop a)).1 = (numR 11 0 (s.drop at0)).1 ∧ a + (numR k n (s.drop a)).2 = at0 + (numR 11 0 (s.drop at0)).2 ∧ tm = [(0, .str s), (1, .int .i64 (a : Int)), (4, .int .u64 0), (5, .int .i64 0), (6, .int .u64 (n : Int)), (7, .int .i64 (i : Int))] ∧ bx = [] ∧ fr = []) 12 (Lands.mk' (m := 11) (by omega) ⟨0, 0, at0, rfl, by decide, h0, rfl, rfl, rfl, rfl, rfl⟩ ?_ rfl rfl rfl rfl rfl rfl) ?_
  · exact .cons rfl (.cons rfl (.cons rfl (.cons rfl (.cons rfl (.cons rfl .nil)))))
  rintro k tm bx fr ⟨i, n, a, hk, hn, ha, hv, hc, rfl, rfl, rfl⟩
  have hnb : n < 100000000000 := Nat.lt_of_lt_of_le hn (Nat.pow_le_pow_right (by decide) (by omega : i ≤ 11))
  cases k with
  | zero =>
    have t1 : decide ((i : Int) < 11) = false := decide_eq_false (by omega)
    repeat' (first | (apply AL_move; exact rfl; exact rfl) | (apply AL_assign; exact rfl; exact rfl) | (apply AL_bin; (iterate 5 exact rfl)) | refine AL_nil ?_ | (apply AL_guardFt; (iterate 3 exact rfl); (first | with_reducible assumption | decide +kernel)) | (apply AL_pickF; exact rfl; (first | with_reducible assumption | decide +kernel); exact rfl; exact rfl) | refine AW_region ?_ | refine AW_seq' ?_ | (apply AW_condB; exact rfl; (first | with_reducible assumption | decide +kernel)) | refine then_norm ?_ | refine AW_exit ?_ | refine AW_ret ?_)
    all_goals (apply endQ []; (repeat (first | exact ResL.nil | (apply ResL.cons; first | exact .tmp _ _ rfl | (apply res_n ttok; (iterate 6 exact rfl)) | (apply res_1 ttok; (iterate 5 exact rfl))))); (iterate 4 exact rfl))
    · rw [← hv, ← hc]; rfl
    all_goals rfl
  | succ k =>
    have t1 : decide ((i : Int) < 11) = true := decide_eq_true (by omega)
    rcases Nat.lt_or_ge a s.length with hlt | hge
    · have t2 : decide ((a : Int) < (s.length : Int)) = true := decide_eq_true (by omega)
      obtain ⟨c, hsc⟩ : ∃ c, s[a]? = some c := ⟨_, List.getElem?_eq_getElem hlt⟩
      have hidx : s[((a : Nat) : Int).toNat]? = some c := by simpa using hsc
      have hdr : s.drop a = c :: s.drop (a + 1) := by
        rw [List.drop_eq_getElem_cons hlt]; congr 1
        exact (List.getElem?_eq_some_iff.1 hsc).2
      rw [hdr, numR] at hv hc
      by_cases h48 : 48 ≤ c.toNat
      · have t3 : decide ((c.toNat : Int) ≥ 48) = true := decide_eq_true (by omega)
        by_cases h57 : c.toNat ≤ 57
        · have t4 : decide ((c.toNat : Int) ≤ 57) = true := decide_eq_true (by omega)
          rw [if_pos (isD_iff.2 ⟨h48, h57⟩)] at hv hc
          have e1 : IntKind.u64.wrap (10 * (n : Int)) = ((10 * n : Nat) : Int) := by rw [IntWalk.u64_in _ (by omega)]; omega
          have e2 : IntKind.u64.wrap (c.toNat : Int) = (c.toNat : Int) := IntWalk.u64_in _ (by omega)
          have e3 : IntKind.u64.wrap (((10 * n : Nat) : Int) + (c.toNat : Int)) = ((10 * n + c.toNat : Nat) : Int) := by rw [IntWalk.u64_in _ (by omega)]; omega
          have e4 : IntKind.u64.wrap (((10 * n + c.toNat : Nat) : Int) - 48) = ((10 * n + (c.toNat - 48) : Nat) : Int) := by rw [IntWalk.u64_in _ (by omega)]; omega
          have e5 : IntKind.i64.wrap ((a : Int) + 1) = ((a + 1 : Nat) : Int) := by rw [IntWalk.i64_in _ (by omega)]; omega
          have e6 : IntKind.i64.wrap ((i : Int) + 1) = ((i + 1 : Nat) : Int) := by rw [IntWalk.i64_in _ (by omega)]; omega
          repeat' (first | rw [e1] | rw [e2] | rw [e3] | rw [e4] | rw [e5] | rw [e6] | (apply AL_idxs ttok; (iterate 5 exact rfl); exact Int.natCast_nonneg _; exact hidx) | (apply AL_move; exact rfl; exact rfl) | (apply AL_assign; exact rfl; exact rfl) | (apply AL_bin; (iterate 5 exact rfl)) | (apply AL_convT ttok; (iterate 5 exact rfl)) | refine AL_nil ?_ | (apply AL_guardT; (iterate 3 exact rfl); (first | with_reducible assumption | decide +kernel)) | (apply AL_pickT; exact rfl; (first | with_reducible assumption | decide +kernel); exact rfl; exact rfl) | refine AW_region ?_ | refine AW_seq' ?_ | (apply AW_condA; exact rfl; (first | with_reducible assumption | decide +kernel)) | refine then_norm ?_ | refine AW_block ?_ | (apply AL_lens ttok; (iterate 4 exact rfl)) | refine AW_skip ?_)
          refine Lands.mk' (m := k) (by omega) ⟨i + 1, 10 * n + (c.toNat - 48), a + 1, by omega, by rw [Nat.pow_succ]; omega, by omega, hv, by omega, rfl, rfl, rfl⟩ ?_ rfl rfl rfl rfl rfl rfl
          exact .cons rfl (.cons rfl (.cons rfl (.cons rfl (.cons rfl (.cons rfl .nil)))))
        · have t4 : decide ((c.toNat : Int) ≤ 57) = false := decide_eq_false (by omega)
          rw [if_neg (fun h => h57 (isD_iff.1 h).2)] at hv hc
          repeat' (first | (apply AL_idxs ttok; (iterate 5 exact rfl); exact Int.natCast_nonneg _; exact hidx) | (apply AL_move; exact rfl; exact rfl) | (apply AL_assign; exact rfl; exact rfl) | (apply AL_bin; (iterate 5 exact rfl)) | refine AL_nil ?_ | (apply AL_guardT; (iterate 3 exact rfl); (first | with_reducible assumption | decide +kernel)) | (apply AL_pickT; exact rfl; (first | with_reducible assumption | decide +kernel); exact rfl; exact rfl) | refine AW_region ?_ | refine AW_seq' ?_ | (apply AW_condB; exact rfl; (first | with_reducible assumption | decide +kernel)) | refine then_norm ?_ | refine AW_exit ?_ | refine AW_ret ?_ | (apply AL_lens ttok; (iterate 4 exact rfl)))
          all_goals (apply endQ []; (repeat (first | exact ResL.nil | (apply ResL.cons; first | exact .tmp _ _ rfl | (apply res_n ttok; (iterate 6 exact rfl)) | (apply res_1 ttok; (iterate 5 exact rfl))))); (iterate 4 exact rfl))
          · rw [← hv, ← hc]; rfl
          all_goals rfl
      · have t3 : decide ((c.toNat : Int) ≥ 48) = false := decide_eq_false (by omega)
        rw [if_neg (fun h => h48 (isD_iff.1 h).1)] at hv hc
        repeat' (first | (apply AL_idxs ttok; (iterate 5 exact rfl); exact Int.natCast_nonneg _; exact hidx) | (apply AL_move; exact rfl; exact rfl) | (apply AL_assign; exact rfl; exact rfl) | (apply AL_bin; (iterate 5 exact rfl)) | refine AL_nil ?_ | (apply AL_guardT; (iterate 3 exact rfl); (first | with_reducible assumption | decide +kernel)) | (apply AL_guardFt; (iterate 3 exact rfl); (first | with_reducible assumption | decide +kernel)) | (apply AL_pickT; exact rfl; (first | with_reducible assumption | decide +kernel); exact rfl; exact rfl) | (apply AL_pickF; exact rfl; (first | with_reducible assumption | decide +kernel); exact rfl; exact rfl) | refine AW_region ?_ | refine AW_seq' ?_ | (apply AW_condB; exact rfl; (first | with_reducible assumption | decide +kernel)) | refine then_norm ?_ | refine AW_exit ?_ | refine AW_ret ?_ | (apply AL_lens ttok; (iterate 4 exact rfl)))
        all_goals (apply endQ []; (repeat (first | exact ResL.nil | (apply ResL.cons; first | exact .tmp _ _ rfl | (apply res_n ttok; (iterate 6 exact rfl)) | (apply res_1 ttok; (iterate 5 exact rfl))))); (iterate 4 exact rfl))
        · rw [← hv, ← hc]; rfl
        all_goals rfl
    · have t2 : decide ((a : Int) < (s.length : Int)) = false := decide_eq_false (by omega)
      rw [List.drop_of_length_le hge, numR] at hv hc
      repeat' (first | (apply AL_move; exact rfl; exact rfl) | (apply AL_assign; exact rfl; exact rfl) | (apply AL_bin; (iterate 5 exact rfl)) | refine AL_nil ?_ | (apply AL_guardT; (iterate 3 exact rfl); (first | with_reducible assumption | decide +kernel)) | (apply AL_guardFt; (iterate 3 exact rfl); (first | with_reducible assumption | decide +kernel)) | (apply AL_pickT; exact rfl; (first | with_reducible assumption | decide +kernel); exact rfl; exact rfl) | (apply AL_pickF; exact rfl; (first | with_reducible assumption | decide +kernel); exact rfl; exact rfl) | refine AW_region ?_ | refine AW_seq' ?_ | (apply AW_condB; exact rfl; (first | with_reducible assumption | decide +kernel)) | refine then_norm ?_ | refine AW_exit ?_ | refine AW_ret ?_ | (apply AL_lens ttok; (iterate 4 exact rfl)))
      all_goals (apply endQ []; (repeat (first | exact ResL.nil | (apply ResL.cons; first | exact .tmp _ _ rfl | (apply res_n ttok; (iterate 6 exact rfl)) | (apply res_1 ttok; (iterate 5 exact rfl))))); (iterate 4 exact rfl))
      · rw [← hv, ← hc]; rfl
      all_goals rfl
end Go.Proofs.YtnihobjehelagaaDoor
end
/- The document's answers for names: the name of a text, by cases. -/
section
open Go.RowKit Go.Pl Go.Av
namespace Go.Proofs.YtnihobjehelagaaDoor
set_option linter.unusedVariables false
set_option linter.unusedSimpArgs false
set_option maxHeartbeats 4000000
/-- what comes of a candidate -/
abbrev candD (z4 z5 i : Bool) (n s : Nat) (h d : List UInt8) : D := match z4, z5 with
  | false, false => .tup [.agg [.bool i, .int .u64 (n : Int), .int .u64 (s : Int), .str h, .str d], .bool true]
  | _, _ => .tup [.agg [.bool false, .int .u64 0, .int .u64 0, .str [], .str []], .bool false]
theorem rp_n [Known] (s : List UInt8) (h0 : (s == [100, 116, 110, 58, 110, 111, 110, 101]) = true) : AP Tryd.prog 39 [.str s] (.tup [.agg [.bool false, .int .u64 0, .int .u64 0, .str [], .str []], .bool true]) [] := by
  refine AP.ofA ?_
  refine AC_of Tryd.func39 rfl Tryd.ntmps39 rfl rfl ?_
  repeat' (first | (apply AL_move; exact rfl; exact rfl) | (apply AL_assign; exact rfl; exact rfl) | (apply AL_store ttok; (iterate 8 exact rfl)) | refine AL_nil ?_ | refine AW_region ?_ | refine AW_seq' ?_ | (apply AW_condA; exact rfl; (first | with_reducible assumption | decide +kernel)) | refine then_norm ?_ | refine AW_ret ?_ | refine then_ret ?_ | (apply AL_build ttok; (iterate 6 exact rfl)) | (apply AL_allocZ ttok; (iterate 4 exact rfl)) | (apply AL_str; (iterate 5 exact rfl)))
  all_goals (apply endQ []; (repeat (first | exact ResL.nil | (apply ResL.cons; first | exact .tmp _ _ rfl | (apply res_n ttok; (iterate 6 exact rfl)) | (apply res_1 ttok; (iterate 5 exact rfl))))); (iterate 4 exact rfl))
  all_goals rfl
/-- neither by numbers nor by texts -/
theorem rp_z [Known] (s : List UInt8) (h0 : (s == [100, 116, 110, 58, 110, 111, 110, 101]) = false)
    (h1 : decide ((s.length : Int) > 4) = false ∨ decide ((s.length : Int) > 4) = true ∧ 4 ≤ s.length ∧ ((s.take (Int.toNat 4)).drop 0 == [105, 112, 110, 58]) = false) (h2 : decide ((s.length : Int) > 6) = false ∨ decide ((s.length : Int) > 6) = true ∧ 6 ≤ s.length ∧ ((s.take (Int.toNat 6)).drop 0 == [100, 116, 110, 58, 47, 47]) = false)
    (hK : AP Tryd.prog 76 [.agg [.bool false, .int .u64 0, .int .u64 0, .str [], .str []]] (.int .i64 0) []) :
    AP Tryd.prog 39 [.str s] (.tup [.agg [.bool false, .int .u64 0, .int .u64 0, .str [], .str []], .bool false]) [] := by
  rcases h1 with t1 | ⟨t1, b1, t2⟩ <;> rcases h2 with t3 | ⟨t3, b3, t4⟩
  all_goals
    refine AP.ofA ?_
    refine AC_of Tryd.func39 rfl Tryd.ntmps39 rfl rfl ?_
    repeat' (first | (apply AL_callPw (hK); kernel_rfl; (iterate 4 exact rfl)) | (apply AL_sliceS ttok; (iterate 4 exact rfl); exact .dft _; exact .lit _ _ _ _ rfl (by decide); exact Nat.zero_le _; (first | exact b1 | exact b3); exact rfl) | (apply AL_move; exact rfl; exact rfl) | (apply AL_assign; exact rfl; exact rfl) | (apply AL_bin; (iterate 5 exact rfl)) | (apply AL_loadn ttok; (iterate 7 exact rfl)) | (apply AL_store ttok; (iterate 8 exact rfl)) | refine AL_nil ?_ | (apply AL_guardT; (iterate 3 exact rfl); (first | with_reducible assumption | decide +kernel)) | (apply AL_guardFt; (iterate 3 exact rfl); (first | with_reducible assumption | decide +kernel)) | (apply AL_guardFf; (iterate 3 exact rfl); (first | with_reducible assumption | decide +kernel)) | (apply AL_pickT; exact rfl; (first | with_reducible assumption | decide +kernel); exact rfl; exact rfl) | (apply AL_pickF; exact rfl; (first | with_reducible assumption | decide +kernel); exact rfl; exact rfl) | refine AW_region ?_ | refine AW_seq' ?_ | (apply AW_condA; exact rfl; (first | with_reducible assumption | decide +kernel)) | (apply AW_condB; exact rfl; (first | with_reducible assumption | decide +kernel)) | refine then_norm ?_ | refine AW_ret ?_ | refine then_ret ?_ | (apply AL_lens ttok; (iterate 4 exact rfl)) | (apply AL_build ttok; (iterate 6 exact rfl)) | (apply AL_allocZ ttok; (iterate 4 exact rfl)) | (apply AL_str; (iterate 5 exact rfl)) | refine AW_skip ?_)
    all_goals (apply endQ []; (repeat (first | exact ResL.nil | (apply ResL.cons; first | exact .tmp _ _ rfl | (apply res_n ttok; (iterate 6 exact rfl)) | (apply res_1 ttok; (iterate 5 exact rfl))))); (iterate 4 exact rfl))
    all_goals rfl
/-- by numbers -/
theorem rp_i [Known] (s : List UInt8) (a b p q : Nat) (κ : Int) (t : List UInt8) (z3 z4 z5 : Bool) (h0 : (s == [100, 116, 110, 58, 110, 111, 110, 101]) = false)
    (t1 : decide ((s.length : Int) > 4) = true) (b1 : 4 ≤ s.length) (t2 : ((s.take (Int.toNat 4)).drop 0 == [105, 112, 110, 58]) = true)
    (hC1 : AP Tryd.prog 75 [.str s, .int .i64 4] (.tup [.int .u64 (a : Int), .int .i64 (p : Int)]) [])
    (t3 : decide ((p : Int) < (s.length : Int)) = z3) (e3 : IntKind.i64.wrap ((p : Int) + 1) = ((p + 1 : Nat) : Int))
    (hC2 : z3 = true → AP Tryd.prog 75 [.str s, .int .i64 ((p + 1 : Nat) : Int)] (.tup [.int .u64 (b : Int), .int .i64 (q : Int)]) []) (hb0 : z3 = false → b = 0)
    (hK : AP Tryd.prog 76 [.agg [.bool true, .int .u64 (a : Int), .int .u64 (b : Int), .str [], .str []]] (.int .i64 κ) []) (t4 : decide (κ < 1) = z4)
    (hT : z4 = false → AP Tryd.prog 77 [.agg [.bool true, .int .u64 (a : Int), .int .u64 (b : Int), .str [], .str []]] (.str t) []) (t5 : (t != s) = z5) :
    AP Tryd.prog 39 [.str s] (candD z4 z5 true a b [] []) [] := by
  cases z3 with
  | false =>
    obtain rfl := hb0 rfl
    clear hC2
    cases z4 with
    | true =>
      clear hT
      cases z5
      all_goals
        refine AP.ofA ?_
        refine AC_of Tryd.func39 rfl Tryd.ntmps39 rfl rfl ?_
        repeat' (first | (apply AL_callPw (hC1); kernel_rfl; (iterate 4 exact rfl)) | (apply AL_callPw (hK); kernel_rfl; (iterate 4 exact rfl)) | (apply AL_sliceS ttok; (iterate 4 exact rfl); exact .dft _; exact .lit _ _ _ _ rfl (by decide); exact Nat.zero_le _; exact b1; exact rfl) | (apply AL_move; exact rfl; exact rfl) | (apply AL_assign; exact rfl; exact rfl) | (apply AL_bin; (iterate 5 exact rfl)) | (apply AL_loadn ttok; (iterate 7 exact rfl)) | (apply AL_store ttok; (iterate 8 exact rfl)) | (apply AL_extract; (iterate 3 exact rfl)) | refine AL_nil ?_ | (apply AL_guardT; (iterate 3 exact rfl); (first | with_reducible assumption | decide +kernel)) | (apply AL_guardFf; (iterate 3 exact rfl); (first | with_reducible assumption | decide +kernel)) | (apply AL_pickT; exact rfl; (first | with_reducible assumption | decide +kernel); exact rfl; exact rfl) | refine AW_region ?_ | refine AW_seq' ?_ | (apply AW_condA; exact rfl; (first | with_reducible assumption | decide +kernel)) | (apply AW_condB; exact rfl; (first | with_reducible assumption | decide +kernel)) | refine then_norm ?_ | refine AW_ret ?_ | refine then_ret ?_ | (apply AL_lens ttok; (iterate 4 exact rfl)) | (apply AL_build ttok; (iterate 6 exact rfl)) | (apply AL_allocZ ttok; (iterate 4 exact rfl)) | (apply AL_str; (iterate 5 exact rfl)) | refine AW_skip ?_)
        all_goals (apply endQ []; (repeat (first | exact ResL.nil | (apply ResL.cons; first | exact .tmp _ _ rfl | (apply res_n ttok; (iterate 6 exact rfl)) | (apply res_1 ttok; (iterate 5 exact rfl))))); (iterate 4 exact rfl))
        all_goals rfl
    | false =>
      have hT := hT rfl
      cases z5
      all_goals
        refine AP.ofA ?_
        refine AC_of Tryd.func39 rfl Tryd.ntmps39 rfl rfl ?_
        repeat' (first | (apply AL_callPw (hC1); kernel_rfl; (iterate 4 exact rfl)) | (apply AL_callPw (hK); kernel_rfl; (iterate 4 exact rfl)) | (apply AL_callPw (hT); kernel_rfl; (iterate 4 exact rfl)) | (apply AL_sliceS ttok; (iterate 4 exact rfl); exact .dft _; exact .lit _ _ _ _ rfl (by decide); exact Nat.zero_le _; exact b1; exact rfl) | (apply AL_move; exact rfl; exact rfl) | (apply AL_assign; exact rfl; exact rfl) | (apply AL_bin; (iterate 5 exact rfl)) | (apply AL_loadn ttok; (iterate 7 exact rfl)) | (apply AL_store ttok; (iterate 8 exact rfl)) | (apply AL_extract; (iterate 3 exact rfl)) | refine AL_nil ?_ | (apply AL_guardT; (iterate 3 exact rfl); (first | with_reducible assumption | decide +kernel)) | (apply AL_pickT; exact rfl; (first | with_reducible assumption | decide +kernel); exact rfl; exact rfl) | (apply AL_pickF; exact rfl; (first | with_reducible assumption | decide +kernel); exact rfl; exact rfl) | refine AW_region ?_ | refine AW_seq' ?_ | (apply AW_condA; exact rfl; (first | with_reducible assumption | decide +kernel)) | (apply AW_condB; exact rfl; (first | with_reducible assumption | decide +kernel)) | refine then_norm ?_ | refine AW_ret ?_ | refine then_ret ?_ | (apply AL_lens ttok; (iterate 4 exact rfl)) | (apply AL_build ttok; (iterate 6 exact rfl)) | (apply AL_allocZ ttok; (iterate 4 exact rfl)) | (apply AL_str; (iterate 5 exact rfl)) | refine AW_skip ?_)
        all_goals (apply endQ []; (repeat (first | exact ResL.nil | (apply ResL.cons; first | exact .tmp _ _ rfl | (apply res_n ttok; (iterate 6 exact rfl)) | (apply res_1 ttok; (iterate 5 exact rfl))))); (iterate 4 exact rfl))
        all_goals rfl
  | true =>
    have hC2 := hC2 rfl
    clear hb0
    cases z4 with
    | true =>
      clear hT
      cases z5
      all_goals
        refine AP.ofA ?_
        refine AC_of Tryd.func39 rfl Tryd.ntmps39 rfl rfl ?_
        repeat' (first | rw [e3] | (apply AL_callPw (hC1); kernel_rfl; (iterate 4 exact rfl)) | (apply AL_callPw (hC2); kernel_rfl; (iterate 4 exact rfl)) | (apply AL_callPw (hK); kernel_rfl; (iterate 4 exact rfl)) | (apply AL_sliceS ttok; (iterate 4 exact rfl); exact .dft _; exact .lit _ _ _ _ rfl (by decide); exact Nat.zero_le _; exact b1; exact rfl) | (apply AL_move; exact rfl; exact rfl) | (apply AL_assign; exact rfl; exact rfl) | (apply AL_bin; (iterate 5 exact rfl)) | (apply AL_loadn ttok; (iterate 7 exact rfl)) | (apply AL_store ttok; (iterate 8 exact rfl)) | (apply AL_extract; (iterate 3 exact rfl)) | refine AL_nil ?_ | (apply AL_guardT; (iterate 3 exact rfl); (first | with_reducible assumption | decide +kernel)) | (apply AL_guardFf; (iterate 3 exact rfl); (first | with_reducible assumption | decide +kernel)) | (apply AL_pickT; exact rfl; (first | with_reducible assumption | decide +kernel); exact rfl; exact rfl) | refine AW_region ?_ | refine AW_seq' ?_ | (apply AW_condA; exact rfl; (first | with_reducible assumption | decide +kernel)) | (apply AW_condB; exact rfl; (first | with_reducible assumption | decide +kernel)) | refine then_norm ?_ | refine AW_ret ?_ | refine then_ret ?_ | (apply AL_lens ttok; (iterate 4 exact rfl)) | (apply AL_build ttok; (iterate 6 exact rfl)) | (apply AL_allocZ ttok; (iterate 4 exact rfl)) | (apply AL_str; (iterate 5 exact rfl)) | refine AW_skip ?_)
        all_goals (apply endQ []; (repeat (first | exact ResL.nil | (apply ResL.cons; first | exact .tmp _ _ rfl | (apply res_n ttok; (iterate 6 exact rfl)) | (apply res_1 ttok; (iterate 5 exact rfl))))); (iterate 4 exact rfl))
        all_goals rfl
    | false =>
      have hT := hT rfl
      cases z5
      all_goals
        refine AP.ofA ?_
        refine AC_of Tryd.func39 rfl Tryd.ntmps39 rfl rfl ?_
        repeat' (first | rw [e3] | (apply AL_callPw (hC1); kernel_rfl; (iterate 4 exact rfl)) | (apply AL_callPw (hC2); kernel_rfl; (iterate 4 exact rfl)) | (apply AL_callPw (hK); kernel_rfl; (iterate 4 exact rfl)) | (apply AL_callPw (hT); kernel_rfl; (iterate 4 exact rfl)) | (apply AL_sliceS ttok; (iterate 4 exact rfl); exact .dft _; exact .lit _ _ _ _ rfl (by decide); exact Nat.zero_le _; exact b1; exact rfl) | (apply AL_move; exact rfl; exact rfl) | (apply AL_assign; exact rfl; exact rfl) | (apply AL_bin; (iterate 5 exact rfl)) | (apply AL_loadn ttok; (iterate 7 exact rfl)) | (apply AL_store ttok; (iterate 8 exact rfl)) | (apply AL_extract; (iterate 3 exact rfl)) | refine AL_nil ?_ | (apply AL_guardT; (iterate 3 exact rfl); (first | with_reducible assumption | decide +kernel)) | (apply AL_pickT; exact rfl; (first | with_reducible assumption | decide +kernel); exact rfl; exact rfl) | (apply AL_pickF; exact rfl; (first | with_reducible assumption | decide +kernel); exact rfl; exact rfl) | refine AW_region ?_ | refine AW_seq' ?_ | (apply AW_condA; exact rfl; (first | with_reducible assumption | decide +kernel)) | (apply AW_condB; exact rfl; (first | with_reducible assumption | decide +kernel)) | refine then_norm ?_ | refine AW_ret ?_ | refine then_ret ?_ | (apply AL_lens ttok; (iterate 4 exact rfl)) | (apply AL_build ttok; (iterate 6 exact rfl)) | (apply AL_allocZ ttok; (iterate 4 exact rfl)) | (apply AL_str; (iterate 5 exact rfl)) | refine AW_skip ?_)
        all_goals (apply endQ []; (repeat (first | exact ResL.nil | (apply ResL.cons; first | exact .tmp _ _ rfl | (apply res_n ttok; (iterate 6 exact rfl)) | (apply res_1 ttok; (iterate 5 exact rfl))))); (iterate 4 exact rfl))
        all_goals rfl
end Go.Proofs.YtnihobjehelagaaDoor
end
/- The document's answers for names: the name of a text, by texts. -/
section
open Go.RowKit Go.Pl Go.Av
namespace Go.Proofs.YtnihobjehelagaaDoor
set_option linter.unusedVariables false
set_option linter.unusedSimpArgs false
set_option maxHeartbeats 4000000
theorem rp_t [Known] (s : List UInt8) (m : Nat) (h d : List UInt8) (κ : Int) (t : List UInt8) (z4 z5 : Bool) (h0 : (s == [100, 116, 110, 58, 110, 111, 110, 101]) = false) (hsl : s.length ≤ 4398046511104)
    (t1 : decide ((s.length : Int) > 4) = true) (b1 : 4 ≤ s.length) (t2 : ((s.take (Int.toNat 4)).drop 0 == [105, 112, 110, 58]) = false)
    (t3 : decide ((s.length : Int) > 6) = true) (b3 : 6 ≤ s.length) (t6 : ((s.take (Int.toNat 6)).drop 0 == [100, 116, 110, 58, 47, 47]) = true)
    (m6 : 6 ≤ m) (ml : m ≤ s.length) (hm1 : ∀ i, 6 ≤ i → i < m → ∃ c, s[i]? = some c ∧ c.toNat ≠ 47) (hm2 : m < s.length → ∃ c, s[m]? = some c ∧ c.toNat = 47)
    (hh : (s.take m).drop 6 = h) (hd : s.drop (m + 1) = d)
    (hK : AP Tryd.prog 76 [.agg [.bool false, .int .u64 0, .int .u64 0, .str h, .str d]] (.int .i64 κ) []) (t4 : decide (κ < 1) = z4)
    (hT : z4 = false → AP Tryd.prog 77 [.agg [.bool false, .int .u64 0, .int .u64 0, .str h, .str d]] (.str t) []) (t5 : (t != s) = z5) :
    AP Tryd.prog 39 [.str s] (if m < s.length then candD z4 z5 false 0 0 h d else .tup [.agg [.bool false, .int .u64 0, .int .u64 0, .str [], .str []], .bool false]) [] := by
  refine AP.ofA ?_
  refine AC_of Tryd.func39 rfl Tryd.ntmps39 rfl rfl ?_
  repeat' (first | (apply AL_sliceS ttok; (iterate 4 exact rfl); exact .dft _; exact .lit _ _ _ _ rfl (by decide); exact Nat.zero_le _; (first | exact b1 | exact b3); exact rfl) | (apply AL_move; exact rfl; exact rfl) | (apply AL_assign; exact rfl; exact rfl) | (apply AL_bin; (iterate 5 exact rfl)) | (apply AL_store ttok; (iterate 8 exact rfl)) | refine AL_nil ?_ | (apply AL_guardT; (iterate 3 exact rfl); (first | with_reducible assumption | decide +kernel)) | (apply AL_pickT; exact rfl; (first | with_reducible assumption | decide +kernel); exact rfl; exact rfl) | refine AW_region ?_ | refine AW_seq' ?_ | (apply AW_condA; exact rfl; (first | with_reducible assumption | decide +kernel)) | (apply AW_condB; exact rfl; (first | with_reducible assumption | decide +kernel)) | refine AW_block ?_ | (apply AL_lens ttok; (iterate 4 exact rfl)) | (apply AL_build ttok; (iterate 6 exact rfl)) | (apply AL_allocZ ttok; (iterate 4 exact rfl)) | (apply AL_str; (iterate 5 exact rfl)) | refine AW_skip ?_)
  refine AW_loopJ (fun k tm bx fr => ∃ (a : Nat), k + a = m ∧ 6 ≤ a ∧ tm = [(0, .str s), (2, .ptr 0 0), (3, .bool false), (4, .ptr 1 0), (8, .int .i64 (a : Int))] ∧ bx = [[.bool false, .int .u64 0, .int .u64 0, .str [], .str []], [.bool false, .int .u64 0, .int .u64 0, .str [], .str []]] ∧ fr = []) (m + 1) (Lands.mk' (m := m - 6) (by omega) ⟨6, by omega, Nat.le_refl _, rfl, rfl, rfl⟩ ?_ rfl rfl rfl rfl rfl rfl) ?_
  · exact .cons rfl (.cons rfl (.cons rfl (.cons rfl (.cons rfl .nil))))
  rintro k tm bx fr ⟨a, hk, ha, rfl, rfl, rfl⟩
  rcases Nat.lt_or_ge a m with hlt | hge
  · have t7 : decide ((a : Int) < (s.length : Int)) = true := decide_eq_true (by omega)
    obtain ⟨c, hc, hne⟩ := hm1 a ha hlt
    have hidx : s[((a : Nat) : Int).toNat]? = some c := by simpa using hc
    have t8 : ((c.toNat : Int) != 47) = true := by simp; omega
    have e5 : IntKind.i64.wrap ((a : Int) + 1) = ((a + 1 : Nat) : Int) := by rw [IntWalk.i64_in _ (by omega)]; omega
    repeat' (first | rw [e5] | (apply AL_idxs ttok; (iterate 5 exact rfl); exact Int.natCast_nonneg _; exact hidx) | (apply AL_move; exact rfl; exact rfl) | (apply AL_assign; exact rfl; exact rfl) | (apply AL_bin; (iterate 5 exact rfl)) | refine AL_nil ?_ | (apply AL_guardT; (iterate 3 exact rfl); (first | with_reducible assumption | decide +kernel)) | (apply AL_pickT; exact rfl; (first | with_reducible assumption | decide +kernel); exact rfl; exact rfl) | refine AW_region ?_ | refine AW_seq' ?_ | (apply AW_condA; exact rfl; (first | with_reducible assumption | decide +kernel)) | refine then_norm ?_ | refine blk_norm ?_ | refine AW_block ?_ | (apply AL_lens ttok; (iterate 4 exact rfl)) | refine AW_skip ?_)
    refine Lands.mk' (m := k - 1) (by omega) ⟨a + 1, by omega, by omega, rfl, rfl, rfl⟩ ?_ rfl rfl rfl rfl rfl rfl
    exact .cons rfl (.cons rfl (.cons rfl (.cons rfl (.cons rfl .nil))))
  · obtain rfl : a = m := by omega
    rcases Nat.lt_or_ge a s.length with hl | hl
    · have t7 : decide ((a : Int) < (s.length : Int)) = true := decide_eq_true (by omega)
      obtain ⟨c, hc, hne⟩ := hm2 hl
      have hidx : s[((a : Nat) : Int).toNat]? = some c := by simpa using hc
      have t8 : ((c.toNat : Int) != 47) = false := by simp; omega
      have t9 : ((a : Int) == (s.length : Int)) = false := by simp; omega
      have e5 : IntKind.i64.wrap ((a : Int) + 1) = ((a + 1 : Nat) : Int) := by rw [IntWalk.i64_in _ (by omega)]; omega
      have q1 : Int.toNat 6 ≤ ((a : Nat) : Int).toNat := by omega
      have q2 : ((a : Nat) : Int).toNat ≤ s.length := by omega
      have q3 : ((a + 1 : Nat) : Int).toNat ≤ s.length := by omega
      have s1 : (s.take ((a : Nat) : Int).toNat).drop (Int.toNat 6) = h := by rw [← hh]; rfl
      have s2 : (s.take s.length).drop ((a + 1 : Nat) : Int).toNat = d := by rw [List.take_length, ← hd]; rfl
      rw [if_pos hl]
      clear hm1 hm2
      cases z4 with
      | true =>
        clear hT
        cases z5
        all_goals
          repeat' (first | rw [e5] | (apply AL_callPw (hK); kernel_rfl; (iterate 4 exact rfl)) | (apply AL_idxs ttok; (iterate 5 exact rfl); exact Int.natCast_nonneg _; exact hidx) | (apply AL_sliceS ttok; (iterate 4 exact rfl); exact .lit _ _ _ _ rfl (by decide); exact .lit _ _ _ _ rfl (Int.natCast_nonneg _); exact q1; exact q2; exact s1) | (apply AL_sliceS ttok; (iterate 4 exact rfl); exact .lit _ _ _ _ rfl (Int.natCast_nonneg _); exact .dft _; exact q3; exact Nat.le_refl _; exact s2) | (apply AL_move; exact rfl; exact rfl) | (apply AL_assign; exact rfl; exact rfl) | (apply AL_bin; (iterate 5 exact rfl)) | (apply AL_loadn ttok; (iterate 7 exact rfl)) | (apply AL_store ttok; (iterate 8 exact rfl)) | refine AL_nil ?_ | (apply AL_guardT; (iterate 3 exact rfl); (first | with_reducible assumption | decide +kernel)) | (apply AL_guardFf; (iterate 3 exact rfl); (first | with_reducible assumption | decide +kernel)) | (apply AL_pickT; exact rfl; (first | with_reducible assumption | decide +kernel); exact rfl; exact rfl) | refine AW_region ?_ | refine AW_seq' ?_ | (apply AW_condA; exact rfl; (first | with_reducible assumption | decide +kernel)) | (apply AW_condB; exact rfl; (first | with_reducible assumption | decide +kernel)) | refine then_norm ?_ | refine AW_exit ?_ | refine AW_ret ?_ | refine then_ret ?_ | (apply AL_lens ttok; (iterate 4 exact rfl)) | (apply AL_build ttok; (iterate 6 exact rfl)) | (apply AW_drawE 7 hmix; (decide +kernel); (kernel_rfl); (kernel_rfl); (kernel_rfl); exact rfl; exact rfl) | (apply AE_consZ; (iterate 4 exact rfl)) | exact AE.nil _ _ _ _ | (apply AEk_puT; exact rfl) | (apply AOt_mk; exact rfl; exact rfl; (decide +kernel); exact rfl) | (apply AO_puT; exact rfl) | exact AO.nil _ _ _ | (apply AOs_skip; (decide +kernel)) | exact AOs.nil | exact qY_ok rfl rfl | refine AW_skip ?_)
          all_goals (apply endQ []; (repeat (first | exact ResL.nil | (apply ResL.cons; first | exact .tmp _ _ rfl | (apply res_n ttok; (iterate 6 exact rfl)) | (apply res_1 ttok; (iterate 5 exact rfl))))); (iterate 4 exact rfl))
          all_goals rfl
      | false =>
        have hT := hT rfl
        cases z5
        all_goals
          repeat' (first | rw [e5] | (apply AL_callPw (hK); kernel_rfl; (iterate 4 exact rfl)) | (apply AL_callPw (hT); kernel_rfl; (iterate 4 exact rfl)) | (apply AL_idxs ttok; (iterate 5 exact rfl); exact Int.natCast_nonneg _; exact hidx) | (apply AL_sliceS ttok; (iterate 4 exact rfl); exact .lit _ _ _ _ rfl (by decide); exact .lit _ _ _ _ rfl (Int.natCast_nonneg _); exact q1; exact q2; exact s1) | (apply AL_sliceS ttok; (iterate 4 exact rfl); exact .lit _ _ _ _ rfl (Int.natCast_nonneg _); exact .dft _; exact q3; exact Nat.le_refl _; exact s2) | (apply AL_move; exact rfl; exact rfl) | (apply AL_assign; exact rfl; exact rfl) | (apply AL_bin; (iterate 5 exact rfl)) | (apply AL_loadn ttok; (iterate 7 exact rfl)) | (apply AL_store ttok; (iterate 8 exact rfl)) | refine AL_nil ?_ | (apply AL_guardT; (iterate 3 exact rfl); (first | with_reducible assumption | decide +kernel)) | (apply AL_pickT; exact rfl; (first | with_reducible assumption | decide +kernel); exact rfl; exact rfl) | (apply AL_pickF; exact rfl; (first | with_reducible assumption | decide +kernel); exact rfl; exact rfl) | refine AW_region ?_ | refine AW_seq' ?_ | (apply AW_condA; exact rfl; (first | with_reducible assumption | decide +kernel)) | (apply AW_condB; exact rfl; (first | with_reducible assumption | decide +kernel)) | refine then_norm ?_ | refine AW_exit ?_ | refine AW_ret ?_ | refine then_ret ?_ | (apply AL_lens ttok; (iterate 4 exact rfl)) | (apply AL_build ttok; (iterate 6 exact rfl)) | (apply AL_str; (iterate 5 exact rfl)) | (apply AW_drawE 7 hmix; (decide +kernel); (kernel_rfl); (kernel_rfl); (kernel_rfl); exact rfl; exact rfl) | (apply AE_consZ; (iterate 4 exact rfl)) | exact AE.nil _ _ _ _ | (apply AEk_puT; exact rfl) | (apply AOt_mk; exact rfl; exact rfl; (decide +kernel); exact rfl) | (apply AO_puT; exact rfl) | exact AO.nil _ _ _ | (apply AOs_skip; (decide +kernel)) | exact AOs.nil | exact qY_ok rfl rfl | refine AW_skip ?_)
          all_goals (apply endQ []; (repeat (first | exact ResL.nil | (apply ResL.cons; first | exact .tmp _ _ rfl | (apply res_n ttok; (iterate 6 exact rfl)) | (apply res_1 ttok; (iterate 5 exact rfl))))); (iterate 4 exact rfl))
          all_goals rfl
    · have t7 : decide ((a : Int) < (s.length : Int)) = false := decide_eq_false (by omega)
      have t9 : ((a : Int) == (s.length : Int)) = true := by simp; omega
      rw [if_neg (by omega)]
      repeat' (first | (apply AL_move; exact rfl; exact rfl) | (apply AL_assign; exact rfl; exact rfl) | (apply AL_bin; (iterate 5 exact rfl)) | (apply AL_store ttok; (iterate 8 exact rfl)) | refine AL_nil ?_ | (apply AL_guardFt; (iterate 3 exact rfl); (first | with_reducible assumption | decide +kernel)) | (apply AL_pickF; exact rfl; (first | with_reducible assumption | decide +kernel); exact rfl; exact rfl) | refine AW_region ?_ | refine AW_seq' ?_ | (apply AW_condA; exact rfl; (first | with_reducible assumption | decide +kernel)) | (apply AW_condB; exact rfl; (first | with_reducible assumption | decide +kernel)) | refine then_norm ?_ | refine AW_exit ?_ | refine AW_ret ?_ | refine then_ret ?_ | (apply AL_lens ttok; (iterate 4 exact rfl)) | (apply AL_build ttok; (iterate 6 exact rfl)))
      all_goals (apply endQ []; (repeat (first | exact ResL.nil | (apply ResL.cons; first | exact .tmp _ _ rfl | (apply res_n ttok; (iterate 6 exact rfl)) | (apply res_1 ttok; (iterate 5 exact rfl))))); (iterate 4 exact rfl))
      all_goals rfl
end Go.Proofs.YtnihobjehelagaaDoor
end
/- The document's answers for names: the name of any text. -/
section
open Go.RowKit Go.Pl Go.Av
namespace Go.Proofs.YtnihobjehelagaaDoor
set_option linter.unusedVariables false
set_option linter.unusedSimpArgs false
theorem toNat_ne {c : UInt8} (h : c ≠ 47) : c.toNat ≠ 47 := fun e => h (UInt8.toNat_inj.1 (by rw [e]; rfl))
theorem cand_all {s : List UInt8} {c : EidV} (h0 : s ≠ noneT) (hc : (parseE s).2 = true → c = (parseE s).1) {i : Bool} {n q : Nat} {h d : List UInt8} (ec : c = ⟨i, n, q, h, d⟩) : candD (decide (kindN c < 1)) (textE c != s) i n q h d = parseR s := by
  cases hk : decide (kindN c < 1) with
  | true => rw [parseR_no (cand_k h0 hc hk)]; cases (textE c != s) <;> rfl
  | false =>
    cases ht : (textE c != s) with
    | true => rw [parseR_no (cand_t hc ht)]; rfl
    | false => rw [parseR_yes (cand_y hk ht), ec]
theorem right_of_k {c : EidV} (h : decide (kindN c < 1) = false) : eRight c = true := by
  rw [kind_lt, Bool.or_eq_false_iff] at h
  simpa using h.1
theorem av_refParse [Known] (s : List UInt8) (hs : s.length ≤ 1099511627776) : AP Tryd.prog 39 [.str s] (parseR s) [] := by
  cases h0 : (s == noneT) with
  | true =>
    have e : parseE s = (eidZ, true) := by unfold parseE; rw [if_pos h0]
    rw [parseR_yes e]
    exact rp_n s h0
  | false =>
    have hne : s ≠ noneT := by simpa using h0
    by_cases hI : ∃ r, r ≠ [] ∧ s = ipnT ++ r
    · obtain ⟨r, hr, rfl⟩ := hI
      have hl : (ipnT ++ r).length = 4 + r.length := by simp [ipnT]; omega
      have hrl : 0 < r.length := List.length_pos_iff.2 hr
      have hn := numR_len 11 0 r
      have hC1 := av_number (ipnT ++ r) 4 (by omega) (by omega)
      have ed : (ipnT ++ r).drop 4 = r := rfl
      rw [ed] at hC1
      have hK := av_kind (candI r) ⟨by simp [candI], by simp [candI]⟩
      rw [← cand_all hne candI_ok (show candI r = ⟨true, _, _, [], []⟩ from rfl)]
      refine rp_i (ipnT ++ r) (numR 11 0 r).1 (if 4 + (numR 11 0 r).2 < 4 + r.length then (numR 11 0 (r.drop ((numR 11 0 r).2 + 1))).1 else 0) (4 + (numR 11 0 r).2) ((4 + (numR 11 0 r).2 + 1) + (numR 11 0 (r.drop ((numR 11 0 r).2 + 1))).2) (kindN (candI r)) (textE (candI r)) (decide (4 + (numR 11 0 r).2 < 4 + r.length)) _ _ h0 (decide_eq_true (by omega)) (by omega) rfl hC1 (by rw [hl]; simp only [Int.ofNat_lt]) (by rw [IntWalk.i64_in _ (by omega)]; omega) (fun hz => ?_) (fun hz => if_neg (of_decide_eq_false hz)) hK rfl (fun hz => av_refText _ (right_of_k hz)) rfl
      have hz := of_decide_eq_true hz
      rw [if_pos hz]
      have hC2 := av_number (ipnT ++ r) (4 + (numR 11 0 r).2 + 1) (by omega) (by omega)
      have ed2 : (ipnT ++ r).drop (4 + (numR 11 0 r).2 + 1) = r.drop ((numR 11 0 r).2 + 1) := by
        rw [show 4 + (numR 11 0 r).2 + 1 = 4 + ((numR 11 0 r).2 + 1) by omega, ← List.drop_drop, ed]
      rw [ed2] at hC2
      exact hC2
    · by_cases hT : ∃ r, r ≠ [] ∧ s = [100, 116, 110, 58, 47, 47] ++ r
      · obtain ⟨r, hr, rfl⟩ := hT
        have hl : ([100, 116, 110, 58, 47, 47] ++ r : List UInt8).length = 6 + r.length := by simp; omega
        have hrl : 0 < r.length := List.length_pos_iff.2 hr
        have ed : ([100, 116, 110, 58, 47, 47] ++ r : List UInt8).drop 6 = r := rfl
        have eg : ∀ i, ([100, 116, 110, 58, 47, 47] ++ r : List UInt8)[6 + i]? = r[i]? := fun i => by rw [← List.getElem?_drop, ed]
        rcases cut_cases 47 r with hno | ⟨a, b, rfl, hno⟩
        · have hK := av_kind ⟨false, 0, 0, r, []⟩ ⟨by show r.length ≤ _; omega, by simp⟩
          have h := rp_t ([100, 116, 110, 58, 47, 47] ++ r) (6 + r.length) r [] (kindN ⟨false, 0, 0, r, []⟩) (textE ⟨false, 0, 0, r, []⟩) _ _ h0 (by omega) (decide_eq_true (by omega)) (by omega) rfl (decide_eq_true (by omega)) (by omega) rfl (by omega) (by omega)
            (fun i h6 hi => by
              obtain ⟨j, rfl⟩ : ∃ j, i = 6 + j := ⟨i - 6, by omega⟩
              rw [eg]
              have hj : j < r.length := by omega
              exact ⟨r[j], List.getElem?_eq_getElem hj, toNat_ne fun e => hno (e ▸ List.getElem_mem hj)⟩)
            (fun h => by omega) (by rw [List.take_of_length_le (by omega), ed]) (List.drop_of_length_le (by omega)) hK rfl (fun hz => av_refText _ (right_of_k hz)) rfl
          rw [if_neg (by omega)] at h
          rw [parseR_no (parse_no hne (fun r' hr' e => hI ⟨r', hr', e⟩) (fun h d hh e => hno (by rw [List.append_cancel_left e]; simp)))]
          exact h
        · have hal : (a ++ 47 :: b).length = a.length + (b.length + 1) := by simp
          have hK := av_kind ⟨false, 0, 0, a, b⟩ ⟨by show a.length ≤ _; omega, by show b.length ≤ _; omega⟩
          have h := rp_t ([100, 116, 110, 58, 47, 47] ++ (a ++ 47 :: b)) (6 + a.length) a b (kindN ⟨false, 0, 0, a, b⟩) (textE ⟨false, 0, 0, a, b⟩) _ _ h0 (by omega) (decide_eq_true (by omega)) (by omega) rfl (decide_eq_true (by omega)) (by omega) rfl (by omega) (by omega)
            (fun i h6 hi => by
              obtain ⟨j, rfl⟩ : ∃ j, i = 6 + j := ⟨i - 6, by omega⟩
              rw [eg]
              have hj : j < a.length := by omega
              exact ⟨a[j], by rw [List.getElem?_append_left hj, List.getElem?_eq_getElem hj], toNat_ne fun e => hno (e ▸ List.getElem_mem hj)⟩)
            (fun h => ⟨47, by rw [eg, List.getElem?_append_right (Nat.le_refl _), Nat.sub_self]; rfl, rfl⟩)
            (by
              have e : ([100, 116, 110, 58, 47, 47] ++ (a ++ 47 :: b) : List UInt8).take (6 + a.length) = [100, 116, 110, 58, 47, 47] ++ a := by
                rw [← List.append_assoc, List.take_append_of_le_length (by simp; omega), List.take_of_length_le (by simp; omega)]
              rw [e]; rfl)
            (by
              have e : ([100, 116, 110, 58, 47, 47] ++ (a ++ 47 :: b) : List UInt8).drop (6 + (a.length + 1)) = (a ++ 47 :: b).drop (a.length + 1) := by rw [← List.drop_drop, ed]
              rw [show 6 + a.length + 1 = 6 + (a.length + 1) by omega, e, List.drop_append, List.drop_of_length_le (by omega)]; simp)
            hK rfl (fun hz => av_refText _ (right_of_k hz)) rfl
          rw [if_pos (by omega)] at h
          rw [← cand_all hne (candT_ok hno) rfl]
          exact h
      · have hpn := parse_no hne (fun r' hr' e => hI ⟨r', hr', e⟩) (fun h d hh e => hT ⟨_, by simp, e⟩)
        rw [parseR_no hpn]
        have hK := av_kind eidZ ⟨by decide, by decide⟩
        refine rp_z s h0 ?_ ?_ hK
        · rcases Nat.lt_or_ge 4 s.length with h4 | h4
          · refine .inr ⟨decide_eq_true (by omega), by omega, ?_⟩
            cases hb : ((s.take (Int.toNat 4)).drop 0 == [105, 112, 110, 58]) with
            | false => rfl
            | true =>
              have e : s.take 4 = ipnT := beq_iff_eq.1 hb
              refine absurd ⟨s.drop 4, ?_, ?_⟩ hI
              · intro hn; have := congrArg List.length hn; simp at this; omega
              · rw [← e, List.take_append_drop]
          · exact .inl (decide_eq_false (by omega))
        · rcases Nat.lt_or_ge 6 s.length with h4 | h4
          · refine .inr ⟨decide_eq_true (by omega), by omega, ?_⟩
            cases hb : ((s.take (Int.toNat 6)).drop 0 == [100, 116, 110, 58, 47, 47]) with
            | false => rfl
            | true =>
              have e : s.take 6 = [100, 116, 110, 58, 47, 47] := beq_iff_eq.1 hb
              refine absurd ⟨s.drop 6, ?_, ?_⟩ hT
              · intro hn; have := congrArg List.length hn; simp at this; omega
              · rw [← e, List.take_append_drop]
          · exact .inl (decide_eq_false (by omega))
end Go.Proofs.YtnihobjehelagaaDoor
end
/- The document's reading of an item as a name, plain. -/
section
open Go.RowKit Go.Pl Go.Av
namespace Go.Proofs.YtnihobjehelagaaDoor
set_option linter.unusedVariables false
set_option linter.unusedSimpArgs false
abbrev readR (x : It) : D := .tup [.agg (eC (match (readV x).2 with | true => (readV x).1 | false => eidZ)), .bool (readV x).2]
theorem readR_no {x : It} (h : (readV x).2 = false) : readR x = .tup [.agg (eC eidZ), .bool false] := by unfold readR; rw [h]
theorem readR_yes {x : It} {e : EidV} (h : readV x = (e, true)) : readR x = .tup [.agg (eC e), .bool true] := by unfold readR; rw [h]
theorem item_form {e : EidV} (h : eRight e = true) : ∃ s z, itemE e = .mk 4 0 [] [s, z] ∧ ((isZ e = true ∧ z = .mk 0 0 [] []) ∨ (isZ e = false ∧ e.i = true ∧ z = .mk 4 0 [] [.mk 0 e.n [] [], .mk 0 e.s [] []] ∧ e.h = [] ∧ e.d = []) ∨ (isZ e = false ∧ e.i = false ∧ z = .mk 3 0 (pathE e) [] ∧ textE e = dtnT ++ pathE e)) := by
  unfold itemE
  cases hz : isZ e with
  | true => rw [if_pos rfl]; exact ⟨_, _, rfl, .inl ⟨rfl, rfl⟩⟩
  | false =>
    rw [if_neg (by simp)]
    cases hi : e.i with
    | true =>
      obtain ⟨_, _, h1, h2, _⟩ := eRight_num h hz hi
      rw [if_pos rfl]; exact ⟨_, _, rfl, .inr (.inl ⟨rfl, rfl, rfl, h1, h2⟩)⟩
    | false =>
      rw [if_neg (by simp)]
      refine ⟨_, _, rfl, .inr (.inr ⟨rfl, rfl, rfl, ?_⟩)⟩
      unfold textE
      rw [hz, if_neg (by simp), hi, if_neg (by simp)]
      rfl
/-- no list of two -/
theorem rr_no {k : Int} {n : Nat} {b : List UInt8} {l : List It} (h : k ≠ 4 ∨ l.length ≠ 2) : (readV (.mk k n b l)).2 = false := by
  cases hp : (readV (.mk k n b l)).2 with
  | false => rfl
  | true =>
    obtain ⟨h1, h2⟩ := readV_back hp
    obtain ⟨s, z, e, _⟩ := item_form h1
    rw [e] at h2
    cases h2
    rcases h with h | h
    · exact absurd rfl h
    · exact absurd rfl h
/-- a list of two, by its second part -/
theorem rr_two {n : Nat} {b : List UInt8} {s z : It} {c : EidV}
    (hZ : z = .mk 0 0 [] [] → c = eidZ) (hI : ∀ p q, z = .mk 4 0 [] [.mk 0 p [] [], .mk 0 q [] []] → c = ⟨true, p, q, [], []⟩) (hT : ∀ t, z = .mk 3 0 t [] → (parseE (dtnT ++ t)).2 = true → c = (parseE (dtnT ++ t)).1)
    (hp : (readV (.mk 4 n b [s, z])).2 = true) : c = (readV (.mk 4 n b [s, z])).1 := by
  obtain ⟨h1, h2⟩ := readV_back hp
  generalize (readV (.mk 4 n b [s, z])).1 = e at *
  obtain ⟨s', z', ee, hh⟩ := item_form h1
  rw [ee] at h2
  cases h2
  rcases hh with ⟨hz, hh⟩ | ⟨hz, hi, hh, e1, e2⟩ | ⟨hz, hi, hh, ht⟩
  · rw [hZ hh, isZ_iff.1 hz]
  · rw [hI _ _ hh]
    obtain ⟨i, n, s, h, d⟩ := e
    simp only at hi e1 e2
    rw [hi, e1, e2]
  · have hq := text_parse h1
    rw [ht] at hq
    have := hT _ hh (by rw [hq])
    rw [this, hq]
/-- a text that is no name's -/
theorem rr_notext {n n3 : Nat} {b t : List UInt8} {s : It} {l : List It} (h : (parseE (dtnT ++ t)).2 = false) : (readV (.mk 4 n b [s, .mk 3 n3 t l])).2 = false := by
  cases hp : (readV (.mk 4 n b [s, .mk 3 n3 t l])).2 with
  | false => rfl
  | true =>
    obtain ⟨h1, h2⟩ := readV_back hp
    generalize (readV (.mk 4 n b [s, .mk 3 n3 t l])).1 = e at *
    obtain ⟨s', z', ee, hh⟩ := item_form h1
    rw [ee] at h2
    cases h2
    rcases hh with ⟨hz, hh⟩ | ⟨hz, hi, hh, e1, e2⟩ | ⟨hz, hi, hh, ht⟩
    · cases hh
    · cases hh
    · cases hh
      have hq := text_parse h1
      rw [ht] at hq
      rw [hq] at h; cases h
/-- a candidate that may not be -/
theorem rr_k {x : It} {c : EidV} (hc : (readV x).2 = true → c = (readV x).1) (hk : eRight c = false) : (readV x).2 = false := by
  cases hp : (readV x).2 with
  | false => rfl
  | true => rw [hc hp, (readV_back hp).1] at hk; cases hk
theorem rr_s {x : It} {c : EidV} (hc : (readV x).2 = true → c = (readV x).1) (hs : It.beq (itemE c) x = false) : (readV x).2 = false := by
  cases hp : (readV x).2 with
  | false => rfl
  | true => rw [hc hp, (readV_back hp).2, It.beq_iff.2 rfl] at hs; cases hs
theorem rr_y {x : It} {c : EidV} (hk : eRight c = true) (hs : It.beq (itemE c) x = true) : readV x = (c, true) := by
  rw [← It.beq_iff.1 hs, readV_itemE hk (right_itemE hk)]
end Go.Proofs.YtnihobjehelagaaDoor
end
/- Items: how many there are, how deep they go; that this is what walk counts. Plain laws. -/
section
open Go.RowKit Go.Pl Go.Av
namespace Go.Proofs.YtnihobjehelagaaDoor
set_option linter.unusedVariables false
set_option linter.unusedSimpArgs false
mutual
def sizeI : It → Nat
  | .mk _ _ _ l => 1 + sizes l
def sizes : List It → Nat
  | [] => 0
  | x :: l => sizeI x + sizes l
end
mutual
def fineI : It → Bool
  | .mk k n b l => ownI k n b l && fines l
def fines : List It → Bool
  | [] => true
  | x :: l => fineI x && fines l
end
mutual
theorem walk_iff : ∀ (x : It) (d m : Nat), walkI x d m = if deepI x (7 - d) = true ∧ sizeI x ≤ m ∧ fineI x = true then some (m - sizeI x) else none
  | .mk k n b l, d, m => by
    rw [walkI]
    split
    · rename_i h
      rw [if_neg]
      rintro ⟨h1, _⟩
      rw [show 7 - d = 0 by omega, deepI] at h1
      cases h1
    rename_i hd
    rw [show 7 - d = (7 - (d + 1)) + 1 by omega, deepI, sizeI, fineI]
    split
    · rename_i h
      rw [if_neg]
      rintro ⟨_, h1, _⟩
      omega
    rename_i hm
    cases ho : ownI k n b l with
    | false =>
      dsimp only
      rw [if_neg]
      rintro ⟨_, _, h1⟩
      simp at h1
    | true =>
      dsimp only
      rw [walks_iff l (d + 1) (m - 1), Bool.true_and]
      by_cases h : deeps l (7 - (d + 1)) = true ∧ sizes l ≤ m - 1 ∧ fines l = true
      · rw [if_pos h, if_pos ⟨h.1, by omega, h.2.2⟩]
        congr 1; omega
      · rw [if_neg h, if_neg]
        exact fun ⟨a, b, c⟩ => h ⟨a, by omega, c⟩
theorem walks_iff : ∀ (l : List It) (d m : Nat), walks l d m = if deeps l (7 - d) = true ∧ sizes l ≤ m ∧ fines l = true then some (m - sizes l) else none
  | [], d, m => by rw [walks, if_pos ⟨by rw [deeps], by rw [sizes]; omega, by rw [fines]⟩, sizes]; rfl
  | x :: l, d, m => by
    rw [walks, walk_iff x d m, deeps, sizes, fines]
    by_cases h : deepI x (7 - d) = true ∧ sizeI x ≤ m ∧ fineI x = true
    · rw [if_pos h]
      dsimp only
      rw [walks_iff l d (m - sizeI x), h.1, h.2.2, Bool.true_and, Bool.true_and]
      by_cases h2 : deeps l (7 - d) = true ∧ sizes l ≤ m - sizeI x ∧ fines l = true
      · rw [if_pos h2, if_pos ⟨h2.1, by omega, h2.2.2⟩]
        congr 1; omega
      · rw [if_neg h2, if_neg]
        exact fun ⟨a, b, c⟩ => h2 ⟨a, by omega, c⟩
    · rw [if_neg h]
      dsimp only
      rw [if_neg]
      rintro ⟨a, b, c⟩
      rw [Bool.and_eq_true] at a c
      exact h ⟨a.1, by omega, c.1⟩
end
theorem right_iff (x : It) : rightI x = (deepI x 6 && (decide (sizeI x ≤ 256) && fineI x)) := by
  unfold rightI
  rw [walk_iff]
  split
  · rename_i h
    obtain ⟨a, b, c⟩ := h
    rw [show 7 - 1 = 6 from rfl] at a
    simp [a, b, c]
  · rename_i h
    rw [show 7 - 1 = 6 from rfl] at h
    show false = _
    cases h2 : (deepI x 6 && (decide (sizeI x ≤ 256) && fineI x)) with
    | false => rfl
    | true =>
      simp only [Bool.and_eq_true, decide_eq_true_eq] at h2
      exact absurd ⟨h2.1, h2.2.1, h2.2.2⟩ h
mutual
theorem deepI_more : ∀ (x : It) (d e : Nat), deepI x d = true → d ≤ e → deepI x e = true
  | .mk k n b l, 0, e, h, _ => by rw [deepI] at h; cases h
  | .mk k n b l, d + 1, 0, h, hle => by omega
  | .mk k n b l, d + 1, e + 1, h, hle => by
    rw [deepI] at h ⊢
    exact deeps_more l d e h (by omega)
theorem deeps_more : ∀ (l : List It) (d e : Nat), deeps l d = true → d ≤ e → deeps l e = true
  | [], _, _, _, _ => by rw [deeps]
  | x :: l, d, e, h, hle => by
    rw [deeps, Bool.and_eq_true] at h ⊢
    exact ⟨deepI_more x d e h.1 hle, deeps_more l d e h.2 hle⟩
end
theorem walk_deep {x : It} {d m m' : Nat} (h : walkI x d m = some m') : deepI x (7 - d) = true ∧ sizeI x ≤ m := by
  rw [walk_iff] at h
  split at h
  · rename_i q; exact ⟨q.1, q.2.1⟩
  · cases h
mutual
theorem great_size : ∀ (x : It) (d : Nat) (m : Int), 0 ≤ greatI x d m → (sizeI x : Int) = m - greatI x d m
  | .mk k n b l, d, m, h => by
    rw [greatI] at h ⊢
    split at h
    · omega
    split at h
    · omega
    rename_i h1 h2
    rw [if_neg h1, if_neg h2, sizeI]
    have := greats_size l (d + 1) (m - 1) h
    omega
theorem greats_size : ∀ (l : List It) (d : Nat) (m : Int), 0 ≤ greats l d m → (sizes l : Int) = m - greats l d m
  | [], d, m, h => by rw [greats, sizes]; omega
  | x :: l, d, m, h => by
    rw [greats] at h ⊢
    split at h
    · omega
    rename_i h1
    rw [if_neg h1, sizes]
    have h0 : 0 ≤ greatI x d m := by
      rcases Int.lt_or_le (greatI x d m) 0 with hlt | hge
      · have := greats_le l d (greatI x d m) (by have := greatI_lt x d m (by omega); omega); omega
      · exact hge
    have a := great_size x d m h0
    have b := greats_size l d _ h
    omega
end
end Go.Proofs.YtnihobjehelagaaDoor
end
