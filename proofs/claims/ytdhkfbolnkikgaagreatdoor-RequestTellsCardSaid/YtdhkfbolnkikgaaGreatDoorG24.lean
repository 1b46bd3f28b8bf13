/- The document's answers for names: kinds. -/
import Derived.Test.YtdhkfbolnkikgaaGreatDoorG11
import Derived.Test.YtdhkfbolnkikgaaGreatDoorG16
section
open Go.RowKit Go.Pl Go.Av
namespace Go.Proofs.YtdhkfbolnkikgaaGreatDoor
set_option linter.unusedVariables false
set_option linter.unusedSimpArgs false
set_option maxHeartbeats 1000000
theorem eRight_iffI {x : EidV} (hi : x.i = true) : eRight x = true ↔ x.h = [] ∧ x.d = [] ∧ 1 ≤ (x.n : Int) ∧ (x.n : Int) ≤ 4294967295 ∧ (x.s : Int) ≤ 4294967295 := by
  have hz : isZ x = false := by simp [isZ, hi]
  rw [eRight_I hz hi]
  simp [hi, and_assoc]
theorem isZ_iffK {x : EidV} (hi : x.i = false) : isZ x = true ↔ (x.n : Int) = 0 ∧ (x.s : Int) = 0 ∧ x.h = [] ∧ x.d = [] := by
  simp [isZ, hi]
theorem eRight_iffT {x : EidV} (hi : x.i = false) (hz : isZ x = false) : eRight x = true ↔ (x.n : Int) = 0 ∧ (x.s : Int) = 0 ∧ (x.h.length : Int) ≥ 1 ∧ (x.h.length : Int) ≤ 16 ∧ (x.d.length : Int) ≤ 24 ∧ x.h.all (okB 45) = true ∧ x.d.all (okB 47) = true := by
  rw [eRight_T hz hi]
  simp only [Bool.and_eq_true, beq_iff_eq, decide_eq_true_eq, and_true, true_and, and_assoc, hi, beq_self_eq_true]
/-- which kind: none 0, numbers 1, texts 2, none at all -1 -/
def kindN (x : EidV) : Int := if x.i then (if eRight x then 1 else -1) else if isZ x then 0 else if eRight x then 2 else -1
theorem kind_lt (x : EidV) : decide (kindN x < 1) = (!(eRight x) || isZ x) := by
  unfold kindN
  cases hi : x.i with
  | true =>
    have hz : isZ x = false := by simp [isZ, hi]
    rw [hz]; cases eRight x <;> rfl
  | false =>
    cases hz : isZ x with
    | true => rw [eRight_Z hz]; rfl
    | false => cases eRight x <;> rfl
theorem av_refPlain [Known] (s : List UInt8) (b : Bool) (m : Nat) (hm : m = if b then 47 else 45) (hs : s.length ≤ 9223372036854775807) : AP Tryz.prog 55 [.str s, .bool b] (.bool (s.all (okB m))) [] := by
  refine AP.ofA ?_
  refine AC_of Tryz.func55 rfl Tryz.ntmps55 rfl rfl ?_
  repeat' (first | (apply AL_assign; exact rfl; exact rfl) | refine AL_nil ?_ | refine AW_region ?_ | refine AW_seq' ?_ | refine then_norm ?_ | refine AW_block ?_)
  refine AW_loopJ (fun k tm bx fr => ∃ i, k + i = s.length ∧ (∀ c ∈ s.take i, okB m c = true) ∧ tm = [(0, .str s), (1, .bool b), (5, .int .i64 (i : Int))] ∧ bx = [] ∧ fr = []) (s.length + 1) (Lands.mk' (m := s.length) (Nat.lt_succ_self _) ⟨0, rfl, by simp, rfl, rfl, rfl⟩ ?_ rfl rfl rfl rfl rfl rfl) ?_
  · exact .cons rfl (.cons rfl (.cons rfl .nil))
  rintro k tm bx fr ⟨i, hk, hall, rfl, rfl, rfl⟩
  rcases Nat.lt_or_ge i s.length with hlt | hge
  · have hd : decide ((i : Int) < (s.length : Int)) = true := by simp; omega
    obtain ⟨c, hc⟩ : ∃ c, s[i]? = some c := ⟨_, List.getElem?_eq_getElem hlt⟩
    have hv : s[((i : Nat) : Int).toNat]? = some c := by simpa using hc
    have ei : IntKind.i64.wrap ((i : Int) + 1) = ((i + 1 : Nat) : Int) := by rw [IntWalk.i64_in _ (by omega)]; omega
    have hstep : okB m c = true → ∀ x ∈ s.take (i + 1), okB m x = true := fun h x hx => by
      rw [List.take_add_one, hc] at hx
      rcases List.mem_append.1 hx with hx | hx
      · exact hall x hx
      · simp at hx; subst hx; exact h
    have hbad : ¬ okB m c = true → s.all (okB m) = false := fun h => List.all_eq_false.2 ⟨c, List.mem_of_getElem? hc, h⟩
    cases b with
    | false =>
      have hm' : m = 45 := hm
      subst hm'
      repeat' (first | rw [ei] | (apply AL_idxs ttok; (iterate 5 exact rfl); exact Int.natCast_nonneg _; exact hv) | (apply AL_move; exact rfl; exact rfl) | (apply AL_assign; exact rfl; exact rfl) | (apply AL_bin; (iterate 5 exact rfl)) | (apply AL_not; exact rfl; exact rfl) | refine AL_nil ?_ | (apply AL_guardT; (iterate 3 exact rfl); (first | with_reducible assumption | (guard_target =ₛ true = true; rfl) | (guard_target =ₛ false = false; rfl) | (guard_target =ₛ (!true) = false; rfl) | (guard_target =ₛ (!false) = true; rfl))) | (apply AL_guardFt; (iterate 3 exact rfl); (first | with_reducible assumption | (guard_target =ₛ true = true; rfl) | (guard_target =ₛ false = false; rfl) | (guard_target =ₛ (!true) = false; rfl) | (guard_target =ₛ (!false) = true; rfl))) | (apply AL_guardFf; (iterate 3 exact rfl); (first | with_reducible assumption | (guard_target =ₛ true = true; rfl) | (guard_target =ₛ false = false; rfl) | (guard_target =ₛ (!true) = false; rfl) | (guard_target =ₛ (!false) = true; rfl))) | (apply AL_guardU; (iterate 3 exact rfl)) | (apply AL_guardS; exact rfl; exact rfl; all_goals intro hb) | (apply AL_pickT; exact rfl; (first | with_reducible assumption | (guard_target =ₛ true = true; rfl) | (guard_target =ₛ false = false; rfl) | (guard_target =ₛ (!true) = false; rfl) | (guard_target =ₛ (!false) = true; rfl)); exact rfl; exact rfl) | (apply AL_pickF; exact rfl; (first | with_reducible assumption | (guard_target =ₛ true = true; rfl) | (guard_target =ₛ false = false; rfl) | (guard_target =ₛ (!true) = false; rfl) | (guard_target =ₛ (!false) = true; rfl)); exact rfl; exact rfl) | refine AW_region ?_ | refine AW_seq' ?_ | (apply AW_condA; exact rfl; (first | with_reducible assumption | (guard_target =ₛ true = true; rfl) | (guard_target =ₛ false = false; rfl) | (guard_target =ₛ (!true) = false; rfl) | (guard_target =ₛ (!false) = true; rfl))) | (apply AW_condB; exact rfl; (first | with_reducible assumption | (guard_target =ₛ true = true; rfl) | (guard_target =ₛ false = false; rfl) | (guard_target =ₛ (!true) = false; rfl) | (guard_target =ₛ (!false) = true; rfl))) | refine then_norm ?_ | refine AW_block ?_ | refine AW_ret ?_ | refine then_ret ?_ | refine blk_ret ?_ | (apply AL_lens ttok; (iterate 4 exact rfl)) | refine AW_skip ?_)
      all_goals first
        | (refine Lands.mk' (m := k - 1) (by omega) ⟨i + 1, by omega, hstep ?_, rfl, rfl, rfl⟩ ?_ rfl rfl rfl rfl rfl rfl
           · rw [okB_true]
             clear hstep hbad hall
             simp only [decide_eq_true_eq, decide_eq_false_iff_not, beq_iff_eq, beq_eq_false_iff_ne, ne_eq, Bool.not_eq_false', Bool.not_eq_true'] at *
             omega
           · exact .cons rfl (.cons rfl (.cons rfl .nil)))
        | ((apply endQ []; (repeat (first | exact ResL.nil | (apply ResL.cons; first | exact .tmp _ _ rfl | (apply res_n ttok; (iterate 6 exact rfl)) | (apply res_1 ttok; (iterate 5 exact rfl))))); (iterate 4 exact rfl))
           · rw [hbad (fun h => by
               rw [okB_true] at h
               clear hstep hbad hall
               simp only [decide_eq_true_eq, decide_eq_false_iff_not, beq_iff_eq, beq_eq_false_iff_ne, ne_eq, Bool.not_eq_false', Bool.not_eq_true'] at *
               omega)]
           · rfl)
    | true =>
      have hm' : m = 47 := hm
      subst hm'
      repeat' (first | rw [ei] | (apply AL_idxs ttok; (iterate 5 exact rfl); exact Int.natCast_nonneg _; exact hv) | (apply AL_move; exact rfl; exact rfl) | (apply AL_assign; exact rfl; exact rfl) | (apply AL_bin; (iterate 5 exact rfl)) | (apply AL_not; exact rfl; exact rfl) | refine AL_nil ?_ | (apply AL_guardT; (iterate 3 exact rfl); (first | with_reducible assumption | (guard_target =ₛ true = true; rfl) | (guard_target =ₛ false = false; rfl) | (guard_target =ₛ (!true) = false; rfl) | (guard_target =ₛ (!false) = true; rfl))) | (apply AL_guardFt; (iterate 3 exact rfl); (first | with_reducible assumption | (guard_target =ₛ true = true; rfl) | (guard_target =ₛ false = false; rfl) | (guard_target =ₛ (!true) = false; rfl) | (guard_target =ₛ (!false) = true; rfl))) | (apply AL_guardFf; (iterate 3 exact rfl); (first | with_reducible assumption | (guard_target =ₛ true = true; rfl) | (guard_target =ₛ false = false; rfl) | (guard_target =ₛ (!true) = false; rfl) | (guard_target =ₛ (!false) = true; rfl))) | (apply AL_guardU; (iterate 3 exact rfl)) | (apply AL_guardS; exact rfl; exact rfl; all_goals intro hb) | (apply AL_pickT; exact rfl; (first | with_reducible assumption | (guard_target =ₛ true = true; rfl) | (guard_target =ₛ false = false; rfl) | (guard_target =ₛ (!true) = false; rfl) | (guard_target =ₛ (!false) = true; rfl)); exact rfl; exact rfl) | (apply AL_pickF; exact rfl; (first | with_reducible assumption | (guard_target =ₛ true = true; rfl) | (guard_target =ₛ false = false; rfl) | (guard_target =ₛ (!true) = false; rfl) | (guard_target =ₛ (!false) = true; rfl)); exact rfl; exact rfl) | refine AW_region ?_ | refine AW_seq' ?_ | (apply AW_condA; exact rfl; (first | with_reducible assumption | (guard_target =ₛ true = true; rfl) | (guard_target =ₛ false = false; rfl) | (guard_target =ₛ (!true) = false; rfl) | (guard_target =ₛ (!false) = true; rfl))) | (apply AW_condB; exact rfl; (first | with_reducible assumption | (guard_target =ₛ true = true; rfl) | (guard_target =ₛ false = false; rfl) | (guard_target =ₛ (!true) = false; rfl) | (guard_target =ₛ (!false) = true; rfl))) | (apply AW_cond'; exact rfl; all_goals intro hb) | refine then_norm ?_ | refine AW_block ?_ | refine AW_ret ?_ | refine then_ret ?_ | refine blk_ret ?_ | (apply AL_lens ttok; (iterate 4 exact rfl)) | refine AW_skip ?_)
      all_goals first
        | (refine Lands.mk' (m := k - 1) (by omega) ⟨i + 1, by omega, hstep ?_, rfl, rfl, rfl⟩ ?_ rfl rfl rfl rfl rfl rfl
           · rw [okB_true]
             clear hstep hbad hall
             simp only [decide_eq_true_eq, decide_eq_false_iff_not, beq_iff_eq, beq_eq_false_iff_ne, ne_eq, Bool.not_eq_false', Bool.not_eq_true'] at *
             omega
           · exact .cons rfl (.cons rfl (.cons rfl .nil)))
        | ((apply endQ []; (repeat (first | exact ResL.nil | (apply ResL.cons; first | exact .tmp _ _ rfl | (apply res_n ttok; (iterate 6 exact rfl)) | (apply res_1 ttok; (iterate 5 exact rfl))))); (iterate 4 exact rfl))
           · rw [hbad (fun h => by
               rw [okB_true] at h
               clear hstep hbad hall
               simp only [decide_eq_true_eq, decide_eq_false_iff_not, beq_iff_eq, beq_eq_false_iff_ne, ne_eq, Bool.not_eq_false', Bool.not_eq_true'] at *
               omega)]
           · rfl)
  · have hd : decide ((i : Int) < (s.length : Int)) = false := by simp; omega
    repeat' (first | (apply AL_move; exact rfl; exact rfl) | (apply AL_assign; exact rfl; exact rfl) | (apply AL_bin; (iterate 5 exact rfl)) | refine AL_nil ?_ | refine AW_region ?_ | refine AW_seq' ?_ | (apply AW_condB; exact rfl; (first | with_reducible assumption | (guard_target =ₛ true = true; rfl) | (guard_target =ₛ false = false; rfl) | (guard_target =ₛ (!true) = false; rfl) | (guard_target =ₛ (!false) = true; rfl))) | refine then_norm ?_ | refine AW_exit ?_ | refine AW_ret ?_ | (apply AL_lens ttok; (iterate 4 exact rfl)))
    (apply endQ []; (repeat (first | exact ResL.nil | (apply ResL.cons; first | exact .tmp _ _ rfl | (apply res_n ttok; (iterate 6 exact rfl)) | (apply res_1 ttok; (iterate 5 exact rfl))))); (iterate 4 exact rfl))
    · rw [List.take_of_length_le hge] at hall
      rw [List.all_eq_true.2 hall]
    · rfl
/-- of texts that are not too long -/
def Fit (x : EidV) : Prop := x.h.length ≤ 9223372036854775807 ∧ x.d.length ≤ 9223372036854775807
theorem av_kind [Known] (x : EidV) (hx : Fit x) : AP Tryz.prog 42 [.agg (eC x)] (.int .i64 (kindN x)) [] := by
  refine AP.ofA ?_
  refine AC_of Tryz.func42 rfl Tryz.ntmps42 rfl rfl ?_
  cases hi : x.i with
  | true =>
    have hE := eRight_iffI hi
    repeat' (first | (apply AL_move; exact rfl; exact rfl) | (apply AL_assign; exact rfl; exact rfl) | (apply AL_bin; (iterate 5 exact rfl)) | (apply AL_load1 ttok; (iterate 6 exact rfl)) | (apply AL_fieldAddr ttok; (iterate 7 exact rfl)) | (apply AL_box; (iterate 5 exact rfl)) | refine AL_nil ?_ | (apply AL_guardT; (iterate 3 exact rfl); (first | with_reducible assumption | (guard_target =ₛ true = true; rfl) | (guard_target =ₛ false = false; rfl) | (guard_target =ₛ (!true) = false; rfl) | (guard_target =ₛ (!false) = true; rfl))) | (apply AL_guardFf; (iterate 3 exact rfl); (first | with_reducible assumption | (guard_target =ₛ true = true; rfl) | (guard_target =ₛ false = false; rfl) | (guard_target =ₛ (!true) = false; rfl) | (guard_target =ₛ (!false) = true; rfl))) | (apply AL_guardS; exact rfl; exact rfl; all_goals intro hb) | (apply AL_pickT; exact rfl; (first | with_reducible assumption | (guard_target =ₛ true = true; rfl) | (guard_target =ₛ false = false; rfl) | (guard_target =ₛ (!true) = false; rfl) | (guard_target =ₛ (!false) = true; rfl)); exact rfl; exact rfl) | (apply AL_pickF; exact rfl; (first | with_reducible assumption | (guard_target =ₛ true = true; rfl) | (guard_target =ₛ false = false; rfl) | (guard_target =ₛ (!true) = false; rfl) | (guard_target =ₛ (!false) = true; rfl)); exact rfl; exact rfl) | refine AW_region ?_ | refine AW_seq' ?_ | (apply AW_condA; exact rfl; (first | with_reducible assumption | (guard_target =ₛ true = true; rfl) | (guard_target =ₛ false = false; rfl) | (guard_target =ₛ (!true) = false; rfl) | (guard_target =ₛ (!false) = true; rfl))) | (apply AW_cond'; exact rfl; all_goals intro hb) | refine then_norm ?_ | refine AW_ret ?_ | refine then_ret ?_ | (apply AL_str; (iterate 5 exact rfl)) | refine AW_skip ?_)
    all_goals (apply endQ []; (repeat (first | exact ResL.nil | (apply ResL.cons; first | exact .tmp _ _ rfl | (apply res_n ttok; (iterate 6 exact rfl)) | (apply res_1 ttok; (iterate 5 exact rfl))))); (iterate 4 exact rfl))
    all_goals first
      | rfl
      | (unfold kindN
         rw [hi]
         simp only [if_true]
         simp only [decide_eq_true_eq, decide_eq_false_iff_not, beq_iff_eq, beq_eq_false_iff_ne, ne_eq, bne_iff_ne, bne_eq_false_iff_eq, Bool.not_eq_false', Bool.not_eq_true'] at *
         split
         · first
             | rfl
             | (exfalso; rename_i h; obtain ⟨h1, h2, h3, h4, h5⟩ := hE.1 h; first | contradiction | omega)
         · first
             | rfl
             | (exfalso; rename_i h; exact h (hE.2 ⟨by assumption, by assumption, by omega, by omega, by omega⟩)))
  | false =>
    have hZ := isZ_iffK hi
    have hE := fun hz => eRight_iffT (x := x) hi hz
    repeat' (first | (apply AL_callPw (av_refPlain x.h false 45 rfl hx.1); kernel_rfl; (iterate 4 exact rfl)) | (apply AL_callPw (av_refPlain x.d true 47 rfl hx.2); kernel_rfl; (iterate 4 exact rfl)) | (apply AL_move; exact rfl; exact rfl) | (apply AL_assign; exact rfl; exact rfl) | (apply AL_bin; (iterate 5 exact rfl)) | (apply AL_load1 ttok; (iterate 6 exact rfl)) | (apply AL_fieldAddr ttok; (iterate 7 exact rfl)) | (apply AL_box; (iterate 5 exact rfl)) | (apply AL_not; exact rfl; exact rfl) | refine AL_nil ?_ | (apply AL_guardT; (iterate 3 exact rfl); (first | with_reducible assumption | (guard_target =ₛ true = true; rfl) | (guard_target =ₛ false = false; rfl) | (guard_target =ₛ (!true) = false; rfl) | (guard_target =ₛ (!false) = true; rfl))) | (apply AL_guardFt; (iterate 3 exact rfl); (first | with_reducible assumption | (guard_target =ₛ true = true; rfl) | (guard_target =ₛ false = false; rfl) | (guard_target =ₛ (!true) = false; rfl) | (guard_target =ₛ (!false) = true; rfl))) | (apply AL_guardFf; (iterate 3 exact rfl); (first | with_reducible assumption | (guard_target =ₛ true = true; rfl) | (guard_target =ₛ false = false; rfl) | (guard_target =ₛ (!true) = false; rfl) | (guard_target =ₛ (!false) = true; rfl))) | (apply AL_guardS; exact rfl; exact rfl; all_goals intro hb) | (apply AL_pickT; exact rfl; (first | with_reducible assumption | (guard_target =ₛ true = true; rfl) | (guard_target =ₛ false = false; rfl) | (guard_target =ₛ (!true) = false; rfl) | (guard_target =ₛ (!false) = true; rfl)); exact rfl; exact rfl) | (apply AL_pickF; exact rfl; (first | with_reducible assumption | (guard_target =ₛ true = true; rfl) | (guard_target =ₛ false = false; rfl) | (guard_target =ₛ (!true) = false; rfl) | (guard_target =ₛ (!false) = true; rfl)); exact rfl; exact rfl) | refine AW_region ?_ | refine AW_seq' ?_ | (apply AW_condA; exact rfl; (first | with_reducible assumption | (guard_target =ₛ true = true; rfl) | (guard_target =ₛ false = false; rfl) | (guard_target =ₛ (!true) = false; rfl) | (guard_target =ₛ (!false) = true; rfl))) | (apply AW_condB; exact rfl; (first | with_reducible assumption | (guard_target =ₛ true = true; rfl) | (guard_target =ₛ false = false; rfl) | (guard_target =ₛ (!true) = false; rfl) | (guard_target =ₛ (!false) = true; rfl))) | (apply AW_cond'; exact rfl; all_goals intro hb) | refine then_norm ?_ | refine AW_ret ?_ | refine then_ret ?_ | (apply AL_lens ttok; (iterate 4 exact rfl)) | (apply AL_str; (iterate 5 exact rfl)) | refine AW_skip ?_)
    all_goals (apply endQ []; (repeat (first | exact ResL.nil | (apply ResL.cons; first | exact .tmp _ _ rfl | (apply res_n ttok; (iterate 6 exact rfl)) | (apply res_1 ttok; (iterate 5 exact rfl))))); (iterate 4 exact rfl))
    all_goals first
      | rfl
      | (unfold kindN
         rw [hi]
         simp only [Bool.false_eq_true, if_false]
         simp only [decide_eq_true_eq, decide_eq_false_iff_not, beq_iff_eq, beq_eq_false_iff_ne, ne_eq, bne_iff_ne, bne_eq_false_iff_eq, Bool.not_eq_false', Bool.not_eq_true'] at *
         split
         · first
             | rfl
             | (exfalso; rename_i h; obtain ⟨h1, h2, h3, h4⟩ := hZ.1 h; first | contradiction | omega)
         · rename_i hz
           have hz' : isZ x = false := by simpa using hz
           split
           · first
               | rfl
               | (exfalso; rename_i h; obtain ⟨h1, h2, h3, h4, h5, h6, h7⟩ := (hE hz').1 h; first | contradiction | omega | (simp_all; done))
           · first
               | rfl
               | (exfalso; rename_i h; exact h ((hE hz').2 ⟨by omega, by omega, by omega, by omega, by omega, by assumption, by assumption⟩))
               | (exfalso; exact hz (hZ.2 ⟨by assumption, by assumption, by assumption, by assumption⟩)))
theorem av_as4 [Known] (x : EidV) : AP Tryz.prog 17 [.agg (eC x)] (.agg (eC x)) [] := by
  refine AP.ofA ?_
  refine AC_of Tryz.func17 rfl Tryz.ntmps17 rfl rfl ?_
  repeat' (first | (apply AL_load1 ttok; (iterate 6 exact rfl)) | (apply AL_fieldAddr ttok; (iterate 7 exact rfl)) | (apply AL_box; (iterate 5 exact rfl)) | (apply AL_store ttok; (iterate 8 exact rfl)) | refine AL_nil ?_ | refine AW_region ?_ | refine AW_seq' ?_ | refine then_norm ?_ | refine AW_ret ?_ | (apply AL_build ttok; (iterate 6 exact rfl)) | (apply AL_alloc ttok; (iterate 4 exact rfl)))
  (apply endQ []; (repeat (first | exact ResL.nil | (apply ResL.cons; first | exact .tmp _ _ rfl | (apply res_n ttok; (iterate 6 exact rfl)) | (apply res_1 ttok; (iterate 5 exact rfl))))); (iterate 4 exact rfl))
  all_goals rfl
end Go.Proofs.YtdhkfbolnkikgaaGreatDoor
end
/- The document's answers for requests, plain: which may be. -/
section
open Go.RowKit Go.Pl Go.Av
namespace Go.Proofs.YtdhkfbolnkikgaaGreatDoor
set_option linter.unusedVariables false
set_option linter.unusedSimpArgs false
set_option maxHeartbeats 4000000
/-- which parts a kind has, as a text -/
def ptsL (k : Int) : List UInt8 :=
  if k == 1 || k == 3 then [101, 112] else if k == 2 || k == 6 then [101] else if k == 4 then [101, 100, 98, 108, 111] else if k == 5 || (k == 8 || k == 9) then [110]
  else if k == 7 then [101, 116] else if k == 10 then [111] else if k == 11 then [] else if k == 12 then [107] else [63]
/-- the document's test, by what its parts say -/
def rfR (fe fd fp fn ft fl fk fb fo : Bool) (k1 k2 : Int) (x : RqV) : Bool :=
  (decide ((x.id : Int) ≥ 1) && decide ((x.id : Int) ≤ 1099511627776)) &&
  (!((fe && decide (k1 < 1)) || (!fe && !(isZ x.ep))) &&
  (!((fd && decide (k2 < 1)) || (!fd && !(isZ x.ds))) &&
  (!(decide (x.pol < 0) || (decide (x.pol > 2) || ((!fp && (x.pol != 0)) || (decide (x.num < 0) || decide (x.tik < 0))))) &&
  (!((fn != decide (x.num > 0)) || (decide (x.num > 1099511627776) || ((ft != decide (x.tik > 0)) || decide (x.tik > 1000)))) &&
  (!((fl != decide ((x.life : Int) > 0)) || (decide ((x.life : Int) > 1099511627776) || ((fk != decide ((x.tok : Int) > 0)) || decide ((x.tok : Int) > 2147483648)))) &&
  (decide ((x.pay.length : Int) ≤ 200) && ((fb || ((x.pay.length : Int) == 0)) && (fo || !x.on))))))))
def rfF (x : RqV) : Bool := rfR ((ptsL x.kd).contains 101) ((ptsL x.kd).contains 100) ((ptsL x.kd).contains 112) ((ptsL x.kd).contains 110) ((ptsL x.kd).contains 116) ((ptsL x.kd).contains 108) ((ptsL x.kd).contains 107) ((ptsL x.kd).contains 98) ((ptsL x.kd).contains 111) (kindN x.ep) (kindN x.ds) x
theorem eqZ (x : EidV) : eqE x eidZ = isZ x := rfl
theorem eqS (x : EidV) : eqE x x = true := eqE_iff.2 rfl
theorem rf_right (x : RqV) (hk : x.kd = 1 ∨ x.kd = 2 ∨ x.kd = 3 ∨ x.kd = 4 ∨ x.kd = 5 ∨ x.kd = 6 ∨ x.kd = 7 ∨ x.kd = 8 ∨ x.kd = 9 ∨ x.kd = 10 ∨ x.kd = 11 ∨ x.kd = 12) : rfF x = rqRight x := by
  obtain ⟨id, kd, ep, ds, pol, num, tik, pay, life, tok, on⟩ := x
  dsimp only at hk
  unfold rfF rfR rqRight rqParts rqSame rqOwn isNm
  rw [kind_lt, kind_lt]
  have hp0 : ((pay.length : Int) == 0) = (pay == []) := by cases pay <;> simp; omega
  rcases hk with rfl | rfl | rfl | rfl | rfl | rfl | rfl | rfl | rfl | rfl | rfl | rfl
  all_goals
    simp only [ptsL, Int.reduceBEq, Bool.true_or, Bool.or_true, Bool.or_self, Bool.or_false, Bool.false_or, if_true, if_false, Bool.false_eq_true, List.contains_cons, List.contains_nil]
    try simp only [show ((101 : UInt8) == 101) = true from rfl, show ((101 : UInt8) == 112) = false from rfl]
    simp only [eqZ, eqS, ← hp0, beq_self_eq_true]
    clear hp0
    generalize pay.length = pl
    rw [Bool.eq_iff_iff]
    cases eRight ep <;> cases isZ ep <;> cases eRight ds <;> cases isZ ds <;> cases on
    all_goals
      simp
      try omega
end Go.Proofs.YtdhkfbolnkikgaaGreatDoor
end
/- The document's answers for requests: a kind's parts. -/
section
open Go.RowKit Go.Pl Go.Av
namespace Go.Proofs.YtdhkfbolnkikgaaGreatDoor
set_option linter.unusedVariables false
set_option linter.unusedSimpArgs false
set_option maxHeartbeats 4000000
theorem av_ptsL [Known] (k : Int) : AP Tryz.prog 35 [.int .i64 k] (.str (ptsL k)) [] := by
  rcases kcase k with rfl | rfl | rfl | rfl | rfl | rfl | rfl | rfl | rfl | rfl | rfl | rfl | ⟨n1, n2, n3, n4, n5, n6, n7, n8, n9, n10, n11, n12⟩
  all_goals
    refine AP.ofA ?_
    refine AC_of Tryz.func35 rfl Tryz.ntmps35 rfl rfl ?_
    repeat' (first | (apply AL_move; exact rfl; exact rfl) | (apply AL_assign; exact rfl; exact rfl) | (apply AL_bin; (iterate 5 exact rfl)) | refine AL_nil ?_ | refine AW_region ?_ | refine AW_seq' ?_ | (apply AW_condA; exact rfl; (first | with_reducible assumption | decide +kernel)) | (apply AW_condB; exact rfl; (first | with_reducible assumption | decide +kernel)) | refine then_norm ?_ | refine AW_block ?_ | refine AW_ret ?_ | refine then_ret ?_ | refine blk_ret ?_ | refine AW_skip ?_)
    all_goals (apply endQ []; (repeat (first | exact ResL.nil | (apply ResL.cons; first | exact .tmp _ _ rfl | (apply res_n ttok; (iterate 6 exact rfl)) | (apply res_1 ttok; (iterate 5 exact rfl))))); (iterate 4 exact rfl))
    all_goals first | rfl | (unfold ptsL; simp only [*]; rfl)
theorem av_has [Known] (s : List UInt8) (c : UInt8) (hs : s.length ≤ 1000) : AP Tryz.prog 41 [.str s, .int .u8 (c.toNat : Int)] (.bool (s.contains c)) [] := by
  refine AP.ofA ?_
  refine AC_of Tryz.func41 rfl Tryz.ntmps41 rfl rfl ?_
  repeat' (first | (apply AL_assign; exact rfl; exact rfl) | refine AL_nil ?_ | refine AW_region ?_ | refine AW_seq' ?_ | refine then_norm ?_ | refine AW_block ?_)
  refine AW_loopJ (fun k tm bx fr => ∃ i : Nat, k + i = s.length ∧ c ∉ s.take i ∧ tm = [(0, .str s), (1, .int .u8 (c.toNat : Int)), (4, .bool false), (5, .int .i64 (i : Int))] ∧ bx = [] ∧ fr = []) (s.length + 1) (Lands.mk' (m := s.length) (Nat.lt_succ_self _) ⟨0, rfl, by simp, rfl, rfl, rfl⟩ ?_ rfl rfl rfl rfl rfl rfl) ?_
  · exact .cons rfl (.cons rfl (.cons rfl (.cons rfl .nil)))
  rintro k tm bx fr ⟨i, hk, hn, rfl, rfl, rfl⟩
  rcases Nat.lt_or_ge i s.length with hlt | hge
  · have t1 : decide ((i : Int) < (s.length : Int)) = true := decide_eq_true (by omega)
    obtain ⟨d, hd⟩ : ∃ d, s[i]? = some d := ⟨_, List.getElem?_eq_getElem hlt⟩
    have hidx : s[((i : Nat) : Int).toNat]? = some d := by simpa using hd
    have ei : IntKind.i64.wrap ((i : Int) + 1) = ((i + 1 : Nat) : Int) := by rw [IntWalk.i64_in _ (by omega)]; omega
    by_cases he : d = c
    · subst he
      have t2 : ((d.toNat : Int) == (d.toNat : Int)) = true := beq_self_eq_true _
      repeat' (first | (apply AL_idxs ttok; (iterate 5 exact rfl); exact Int.natCast_nonneg _; exact hidx) | (apply AL_move; exact rfl; exact rfl) | (apply AL_assign; exact rfl; exact rfl) | (apply AL_bin; (iterate 5 exact rfl)) | refine AL_nil ?_ | refine AW_region ?_ | refine AW_seq' ?_ | (apply AW_condA; exact rfl; (first | with_reducible assumption | decide +kernel)) | refine then_norm ?_ | refine AW_block ?_ | refine AW_ret ?_ | refine then_ret ?_ | refine blk_ret ?_ | (apply AL_lens ttok; (iterate 4 exact rfl)) | refine AW_skip ?_)
      all_goals (apply endQ []; (repeat (first | exact ResL.nil | (apply ResL.cons; first | exact .tmp _ _ rfl | (apply res_n ttok; (iterate 6 exact rfl)) | (apply res_1 ttok; (iterate 5 exact rfl))))); (iterate 4 exact rfl))
      all_goals first | rfl | (rw [List.contains_iff_mem.2 (List.mem_of_getElem? hd)])
    · have t2 : ((d.toNat : Int) == (c.toNat : Int)) = false := by
        rw [beq_eq_false_iff_ne]
        intro h
        exact he (UInt8.toNat_inj.1 (by omega))
      repeat' (first | rw [ei] | (apply AL_idxs ttok; (iterate 5 exact rfl); exact Int.natCast_nonneg _; exact hidx) | (apply AL_move; exact rfl; exact rfl) | (apply AL_assign; exact rfl; exact rfl) | (apply AL_bin; (iterate 5 exact rfl)) | refine AL_nil ?_ | refine AW_region ?_ | refine AW_seq' ?_ | (apply AW_condA; exact rfl; (first | with_reducible assumption | decide +kernel)) | (apply AW_condB; exact rfl; (first | with_reducible assumption | decide +kernel)) | refine then_norm ?_ | refine AW_block ?_ | (apply AL_lens ttok; (iterate 4 exact rfl)) | refine AW_skip ?_)
      refine Lands.mk' (m := k - 1) (by omega) ⟨i + 1, by omega, ?_, rfl, rfl, rfl⟩ ?_ rfl rfl rfl rfl rfl rfl
      · rw [List.take_add_one, hd]
        intro h
        rcases List.mem_append.1 h with h | h
        · exact hn h
        · simp at h; exact he h.symm
      · exact .cons rfl (.cons rfl (.cons rfl (.cons rfl .nil)))
  · have t1 : decide ((i : Int) < (s.length : Int)) = false := decide_eq_false (by omega)
    rw [List.take_of_length_le hge] at hn
    have hc : s.contains c = false := by
      cases h : s.contains c with
      | false => rfl
      | true => exact absurd (List.contains_iff_mem.1 h) hn
    repeat' (first | (apply AL_move; exact rfl; exact rfl) | (apply AL_assign; exact rfl; exact rfl) | (apply AL_bin; (iterate 5 exact rfl)) | refine AL_nil ?_ | refine AW_region ?_ | refine AW_seq' ?_ | (apply AW_condB; exact rfl; (first | with_reducible assumption | decide +kernel)) | refine then_norm ?_ | refine AW_exit ?_ | refine AW_ret ?_ | (apply AL_lens ttok; (iterate 4 exact rfl)))
    all_goals (apply endQ []; (repeat (first | exact ResL.nil | (apply ResL.cons; first | exact .tmp _ _ rfl | (apply res_n ttok; (iterate 6 exact rfl)) | (apply res_1 ttok; (iterate 5 exact rfl))))); (iterate 4 exact rfl))
    all_goals first | rfl | (rw [hc])
theorem av_within [Known] (n m : Nat) : AP Tryz.prog 40 [.int .u64 (n : Int), .int .u64 (m : Int)] (.bool (decide ((n : Int) ≥ 1) && decide ((n : Int) ≤ (m : Int)))) [] := by
  refine AP.ofA ?_
  refine AC_of Tryz.func40 rfl Tryz.ntmps40 rfl rfl ?_
  repeat' (first | (apply AL_move; exact rfl; exact rfl) | (apply AL_assign; exact rfl; exact rfl) | (apply AL_bin; (iterate 5 exact rfl)) | refine AL_nil ?_ | (apply AL_guardT; (iterate 3 exact rfl); (first | with_reducible assumption | (guard_target =ₛ true = true; rfl) | (guard_target =ₛ false = false; rfl) | (guard_target =ₛ (!true) = false; rfl) | (guard_target =ₛ (!false) = true; rfl))) | (apply AL_guardFt; (iterate 3 exact rfl); (first | with_reducible assumption | (guard_target =ₛ true = true; rfl) | (guard_target =ₛ false = false; rfl) | (guard_target =ₛ (!true) = false; rfl) | (guard_target =ₛ (!false) = true; rfl))) | (apply AL_guardS; exact rfl; exact rfl; all_goals intro hb) | (apply AL_pickT; exact rfl; (first | with_reducible assumption | (guard_target =ₛ true = true; rfl) | (guard_target =ₛ false = false; rfl) | (guard_target =ₛ (!true) = false; rfl) | (guard_target =ₛ (!false) = true; rfl)); exact rfl; exact rfl) | (apply AL_pickF; exact rfl; (first | with_reducible assumption | (guard_target =ₛ true = true; rfl) | (guard_target =ₛ false = false; rfl) | (guard_target =ₛ (!true) = false; rfl) | (guard_target =ₛ (!false) = true; rfl)); exact rfl; exact rfl) | refine AW_region ?_ | refine AW_seq' ?_ | refine then_norm ?_ | refine AW_ret ?_)
  all_goals (apply endQ []; (repeat (first | exact ResL.nil | (apply ResL.cons; first | exact .tmp _ _ rfl | (apply res_n ttok; (iterate 6 exact rfl)) | (apply res_1 ttok; (iterate 5 exact rfl))))); (iterate 4 exact rfl))
  all_goals first | rfl | (simp only [*]; done) | (simp only [*]; rfl)
end Go.Proofs.YtdhkfbolnkikgaaGreatDoor
end
/- The document's answers for requests: which may be. -/
section
open Go.RowKit Go.Pl Go.Av
namespace Go.Proofs.YtdhkfbolnkikgaaGreatDoor
set_option linter.unusedVariables false
set_option linter.unusedSimpArgs false
set_option maxHeartbeats 4000000
theorem rt_0_all [Known] (id : Nat) (kd : Int) (ei : Bool) (en es : Nat) (eh ed : List UInt8) (di : Bool) (dn dq : Nat) (dh dd : List UInt8) (pol num tik : Int) (pay : List UInt8) (life tok : Nat) (on : Bool) (p : List UInt8) (fe fd fp fn ft fl fk fb fo : Bool) (k1 k2 : Int) (hP : AP Tryz.prog 35 [.int .i64 kd] (.str p) []) (tq : (p == [63]) = false) (hW : AP Tryz.prog 40 [.int .u64 (id : Int), .int .u64 1099511627776] (.bool true) []) (hw : (decide ((id : Int) ≥ 1) && decide ((id : Int) ≤ 1099511627776)) = true) (hfe : AP Tryz.prog 41 [.str p, .int .u8 101] (.bool fe) []) (hfd : AP Tryz.prog 41 [.str p, .int .u8 100] (.bool fd) []) (hfp : AP Tryz.prog 41 [.str p, .int .u8 112] (.bool fp) []) (hfn : AP Tryz.prog 41 [.str p, .int .u8 110] (.bool fn) []) (hft : AP Tryz.prog 41 [.str p, .int .u8 116] (.bool ft) []) (hfl : AP Tryz.prog 41 [.str p, .int .u8 108] (.bool fl) []) (hfk : AP Tryz.prog 41 [.str p, .int .u8 107] (.bool fk) []) (hfb : AP Tryz.prog 41 [.str p, .int .u8 98] (.bool fb) []) (hfo : AP Tryz.prog 41 [.str p, .int .u8 111] (.bool fo) []) (hK : AP Tryz.prog 42 [.agg [.bool ei, .int .u64 (en : Int), .int .u64 (es : Int), .str eh, .str ed]] (.int .i64 k1) []) (hL : AP Tryz.prog 42 [.agg [.bool di, .int .u64 (dn : Int), .int .u64 (dq : Int), .str dh, .str dd]] (.int .i64 k2) []) :
    (∀ (x1 : (!(fn == decide (num > 0))) = true),
    AP Tryz.prog 12 [.agg [.int .u64 (id : Int), .int .i64 kd, .bool ei, .int .u64 (en : Int), .int .u64 (es : Int), .str eh, .str ed, .bool di, .int .u64 (dn : Int), .int .u64 (dq : Int), .str dh, .str dd, .int .i64 pol, .int .i64 num, .int .i64 tik, .sl .ext (pay.map E.byte), .int .u64 (life : Int), .int .u64 (tok : Int), .bool on]] (.bool (rfR fe fd fp fn ft fl fk fb fo k1 k2 ⟨id, kd, ⟨ei, en, es, eh, ed⟩, ⟨di, dn, dq, dh, dd⟩, pol, num, tik, pay, life, tok, on⟩)) []) ∧
    (∀ (x1 : (!(fn == decide (num > 0))) = false) (x2 : decide (num > 1099511627776) = true),
    AP Tryz.prog 12 [.agg [.int .u64 (id : Int), .int .i64 kd, .bool ei, .int .u64 (en : Int), .int .u64 (es : Int), .str eh, .str ed, .bool di, .int .u64 (dn : Int), .int .u64 (dq : Int), .str dh, .str dd, .int .i64 pol, .int .i64 num, .int .i64 tik, .sl .ext (pay.map E.byte), .int .u64 (life : Int), .int .u64 (tok : Int), .bool on]] (.bool (rfR fe fd fp fn ft fl fk fb fo k1 k2 ⟨id, kd, ⟨ei, en, es, eh, ed⟩, ⟨di, dn, dq, dh, dd⟩, pol, num, tik, pay, life, tok, on⟩)) []) ∧
    (∀ (x1 : (!(fn == decide (num > 0))) = false) (x2 : decide (num > 1099511627776) = false) (x3 : (!(ft == decide (tik > 0))) = true),
    AP Tryz.prog 12 [.agg [.int .u64 (id : Int), .int .i64 kd, .bool ei, .int .u64 (en : Int), .int .u64 (es : Int), .str eh, .str ed, .bool di, .int .u64 (dn : Int), .int .u64 (dq : Int), .str dh, .str dd, .int .i64 pol, .int .i64 num, .int .i64 tik, .sl .ext (pay.map E.byte), .int .u64 (life : Int), .int .u64 (tok : Int), .bool on]] (.bool (rfR fe fd fp fn ft fl fk fb fo k1 k2 ⟨id, kd, ⟨ei, en, es, eh, ed⟩, ⟨di, dn, dq, dh, dd⟩, pol, num, tik, pay, life, tok, on⟩)) []) := by
  refine ⟨fun x1 => ?_, fun x1 x2 => ?_, fun x1 x2 x3 => ?_⟩
  all_goals
    have hbl : (pay.map E.byte).length = pay.length := List.length_map ..
    unfold rfR
    rw [hw]
    simp only [bne, Bool.true_and]

    rw [← hbl]
    first | simp only [x1, x2, x3, Bool.or_false, Bool.false_or, Bool.true_or, Bool.or_true, Bool.not_true, Bool.not_false, Bool.and_false, Bool.false_and, Bool.true_and] | simp only [x1, x2, Bool.or_false, Bool.false_or, Bool.true_or, Bool.or_true, Bool.not_true, Bool.not_false, Bool.and_false, Bool.false_and, Bool.true_and] | simp only [x1, Bool.or_false, Bool.false_or, Bool.true_or, Bool.or_true, Bool.not_true, Bool.not_false, Bool.and_false, Bool.false_and, Bool.true_and]
    refine AP.ofA ?_
    refine AC_of Tryz.func12 rfl Tryz.ntmps12 rfl rfl ?_
    repeat' (first | refine AW_join 35 (fun tm bx fr => ((fe && decide (k1 < 1)) || (!fe && !(isZ ⟨ei, en, es, eh, ed⟩))) = false ∧ tm = [(1, .ptr 0 0), (2, .bool false), (3, .str p), (4, .ptr 1 0)] ∧ bx = [[.int .u64 (id : Int), .int .i64 kd, .bool ei, .int .u64 (en : Int), .int .u64 (es : Int), .str eh, .str ed, .bool di, .int .u64 (dn : Int), .int .u64 (dq : Int), .str dh, .str dd, .int .i64 pol, .int .i64 num, .int .i64 tik, .sl .ext (pay.map E.byte), .int .u64 (life : Int), .int .u64 (tok : Int), .bool on], [.bool false, .int .u64 0, .int .u64 0, .str [], .str []]] ∧ fr = []) ?_ ?_ | (apply AL_callPw (hP); kernel_rfl; (iterate 4 exact rfl)) | (apply AL_callPw (hW); kernel_rfl; (iterate 4 exact rfl)) | (apply AL_callPw (hfe); kernel_rfl; (iterate 4 exact rfl)) | (apply AL_callPw (hK); kernel_rfl; (iterate 4 exact rfl)) | (apply AL_move; exact rfl; exact rfl) | (apply AL_assign; exact rfl; exact rfl) | (apply AL_bin; (iterate 5 exact rfl)) | (apply AL_load1 ttok; (iterate 6 exact rfl)) | (apply AL_loadn ttok; (iterate 7 exact rfl)) | (apply AL_fieldAddr ttok; (iterate 7 exact rfl)) | (apply AL_boxZ; (iterate 5 exact rfl)) | (apply AL_store ttok; (iterate 8 exact rfl)) | (apply AL_not; exact rfl; exact rfl) | refine AL_nil ?_ | (apply AL_guardT; (iterate 3 exact rfl); (first | with_reducible assumption | decide +kernel)) | (apply AL_guardFt; (iterate 3 exact rfl); (first | with_reducible assumption | decide +kernel)) | (apply AL_guardFf; (iterate 3 exact rfl); (first | with_reducible assumption | decide +kernel)) | (apply AL_guardU; (iterate 3 exact rfl)) | (apply AL_guardS; exact rfl; exact rfl; all_goals intro hb) | (apply AL_pickT; exact rfl; (first | with_reducible assumption | decide +kernel); exact rfl; exact rfl) | (apply AL_pickF; exact rfl; (first | with_reducible assumption | decide +kernel); exact rfl; exact rfl) | refine AW_region ?_ | refine AW_seq' ?_ | (apply AW_condA; exact rfl; (first | with_reducible assumption | decide +kernel)) | (apply AW_condB; exact rfl; (first | with_reducible assumption | decide +kernel)) | (apply AW_cond'; exact rfl; all_goals intro hb) | refine then_norm ?_ | refine AW_ret ?_ | refine then_ret ?_ | (apply AL_build ttok; (iterate 6 exact rfl)) | (apply AL_allocZ ttok; (iterate 4 exact rfl)) | (apply AL_str; (iterate 5 exact rfl)) | (apply AL_eqS ttok; (iterate 4 exact rfl); (kernel_rfl); (kernel_rfl); (iterate 3 exact rfl)) | refine AW_skip ?_)
    · rintro tm bx fr ⟨e1, rfl, rfl, rfl⟩
      try simp only [e1, Bool.not_false, Bool.true_and]
      repeat' (first | refine AW_join 54 (fun tm bx fr => ((fd && decide (k2 < 1)) || (!fd && !(isZ ⟨di, dn, dq, dh, dd⟩))) = false ∧ tm = [(1, .ptr 0 0), (2, .bool false), (3, .str p), (4, .ptr 1 0)] ∧ bx = [[.int .u64 (id : Int), .int .i64 kd, .bool ei, .int .u64 (en : Int), .int .u64 (es : Int), .str eh, .str ed, .bool di, .int .u64 (dn : Int), .int .u64 (dq : Int), .str dh, .str dd, .int .i64 pol, .int .i64 num, .int .i64 tik, .sl .ext (pay.map E.byte), .int .u64 (life : Int), .int .u64 (tok : Int), .bool on], [.bool false, .int .u64 0, .int .u64 0, .str [], .str []]] ∧ fr = []) ?_ ?_ | (apply AL_callPw (hfd); kernel_rfl; (iterate 4 exact rfl)) | (apply AL_callPw (hL); kernel_rfl; (iterate 4 exact rfl)) | (apply AL_move; exact rfl; exact rfl) | (apply AL_assign; exact rfl; exact rfl) | (apply AL_bin; (iterate 5 exact rfl)) | (apply AL_loadn ttok; (iterate 7 exact rfl)) | (apply AL_fieldAddr ttok; (iterate 7 exact rfl)) | (apply AL_not; exact rfl; exact rfl) | refine AL_nil ?_ | (apply AL_guardT; (iterate 3 exact rfl); (first | with_reducible assumption | decide +kernel)) | (apply AL_guardFt; (iterate 3 exact rfl); (first | with_reducible assumption | decide +kernel)) | (apply AL_guardFf; (iterate 3 exact rfl); (first | with_reducible assumption | decide +kernel)) | (apply AL_guardU; (iterate 3 exact rfl)) | (apply AL_guardS; exact rfl; exact rfl; all_goals intro hb) | (apply AL_pickT; exact rfl; (first | with_reducible assumption | decide +kernel); exact rfl; exact rfl) | (apply AL_pickF; exact rfl; (first | with_reducible assumption | decide +kernel); exact rfl; exact rfl) | refine AW_region ?_ | refine AW_seq' ?_ | (apply AW_condA; exact rfl; (first | with_reducible assumption | decide +kernel)) | (apply AW_condB; exact rfl; (first | with_reducible assumption | decide +kernel)) | (apply AW_cond'; exact rfl; all_goals intro hb) | refine then_norm ?_ | refine AW_ret ?_ | refine then_ret ?_ | (apply AL_eqS ttok; (iterate 4 exact rfl); (kernel_rfl); (kernel_rfl); (iterate 3 exact rfl)) | refine AW_skip ?_)
      · rintro tm bx fr ⟨e2, rfl, rfl, rfl⟩
        try simp only [e2, Bool.not_false, Bool.true_and]
        repeat' (first | refine AW_join 82 (fun tm bx fr => (decide (pol < 0) || (decide (pol > 2) || ((!fp && !(pol == 0)) || (decide (num < 0) || decide (tik < 0))))) = false ∧ tm = [(1, .ptr 0 0), (2, .bool false), (3, .str p), (4, .ptr 1 0)] ∧ bx = [[.int .u64 (id : Int), .int .i64 kd, .bool ei, .int .u64 (en : Int), .int .u64 (es : Int), .str eh, .str ed, .bool di, .int .u64 (dn : Int), .int .u64 (dq : Int), .str dh, .str dd, .int .i64 pol, .int .i64 num, .int .i64 tik, .sl .ext (pay.map E.byte), .int .u64 (life : Int), .int .u64 (tok : Int), .bool on], [.bool false, .int .u64 0, .int .u64 0, .str [], .str []]] ∧ fr = []) ?_ ?_ | (apply AL_callPw (hfp); kernel_rfl; (iterate 4 exact rfl)) | (apply AL_move; exact rfl; exact rfl) | (apply AL_assign; exact rfl; exact rfl) | (apply AL_bin; (iterate 5 exact rfl)) | (apply AL_load1 ttok; (iterate 6 exact rfl)) | (apply AL_fieldAddr ttok; (iterate 7 exact rfl)) | (apply AL_not; exact rfl; exact rfl) | refine AL_nil ?_ | (apply AL_guardT; (iterate 3 exact rfl); (first | with_reducible assumption | decide +kernel)) | (apply AL_guardFt; (iterate 3 exact rfl); (first | with_reducible assumption | decide +kernel)) | (apply AL_guardFf; (iterate 3 exact rfl); (first | with_reducible assumption | decide +kernel)) | (apply AL_guardU; (iterate 3 exact rfl)) | (apply AL_guardS; exact rfl; exact rfl; all_goals intro hb) | (apply AL_pickT; exact rfl; (first | with_reducible assumption | decide +kernel); exact rfl; exact rfl) | (apply AL_pickF; exact rfl; (first | with_reducible assumption | decide +kernel); exact rfl; exact rfl) | refine AW_region ?_ | refine AW_seq' ?_ | (apply AW_condA; exact rfl; (first | with_reducible assumption | decide +kernel)) | (apply AW_cond'; exact rfl; all_goals intro hb) | refine then_norm ?_ | refine AW_ret ?_ | refine then_ret ?_ | refine AW_skip ?_)
        · rintro tm bx fr ⟨e3, rfl, rfl, rfl⟩
          try simp only [e3, Bool.not_false, Bool.true_and]
          repeat' (first | (apply AL_callPw (hfn); kernel_rfl; (iterate 4 exact rfl)) | (apply AL_callPw (hft); kernel_rfl; (iterate 4 exact rfl)) | (apply AL_move; exact rfl; exact rfl) | (apply AL_assign; exact rfl; exact rfl) | (apply AL_bin; (iterate 5 exact rfl)) | (apply AL_load1 ttok; (iterate 6 exact rfl)) | (apply AL_fieldAddr ttok; (iterate 7 exact rfl)) | refine AL_nil ?_ | (apply AL_guardT; (iterate 3 exact rfl); (first | with_reducible assumption | decide +kernel)) | (apply AL_guardFf; (iterate 3 exact rfl); (first | with_reducible assumption | decide +kernel)) | (apply AL_pickT; exact rfl; (first | with_reducible assumption | decide +kernel); exact rfl; exact rfl) | (apply AL_pickF; exact rfl; (first | with_reducible assumption | decide +kernel); exact rfl; exact rfl) | refine AW_region ?_ | refine AW_seq' ?_ | (apply AW_condA; exact rfl; (first | with_reducible assumption | decide +kernel)) | refine then_norm ?_ | refine AW_ret ?_ | refine then_ret ?_ | (apply AL_beq ttok; (iterate 6 exact rfl)) | (apply AW_drawE 17 hmix; (decide +kernel); (kernel_rfl); (kernel_rfl); (kernel_rfl); exact rfl; exact rfl) | (apply AE_consZ; (iterate 4 exact rfl)) | exact AE.nil _ _ _ _ | (apply AEk_puT; exact rfl) | (apply AOt_mk; exact rfl; exact rfl; (decide +kernel); exact rfl) | (apply AO_puT; exact rfl) | exact AO.nil _ _ _ | (apply AOs_skip; (decide +kernel)) | exact AOs.nil | exact qY_ok rfl rfl)
          all_goals first | (refine Lands.mk' (m := 0) (by decide) ⟨by clear hP hW hfe hfd hfp hfn hft hfl hfk hfb hfo hK hL; simp_all [isZ], rfl, rfl, rfl⟩ ?_ rfl rfl rfl rfl rfl rfl; exact .cons rfl (.cons rfl (.cons rfl (.cons rfl .nil))); done) | (((apply endQ []; (repeat (first | exact ResL.nil | (apply ResL.cons; first | exact .tmp _ _ rfl | (apply res_n ttok; (iterate 6 exact rfl)) | (apply res_1 ttok; (iterate 5 exact rfl))))); (iterate 4 exact rfl))) <;> (first | rfl | (simp [isZ, *]; done) | (clear hP hW hfe hfd hfp hfn hft hfl hfk hfb hfo hK hL; simp_all [isZ]; done) | (clear hP hW hfe hfd hfp hfn hft hfl hfk hfb hfo hK hL; simp_all [isZ]; omega) | (clear hP hW hfe hfd hfp hfn hft hfl hfk hfb hfo hK hL; simp_all [isZ]; intros; exfalso; first | omega | (simp_all; done))))
        all_goals first | (refine Lands.mk' (m := 0) (by decide) ⟨by clear hP hW hfe hfd hfp hfn hft hfl hfk hfb hfo hK hL; simp_all [isZ], rfl, rfl, rfl⟩ ?_ rfl rfl rfl rfl rfl rfl; exact .cons rfl (.cons rfl (.cons rfl (.cons rfl .nil))); done) | (((apply endQ []; (repeat (first | exact ResL.nil | (apply ResL.cons; first | exact .tmp _ _ rfl | (apply res_n ttok; (iterate 6 exact rfl)) | (apply res_1 ttok; (iterate 5 exact rfl))))); (iterate 4 exact rfl))) <;> (first | rfl | (simp [isZ, *]; done) | (clear hP hW hfe hfd hfp hfn hft hfl hfk hfb hfo hK hL; simp_all [isZ]; done) | (clear hP hW hfe hfd hfp hfn hft hfl hfk hfb hfo hK hL; simp_all [isZ]; omega) | (clear hP hW hfe hfd hfp hfn hft hfl hfk hfb hfo hK hL; simp_all [isZ]; intros; exfalso; first | omega | (simp_all; done))))
      all_goals first | (refine Lands.mk' (m := 0) (by decide) ⟨by clear hP hW hfe hfd hfp hfn hft hfl hfk hfb hfo hK hL; simp_all [isZ], rfl, rfl, rfl⟩ ?_ rfl rfl rfl rfl rfl rfl; exact .cons rfl (.cons rfl (.cons rfl (.cons rfl .nil))); done) | (((apply endQ []; (repeat (first | exact ResL.nil | (apply ResL.cons; first | exact .tmp _ _ rfl | (apply res_n ttok; (iterate 6 exact rfl)) | (apply res_1 ttok; (iterate 5 exact rfl))))); (iterate 4 exact rfl))) <;> (first | rfl | (simp [isZ, *]; done) | (clear hP hW hfe hfd hfp hfn hft hfl hfk hfb hfo hK hL; simp_all [isZ]; done) | (clear hP hW hfe hfd hfp hfn hft hfl hfk hfb hfo hK hL; simp_all [isZ]; omega) | (clear hP hW hfe hfd hfp hfn hft hfl hfk hfb hfo hK hL; simp_all [isZ]; intros; exfalso; first | omega | (simp_all; done))))
    all_goals first | (refine Lands.mk' (m := 0) (by decide) ⟨by clear hP hW hfe hfd hfp hfn hft hfl hfk hfb hfo hK hL; simp_all [isZ], rfl, rfl, rfl⟩ ?_ rfl rfl rfl rfl rfl rfl; exact .cons rfl (.cons rfl (.cons rfl (.cons rfl .nil))); done) | (((apply endQ []; (repeat (first | exact ResL.nil | (apply ResL.cons; first | exact .tmp _ _ rfl | (apply res_n ttok; (iterate 6 exact rfl)) | (apply res_1 ttok; (iterate 5 exact rfl))))); (iterate 4 exact rfl))) <;> (first | rfl | (simp [isZ, *]; done) | (clear hP hW hfe hfd hfp hfn hft hfl hfk hfb hfo hK hL; simp_all [isZ]; done) | (clear hP hW hfe hfd hfp hfn hft hfl hfk hfb hfo hK hL; simp_all [isZ]; omega) | (clear hP hW hfe hfd hfp hfn hft hfl hfk hfb hfo hK hL; simp_all [isZ]; intros; exfalso; first | omega | (simp_all; done))))
end Go.Proofs.YtdhkfbolnkikgaaGreatDoor
end
