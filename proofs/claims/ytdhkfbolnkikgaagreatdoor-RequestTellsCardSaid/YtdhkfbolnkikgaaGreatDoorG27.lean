/- The document's fields: numbers and texts as bytes. -/
import Derived.Test.YtdhkfbolnkikgaaGreatDoorG11
import Derived.Test.YtdhkfbolnkikgaaGreatDoorG18
section
open Go.RowKit Go.Pl Go.Av
namespace Go.Proofs.YtdhkfbolnkikgaaGreatDoor
set_option linter.unusedVariables false
set_option linter.unusedSimpArgs false
set_option maxHeartbeats 4000000
theorem w_hi (m : Nat) : IntKind.u8.wrap (IntKind.u64.wrap (128 + ((m : Int)).tmod 128)) = ((UInt8.ofNat (m % 128 + 128)).toNat : Int) := by
  have hm : ((m : Int)).tmod 128 = ((m % 128 : Nat) : Int) := by rw [Int.tmod_eq_emod_of_nonneg (by omega)]; omega
  have hc : (UInt8.ofNat (m % 128 + 128)).toNat = m % 128 + 128 := by rw [UInt8.toNat_ofNat']; omega
  rw [hm, IntWalk.u64_in _ (by omega), hc, IntKind.wrap_u8]
  omega
theorem av_rfNum [Known] (n : Nat) (hn : n < 18446744073709551616) : AP Tryz.prog 43 [.int .u64 (n : Int)] (byE (vn n)) [] := by
  refine AP.ofA ?_
  refine AC_of Tryz.func43 rfl Tryz.ntmps43 rfl rfl ?_
  repeat' (first | (apply AL_assign; exact rfl; exact rfl) | refine AL_nil ?_ | refine AW_region ?_ | refine AW_seq' ?_ | refine AW_block ?_)
  refine AW_loopJ (fun k tm bx fr => ∃ (m c : Nat) (M : List UInt8) (K : List E), K = M.map E.byte ∧ c = K.length ∧ m < 18446744073709551616 ∧ k ≤ 9 ∧ m < 128 ^ (k + 1) ∧ M ++ vnF k m = vn n ∧ bx = [] ∧ ((M = [] ∧ tm = [(0, .int .u64 (m : Int)), (2, .sl .nil []), (3, .sl .nil [])] ∧ fr = []) ∨ (tm = [(0, .int .u64 (m : Int)), (2, .sl .nil []), (3, .sl (.own 1) K)] ∧ fr = [⟨1, 1, 5⟩, ⟨c, 1, 5⟩]))) 10 (Lands.mk' (m := 9) (by omega) ⟨n, 0, [], [], rfl, rfl, hn, Nat.le_refl _, Nat.lt_of_lt_of_le hn (by decide), rfl, rfl, .inl ⟨rfl, rfl, rfl⟩⟩ ?_ rfl rfl rfl rfl rfl rfl) ?_
  · exact .cons rfl (.cons rfl (.cons rfl .nil))
  rintro k tm bx fr ⟨m, c, M, K, hK, hc, hm, hk, hmk, hM, rfl, ⟨rfl, rfl, rfl⟩ | ⟨rfl, rfl⟩⟩
  all_goals
    have e1 : ((m : Int)).tdiv 128 = ((m / 128 : Nat) : Int) := by rw [Int.tdiv_eq_ediv_of_nonneg (by omega)]; omega
    have e2 : IntKind.u64.wrap ((m / 128 : Nat) : Int) = ((m / 128 : Nat) : Int) := IntWalk.u64_in _ (by omega)
    have e0 := w_hi m
  · obtain rfl : K = [] := hK
    subst hc
    rcases Nat.lt_or_ge 127 m with hgt | hle
    · have t1 : decide ((m : Int) > 127) = true := decide_eq_true (by omega)
      cases k with
      | zero => exfalso; simp at hmk; omega
      | succ k =>
        rw [vnF, if_pos hgt] at hM
        repeat' (first | rw [e0] | rw [e1] | rw [e2] | (apply AL_append_nilZ ttok; (iterate 6 exact rfl); exact uniB_ok rfl; exact List.cons_ne_nil _ _; exact rfl; decide +kernel; decide +kernel; (iterate 3 exact rfl)) | (apply AL_move; exact rfl; exact rfl) | (apply AL_assign; exact rfl; exact rfl) | (apply AL_bin; (iterate 5 exact rfl)) | (apply AL_convT ttok; (iterate 5 exact rfl)) | refine AL_nil ?_ | refine AW_region ?_ | refine AW_seq' ?_ | (apply AW_condA; exact rfl; (first | with_reducible assumption | decide +kernel)) | refine then_norm ?_ | refine blk_norm ?_ | refine AW_block ?_ | (apply AL_bsZ ttok; (iterate 12 exact rfl)) | refine AW_skip ?_ | (apply AL_quo; exact rfl; exact rfl; (first | (exact (by decide)) | with_reducible assumption | decide +kernel | rotate_left); exact rfl) | (apply AL_rem; exact rfl; exact rfl; (first | (exact (by decide)) | with_reducible assumption | decide +kernel | rotate_left); exact rfl))
        refine Lands.mk' (m := k) (by omega) ⟨m / 128, 1, [UInt8.ofNat (m % 128 + 128)], [E.byte (UInt8.ofNat (m % 128 + 128))], rfl, rfl, by omega, by omega, by rw [Nat.pow_succ] at hmk; omega, by rw [List.nil_append] at hM; exact hM, rfl, .inr ⟨rfl, rfl⟩⟩ ?_ rfl rfl rfl rfl rfl rfl
        exact .cons rfl (.cons rfl (.cons rfl .nil))
    · have t1 : decide ((m : Int) > 127) = false := decide_eq_false (by omega)
      have hv : vnF k m = [UInt8.ofNat m] := by
        cases k with
        | zero => rfl
        | succ k => rw [vnF, if_neg (by omega)]
      have hF : [E.int .u8 (IntKind.u8.wrap (m : Int))] = (vn n).map E.byte := by
        rw [byE_low m (by omega), ← hM, hv]; rfl
      repeat' (first | (apply AL_append_nilZ ttok; (iterate 6 exact rfl); exact uniB_ok rfl; exact List.cons_ne_nil _ _; exact rfl; decide +kernel; decide +kernel; (iterate 3 exact rfl)) | (apply AL_move; exact rfl; exact rfl) | (apply AL_assign; exact rfl; exact rfl) | (apply AL_bin; (iterate 5 exact rfl)) | (apply AL_convT ttok; (iterate 5 exact rfl)) | refine AL_nil ?_ | refine AW_region ?_ | refine AW_seq' ?_ | (apply AW_condB; exact rfl; (first | with_reducible assumption | decide +kernel)) | refine then_norm ?_ | refine AW_exit ?_ | refine AW_ret ?_ | (apply AL_bsZ ttok; (iterate 12 exact rfl)))
      all_goals (apply endQ []; (repeat (first | exact ResL.nil | (apply ResL.cons; first | exact .tmp _ _ rfl | (apply res_n ttok; (iterate 6 exact rfl)) | (apply res_1 ttok; (iterate 5 exact rfl))))); (iterate 4 exact rfl))
      all_goals first | rfl | exact congrArg (fun l => D.sl .ext l) hF
  · have hU : Uni 1 K := hK ▸ uniB1 M
    have hKl : K.length = M.length := by rw [hK, List.length_map]
    have hMl : M.length ≤ 1000 := by
      have := congrArg List.length hM
      have h1 := vnF_len 9 n
      rw [List.length_append, vn] at this
      omega
    subst hc
    rcases Nat.lt_or_ge 127 m with hgt | hle
    · have t1 : decide ((m : Int) > 127) = true := decide_eq_true (by omega)
      cases k with
      | zero => exfalso; simp at hmk; omega
      | succ k =>
        rw [vnF, if_pos hgt] at hM
        repeat' (first | rw [e0] | rw [e1] | rw [e2] | (apply AL_move; exact rfl; exact rfl) | (apply AL_assign; exact rfl; exact rfl) | (apply AL_bin; (iterate 5 exact rfl)) | (apply AL_convT ttok; (iterate 5 exact rfl)) | refine AL_nil ?_ | refine AW_region ?_ | refine AW_seq' ?_ | (apply AW_condA; exact rfl; (first | with_reducible assumption | decide +kernel)) | refine then_norm ?_ | refine blk_norm ?_ | refine AW_block ?_ | (apply AL_bsZ ttok; (iterate 12 exact rfl)) | refine AW_skip ?_ | (apply AL_append ttok; (iterate 6 exact rfl); (first | with_reducible assumption | decide +kernel | exact rfl | rotate_left); exact rfl; exact rfl; (first | exact uniB_ok rfl | with_reducible assumption | decide +kernel | rotate_left); (first | exact uniB_ok rfl | with_reducible assumption | decide +kernel | rotate_left); (first | exact List.cons_ne_nil _ _ | with_reducible assumption | decide +kernel | rotate_left); (first | with_reducible assumption | decide +kernel | rotate_left); (first | with_reducible assumption | decide +kernel | rotate_left); exact rfl; exact rfl) | (apply AL_quo; exact rfl; exact rfl; (first | (exact (by decide)) | with_reducible assumption | decide +kernel | rotate_left); exact rfl) | (apply AL_rem; exact rfl; exact rfl; (first | (exact (by decide)) | with_reducible assumption | decide +kernel | rotate_left); exact rfl))
        · refine Lands.mk' (m := k) (by omega) ⟨m / 128, K.length + 1, M ++ [UInt8.ofNat (m % 128 + 128)], K ++ [E.byte (UInt8.ofNat (m % 128 + 128))], by rw [hK, app_map], by simp, by omega, by omega, by rw [Nat.pow_succ] at hmk; omega, by rw [List.append_assoc]; exact hM, rfl, .inr ⟨rfl, rfl⟩⟩ ?_ rfl rfl rfl rfl rfl rfl
          exact .cons rfl (.cons rfl (.cons rfl .nil))
        all_goals first | decide | (simp only [List.length_cons, List.length_nil] at *; (try unfold maxLen); omega)
    · have t1 : decide ((m : Int) > 127) = false := decide_eq_false (by omega)
      have hv : vnF k m = [UInt8.ofNat m] := by
        cases k with
        | zero => rfl
        | succ k => rw [vnF, if_neg (by omega)]
      have hF : K ++ [E.int .u8 (IntKind.u8.wrap (m : Int))] = (vn n).map E.byte := by
        rw [byE_low m (by omega), hK, app_map, ← hv, hM]
      repeat' (first | (apply AL_move; exact rfl; exact rfl) | (apply AL_assign; exact rfl; exact rfl) | (apply AL_bin; (iterate 5 exact rfl)) | (apply AL_convT ttok; (iterate 5 exact rfl)) | refine AL_nil ?_ | refine AW_region ?_ | refine AW_seq' ?_ | (apply AW_condB; exact rfl; (first | with_reducible assumption | decide +kernel)) | refine then_norm ?_ | refine AW_exit ?_ | refine AW_ret ?_ | (apply AL_bsZ ttok; (iterate 12 exact rfl)) | (apply AL_append ttok; (iterate 6 exact rfl); (first | with_reducible assumption | decide +kernel | exact rfl | rotate_left); exact rfl; exact rfl; (first | exact uniB_ok rfl | with_reducible assumption | decide +kernel | rotate_left); (first | exact uniB_ok rfl | with_reducible assumption | decide +kernel | rotate_left); (first | exact List.cons_ne_nil _ _ | with_reducible assumption | decide +kernel | rotate_left); (first | with_reducible assumption | decide +kernel | rotate_left); (first | with_reducible assumption | decide +kernel | rotate_left); exact rfl; exact rfl))
      all_goals first | (apply endQ []; (repeat (first | exact ResL.nil | (apply ResL.cons; first | exact .tmp _ _ rfl | (apply res_n ttok; (iterate 6 exact rfl)) | (apply res_1 ttok; (iterate 5 exact rfl))))); (iterate 4 exact rfl)) | (simp only [List.length_cons, List.length_nil] at *; (try unfold maxLen); omega)
      all_goals first | rfl | exact congrArg (fun l => D.sl .ext l) hF
end Go.Proofs.YtdhkfbolnkikgaaGreatDoor
end
/- The document's fields: a number as bytes, in a row of its own. -/
section
open Go.RowKit Go.Pl Go.Av
namespace Go.Proofs.YtdhkfbolnkikgaaGreatDoor
set_option linter.unusedVariables false
set_option linter.unusedSimpArgs false
set_option maxHeartbeats 4000000
theorem av_rfNumT [Known] (n : Nat) (hn : n < 18446744073709551616) : AT Tryz.prog 43 [.int .u64 (n : Int)] [] [] (.sl (.own 0) ((vn n).map E.byte)) [] [⟨(vn n).length, 1, 5⟩] := by
  refine AC_of Tryz.func43 rfl Tryz.ntmps43 rfl rfl ?_
  repeat' (first | (apply AL_assign; exact rfl; exact rfl) | refine AL_nil ?_ | refine AW_region ?_ | refine AW_seq' ?_ | refine AW_block ?_)
  refine AW_loopJ (fun k tm bx fr => ∃ (m c : Nat) (M : List UInt8) (K : List E), K = M.map E.byte ∧ c = K.length ∧ m < 18446744073709551616 ∧ k ≤ 9 ∧ m < 128 ^ (k + 1) ∧ M ++ vnF k m = vn n ∧ bx = [] ∧ ((M = [] ∧ tm = [(0, .int .u64 (m : Int)), (2, .sl .nil []), (3, .sl .nil [])] ∧ fr = []) ∨ (tm = [(0, .int .u64 (m : Int)), (2, .sl .nil []), (3, .sl (.own 1) K)] ∧ fr = [⟨1, 1, 5⟩, ⟨c, 1, 5⟩]))) 10 (Lands.mk' (m := 9) (by omega) ⟨n, 0, [], [], rfl, rfl, hn, Nat.le_refl _, Nat.lt_of_lt_of_le hn (by decide), rfl, rfl, .inl ⟨rfl, rfl, rfl⟩⟩ ?_ rfl rfl rfl rfl rfl rfl) ?_
  · exact .cons rfl (.cons rfl (.cons rfl .nil))
  rintro k tm bx fr ⟨m, c, M, K, hK, hc, hm, hk, hmk, hM, rfl, ⟨rfl, rfl, rfl⟩ | ⟨rfl, rfl⟩⟩
  all_goals
    have e1 : ((m : Int)).tdiv 128 = ((m / 128 : Nat) : Int) := by rw [Int.tdiv_eq_ediv_of_nonneg (by omega)]; omega
    have e2 : IntKind.u64.wrap ((m / 128 : Nat) : Int) = ((m / 128 : Nat) : Int) := IntWalk.u64_in _ (by omega)
    have e0 := w_hi m
  · obtain rfl : K = [] := hK
    subst hc
    rcases Nat.lt_or_ge 127 m with hgt | hle
    · have t1 : decide ((m : Int) > 127) = true := decide_eq_true (by omega)
      cases k with
      | zero => exfalso; simp at hmk; omega
      | succ k =>
        rw [vnF, if_pos hgt] at hM
        repeat' (first | rw [e0] | rw [e1] | rw [e2] | (apply AL_append_nilZ ttok; (iterate 6 exact rfl); exact uniB_ok rfl; exact List.cons_ne_nil _ _; exact rfl; decide +kernel; decide +kernel; (iterate 3 exact rfl)) | (apply AL_move; exact rfl; exact rfl) | (apply AL_assign; exact rfl; exact rfl) | (apply AL_bin; (iterate 5 exact rfl)) | (apply AL_convT ttok; (iterate 5 exact rfl)) | refine AL_nil ?_ | refine AW_region ?_ | refine AW_seq' ?_ | (apply AW_condA; exact rfl; (first | with_reducible assumption | decide +kernel)) | refine then_norm ?_ | refine blk_norm ?_ | refine AW_block ?_ | (apply AL_bsZ ttok; (iterate 12 exact rfl)) | refine AW_skip ?_ | (apply AL_quo; exact rfl; exact rfl; (first | (exact (by decide)) | with_reducible assumption | decide +kernel | rotate_left); exact rfl) | (apply AL_rem; exact rfl; exact rfl; (first | (exact (by decide)) | with_reducible assumption | decide +kernel | rotate_left); exact rfl))
        refine Lands.mk' (m := k) (by omega) ⟨m / 128, 1, [UInt8.ofNat (m % 128 + 128)], [E.byte (UInt8.ofNat (m % 128 + 128))], rfl, rfl, by omega, by omega, by rw [Nat.pow_succ] at hmk; omega, by rw [List.nil_append] at hM; exact hM, rfl, .inr ⟨rfl, rfl⟩⟩ ?_ rfl rfl rfl rfl rfl rfl
        exact .cons rfl (.cons rfl (.cons rfl .nil))
    · have t1 : decide ((m : Int) > 127) = false := decide_eq_false (by omega)
      have hv : vnF k m = [UInt8.ofNat m] := by
        cases k with
        | zero => rfl
        | succ k => rw [vnF, if_neg (by omega)]
      have hF : [E.int .u8 (IntKind.u8.wrap (m : Int))] = (vn n).map E.byte := by
        rw [byE_low m (by omega), ← hM, hv]; rfl
      have hFl : 1 = (vn n).length := by
        have := congrArg List.length hF
        simpa using this
      repeat' (first | (apply AL_append_nilZ ttok; (iterate 6 exact rfl); exact uniB_ok rfl; exact List.cons_ne_nil _ _; exact rfl; decide +kernel; decide +kernel; (iterate 3 exact rfl)) | (apply AL_move; exact rfl; exact rfl) | (apply AL_assign; exact rfl; exact rfl) | (apply AL_bin; (iterate 5 exact rfl)) | (apply AL_convT ttok; (iterate 5 exact rfl)) | refine AL_nil ?_ | refine AW_region ?_ | refine AW_seq' ?_ | (apply AW_condB; exact rfl; (first | with_reducible assumption | decide +kernel)) | refine then_norm ?_ | refine AW_exit ?_ | refine AW_ret ?_ | (apply AL_bsZ ttok; (iterate 12 exact rfl)))
      all_goals (apply endT [] [1]; (repeat (first | exact ResL.nil | (apply ResL.cons; first | exact .tmp _ _ rfl | (apply res_n ttok; (iterate 6 exact rfl)) | (apply res_1 ttok; (iterate 5 exact rfl))))); (iterate 7 exact rfl))
      all_goals first | rfl | exact congrArg (fun l => D.sl (.own 0) l) hF | exact congrArg (fun c => [(⟨c, 1, 5⟩ : Fr)]) hFl
  · have hU : Uni 1 K := hK ▸ uniB1 M
    have hKl : K.length = M.length := by rw [hK, List.length_map]
    have hMl : M.length ≤ 1000 := by
      have := congrArg List.length hM
      have h1 := vnF_len 9 n
      rw [List.length_append, vn] at this
      omega
    subst hc
    rcases Nat.lt_or_ge 127 m with hgt | hle
    · have t1 : decide ((m : Int) > 127) = true := decide_eq_true (by omega)
      cases k with
      | zero => exfalso; simp at hmk; omega
      | succ k =>
        rw [vnF, if_pos hgt] at hM
        repeat' (first | rw [e0] | rw [e1] | rw [e2] | (apply AL_move; exact rfl; exact rfl) | (apply AL_assign; exact rfl; exact rfl) | (apply AL_bin; (iterate 5 exact rfl)) | (apply AL_convT ttok; (iterate 5 exact rfl)) | refine AL_nil ?_ | refine AW_region ?_ | refine AW_seq' ?_ | (apply AW_condA; exact rfl; (first | with_reducible assumption | decide +kernel)) | refine then_norm ?_ | refine blk_norm ?_ | refine AW_block ?_ | (apply AL_bsZ ttok; (iterate 12 exact rfl)) | refine AW_skip ?_ | (apply AL_append ttok; (iterate 6 exact rfl); (first | with_reducible assumption | decide +kernel | exact rfl | rotate_left); exact rfl; exact rfl; (first | exact uniB_ok rfl | with_reducible assumption | decide +kernel | rotate_left); (first | exact uniB_ok rfl | with_reducible assumption | decide +kernel | rotate_left); (first | exact List.cons_ne_nil _ _ | with_reducible assumption | decide +kernel | rotate_left); (first | with_reducible assumption | decide +kernel | rotate_left); (first | with_reducible assumption | decide +kernel | rotate_left); exact rfl; exact rfl) | (apply AL_quo; exact rfl; exact rfl; (first | (exact (by decide)) | with_reducible assumption | decide +kernel | rotate_left); exact rfl) | (apply AL_rem; exact rfl; exact rfl; (first | (exact (by decide)) | with_reducible assumption | decide +kernel | rotate_left); exact rfl))
        · refine Lands.mk' (m := k) (by omega) ⟨m / 128, K.length + 1, M ++ [UInt8.ofNat (m % 128 + 128)], K ++ [E.byte (UInt8.ofNat (m % 128 + 128))], by rw [hK, app_map], by simp, by omega, by omega, by rw [Nat.pow_succ] at hmk; omega, by rw [List.append_assoc]; exact hM, rfl, .inr ⟨rfl, rfl⟩⟩ ?_ rfl rfl rfl rfl rfl rfl
          exact .cons rfl (.cons rfl (.cons rfl .nil))
        all_goals first | decide | (simp only [List.length_cons, List.length_nil] at *; (try unfold maxLen); omega)
    · have t1 : decide ((m : Int) > 127) = false := decide_eq_false (by omega)
      have hv : vnF k m = [UInt8.ofNat m] := by
        cases k with
        | zero => rfl
        | succ k => rw [vnF, if_neg (by omega)]
      have hF : K ++ [E.int .u8 (IntKind.u8.wrap (m : Int))] = (vn n).map E.byte := by
        rw [byE_low m (by omega), hK, app_map, ← hv, hM]
      have hFl : K.length + 1 = (vn n).length := by
        have := congrArg List.length hF
        simpa using this
      repeat' (first | (apply AL_move; exact rfl; exact rfl) | (apply AL_assign; exact rfl; exact rfl) | (apply AL_bin; (iterate 5 exact rfl)) | (apply AL_convT ttok; (iterate 5 exact rfl)) | refine AL_nil ?_ | refine AW_region ?_ | refine AW_seq' ?_ | (apply AW_condB; exact rfl; (first | with_reducible assumption | decide +kernel)) | refine then_norm ?_ | refine AW_exit ?_ | refine AW_ret ?_ | (apply AL_bsZ ttok; (iterate 12 exact rfl)) | (apply AL_append ttok; (iterate 6 exact rfl); (first | with_reducible assumption | decide +kernel | exact rfl | rotate_left); exact rfl; exact rfl; (first | exact uniB_ok rfl | with_reducible assumption | decide +kernel | rotate_left); (first | exact uniB_ok rfl | with_reducible assumption | decide +kernel | rotate_left); (first | exact List.cons_ne_nil _ _ | with_reducible assumption | decide +kernel | rotate_left); (first | with_reducible assumption | decide +kernel | rotate_left); (first | with_reducible assumption | decide +kernel | rotate_left); exact rfl; exact rfl))
      all_goals first | (apply endT [] [1]; (repeat (first | exact ResL.nil | (apply ResL.cons; first | exact .tmp _ _ rfl | (apply res_n ttok; (iterate 6 exact rfl)) | (apply res_1 ttok; (iterate 5 exact rfl))))); (iterate 7 exact rfl)) | (simp only [List.length_cons, List.length_nil] at *; (try unfold maxLen); omega)
      all_goals first | rfl | exact congrArg (fun l => D.sl (.own 0) l) hF | exact congrArg (fun c => [(⟨c, 1, 5⟩ : Fr)]) hFl
end Go.Proofs.YtdhkfbolnkikgaaGreatDoor
end
/- The document's fields: a reader's numbers. -/
section
open Go.RowKit Go.Pl Go.Av
namespace Go.Proofs.YtdhkfbolnkikgaaGreatDoor
set_option linter.unusedVariables false
set_option linter.unusedSimpArgs false
set_option maxHeartbeats 4000000
/-- may one more byte belong to a number? -/
def fitB (i c : Nat) : Bool := decide ((i : Int) < 9) || (((i : Int) == 9) && decide ((c : Int) < 2))
theorem av_fits [Known] (i : Nat) (c : UInt8) : AP Tryz.prog 51 [.int .i64 (i : Int), .int .u8 (c.toNat : Int)] (.bool (fitB i c.toNat)) [] := by
  unfold fitB
  cases t1 : decide ((i : Int) < 9) with
  | true =>
    refine AP.ofA ?_
    refine AC_of Tryz.func51 rfl Tryz.ntmps51 rfl rfl ?_
    repeat' (first | (apply AL_move; exact rfl; exact rfl) | (apply AL_assign; exact rfl; exact rfl) | (apply AL_bin; (iterate 5 exact rfl)) | refine AL_nil ?_ | (apply AL_guardFf; (iterate 3 exact rfl); (first | with_reducible assumption | decide +kernel)) | (apply AL_guardU; (iterate 3 exact rfl)) | (apply AL_pickT; exact rfl; (first | with_reducible assumption | decide +kernel); exact rfl; exact rfl) | refine AW_region ?_ | refine AW_seq' ?_ | refine then_norm ?_ | refine AW_ret ?_)
    all_goals (apply endQ []; (repeat (first | exact ResL.nil | (apply ResL.cons; first | exact .tmp _ _ rfl | (apply res_n ttok; (iterate 6 exact rfl)) | (apply res_1 ttok; (iterate 5 exact rfl))))); (iterate 4 exact rfl))
    all_goals rfl
  | false =>
    cases t2 : ((i : Int) == 9)
    all_goals
      refine AP.ofA ?_
      refine AC_of Tryz.func51 rfl Tryz.ntmps51 rfl rfl ?_
      repeat' (first | (apply AL_move; exact rfl; exact rfl) | (apply AL_assign; exact rfl; exact rfl) | (apply AL_bin; (iterate 5 exact rfl)) | refine AL_nil ?_ | (apply AL_guardT; (iterate 3 exact rfl); (first | with_reducible assumption | decide +kernel)) | (apply AL_guardFt; (iterate 3 exact rfl); (first | with_reducible assumption | decide +kernel)) | (apply AL_pickT; exact rfl; (first | with_reducible assumption | decide +kernel); exact rfl; exact rfl) | (apply AL_pickF; exact rfl; (first | with_reducible assumption | decide +kernel); exact rfl; exact rfl) | refine AW_region ?_ | refine AW_seq' ?_ | refine then_norm ?_ | refine AW_ret ?_)
      all_goals (apply endQ []; (repeat (first | exact ResL.nil | (apply ResL.cons; first | exact .tmp _ _ rfl | (apply res_n ttok; (iterate 6 exact rfl)) | (apply res_1 ttok; (iterate 5 exact rfl))))); (iterate 4 exact rfl))
      all_goals rfl
theorem rnF_suf : ∀ (b : List UInt8) (i a : Nat), ∃ k, k ≤ b.length ∧ (rnF b i a).2.2 = b.drop k
  | [], _, _ => ⟨0, by simp, by simp [rnF]⟩
  | c :: r, i, a => by
    rw [rnF]
    split
    · exact ⟨1, by simp, rfl⟩
    · split
      · exact ⟨1, by simp, rfl⟩
      · obtain ⟨k, h1, h2⟩ := rnF_suf r (i + 1) (a + c.toNat % 128 * 2 ^ (7 * i))
        exact ⟨k + 1, by simp; omega, h2⟩
/-- the document's reader: all bytes, the place, the fault -/
abbrev rfD (B : List UInt8) (a e : Nat) : List (List D) := [[byE B, .int .i64 (a : Int), .int .i64 (e : Int)]]
theorem av_rfrNum [Known] (B : List UInt8) (a e : Nat) (ha : a ≤ B.length) (hB : B.length ≤ 1000000) : AQ Tryz.prog 33 [.ptr 0 0] (rfD B a e) (.int .u64 ((numS (e, B.drop a)).1 : Int)) (rfD B (B.length - (numS (e, B.drop a)).2.2.length) (numS (e, B.drop a)).2.1) := by
  unfold numS
  have hBl : (B.map E.byte).length = B.length := List.length_map ..
  have hU := uniB1 B
  cases t : (e : Int) == 0 with
  | false =>
    have t1 : ((e : Int) != 0) = true := by rw [bne, t]; rfl
    dsimp only
    have ea : B.length - (B.drop a).length = a := by rw [List.length_drop]; omega
    rw [ea]
    refine AQ.weak ?_
    refine AC_of Tryz.func33 rfl Tryz.ntmps33 rfl rfl ?_
    repeat' (first | (apply AL_move; exact rfl; exact rfl) | (apply AL_assign; exact rfl; exact rfl) | (apply AL_bin; (iterate 5 exact rfl)) | (apply AL_load1 ttok; (iterate 6 exact rfl)) | (apply AL_fieldAddr ttok; (iterate 7 exact rfl)) | (apply AL_nilCheck; exact rfl; exact rfl) | refine AL_nil ?_ | refine AW_region ?_ | refine AW_seq' ?_ | (apply AW_condA; exact rfl; (first | with_reducible assumption | decide +kernel)) | refine then_norm ?_ | refine AW_ret ?_ | refine then_ret ?_)
    all_goals (apply endQ [0]; (repeat (first | exact ResL.nil | (apply ResL.cons; first | exact .tmp _ _ rfl | (apply res_n ttok; (iterate 6 exact rfl)) | (apply res_1 ttok; (iterate 5 exact rfl))))); (iterate 4 exact rfl))
    all_goals rfl
  | true =>
    obtain rfl : e = 0 := by simpa using t
    clear t
    dsimp only
    generalize hR : rnF (B.drop a) 0 0 = R
    obtain ⟨R1, R2, R3⟩ := R
    dsimp only
    refine AQ.weak ?_
    refine AC_of Tryz.func33 rfl Tryz.ntmps33 rfl rfl ?_
    repeat' (first | (apply AL_move; exact rfl; exact rfl) | (apply AL_assign; exact rfl; exact rfl) | (apply AL_bin; (iterate 5 exact rfl)) | (apply AL_load1 ttok; (iterate 6 exact rfl)) | (apply AL_fieldAddr ttok; (iterate 7 exact rfl)) | (apply AL_nilCheck; exact rfl; exact rfl) | refine AL_nil ?_ | refine AW_region ?_ | refine AW_seq' ?_ | (apply AW_condB; exact rfl; (first | with_reducible assumption | decide +kernel)) | refine then_norm ?_ | refine AW_block ?_ | refine AW_skip ?_)
    refine AW_loopJ (fun k tm bx fr => ∃ (i v p w : Nat), k + p = B.length ∧ p ≤ B.length ∧ v < 2 ^ (7 * i) ∧ i ≤ 10 ∧ (i ≤ 9 → w = 2 ^ (7 * i)) ∧ w < 18446744073709551616 ∧ rnF (B.drop p) i v = (R1, R2, R3) ∧ tm = [(0, .ptr 0 0), (2, .int .u64 0), (3, .int .u64 (v : Int)), (4, .int .u64 (w : Int)), (5, .int .i64 (i : Int))] ∧ bx = [[byE B, .int .i64 (p : Int), .int .i64 0]] ∧ fr = []) (B.length + 1) (Lands.mk' (m := B.length - a) (by omega) ⟨0, 0, a, 1, by omega, ha, by decide, by omega, fun _ => rfl, by omega, hR, rfl, rfl, rfl⟩ ?_ rfl rfl rfl rfl rfl rfl) ?_
    · exact .cons rfl (.cons rfl (.cons rfl (.cons rfl (.cons rfl .nil))))
    rintro k tm bx fr ⟨i, v, p, w, hk, hp, hv, hi, hw, hw2, hr, rfl, rfl, rfl⟩
    rcases Nat.lt_or_ge p B.length with hlt | hge
    · have t2 : decide ((p : Int) ≥ ((B.map E.byte).length : Int)) = false := decide_eq_false (by omega)
      obtain ⟨c, hc⟩ : ∃ c, B[p]? = some c := ⟨_, List.getElem?_eq_getElem hlt⟩
      have hidx : (B.map E.byte)[((p : Nat) : Int).toNat]? = some (E.byte c) := by
        rw [Int.toNat_natCast, List.getElem?_map, hc]; rfl
      have hdr : B.drop p = c :: B.drop (p + 1) := by
        rw [List.drop_eq_getElem_cons hlt]; congr 1
        exact (List.getElem?_eq_some_iff.1 hc).2
      have hF := av_fits i c
      have ep : IntKind.i64.wrap ((p : Int) + 1) = ((p + 1 : Nat) : Int) := by rw [IntWalk.i64_in _ (by omega)]; omega
      have el : B.length - (B.drop (p + 1)).length = p + 1 := by rw [List.length_drop]; omega
      rw [hdr, rnF] at hr
      have hcl := c.toNat_lt
      by_cases hbad : i = 10 ∨ (i = 9 ∧ c.toNat > 1) ∨ (c.toNat = 0 ∧ i > 0)
      · rw [if_pos hbad] at hr
        cases hr
        rw [el]
        by_cases hf : fitB i c.toNat = true
        · have h0 : c.toNat = 0 ∧ i > 0 := by
            unfold fitB at hf
            simp only [Bool.or_eq_true, Bool.and_eq_true, decide_eq_true_eq, beq_iff_eq] at hf
            omega
          rw [hf] at hF
          have z4 : ((c.toNat : Int) == 0) = true := by simp; omega
          have z5 : decide ((i : Int) > 0) = true := decide_eq_true (by omega)
          repeat' (first | rw [ep] | (apply AL_callPw (hF); kernel_rfl; (iterate 4 exact rfl)) | (apply AL_move; exact rfl; exact rfl) | (apply AL_assign; exact rfl; exact rfl) | (apply AL_bin; (iterate 5 exact rfl)) | (apply AL_load1 ttok; (iterate 6 exact rfl)) | (apply AL_fieldAddr ttok; (iterate 7 exact rfl)) | (apply AL_nilCheck; exact rfl; exact rfl) | (apply AL_store ttok; (iterate 8 exact rfl)) | (apply AL_not; exact rfl; exact rfl) | refine AL_nil ?_ | (apply AL_guardT; (iterate 3 exact rfl); (first | with_reducible assumption | decide +kernel)) | (apply AL_pickT; exact rfl; (first | with_reducible assumption | decide +kernel); exact rfl; exact rfl) | (apply AL_pickF; exact rfl; (first | with_reducible assumption | decide +kernel); exact rfl; exact rfl) | refine AW_region ?_ | refine AW_seq' ?_ | (apply AW_condA; exact rfl; (first | with_reducible assumption | decide +kernel)) | (apply AW_condB; exact rfl; (first | with_reducible assumption | decide +kernel)) | refine then_norm ?_ | refine AW_block ?_ | refine AW_ret ?_ | refine then_ret ?_ | refine blk_ret ?_ | (apply AL_len ttok; (iterate 4 exact rfl)) | (apply AL_eload1 ttok; (iterate 6 exact rfl)) | (apply AW_drawE 8 hmix; (decide +kernel); (kernel_rfl); (kernel_rfl); (kernel_rfl); exact rfl; exact rfl) | (apply AW_drawE 9 hmix; (decide +kernel); (kernel_rfl); (kernel_rfl); (kernel_rfl); exact rfl; exact rfl) | (apply AE_consZ; (iterate 4 exact rfl)) | exact AE.nil _ _ _ _ | (apply AEk_puT; exact rfl) | (apply AOt_mk; exact rfl; exact rfl; (decide +kernel); exact rfl) | (apply AO_puT; exact rfl) | exact AO.nil _ _ _ | (apply AOs_skip; (decide +kernel)) | exact AOs.nil | exact qY_ok rfl rfl | refine AW_skip ?_ | (apply AL_idx ttok; (iterate 6 exact rfl); (first | with_reducible assumption | decide +kernel | exact Int.natCast_nonneg _ | (guard_target = (0:Int) ≤ (OfNat.ofNat _ : Int); decide) | rotate_left); (first | with_reducible assumption | decide +kernel | exact rfl); (first | exact uniB_ok rfl | with_reducible assumption | decide +kernel | rotate_left)))
          all_goals (apply endQ [0]; (repeat (first | exact ResL.nil | (apply ResL.cons; first | exact .tmp _ _ rfl | (apply res_n ttok; (iterate 6 exact rfl)) | (apply res_1 ttok; (iterate 5 exact rfl))))); (iterate 4 exact rfl))
          all_goals rfl
        · have hf : fitB i c.toNat = false := by simpa using hf
          rw [hf] at hF
          repeat' (first | rw [ep] | (apply AL_callPw (hF); kernel_rfl; (iterate 4 exact rfl)) | (apply AL_move; exact rfl; exact rfl) | (apply AL_assign; exact rfl; exact rfl) | (apply AL_bin; (iterate 5 exact rfl)) | (apply AL_load1 ttok; (iterate 6 exact rfl)) | (apply AL_fieldAddr ttok; (iterate 7 exact rfl)) | (apply AL_nilCheck; exact rfl; exact rfl) | (apply AL_store ttok; (iterate 8 exact rfl)) | (apply AL_not; exact rfl; exact rfl) | refine AL_nil ?_ | (apply AL_guardFf; (iterate 3 exact rfl); (first | with_reducible assumption | decide +kernel)) | (apply AL_guardU; (iterate 3 exact rfl)) | (apply AL_pickT; exact rfl; (first | with_reducible assumption | decide +kernel); exact rfl; exact rfl) | refine AW_region ?_ | refine AW_seq' ?_ | (apply AW_condA; exact rfl; (first | with_reducible assumption | decide +kernel)) | (apply AW_condB; exact rfl; (first | with_reducible assumption | decide +kernel)) | refine then_norm ?_ | refine AW_block ?_ | refine AW_ret ?_ | refine then_ret ?_ | refine blk_ret ?_ | (apply AL_len ttok; (iterate 4 exact rfl)) | (apply AL_eload1 ttok; (iterate 6 exact rfl)) | (apply AW_drawE 8 hmix; (decide +kernel); (kernel_rfl); (kernel_rfl); (kernel_rfl); exact rfl; exact rfl) | (apply AW_drawE 9 hmix; (decide +kernel); (kernel_rfl); (kernel_rfl); (kernel_rfl); exact rfl; exact rfl) | (apply AE_consZ; (iterate 4 exact rfl)) | exact AE.nil _ _ _ _ | (apply AEk_puT; exact rfl) | (apply AOt_mk; exact rfl; exact rfl; (decide +kernel); exact rfl) | (apply AO_puT; exact rfl) | exact AO.nil _ _ _ | (apply AOs_skip; (decide +kernel)) | exact AOs.nil | exact qY_ok rfl rfl | refine AW_skip ?_ | (apply AL_idx ttok; (iterate 6 exact rfl); (first | with_reducible assumption | decide +kernel | exact Int.natCast_nonneg _ | (guard_target = (0:Int) ≤ (OfNat.ofNat _ : Int); decide) | rotate_left); (first | with_reducible assumption | decide +kernel | exact rfl); (first | exact uniB_ok rfl | with_reducible assumption | decide +kernel | rotate_left)))
          all_goals (apply endQ [0]; (repeat (first | exact ResL.nil | (apply ResL.cons; first | exact .tmp _ _ rfl | (apply res_n ttok; (iterate 6 exact rfl)) | (apply res_1 ttok; (iterate 5 exact rfl))))); (iterate 4 exact rfl))
          all_goals rfl
      · rw [if_neg hbad] at hr
        have hf : fitB i c.toNat = true := by
          unfold fitB
          simp only [Bool.or_eq_true, Bool.and_eq_true, decide_eq_true_eq, beq_iff_eq]
          omega
        rw [hf] at hF
        have hw := hw (by omega)
        subst hw
        have h9 : i = 9 → c.toNat ≤ 1 := by omega
        have hpow : 2 ^ (7 * (i + 1)) = 128 * 2 ^ (7 * i) := by rw [Nat.mul_add, Nat.pow_add, Nat.mul_comm]
        have hlt2 : c.toNat % 128 * 2 ^ (7 * i) < 18446744073709551616 ∧ v + c.toNat % 128 * 2 ^ (7 * i) < 18446744073709551616 := by
          rcases Nat.lt_or_ge i 9 with h8 | h8
          · have h1 : 2 ^ (7 * i) ≤ 2 ^ 56 := Nat.pow_le_pow_right (by decide) (by omega)
            have h2 : c.toNat % 128 * 2 ^ (7 * i) ≤ 127 * 2 ^ 56 := Nat.mul_le_mul (by omega) h1
            omega
          · obtain rfl : i = 9 := by omega
            have := h9 rfl
            have h2 : v < 9223372036854775808 := hv
            have h3 : c.toNat % 128 * 9223372036854775808 ≤ 9223372036854775808 := by
              have : c.toNat % 128 ≤ 1 := by omega
              omega
            have e : 2 ^ (7 * 9) = 9223372036854775808 := by decide
            rw [e]
            omega
        have e1 : IntKind.u64.wrap (((c.toNat : Int)).tmod 128) = ((c.toNat % 128 : Nat) : Int) := by
          have hm : ((c.toNat : Int)).tmod 128 = ((c.toNat % 128 : Nat) : Int) := by rw [Int.tmod_eq_emod_of_nonneg (by omega)]; omega
          rw [hm, IntWalk.u64_in _ (by omega)]
        have e2 : IntKind.u64.wrap (((2 ^ (7 * i) : Nat) : Int) * ((c.toNat % 128 : Nat) : Int)) = ((c.toNat % 128 * 2 ^ (7 * i) : Nat) : Int) := by
          have e : (((2 ^ (7 * i) : Nat) : Int) * ((c.toNat % 128 : Nat) : Int)) = ((c.toNat % 128 * 2 ^ (7 * i) : Nat) : Int) := by rw [Nat.mul_comm (c.toNat % 128) (2 ^ (7 * i)), Int.natCast_mul]
          rw [e, IntWalk.u64_in _ (by omega)]
        have e3 : IntKind.u64.wrap ((v : Int) + ((c.toNat % 128 * 2 ^ (7 * i) : Nat) : Int)) = ((v + c.toNat % 128 * 2 ^ (7 * i) : Nat) : Int) := by
          rw [IntWalk.u64_in _ (by omega)]; omega
        obtain ⟨w', e4, hw3, hw4⟩ : ∃ w' : Nat, IntKind.u64.wrap (((2 ^ (7 * i) : Nat) : Int) * 128) = (w' : Int) ∧ w' < 18446744073709551616 ∧ (i ≤ 8 → w' = 2 ^ (7 * (i + 1))) := by
          refine ⟨2 ^ (7 * i) * 128 % 18446744073709551616, ?_, Nat.mod_lt _ (by decide), fun h8 => ?_⟩
          · rw [IntKind.wrap_u64]; omega
          · have h1 : 2 ^ (7 * i) ≤ 2 ^ 56 := Nat.pow_le_pow_right (by decide) (by omega)
            rw [Nat.mod_eq_of_lt (by omega), hpow, Nat.mul_comm]
        have hv2 : v + c.toNat % 128 * 2 ^ (7 * i) < 2 ^ (7 * (i + 1)) := by
          rw [hpow]
          have : c.toNat % 128 * 2 ^ (7 * i) ≤ 127 * 2 ^ (7 * i) := Nat.mul_le_mul_right _ (by omega)
          omega
        have ei : IntKind.i64.wrap ((i : Int) + 1) = ((i + 1 : Nat) : Int) := by rw [IntWalk.i64_in _ (by omega)]; omega
        generalize v + c.toNat % 128 * 2 ^ (7 * i) = v2 at *
        generalize hqq : c.toNat % 128 * 2 ^ (7 * i) = q2 at *
        generalize 2 ^ (7 * i) = w at *
        by_cases h128 : c.toNat < 128
        · have z6 : decide ((c.toNat : Int) < 128) = true := decide_eq_true (by omega)
          rw [if_pos h128] at hr
          cases hr
          rw [el]
          by_cases h0 : c.toNat = 0
          · have z4 : ((c.toNat : Int) == 0) = true := by simp; omega
            have z5 : decide ((i : Int) > 0) = false := decide_eq_false (by omega)
            repeat' (first | rw [ep] | rw [e1] | rw [e2] | rw [e3] | rw [e4] | (apply AL_callPw (hF); kernel_rfl; (iterate 4 exact rfl)) | (apply AL_move; exact rfl; exact rfl) | (apply AL_assign; exact rfl; exact rfl) | (apply AL_bin; (iterate 5 exact rfl)) | (apply AL_load1 ttok; (iterate 6 exact rfl)) | (apply AL_fieldAddr ttok; (iterate 7 exact rfl)) | (apply AL_nilCheck; exact rfl; exact rfl) | (apply AL_store ttok; (iterate 8 exact rfl)) | (apply AL_not; exact rfl; exact rfl) | (apply AL_convT ttok; (iterate 5 exact rfl)) | refine AL_nil ?_ | (apply AL_guardT; (iterate 3 exact rfl); (first | with_reducible assumption | decide +kernel)) | (apply AL_pickT; exact rfl; (first | with_reducible assumption | decide +kernel); exact rfl; exact rfl) | (apply AL_pickF; exact rfl; (first | with_reducible assumption | decide +kernel); exact rfl; exact rfl) | refine AW_region ?_ | refine AW_seq' ?_ | (apply AW_condA; exact rfl; (first | with_reducible assumption | decide +kernel)) | (apply AW_condB; exact rfl; (first | with_reducible assumption | decide +kernel)) | refine then_norm ?_ | refine AW_block ?_ | refine AW_ret ?_ | refine then_ret ?_ | refine blk_ret ?_ | (apply AL_len ttok; (iterate 4 exact rfl)) | (apply AL_eload1 ttok; (iterate 6 exact rfl)) | (apply AW_drawE 8 hmix; (decide +kernel); (kernel_rfl); (kernel_rfl); (kernel_rfl); exact rfl; exact rfl) | (apply AW_drawE 9 hmix; (decide +kernel); (kernel_rfl); (kernel_rfl); (kernel_rfl); exact rfl; exact rfl) | (apply AE_consZ; (iterate 4 exact rfl)) | exact AE.nil _ _ _ _ | (apply AEk_puT; exact rfl) | (apply AOt_mk; exact rfl; exact rfl; (decide +kernel); exact rfl) | (apply AO_puT; exact rfl) | exact AO.nil _ _ _ | (apply AOs_skip; (decide +kernel)) | exact AOs.nil | exact qY_ok rfl rfl | refine AW_skip ?_ | (apply AL_idx ttok; (iterate 6 exact rfl); (first | with_reducible assumption | decide +kernel | exact Int.natCast_nonneg _ | (guard_target = (0:Int) ≤ (OfNat.ofNat _ : Int); decide) | rotate_left); (first | with_reducible assumption | decide +kernel | exact rfl); (first | exact uniB_ok rfl | with_reducible assumption | decide +kernel | rotate_left)) | (apply AL_rem; exact rfl; exact rfl; (first | (exact (by decide)) | with_reducible assumption | decide +kernel | rotate_left); exact rfl))
            all_goals (apply endQ [0]; (repeat (first | exact ResL.nil | (apply ResL.cons; first | exact .tmp _ _ rfl | (apply res_n ttok; (iterate 6 exact rfl)) | (apply res_1 ttok; (iterate 5 exact rfl))))); (iterate 4 exact rfl))
            all_goals rfl
          · have z4 : ((c.toNat : Int) == 0) = false := by simp; omega
            repeat' (first | rw [ep] | rw [e1] | rw [e2] | rw [e3] | rw [e4] | (apply AL_callPw (hF); kernel_rfl; (iterate 4 exact rfl)) | (apply AL_move; exact rfl; exact rfl) | (apply AL_assign; exact rfl; exact rfl) | (apply AL_bin; (iterate 5 exact rfl)) | (apply AL_load1 ttok; (iterate 6 exact rfl)) | (apply AL_fieldAddr ttok; (iterate 7 exact rfl)) | (apply AL_nilCheck; exact rfl; exact rfl) | (apply AL_store ttok; (iterate 8 exact rfl)) | (apply AL_not; exact rfl; exact rfl) | (apply AL_convT ttok; (iterate 5 exact rfl)) | refine AL_nil ?_ | (apply AL_guardT; (iterate 3 exact rfl); (first | with_reducible assumption | decide +kernel)) | (apply AL_guardFt; (iterate 3 exact rfl); (first | with_reducible assumption | decide +kernel)) | (apply AL_pickF; exact rfl; (first | with_reducible assumption | decide +kernel); exact rfl; exact rfl) | refine AW_region ?_ | refine AW_seq' ?_ | (apply AW_condA; exact rfl; (first | with_reducible assumption | decide +kernel)) | (apply AW_condB; exact rfl; (first | with_reducible assumption | decide +kernel)) | refine then_norm ?_ | refine AW_block ?_ | refine AW_ret ?_ | refine then_ret ?_ | refine blk_ret ?_ | (apply AL_len ttok; (iterate 4 exact rfl)) | (apply AL_eload1 ttok; (iterate 6 exact rfl)) | (apply AW_drawE 8 hmix; (decide +kernel); (kernel_rfl); (kernel_rfl); (kernel_rfl); exact rfl; exact rfl) | (apply AW_drawE 9 hmix; (decide +kernel); (kernel_rfl); (kernel_rfl); (kernel_rfl); exact rfl; exact rfl) | (apply AE_consZ; (iterate 4 exact rfl)) | exact AE.nil _ _ _ _ | (apply AEk_puT; exact rfl) | (apply AOt_mk; exact rfl; exact rfl; (decide +kernel); exact rfl) | (apply AO_puT; exact rfl) | exact AO.nil _ _ _ | (apply AOs_skip; (decide +kernel)) | exact AOs.nil | exact qY_ok rfl rfl | refine AW_skip ?_ | (apply AL_idx ttok; (iterate 6 exact rfl); (first | with_reducible assumption | decide +kernel | exact Int.natCast_nonneg _ | (guard_target = (0:Int) ≤ (OfNat.ofNat _ : Int); decide) | rotate_left); (first | with_reducible assumption | decide +kernel | exact rfl); (first | exact uniB_ok rfl | with_reducible assumption | decide +kernel | rotate_left)) | (apply AL_rem; exact rfl; exact rfl; (first | (exact (by decide)) | with_reducible assumption | decide +kernel | rotate_left); exact rfl))
            all_goals (apply endQ [0]; (repeat (first | exact ResL.nil | (apply ResL.cons; first | exact .tmp _ _ rfl | (apply res_n ttok; (iterate 6 exact rfl)) | (apply res_1 ttok; (iterate 5 exact rfl))))); (iterate 4 exact rfl))
            all_goals rfl
        · have z6 : decide ((c.toNat : Int) < 128) = false := decide_eq_false (by omega)
          have z4 : ((c.toNat : Int) == 0) = false := by simp; omega
          rw [if_neg h128] at hr
          repeat' (first | rw [ep] | rw [e1] | rw [e2] | rw [e3] | rw [e4] | rw [ei] | (apply AL_callPw (hF); kernel_rfl; (iterate 4 exact rfl)) | (apply AL_move; exact rfl; exact rfl) | (apply AL_assign; exact rfl; exact rfl) | (apply AL_bin; (iterate 5 exact rfl)) | (apply AL_load1 ttok; (iterate 6 exact rfl)) | (apply AL_fieldAddr ttok; (iterate 7 exact rfl)) | (apply AL_nilCheck; exact rfl; exact rfl) | (apply AL_store ttok; (iterate 8 exact rfl)) | (apply AL_not; exact rfl; exact rfl) | (apply AL_convT ttok; (iterate 5 exact rfl)) | refine AL_nil ?_ | (apply AL_guardT; (iterate 3 exact rfl); (first | with_reducible assumption | decide +kernel)) | (apply AL_guardFt; (iterate 3 exact rfl); (first | with_reducible assumption | decide +kernel)) | (apply AL_pickF; exact rfl; (first | with_reducible assumption | decide +kernel); exact rfl; exact rfl) | refine AW_region ?_ | refine AW_seq' ?_ | (apply AW_condB; exact rfl; (first | with_reducible assumption | decide +kernel)) | refine then_norm ?_ | refine AW_block ?_ | (apply AL_len ttok; (iterate 4 exact rfl)) | (apply AL_eload1 ttok; (iterate 6 exact rfl)) | (apply AW_drawE 8 hmix; (decide +kernel); (kernel_rfl); (kernel_rfl); (kernel_rfl); exact rfl; exact rfl) | (apply AW_drawE 9 hmix; (decide +kernel); (kernel_rfl); (kernel_rfl); (kernel_rfl); exact rfl; exact rfl) | (apply AE_consZ; (iterate 4 exact rfl)) | exact AE.nil _ _ _ _ | (apply AEk_puT; exact rfl) | (apply AOt_mk; exact rfl; exact rfl; (decide +kernel); exact rfl) | (apply AO_puT; exact rfl) | exact AO.nil _ _ _ | (apply AOs_skip; (decide +kernel)) | exact AOs.nil | exact qY_ok rfl rfl | refine AW_skip ?_ | (apply AL_idx ttok; (iterate 6 exact rfl); (first | with_reducible assumption | decide +kernel | exact Int.natCast_nonneg _ | (guard_target = (0:Int) ≤ (OfNat.ofNat _ : Int); decide) | rotate_left); (first | with_reducible assumption | decide +kernel | exact rfl); (first | exact uniB_ok rfl | with_reducible assumption | decide +kernel | rotate_left)) | (apply AL_rem; exact rfl; exact rfl; (first | (exact (by decide)) | with_reducible assumption | decide +kernel | rotate_left); exact rfl))
          refine Lands.mk' (m := k - 1) (by omega) ⟨i + 1, v2, p + 1, w', by omega, by omega, hv2, by omega, fun h => hw4 (by omega), hw3, hr, rfl, rfl, rfl⟩ ?_ rfl rfl rfl rfl rfl rfl
          exact .cons rfl (.cons rfl (.cons rfl (.cons rfl (.cons rfl .nil))))
    · obtain rfl : p = B.length := by omega
      have t2 : decide (((B.length : Nat) : Int) ≥ ((B.map E.byte).length : Int)) = true := decide_eq_true (by omega)
      rw [List.drop_length, rnF] at hr
      cases hr
      repeat' (first | (apply AL_move; exact rfl; exact rfl) | (apply AL_assign; exact rfl; exact rfl) | (apply AL_bin; (iterate 5 exact rfl)) | (apply AL_load1 ttok; (iterate 6 exact rfl)) | (apply AL_fieldAddr ttok; (iterate 7 exact rfl)) | (apply AL_nilCheck; exact rfl; exact rfl) | (apply AL_store ttok; (iterate 8 exact rfl)) | refine AL_nil ?_ | refine AW_region ?_ | refine AW_seq' ?_ | (apply AW_condA; exact rfl; (first | with_reducible assumption | decide +kernel)) | refine then_norm ?_ | refine AW_block ?_ | refine AW_ret ?_ | refine then_ret ?_ | refine blk_ret ?_ | (apply AL_len ttok; (iterate 4 exact rfl)) | (apply AW_drawE 9 hmix; (decide +kernel); (kernel_rfl); (kernel_rfl); (kernel_rfl); exact rfl; exact rfl) | (apply AE_consZ; (iterate 4 exact rfl)) | exact AE.nil _ _ _ _ | (apply AEk_puT; exact rfl) | (apply AOt_mk; exact rfl; exact rfl; (decide +kernel); exact rfl) | (apply AO_puT; exact rfl) | exact AO.nil _ _ _ | (apply AOs_skip; (decide +kernel)) | exact AOs.nil | exact qY_ok rfl rfl)
      all_goals (apply endQ [0]; (repeat (first | exact ResL.nil | (apply ResL.cons; first | exact .tmp _ _ rfl | (apply res_n ttok; (iterate 6 exact rfl)) | (apply res_1 ttok; (iterate 5 exact rfl))))); (iterate 4 exact rfl))
      all_goals rfl
end Go.Proofs.YtdhkfbolnkikgaaGreatDoor
end
