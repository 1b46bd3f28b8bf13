/- Package fields: a writer. -/
import Derived.Test.YtnihobjehelagaaDoorG12
section
open Go.RowKit Go.Pl Go.Av
namespace Go.Proofs.YtnihobjehelagaaDoor
set_option linter.unusedVariables false
set_option linter.unusedSimpArgs false
set_option maxHeartbeats 4000000
/-- a writer's cells, and its row -/
abbrev wrC (L : List UInt8) : List (List D) := [[.bool true, .sl (.own 0) (L.map E.byte)]]
abbrev wrF (L : List UInt8) : List Fr := [⟨L.length, 1, 5⟩]
theorem byE_or (n : Nat) : E.int .u8 (bits .or .u8 (IntKind.u8.wrap (n : Int)) 128) = E.byte (UInt8.ofNat (n % 128 + 128)) := congrArg (E.int .u8) (w_or n)
theorem byE_low (n : Nat) (h : n < 256) : E.int .u8 (IntKind.u8.wrap (n : Int)) = E.byte (UInt8.ofNat n) := congrArg (E.int .u8) (by rw [w_low, UInt8.toNat_ofNat'])
theorem app_map (M : List UInt8) (c : UInt8) : M.map E.byte ++ [E.byte c] = (M ++ [c]).map E.byte := by simp
theorem av_wNum [Known] (L : List UInt8) (n : Nat) (hn : n < 18446744073709551616) (hL : L.length ≤ 1099511627776) : AT Tryd.prog 81 [.ptr 0 0, .int .u64 (n : Int)] (wrC L) (wrF L) (.ptr 0 0) (wrC (L ++ vn n)) (wrF (L ++ vn n)) := by
  refine AC_of Tryd.func81 rfl Tryd.ntmps81 rfl rfl ?_
  have hl0 : (L.map E.byte).length = L.length := List.length_map ..
  repeat' (first | (apply AL_move; exact rfl; exact rfl) | (apply AL_assign; exact rfl; exact rfl) | (apply AL_load1 ttok; (iterate 6 exact rfl)) | (apply AL_fieldAddr ttok; (iterate 7 exact rfl)) | (apply AL_nilCheck; exact rfl; exact rfl) | (apply AL_not; exact rfl; exact rfl) | refine AL_nil ?_ | (apply AL_guardT; (iterate 3 exact rfl); (first | with_reducible assumption | decide +kernel)) | (apply AL_pickF; exact rfl; (first | with_reducible assumption | decide +kernel); exact rfl; exact rfl) | refine AW_region ?_ | refine AW_seq' ?_ | (apply AW_condB; exact rfl; (first | with_reducible assumption | decide +kernel)) | refine AW_block ?_ | (apply AL_nilp ttok; (iterate 6 exact rfl)) | refine AW_skip ?_)
  refine AW_loopJ (fun k tm bx fr => ∃ (m c : Nat) (M : List UInt8) (K : List E), K = M.map E.byte ∧ c = K.length ∧ m < 18446744073709551616 ∧ k ≤ 9 ∧ m < 128 ^ (k + 1) ∧ M ++ vnF k m = L ++ vn n ∧ tm = [(0, .ptr 0 0), (1, .int .u64 (m : Int)), (4, .nilp)] ∧ bx = [[.bool true, .sl (.own 0) K]] ∧ fr = [⟨c, 1, 5⟩]) 10 (Lands.mk' (m := 9) (by omega) ⟨n, L.length, L, L.map E.byte, rfl, by simp, hn, Nat.le_refl _, Nat.lt_of_lt_of_le hn (by decide), rfl, rfl, rfl, rfl⟩ ?_ rfl rfl rfl rfl rfl rfl) ?_
  · exact .cons rfl (.cons rfl (.cons rfl .nil))
  rintro k tm bx fr ⟨m, c, M, K, hK, hc, hm, hk, hmk, hM, rfl, rfl, rfl⟩
  have hU : Uni 1 K := hK ▸ uniB1 M
  have hKl : K.length = M.length := by rw [hK, List.length_map]
  have hMl : M.length ≤ 1099511627800 := by
    have := congrArg List.length hM
    have h1 := vnF_len 9 n
    rw [List.length_append, List.length_append, vn] at this
    omega
  subst hc
  have ho := byE_or m
  rcases Nat.lt_or_ge 127 m with hgt | hle
  · have t1 : decide ((m : Int) > 127) = true := decide_eq_true (by omega)
    cases k with
    | zero => exfalso; simp at hmk; omega
    | succ k =>
      rw [vnF, if_pos hgt] at hM
      repeat' (first | rw [w_or] | (apply AL_shr; exact rfl; exact rfl; rotate_left; exact rfl) | rw [shr7] | (apply AL_move; exact rfl; exact rfl) | (apply AL_assign; exact rfl; exact rfl) | (apply AL_bin; (iterate 5 exact rfl)) | (apply AL_load1 ttok; (iterate 6 exact rfl)) | (apply AL_fieldAddr ttok; (iterate 7 exact rfl)) | (apply AL_nilCheck; exact rfl; exact rfl) | (apply AL_store ttok; (iterate 8 exact rfl)) | (apply AL_convT ttok; (iterate 5 exact rfl)) | refine AL_nil ?_ | refine AW_region ?_ | refine AW_seq' ?_ | (apply AW_condA; exact rfl; (first | with_reducible assumption | decide +kernel)) | refine then_norm ?_ | refine blk_norm ?_ | refine AW_block ?_ | (apply AL_bsZ ttok; (iterate 12 exact rfl)) | refine AW_skip ?_ | (apply AL_append ttok; (iterate 6 exact rfl); (first | with_reducible assumption | decide +kernel | exact rfl | rotate_left); exact rfl; exact rfl; (first | exact uniB_ok rfl | with_reducible assumption | decide +kernel | rotate_left); (first | exact uniB_ok rfl | with_reducible assumption | decide +kernel | rotate_left); (first | exact List.cons_ne_nil _ _ | with_reducible assumption | decide +kernel | rotate_left); (first | with_reducible assumption | decide +kernel | rotate_left); (first | with_reducible assumption | decide +kernel | rotate_left); exact rfl; exact rfl))
      · refine Lands.mk' (m := k) (by omega) ⟨m / 128, K.length + 1, M ++ [UInt8.ofNat (m % 128 + 128)], K ++ [E.byte (UInt8.ofNat (m % 128 + 128))], by rw [hK, app_map], by simp, by omega, by omega, by rw [Nat.pow_succ] at hmk; omega, by rw [List.append_assoc]; exact hM, rfl, rfl, rfl⟩ ?_ rfl rfl rfl rfl rfl rfl
        exact .cons rfl (.cons rfl (.cons rfl .nil))
      all_goals first | decide | (first | rfl | (simp only [List.length_append, List.length_cons, List.length_nil, List.length_map]; done) | (simp only [List.length_append, List.length_cons, List.length_nil, List.length_map] at *; (try unfold maxLen); (try simp only [Nat.add_mul]); omega))
  · have t1 : decide ((m : Int) > 127) = false := decide_eq_false (by omega)
    have hv : vnF k m = [UInt8.ofNat m] := by
      cases k with
      | zero => rfl
      | succ k => rw [vnF, if_neg (by omega)]
    have hF : K ++ [E.int .u8 (IntKind.u8.wrap (m : Int))] = (L ++ vn n).map E.byte := by
      rw [byE_low m (by omega), hK, app_map, ← hv, hM]
    have hFl : K.length + 1 = (L ++ vn n).length := by
      have := congrArg List.length hF
      simpa using this
    repeat' (first | (apply AL_move; exact rfl; exact rfl) | (apply AL_assign; exact rfl; exact rfl) | (apply AL_bin; (iterate 5 exact rfl)) | (apply AL_load1 ttok; (iterate 6 exact rfl)) | (apply AL_fieldAddr ttok; (iterate 7 exact rfl)) | (apply AL_nilCheck; exact rfl; exact rfl) | (apply AL_store ttok; (iterate 8 exact rfl)) | (apply AL_convT ttok; (iterate 5 exact rfl)) | refine AL_nil ?_ | refine AW_region ?_ | refine AW_seq' ?_ | (apply AW_condB; exact rfl; (first | with_reducible assumption | decide +kernel)) | refine then_norm ?_ | refine AW_exit ?_ | refine AW_ret ?_ | (apply AL_bsZ ttok; (iterate 12 exact rfl)) | (apply AL_append ttok; (iterate 6 exact rfl); (first | with_reducible assumption | decide +kernel | exact rfl | rotate_left); exact rfl; exact rfl; (first | exact uniB_ok rfl | with_reducible assumption | decide +kernel | rotate_left); (first | exact uniB_ok rfl | with_reducible assumption | decide +kernel | rotate_left); (first | exact List.cons_ne_nil _ _ | with_reducible assumption | decide +kernel | rotate_left); (first | with_reducible assumption | decide +kernel | rotate_left); (first | with_reducible assumption | decide +kernel | rotate_left); exact rfl; exact rfl))
    all_goals first | (apply endT [0] [0]; (repeat (first | exact ResL.nil | (apply ResL.cons; first | exact .tmp _ _ rfl | (apply res_n ttok; (iterate 6 exact rfl)) | (apply res_1 ttok; (iterate 5 exact rfl))))); (iterate 7 exact rfl)) | (first | rfl | (simp only [List.length_append, List.length_cons, List.length_nil, List.length_map]; done) | (simp only [List.length_append, List.length_cons, List.length_nil, List.length_map] at *; (try unfold maxLen); (try simp only [Nat.add_mul]); omega))
    all_goals first | rfl | exact congrArg (fun l => [[D.bool true, D.sl (.own 0) l]]) hF | exact congrArg (fun c => [(⟨c, 1, 5⟩ : Fr)]) hFl
theorem av_wNum0 [Known] (n : Nat) (hn : n < 18446744073709551616) : AT Tryd.prog 81 [.ptr 0 0, .int .u64 (n : Int)] [[.bool true, .sl .nil []]] [] (.ptr 0 0) (wrC (vn n)) (wrF (vn n)) := by
  refine AC_of Tryd.func81 rfl Tryd.ntmps81 rfl rfl ?_
  repeat' (first | (apply AL_move; exact rfl; exact rfl) | (apply AL_assign; exact rfl; exact rfl) | (apply AL_load1 ttok; (iterate 6 exact rfl)) | (apply AL_fieldAddr ttok; (iterate 7 exact rfl)) | (apply AL_nilCheck; exact rfl; exact rfl) | (apply AL_not; exact rfl; exact rfl) | refine AL_nil ?_ | (apply AL_guardT; (iterate 3 exact rfl); (first | with_reducible assumption | decide +kernel)) | (apply AL_pickF; exact rfl; (first | with_reducible assumption | decide +kernel); exact rfl; exact rfl) | refine AW_region ?_ | refine AW_seq' ?_ | (apply AW_condB; exact rfl; (first | with_reducible assumption | decide +kernel)) | refine AW_block ?_ | (apply AL_nilp ttok; (iterate 6 exact rfl)) | refine AW_skip ?_)
  refine AW_loopJ (fun k tm bx fr => ∃ (m c : Nat) (M : List UInt8) (K : List E), K = M.map E.byte ∧ c = K.length ∧ m < 18446744073709551616 ∧ k ≤ 9 ∧ m < 128 ^ (k + 1) ∧ M ++ vnF k m = vn n ∧ tm = [(0, .ptr 0 0), (1, .int .u64 (m : Int)), (4, .nilp)] ∧ ((M = [] ∧ bx = [[.bool true, .sl .nil []]] ∧ fr = []) ∨ (bx = [[.bool true, .sl (.own 1) K]] ∧ fr = [⟨1, 1, 5⟩, ⟨c, 1, 5⟩]))) 10 (Lands.mk' (m := 9) (by omega) ⟨n, 0, [], [], rfl, rfl, hn, Nat.le_refl _, Nat.lt_of_lt_of_le hn (by decide), rfl, rfl, .inl ⟨rfl, rfl, rfl⟩⟩ ?_ rfl rfl rfl rfl rfl rfl) ?_
  · exact .cons rfl (.cons rfl (.cons rfl .nil))
  rintro k tm bx fr ⟨m, c, M, K, hK, hc, hm, hk, hmk, hM, rfl, ⟨rfl, rfl, rfl⟩ | ⟨rfl, rfl⟩⟩
  · have hU : Uni 1 K := hK ▸ uniB1 []
    have hKl : K = [] := hK
    subst hc
    have ho := byE_or m
    rcases Nat.lt_or_ge 127 m with hgt | hle
    · have t1 : decide ((m : Int) > 127) = true := decide_eq_true (by omega)
      cases k with
      | zero => exfalso; simp at hmk; omega
      | succ k =>
        rw [vnF, if_pos hgt] at hM
        repeat' (first | rw [w_or] | (apply AL_shr; exact rfl; exact rfl; rotate_left; exact rfl) | rw [shr7] | (apply AL_append_nilZ ttok; (iterate 6 exact rfl); exact uniB_ok rfl; exact List.cons_ne_nil _ _; exact rfl; decide +kernel; decide +kernel; (iterate 3 exact rfl)) | (apply AL_move; exact rfl; exact rfl) | (apply AL_assign; exact rfl; exact rfl) | (apply AL_bin; (iterate 5 exact rfl)) | (apply AL_load1 ttok; (iterate 6 exact rfl)) | (apply AL_fieldAddr ttok; (iterate 7 exact rfl)) | (apply AL_nilCheck; exact rfl; exact rfl) | (apply AL_store ttok; (iterate 8 exact rfl)) | (apply AL_convT ttok; (iterate 5 exact rfl)) | refine AL_nil ?_ | refine AW_region ?_ | refine AW_seq' ?_ | (apply AW_condA; exact rfl; (first | with_reducible assumption | decide +kernel)) | refine then_norm ?_ | refine blk_norm ?_ | refine AW_block ?_ | (apply AL_bsZ ttok; (iterate 12 exact rfl)) | refine AW_skip ?_)
        · refine Lands.mk' (m := k) (by omega) ⟨m / 128, 1, [UInt8.ofNat (m % 128 + 128)], [E.byte (UInt8.ofNat (m % 128 + 128))], rfl, rfl, by omega, by omega, by rw [Nat.pow_succ] at hmk; omega, by rw [List.nil_append] at hM; exact hM, rfl, .inr ⟨rfl, rfl⟩⟩ ?_ rfl rfl rfl rfl rfl rfl
          exact .cons rfl (.cons rfl (.cons rfl .nil))
        all_goals first | decide | (first | rfl | (simp only [List.length_append, List.length_cons, List.length_nil, List.length_map]; done) | (simp only [List.length_append, List.length_cons, List.length_nil, List.length_map] at *; (try unfold maxLen); (try simp only [Nat.add_mul]); omega))
    · have t1 : decide ((m : Int) > 127) = false := decide_eq_false (by omega)
      have hv : vnF k m = [UInt8.ofNat m] := by
        cases k with
        | zero => rfl
        | succ k => rw [vnF, if_neg (by omega)]
      have hF : [E.int .u8 (IntKind.u8.wrap (m : Int))] = (vn n).map E.byte := by
        rw [byE_low m (by omega), ← hM, hv]; rfl
      have hFl : 1 = (vn n).length := by
        have := congrArg List.length hF
        simpa using this
      repeat' (first | (apply AL_append_nilZ ttok; (iterate 6 exact rfl); exact uniB_ok rfl; exact List.cons_ne_nil _ _; exact rfl; decide +kernel; decide +kernel; (iterate 3 exact rfl)) | (apply AL_move; exact rfl; exact rfl) | (apply AL_assign; exact rfl; exact rfl) | (apply AL_bin; (iterate 5 exact rfl)) | (apply AL_load1 ttok; (iterate 6 exact rfl)) | (apply AL_fieldAddr ttok; (iterate 7 exact rfl)) | (apply AL_nilCheck; exact rfl; exact rfl) | (apply AL_store ttok; (iterate 8 exact rfl)) | (apply AL_convT ttok; (iterate 5 exact rfl)) | refine AL_nil ?_ | refine AW_region ?_ | refine AW_seq' ?_ | (apply AW_condB; exact rfl; (first | with_reducible assumption | decide +kernel)) | refine then_norm ?_ | refine AW_exit ?_ | refine AW_ret ?_ | (apply AL_bsZ ttok; (iterate 12 exact rfl)))
      all_goals first | (apply endT [0] [1]; (repeat (first | exact ResL.nil | (apply ResL.cons; first | exact .tmp _ _ rfl | (apply res_n ttok; (iterate 6 exact rfl)) | (apply res_1 ttok; (iterate 5 exact rfl))))); (iterate 7 exact rfl)) | (first | rfl | (simp only [List.length_append, List.length_cons, List.length_nil, List.length_map]; done) | (simp only [List.length_append, List.length_cons, List.length_nil, List.length_map] at *; (try unfold maxLen); (try simp only [Nat.add_mul]); omega))
      all_goals first | rfl | exact congrArg (fun l => [[D.bool true, D.sl (.own 0) l]]) hF | exact congrArg (fun c => [(⟨c, 1, 5⟩ : Fr)]) hFl

  · have hU : Uni 1 K := hK ▸ uniB1 M
    have hKl : K.length = M.length := by rw [hK, List.length_map]
    have hMl : M.length ≤ 1099511627800 := by
      have := congrArg List.length hM
      have h1 := vnF_len 9 n
      rw [List.length_append, vn] at this
      omega
    subst hc
    have ho := byE_or m
    rcases Nat.lt_or_ge 127 m with hgt | hle
    · have t1 : decide ((m : Int) > 127) = true := decide_eq_true (by omega)
      cases k with
      | zero => exfalso; simp at hmk; omega
      | succ k =>
        rw [vnF, if_pos hgt] at hM
        repeat' (first | rw [w_or] | (apply AL_shr; exact rfl; exact rfl; rotate_left; exact rfl) | rw [shr7] | (apply AL_move; exact rfl; exact rfl) | (apply AL_assign; exact rfl; exact rfl) | (apply AL_bin; (iterate 5 exact rfl)) | (apply AL_load1 ttok; (iterate 6 exact rfl)) | (apply AL_fieldAddr ttok; (iterate 7 exact rfl)) | (apply AL_nilCheck; exact rfl; exact rfl) | (apply AL_store ttok; (iterate 8 exact rfl)) | (apply AL_convT ttok; (iterate 5 exact rfl)) | refine AL_nil ?_ | refine AW_region ?_ | refine AW_seq' ?_ | (apply AW_condA; exact rfl; (first | with_reducible assumption | decide +kernel)) | refine then_norm ?_ | refine blk_norm ?_ | refine AW_block ?_ | (apply AL_bsZ ttok; (iterate 12 exact rfl)) | refine AW_skip ?_ | (apply AL_append ttok; (iterate 6 exact rfl); (first | with_reducible assumption | decide +kernel | exact rfl | rotate_left); exact rfl; exact rfl; (first | exact uniB_ok rfl | with_reducible assumption | decide +kernel | rotate_left); (first | exact uniB_ok rfl | with_reducible assumption | decide +kernel | rotate_left); (first | exact List.cons_ne_nil _ _ | with_reducible assumption | decide +kernel | rotate_left); (first | with_reducible assumption | decide +kernel | rotate_left); (first | with_reducible assumption | decide +kernel | rotate_left); exact rfl; exact rfl))
        · refine Lands.mk' (m := k) (by omega) ⟨m / 128, K.length + 1, M ++ [UInt8.ofNat (m % 128 + 128)], K ++ [E.byte (UInt8.ofNat (m % 128 + 128))], by rw [hK, app_map], by simp, by omega, by omega, by rw [Nat.pow_succ] at hmk; omega, by rw [List.append_assoc]; exact hM, rfl, .inr ⟨rfl, rfl⟩⟩ ?_ rfl rfl rfl rfl rfl rfl
          exact .cons rfl (.cons rfl (.cons rfl .nil))
        all_goals first | decide | (first | rfl | (simp only [List.length_append, List.length_cons, List.length_nil, List.length_map]; done) | (simp only [List.length_append, List.length_cons, List.length_nil, List.length_map] at *; (try unfold maxLen); (try simp only [Nat.add_mul]); omega))
    · have t1 : decide ((m : Int) > 127) = false := decide_eq_false (by omega)
      have hv : vnF k m = [UInt8.ofNat m] := by
        cases k with
        | zero => rfl
        | succ k => rw [vnF, if_neg (by omega)]
      have hF : K ++ [E.int .u8 (IntKind.u8.wrap (m : Int))] = (vn n).map E.byte := by
        rw [byE_low m (by omega), hK, app_map, ← hv, hM]
      have hFl : K.length + 1 = (vn n).length := by
        have := congrArg List.length hF
        simpa using this
      repeat' (first | (apply AL_move; exact rfl; exact rfl) | (apply AL_assign; exact rfl; exact rfl) | (apply AL_bin; (iterate 5 exact rfl)) | (apply AL_load1 ttok; (iterate 6 exact rfl)) | (apply AL_fieldAddr ttok; (iterate 7 exact rfl)) | (apply AL_nilCheck; exact rfl; exact rfl) | (apply AL_store ttok; (iterate 8 exact rfl)) | (apply AL_convT ttok; (iterate 5 exact rfl)) | refine AL_nil ?_ | refine AW_region ?_ | refine AW_seq' ?_ | (apply AW_condB; exact rfl; (first | with_reducible assumption | decide +kernel)) | refine then_norm ?_ | refine AW_exit ?_ | refine AW_ret ?_ | (apply AL_bsZ ttok; (iterate 12 exact rfl)) | (apply AL_append ttok; (iterate 6 exact rfl); (first | with_reducible assumption | decide +kernel | exact rfl | rotate_left); exact rfl; exact rfl; (first | exact uniB_ok rfl | with_reducible assumption | decide +kernel | rotate_left); (first | exact uniB_ok rfl | with_reducible assumption | decide +kernel | rotate_left); (first | exact List.cons_ne_nil _ _ | with_reducible assumption | decide +kernel | rotate_left); (first | with_reducible assumption | decide +kernel | rotate_left); (first | with_reducible assumption | decide +kernel | rotate_left); exact rfl; exact rfl))
      all_goals first | (apply endT [0] [1]; (repeat (first | exact ResL.nil | (apply ResL.cons; first | exact .tmp _ _ rfl | (apply res_n ttok; (iterate 6 exact rfl)) | (apply res_1 ttok; (iterate 5 exact rfl))))); (iterate 7 exact rfl)) | (first | rfl | (simp only [List.length_append, List.length_cons, List.length_nil, List.length_map]; done) | (simp only [List.length_append, List.length_cons, List.length_nil, List.length_map] at *; (try unfold maxLen); (try simp only [Nat.add_mul]); omega))
      all_goals first | rfl | exact congrArg (fun l => [[D.bool true, D.sl (.own 0) l]]) hF | exact congrArg (fun c => [(⟨c, 1, 5⟩ : Fr)]) hFl
end Go.Proofs.YtnihobjehelagaaDoor
end
/- Package fields: a writer: numbers, truths, texts. -/
section
open Go.RowKit Go.Pl Go.Av
namespace Go.Proofs.YtnihobjehelagaaDoor
set_option linter.unusedVariables false
set_option linter.unusedSimpArgs false
set_option maxHeartbeats 4000000
theorem av_fNew [Known] : AT Tryd.prog 80 [] [] [] (.ptr 0 0) [[.bool true, .sl .nil []]] [] := by
  refine AC_of Tryd.func80 rfl Tryd.ntmps80 rfl rfl ?_
  repeat' (first | (apply AL_assign; exact rfl; exact rfl) | (apply AL_box; (iterate 5 exact rfl)) | refine AL_nil ?_ | refine AW_region ?_ | refine AW_seq' ?_ | refine then_norm ?_ | refine AW_ret ?_ | (apply AL_build ttok; (iterate 6 exact rfl)))
  all_goals (apply endT [0] []; (repeat (first | exact ResL.nil | (apply ResL.cons; first | exact .tmp _ _ rfl | (apply res_n ttok; (iterate 6 exact rfl)) | (apply res_1 ttok; (iterate 5 exact rfl))))); (iterate 7 exact rfl))
  all_goals rfl
theorem av_wInt [Known] (L : List UInt8) (n : Nat) (hn : n < 9223372036854775808) (hL : L.length ≤ 1099511627776) : AT Tryd.prog 82 [.ptr 0 0, .int .i64 (n : Int)] (wrC L) (wrF L) (.ptr 0 0) (wrC (L ++ vn n)) (wrF (L ++ vn n)) := by
  have hN := av_wNum L n (by omega) hL
  have e1 : (if (0 : Int) > (n : Int) then (0 : Int) else (n : Int)) = (n : Int) := if_neg (by omega)
  have e2 : IntKind.u64.wrap (n : Int) = (n : Int) := IntWalk.u64_in _ (by omega)
  refine AC_of Tryd.func82 rfl Tryd.ntmps82 rfl rfl ?_
  repeat' (first | (apply AL_max; (iterate 3 exact rfl)) | rw [e1] | rw [e2] | (apply AL_callT [0] [0] (hN); kernel_rfl; (iterate 10 exact rfl)) | (apply AL_move; exact rfl; exact rfl) | (apply AL_assign; exact rfl; exact rfl) | (apply AL_convT ttok; (iterate 5 exact rfl)) | refine AL_nil ?_ | refine AW_region ?_ | refine AW_seq' ?_ | refine then_norm ?_ | refine AW_ret ?_)
  all_goals (apply endT [0] [0]; (repeat (first | exact ResL.nil | (apply ResL.cons; first | exact .tmp _ _ rfl | (apply res_n ttok; (iterate 6 exact rfl)) | (apply res_1 ttok; (iterate 5 exact rfl))))); (iterate 7 exact rfl))
  all_goals rfl
theorem av_wBool [Known] (L : List UInt8) (b : Bool) (hL : L.length ≤ 1099511627776) : AT Tryd.prog 85 [.ptr 0 0, .bool b] (wrC L) (wrF L) (.ptr 0 0) (wrC (L ++ vn b.toNat)) (wrF (L ++ vn b.toNat)) := by
  have h1 := av_wNum L 1 (by omega) hL
  have h0 := av_wNum L 0 (by omega) hL
  cases b
  all_goals
    refine AC_of Tryd.func85 rfl Tryd.ntmps85 rfl rfl ?_
    repeat' (first | (apply AL_callT [0] [0] (h1); kernel_rfl; (iterate 10 exact rfl)) | (apply AL_callT [0] [0] (h0); kernel_rfl; (iterate 10 exact rfl)) | (apply AL_move; exact rfl; exact rfl) | (apply AL_assign; exact rfl; exact rfl) | refine AL_nil ?_ | refine AW_region ?_ | refine AW_seq' ?_ | (apply AW_condA; exact rfl; (first | with_reducible assumption | decide +kernel)) | (apply AW_condB; exact rfl; (first | with_reducible assumption | decide +kernel)) | refine then_norm ?_ | refine AW_ret ?_ | refine then_ret ?_ | refine AW_skip ?_)
    all_goals (apply endT [0] [0]; (repeat (first | exact ResL.nil | (apply ResL.cons; first | exact .tmp _ _ rfl | (apply res_n ttok; (iterate 6 exact rfl)) | (apply res_1 ttok; (iterate 5 exact rfl))))); (iterate 7 exact rfl))
    all_goals rfl
theorem av_wText [Known] (L b : List UInt8) (hb : b.length ≤ 1000000) (hL : L.length ≤ 1000000) : AT Tryd.prog 84 [.ptr 0 0, byE b] (wrC L) (wrF L) (.ptr 0 0) (wrC (L ++ vn b.length ++ b)) (wrF (L ++ vn b.length ++ b)) := by
  have hbl : (b.map E.byte).length = b.length := List.length_map ..
  have hN := av_wNum L b.length (by omega) (by omega)
  have e2 : IntKind.u64.wrap (((b.map E.byte).length : Nat) : Int) = (b.length : Int) := by rw [hbl]; exact IntWalk.u64_in _ (by omega)
  have hvl := vnF_len 9 b.length
  have hMl : (L ++ vn b.length).length ≤ 1000010 := by rw [List.length_append, vn]; omega
  generalize L ++ vn b.length = M at *
  have hU1 := uniB1 b
  have hU2 := uniB1 M
  have hMm : (M.map E.byte).length = M.length := List.length_map ..
  cases b with
  | nil =>
    rw [List.append_nil]
    refine AC_of Tryd.func84 rfl Tryd.ntmps84 rfl rfl ?_
    repeat' (first | rw [e2] | (apply AL_callT [0] [0] (hN); kernel_rfl; (iterate 10 exact rfl)) | (apply AL_move; exact rfl; exact rfl) | (apply AL_assign; exact rfl; exact rfl) | (apply AL_load1 ttok; (iterate 6 exact rfl)) | (apply AL_fieldAddr ttok; (iterate 7 exact rfl)) | (apply AL_nilCheck; exact rfl; exact rfl) | (apply AL_store ttok; (iterate 8 exact rfl)) | (apply AL_convT ttok; (iterate 5 exact rfl)) | refine AL_nil ?_ | (apply AL_guardT; (iterate 3 exact rfl); (first | with_reducible assumption | decide +kernel)) | (apply AL_pickT; exact rfl; (first | with_reducible assumption | decide +kernel); exact rfl; exact rfl) | refine AW_region ?_ | refine AW_seq' ?_ | (apply AW_condA; exact rfl; (first | with_reducible assumption | decide +kernel)) | refine then_norm ?_ | refine AW_ret ?_ | (apply AL_len ttok; (iterate 4 exact rfl)) | (apply AL_nilp ttok; (iterate 6 exact rfl)) | (apply AL_append_none ttok; (iterate 6 exact rfl)))
    all_goals (apply endT [0] [0]; (repeat (first | exact ResL.nil | (apply ResL.cons; first | exact .tmp _ _ rfl | (apply res_n ttok; (iterate 6 exact rfl)) | (apply res_1 ttok; (iterate 5 exact rfl))))); (iterate 7 exact rfl))
    all_goals rfl
  | cons c b =>
    have hne : (c :: b).map E.byte ≠ [] := List.cons_ne_nil _ _
    have hf1 : M.length = (M.map E.byte).length := hMm.symm
    have hF : M.map E.byte ++ (c :: b).map E.byte = (M ++ c :: b).map E.byte := by simp
    have hFl : (M.map E.byte).length + ((c :: b).map E.byte).length = (M ++ c :: b).length := by simp
    refine AC_of Tryd.func84 rfl Tryd.ntmps84 rfl rfl ?_
    repeat' (first | rw [e2] | (apply AL_callT [0] [0] (hN); kernel_rfl; (iterate 10 exact rfl)) | (apply AL_move; exact rfl; exact rfl) | (apply AL_assign; exact rfl; exact rfl) | (apply AL_load1 ttok; (iterate 6 exact rfl)) | (apply AL_fieldAddr ttok; (iterate 7 exact rfl)) | (apply AL_nilCheck; exact rfl; exact rfl) | (apply AL_store ttok; (iterate 8 exact rfl)) | (apply AL_convT ttok; (iterate 5 exact rfl)) | refine AL_nil ?_ | (apply AL_guardT; (iterate 3 exact rfl); (first | with_reducible assumption | decide +kernel)) | (apply AL_pickT; exact rfl; (first | with_reducible assumption | decide +kernel); exact rfl; exact rfl) | refine AW_region ?_ | refine AW_seq' ?_ | (apply AW_condA; exact rfl; (first | with_reducible assumption | decide +kernel)) | refine then_norm ?_ | refine AW_ret ?_ | (apply AL_len ttok; (iterate 4 exact rfl)) | (apply AL_nilp ttok; (iterate 6 exact rfl)) | (apply AL_append ttok; (iterate 6 exact rfl); (first | with_reducible assumption | decide +kernel | exact rfl | rotate_left); exact rfl; exact rfl; (first | exact uniB_ok rfl | with_reducible assumption | decide +kernel | rotate_left); (first | exact uniB_ok rfl | with_reducible assumption | decide +kernel | rotate_left); (first | exact List.cons_ne_nil _ _ | with_reducible assumption | decide +kernel | rotate_left); (first | with_reducible assumption | decide +kernel | rotate_left); (first | with_reducible assumption | decide +kernel | rotate_left); exact rfl; exact rfl))
    all_goals first | (apply endT [0] [0]; (repeat (first | exact ResL.nil | (apply ResL.cons; first | exact .tmp _ _ rfl | (apply res_n ttok; (iterate 6 exact rfl)) | (apply res_1 ttok; (iterate 5 exact rfl))))); (iterate 7 exact rfl)) | exact hne | exact hf1 | exact hU1 | exact hU2 | (rw [hMm, hbl]; unfold maxLen; omega) | (rw [hMm, hbl]; show (_ + _) * 1 ≤ _; omega)
    all_goals first | rfl | exact congrArg (fun l => [[D.bool true, D.sl (.own 0) l]]) hF | exact congrArg (fun c => [(⟨c, 1, 5⟩ : Fr)]) hFl
theorem av_wBytes [Known] (L : List UInt8) (hL : L.length ≤ 1099511627776) : AT Tryd.prog 86 [.ptr 0 0] (wrC L) (wrF L) (byE L) (wrC L) (wrF L) := by
  have hC := av_cloneB L (by omega)
  refine AC_of Tryd.func86 rfl Tryd.ntmps86 rfl rfl ?_
  repeat' (first | (apply AL_callPw (hC); kernel_rfl; (iterate 4 exact rfl)) | (apply AL_move; exact rfl; exact rfl) | (apply AL_assign; exact rfl; exact rfl) | (apply AL_load1 ttok; (iterate 6 exact rfl)) | (apply AL_fieldAddr ttok; (iterate 7 exact rfl)) | (apply AL_nilCheck; exact rfl; exact rfl) | refine AL_nil ?_ | refine AW_region ?_ | refine AW_seq' ?_ | (apply AW_condB; exact rfl; (first | with_reducible assumption | decide +kernel)) | refine then_norm ?_ | refine AW_ret ?_ | (apply AL_nilp ttok; (iterate 6 exact rfl)) | refine AW_skip ?_)
  all_goals (apply endT [0] [0]; (repeat (first | exact ResL.nil | (apply ResL.cons; first | exact .tmp _ _ rfl | (apply res_n ttok; (iterate 6 exact rfl)) | (apply res_1 ttok; (iterate 5 exact rfl))))); (iterate 7 exact rfl))
  all_goals rfl
end Go.Proofs.YtnihobjehelagaaDoor
end
/- Package request: Write, by kinds (1, 2, 3). -/
section
open Go.RowKit Go.Pl Go.Av
namespace Go.Proofs.YtnihobjehelagaaDoor
set_option linter.unusedVariables false
set_option linter.unusedSimpArgs false
set_option maxHeartbeats 4000000
theorem rw_1 [Known] (id : Nat) (ei : Bool) (en es : Nat) (eh ed : List UInt8) (di : Bool) (dn dq : Nat) (dh dd : List UInt8) (pol num tik : Int) (pay : List UInt8) (life tok : Nat) (on : Bool) (L0 L1 L2 L3 R : List E) (c0 c1 c2 c3 : Nat) (hR : AP Tryd.prog 50 [.agg [.int .u64 (id : Int), .int .i64 1, .bool ei, .int .u64 (en : Int), .int .u64 (es : Int), .str eh, .str ed, .bool di, .int .u64 (dn : Int), .int .u64 (dq : Int), .str dh, .str dd, .int .i64 pol, .int .i64 num, .int .i64 tik, .sl .ext (pay.map E.byte), .int .u64 (life : Int), .int .u64 (tok : Int), .bool on]] (.bool true) []) (hN : AT Tryd.prog 80 [] [] [] (.ptr 0 0) [[.bool true, .sl .nil []]] [])
    (h0 : AT Tryd.prog 81 [.ptr 0 0, .int .u64 (id : Int)] [[.bool true, .sl .nil []]] [] (.ptr 0 0) [[.bool true, .sl (.own 0) L0]] [⟨c0, 1, 5⟩])
    (h1 : AT Tryd.prog 82 [.ptr 0 0, .int .i64 1] [[.bool true, .sl (.own 0) L0]] [⟨c0, 1, 5⟩] (.ptr 0 0) [[.bool true, .sl (.own 0) L1]] [⟨c1, 1, 5⟩])
    (h2 : AT Tryd.prog 83 [.ptr 0 0, .agg [.bool ei, .int .u64 (en : Int), .int .u64 (es : Int), .str eh, .str ed]] [[.bool true, .sl (.own 0) L1]] [⟨c1, 1, 5⟩] (.tup []) [[.bool true, .sl (.own 0) L2]] [⟨c2, 1, 5⟩])
    (h3 : AT Tryd.prog 82 [.ptr 0 0, .int .i64 pol] [[.bool true, .sl (.own 0) L2]] [⟨c2, 1, 5⟩] (.ptr 0 0) [[.bool true, .sl (.own 0) L3]] [⟨c3, 1, 5⟩])
    (hB : AT Tryd.prog 86 [.ptr 0 0] [[.bool true, .sl (.own 0) L3]] [⟨c3, 1, 5⟩] (.sl .ext R) [[.bool true, .sl (.own 0) L3]] [⟨c3, 1, 5⟩]) :
    AP Tryd.prog 46 [.agg [.int .u64 (id : Int), .int .i64 1, .bool ei, .int .u64 (en : Int), .int .u64 (es : Int), .str eh, .str ed, .bool di, .int .u64 (dn : Int), .int .u64 (dq : Int), .str dh, .str dd, .int .i64 pol, .int .i64 num, .int .i64 tik, .sl .ext (pay.map E.byte), .int .u64 (life : Int), .int .u64 (tok : Int), .bool on]] (.tup [.sl .ext R, .int .i64 0]) [] := by
  refine AP.ofA ?_
  refine AC_of Tryd.func46 rfl Tryd.ntmps46 rfl rfl ?_
  repeat' (first | (apply AL_callPw (hR); kernel_rfl; (iterate 4 exact rfl)) | (apply AL_callT [] [] (hN); kernel_rfl; (iterate 10 exact rfl)) | (apply AL_callT [1] [] (h0); kernel_rfl; (iterate 10 exact rfl)) | (apply AL_callT [1] [0] (h1); kernel_rfl; (iterate 10 exact rfl)) | (apply AL_callT [1] [0] (h2); kernel_rfl; (iterate 10 exact rfl)) | (apply AL_callT [1] [0] (h3); kernel_rfl; (iterate 10 exact rfl)) | (apply AL_callT [1] [0] (hB); kernel_rfl; (iterate 10 exact rfl)) | (apply AL_move; exact rfl; exact rfl) | (apply AL_assign; exact rfl; exact rfl) | (apply AL_bin; (iterate 5 exact rfl)) | (apply AL_load1 ttok; (iterate 6 exact rfl)) | (apply AL_loadn ttok; (iterate 7 exact rfl)) | (apply AL_fieldAddr ttok; (iterate 7 exact rfl)) | (apply AL_boxZ; (iterate 5 exact rfl)) | (apply AL_not; exact rfl; exact rfl) | refine AL_nil ?_ | refine AW_region ?_ | refine AW_seq' ?_ | (apply AW_condA; exact rfl; (first | with_reducible assumption | decide +kernel)) | (apply AW_condB; exact rfl; (first | with_reducible assumption | decide +kernel)) | refine then_norm ?_ | refine AW_block ?_ | refine AW_ret ?_ | (apply AW_drawE 6 hmix; (decide +kernel); (kernel_rfl); (kernel_rfl); (kernel_rfl); exact rfl; exact rfl) | (apply AE_consZ; (iterate 4 exact rfl)) | exact AE.nil _ _ _ _ | (apply AEk_puT; exact rfl) | (apply AEk_efT; exact rfl) | (apply AOt_mk; exact rfl; exact rfl; (decide +kernel); exact rfl) | (apply AO_puT; exact rfl) | (apply AO_efT; exact rfl) | exact AO.nil _ _ _ | (apply AOs_skip; (decide +kernel)) | (apply AOs_goZ; (iterate 3 exact rfl)) | exact AOs.nil | exact qY_ok rfl rfl | exact qY_ef rfl rfl | refine AW_skip ?_)
  all_goals (apply endQ []; (repeat (first | exact ResL.nil | (apply ResL.cons; first | exact .tmp _ _ rfl | (apply res_n ttok; (iterate 6 exact rfl)) | (apply res_1 ttok; (iterate 5 exact rfl))))); (iterate 4 exact rfl))
  all_goals rfl
theorem rw_2 [Known] (id : Nat) (ei : Bool) (en es : Nat) (eh ed : List UInt8) (di : Bool) (dn dq : Nat) (dh dd : List UInt8) (pol num tik : Int) (pay : List UInt8) (life tok : Nat) (on : Bool) (L0 L1 L2 R : List E) (c0 c1 c2 : Nat) (hR : AP Tryd.prog 50 [.agg [.int .u64 (id : Int), .int .i64 2, .bool ei, .int .u64 (en : Int), .int .u64 (es : Int), .str eh, .str ed, .bool di, .int .u64 (dn : Int), .int .u64 (dq : Int), .str dh, .str dd, .int .i64 pol, .int .i64 num, .int .i64 tik, .sl .ext (pay.map E.byte), .int .u64 (life : Int), .int .u64 (tok : Int), .bool on]] (.bool true) []) (hN : AT Tryd.prog 80 [] [] [] (.ptr 0 0) [[.bool true, .sl .nil []]] [])
    (h0 : AT Tryd.prog 81 [.ptr 0 0, .int .u64 (id : Int)] [[.bool true, .sl .nil []]] [] (.ptr 0 0) [[.bool true, .sl (.own 0) L0]] [⟨c0, 1, 5⟩])
    (h1 : AT Tryd.prog 82 [.ptr 0 0, .int .i64 2] [[.bool true, .sl (.own 0) L0]] [⟨c0, 1, 5⟩] (.ptr 0 0) [[.bool true, .sl (.own 0) L1]] [⟨c1, 1, 5⟩])
    (h2 : AT Tryd.prog 83 [.ptr 0 0, .agg [.bool ei, .int .u64 (en : Int), .int .u64 (es : Int), .str eh, .str ed]] [[.bool true, .sl (.own 0) L1]] [⟨c1, 1, 5⟩] (.tup []) [[.bool true, .sl (.own 0) L2]] [⟨c2, 1, 5⟩])
    (hB : AT Tryd.prog 86 [.ptr 0 0] [[.bool true, .sl (.own 0) L2]] [⟨c2, 1, 5⟩] (.sl .ext R) [[.bool true, .sl (.own 0) L2]] [⟨c2, 1, 5⟩]) :
    AP Tryd.prog 46 [.agg [.int .u64 (id : Int), .int .i64 2, .bool ei, .int .u64 (en : Int), .int .u64 (es : Int), .str eh, .str ed, .bool di, .int .u64 (dn : Int), .int .u64 (dq : Int), .str dh, .str dd, .int .i64 pol, .int .i64 num, .int .i64 tik, .sl .ext (pay.map E.byte), .int .u64 (life : Int), .int .u64 (tok : Int), .bool on]] (.tup [.sl .ext R, .int .i64 0]) [] := by
  refine AP.ofA ?_
  refine AC_of Tryd.func46 rfl Tryd.ntmps46 rfl rfl ?_
  repeat' (first | (apply AL_callPw (hR); kernel_rfl; (iterate 4 exact rfl)) | (apply AL_callT [] [] (hN); kernel_rfl; (iterate 10 exact rfl)) | (apply AL_callT [1] [] (h0); kernel_rfl; (iterate 10 exact rfl)) | (apply AL_callT [1] [0] (h1); kernel_rfl; (iterate 10 exact rfl)) | (apply AL_callT [1] [0] (h2); kernel_rfl; (iterate 10 exact rfl)) | (apply AL_callT [1] [0] (hB); kernel_rfl; (iterate 10 exact rfl)) | (apply AL_move; exact rfl; exact rfl) | (apply AL_assign; exact rfl; exact rfl) | (apply AL_bin; (iterate 5 exact rfl)) | (apply AL_load1 ttok; (iterate 6 exact rfl)) | (apply AL_loadn ttok; (iterate 7 exact rfl)) | (apply AL_fieldAddr ttok; (iterate 7 exact rfl)) | (apply AL_boxZ; (iterate 5 exact rfl)) | (apply AL_not; exact rfl; exact rfl) | refine AL_nil ?_ | refine AW_region ?_ | refine AW_seq' ?_ | (apply AW_condA; exact rfl; (first | with_reducible assumption | decide +kernel)) | (apply AW_condB; exact rfl; (first | with_reducible assumption | decide +kernel)) | refine then_norm ?_ | refine AW_block ?_ | refine AW_ret ?_ | (apply AW_drawE 6 hmix; (decide +kernel); (kernel_rfl); (kernel_rfl); (kernel_rfl); exact rfl; exact rfl) | (apply AE_consZ; (iterate 4 exact rfl)) | exact AE.nil _ _ _ _ | (apply AEk_puT; exact rfl) | (apply AEk_efT; exact rfl) | (apply AOt_mk; exact rfl; exact rfl; (decide +kernel); exact rfl) | (apply AO_puT; exact rfl) | (apply AO_efT; exact rfl) | exact AO.nil _ _ _ | (apply AOs_skip; (decide +kernel)) | (apply AOs_goZ; (iterate 3 exact rfl)) | exact AOs.nil | exact qY_ok rfl rfl | exact qY_ef rfl rfl | refine AW_skip ?_)
  all_goals (apply endQ []; (repeat (first | exact ResL.nil | (apply ResL.cons; first | exact .tmp _ _ rfl | (apply res_n ttok; (iterate 6 exact rfl)) | (apply res_1 ttok; (iterate 5 exact rfl))))); (iterate 4 exact rfl))
  all_goals rfl
theorem rw_3 [Known] (id : Nat) (ei : Bool) (en es : Nat) (eh ed : List UInt8) (di : Bool) (dn dq : Nat) (dh dd : List UInt8) (pol num tik : Int) (pay : List UInt8) (life tok : Nat) (on : Bool) (L0 L1 L2 L3 R : List E) (c0 c1 c2 c3 : Nat) (hR : AP Tryd.prog 50 [.agg [.int .u64 (id : Int), .int .i64 3, .bool ei, .int .u64 (en : Int), .int .u64 (es : Int), .str eh, .str ed, .bool di, .int .u64 (dn : Int), .int .u64 (dq : Int), .str dh, .str dd, .int .i64 pol, .int .i64 num, .int .i64 tik, .sl .ext (pay.map E.byte), .int .u64 (life : Int), .int .u64 (tok : Int), .bool on]] (.bool true) []) (hN : AT Tryd.prog 80 [] [] [] (.ptr 0 0) [[.bool true, .sl .nil []]] [])
    (h0 : AT Tryd.prog 81 [.ptr 0 0, .int .u64 (id : Int)] [[.bool true, .sl .nil []]] [] (.ptr 0 0) [[.bool true, .sl (.own 0) L0]] [⟨c0, 1, 5⟩])
    (h1 : AT Tryd.prog 82 [.ptr 0 0, .int .i64 3] [[.bool true, .sl (.own 0) L0]] [⟨c0, 1, 5⟩] (.ptr 0 0) [[.bool true, .sl (.own 0) L1]] [⟨c1, 1, 5⟩])
    (h2 : AT Tryd.prog 83 [.ptr 0 0, .agg [.bool ei, .int .u64 (en : Int), .int .u64 (es : Int), .str eh, .str ed]] [[.bool true, .sl (.own 0) L1]] [⟨c1, 1, 5⟩] (.tup []) [[.bool true, .sl (.own 0) L2]] [⟨c2, 1, 5⟩])
    (h3 : AT Tryd.prog 82 [.ptr 0 0, .int .i64 pol] [[.bool true, .sl (.own 0) L2]] [⟨c2, 1, 5⟩] (.ptr 0 0) [[.bool true, .sl (.own 0) L3]] [⟨c3, 1, 5⟩])
    (hB : AT Tryd.prog 86 [.ptr 0 0] [[.bool true, .sl (.own 0) L3]] [⟨c3, 1, 5⟩] (.sl .ext R) [[.bool true, .sl (.own 0) L3]] [⟨c3, 1, 5⟩]) :
    AP Tryd.prog 46 [.agg [.int .u64 (id : Int), .int .i64 3, .bool ei, .int .u64 (en : Int), .int .u64 (es : Int), .str eh, .str ed, .bool di, .int .u64 (dn : Int), .int .u64 (dq : Int), .str dh, .str dd, .int .i64 pol, .int .i64 num, .int .i64 tik, .sl .ext (pay.map E.byte), .int .u64 (life : Int), .int .u64 (tok : Int), .bool on]] (.tup [.sl .ext R, .int .i64 0]) [] := by
  refine AP.ofA ?_
  refine AC_of Tryd.func46 rfl Tryd.ntmps46 rfl rfl ?_
  repeat' (first | (apply AL_callPw (hR); kernel_rfl; (iterate 4 exact rfl)) | (apply AL_callT [] [] (hN); kernel_rfl; (iterate 10 exact rfl)) | (apply AL_callT [1] [] (h0); kernel_rfl; (iterate 10 exact rfl)) | (apply AL_callT [1] [0] (h1); kernel_rfl; (iterate 10 exact rfl)) | (apply AL_callT [1] [0] (h2); kernel_rfl; (iterate 10 exact rfl)) | (apply AL_callT [1] [0] (h3); kernel_rfl; (iterate 10 exact rfl)) | (apply AL_callT [1] [0] (hB); kernel_rfl; (iterate 10 exact rfl)) | (apply AL_move; exact rfl; exact rfl) | (apply AL_assign; exact rfl; exact rfl) | (apply AL_bin; (iterate 5 exact rfl)) | (apply AL_load1 ttok; (iterate 6 exact rfl)) | (apply AL_loadn ttok; (iterate 7 exact rfl)) | (apply AL_fieldAddr ttok; (iterate 7 exact rfl)) | (apply AL_boxZ; (iterate 5 exact rfl)) | (apply AL_not; exact rfl; exact rfl) | refine AL_nil ?_ | refine AW_region ?_ | refine AW_seq' ?_ | (apply AW_condA; exact rfl; (first | with_reducible assumption | decide +kernel)) | (apply AW_condB; exact rfl; (first | with_reducible assumption | decide +kernel)) | refine then_norm ?_ | refine AW_block ?_ | refine AW_ret ?_ | (apply AW_drawE 6 hmix; (decide +kernel); (kernel_rfl); (kernel_rfl); (kernel_rfl); exact rfl; exact rfl) | (apply AE_consZ; (iterate 4 exact rfl)) | exact AE.nil _ _ _ _ | (apply AEk_puT; exact rfl) | (apply AEk_efT; exact rfl) | (apply AOt_mk; exact rfl; exact rfl; (decide +kernel); exact rfl) | (apply AO_puT; exact rfl) | (apply AO_efT; exact rfl) | exact AO.nil _ _ _ | (apply AOs_skip; (decide +kernel)) | (apply AOs_goZ; (iterate 3 exact rfl)) | exact AOs.nil | exact qY_ok rfl rfl | exact qY_ef rfl rfl | refine AW_skip ?_)
  all_goals (apply endQ []; (repeat (first | exact ResL.nil | (apply ResL.cons; first | exact .tmp _ _ rfl | (apply res_n ttok; (iterate 6 exact rfl)) | (apply res_1 ttok; (iterate 5 exact rfl))))); (iterate 4 exact rfl))
  all_goals rfl
end Go.Proofs.YtnihobjehelagaaDoor
end
