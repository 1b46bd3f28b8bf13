/- Package head over abstract states. -/
import Derived.Test.YtnihobjehelagaaDoorG03
import Derived.Test.YtnihobjehelagaaDoorG04
import Derived.Recover
section
open Go.RowKit Go.Pl Go.Av
namespace Go.Proofs.YtnihobjehelagaaDoor
set_option linter.unusedVariables false
set_option linter.unusedSimpArgs false
set_option maxHeartbeats 1000000
theorem av_follow [Known] (n : Nat) : AP Tryd.prog 118 [.int .u64 (n : Int)] (.int .i64 (followN n)) [] := by
  refine AC_of Tryd.func118 rfl Tryd.ntmps118 rfl rfl ?_
  repeat' (first | (apply AL_move; exact rfl; exact rfl) | (apply AL_assign; exact rfl; exact rfl) | (apply AL_bin; (iterate 5 exact rfl)) | refine AL_nil ?_ | refine AW_region ?_ | refine AW_seq' ?_ | (apply AW_cond'; exact rfl; all_goals intro hb) | refine then_norm ?_ | refine AW_block ?_ | refine AW_ret ?_ | refine then_ret ?_ | refine blk_ret ?_ | refine AW_skip ?_)
  all_goals refine end0 (.cons _ _ _ _ (.tmp _ _ rfl) .nil) (okSel_nil _) rfl ?_ rfl
  all_goals simp only [decide_eq_true_eq, decide_eq_false_iff_not] at *
  all_goals (congr 1; unfold followN; (repeat' split) <;> omega)
theorem av_may [Known] (m : Int) : AP Tryd.prog 132 [.int .i64 m] (.bool (mayB m)) [] := by
  refine AC_of Tryd.func132 rfl Tryd.ntmps132 rfl rfl ?_
  repeat' (first | (apply AL_move; exact rfl; exact rfl) | (apply AL_assign; exact rfl; exact rfl) | (apply AL_bin; (iterate 5 exact rfl)) | refine AL_nil ?_ | (apply AL_guardT; (iterate 3 exact rfl); (first | with_reducible assumption | (guard_target =ₛ true = true; rfl) | (guard_target =ₛ false = false; rfl) | (guard_target =ₛ (!true) = false; rfl) | (guard_target =ₛ (!false) = true; rfl))) | (apply AL_guardFt; (iterate 3 exact rfl); (first | with_reducible assumption | (guard_target =ₛ true = true; rfl) | (guard_target =ₛ false = false; rfl) | (guard_target =ₛ (!true) = false; rfl) | (guard_target =ₛ (!false) = true; rfl))) | (apply AL_guardFf; (iterate 3 exact rfl); (first | with_reducible assumption | (guard_target =ₛ true = true; rfl) | (guard_target =ₛ false = false; rfl) | (guard_target =ₛ (!true) = false; rfl) | (guard_target =ₛ (!false) = true; rfl))) | (apply AL_guardS; exact rfl; exact rfl; all_goals intro hb) | (apply AL_pickT; exact rfl; (first | with_reducible assumption | (guard_target =ₛ true = true; rfl) | (guard_target =ₛ false = false; rfl) | (guard_target =ₛ (!true) = false; rfl) | (guard_target =ₛ (!false) = true; rfl)); exact rfl; exact rfl) | (apply AL_pickF; exact rfl; (first | with_reducible assumption | (guard_target =ₛ true = true; rfl) | (guard_target =ₛ false = false; rfl) | (guard_target =ₛ (!true) = false; rfl) | (guard_target =ₛ (!false) = true; rfl)); exact rfl; exact rfl) | refine AW_region ?_ | refine AW_seq' ?_ | refine then_norm ?_ | refine AW_ret ?_)
  all_goals refine end0 (.cons _ _ _ _ (.tmp _ _ rfl) .nil) (okSel_nil _) rfl ?_ rfl
  all_goals (congr 1; rw [Bool.eq_iff_iff]; simp [mayB] at *; omega)
def hd (h : Hd) : D := .agg [.int .i64 h.1, .int .u64 (h.2.1 : Int), .bool h.2.2]
theorem av_right [Known] (h : Hd) : AP Tryd.prog 116 [hd h] (.bool (rightB h)) [] := by
  refine AC_of Tryd.func116 rfl Tryd.ntmps116 rfl rfl ?_
  repeat' (first | (apply AL_callP (av_may _); kernel_rfl; (iterate 4 exact rfl)) | (apply AL_move; exact rfl; exact rfl) | (apply AL_assign; exact rfl; exact rfl) | (apply AL_bin; (iterate 5 exact rfl)) | (apply AL_load1 ttok; (iterate 6 exact rfl)) | (apply AL_loadn ttok; (iterate 7 exact rfl)) | (apply AL_fieldAddr ttok; (iterate 7 exact rfl)) | (apply AL_box; (iterate 5 exact rfl)) | refine AL_nil ?_ | (apply AL_guardT; (iterate 3 exact rfl); (first | with_reducible assumption | (guard_target =ₛ true = true; rfl) | (guard_target =ₛ false = false; rfl) | (guard_target =ₛ (!true) = false; rfl) | (guard_target =ₛ (!false) = true; rfl))) | (apply AL_guardFt; (iterate 3 exact rfl); (first | with_reducible assumption | (guard_target =ₛ true = true; rfl) | (guard_target =ₛ false = false; rfl) | (guard_target =ₛ (!true) = false; rfl) | (guard_target =ₛ (!false) = true; rfl))) | (apply AL_guardS; exact rfl; exact rfl; all_goals intro hb) | (apply AL_pickT; exact rfl; (first | with_reducible assumption | (guard_target =ₛ true = true; rfl) | (guard_target =ₛ false = false; rfl) | (guard_target =ₛ (!true) = false; rfl) | (guard_target =ₛ (!false) = true; rfl)); exact rfl; exact rfl) | (apply AL_pickF; exact rfl; (first | with_reducible assumption | (guard_target =ₛ true = true; rfl) | (guard_target =ₛ false = false; rfl) | (guard_target =ₛ (!true) = false; rfl) | (guard_target =ₛ (!false) = true; rfl)); exact rfl; exact rfl) | refine AW_region ?_ | refine AW_seq' ?_ | (apply AW_cond'; exact rfl; all_goals intro hb) | refine then_norm ?_ | refine AW_ret ?_ | refine then_ret ?_ | (apply AL_build ttok; (iterate 6 exact rfl)) | (apply AL_eqS ttok; (iterate 4 exact rfl); (kernel_rfl); (kernel_rfl); (iterate 3 exact rfl)) | refine AW_skip ?_)
  all_goals refine end0 (.cons _ _ _ _ (.tmp _ _ rfl) .nil) (okSel_nil _) rfl ?_ rfl
  all_goals (obtain ⟨m, n, o⟩ := h; congr 1; rw [Bool.eq_iff_iff]; simp_all [rightB, mayB]; try omega)
theorem info_of (n : Nat) : (followN n = 0 ∧ infoN n = n ∧ n < 24) ∨ (followN n = 1 ∧ infoN n = 24) ∨ (followN n = 2 ∧ infoN n = 25) ∨ (followN n = 4 ∧ infoN n = 26) ∨ (followN n = 8 ∧ infoN n = 27) := by
  unfold followN infoN
  by_cases h1 : n < 24
  · simp [h1]
  by_cases h2 : n < 256
  · simp [h1, h2]
  by_cases h3 : n < 65536
  · simp [h1, h2, h3]
  by_cases h4 : n < 4294967296
  · simp [h1, h2, h3, h4]
  · simp [h1, h2, h3, h4]
theorem av_info [Known] (n : Nat) : AP Tryd.prog 117 [.int .u64 (n : Int)] (.int .u8 (infoN n)) [] := by
  refine AC_of Tryd.func117 rfl Tryd.ntmps117 rfl rfl ?_
  repeat' (first | (apply AL_callP (av_follow _); kernel_rfl; (iterate 4 exact rfl)) | (apply AL_move; exact rfl; exact rfl) | (apply AL_assign; exact rfl; exact rfl) | (apply AL_bin; (iterate 5 exact rfl)) | (apply AL_convT ttok; (iterate 5 exact rfl)) | refine AL_nil ?_ | refine AW_region ?_ | refine AW_seq' ?_ | (apply AW_cond'; exact rfl; all_goals intro hb) | refine then_norm ?_ | refine AW_block ?_ | refine AW_ret ?_ | refine then_ret ?_ | refine blk_ret ?_ | refine AW_skip ?_)
  all_goals refine end0 (.cons _ _ _ _ (.tmp _ _ rfl) .nil) (okSel_nil _) rfl ?_ rfl
  all_goals (rcases info_of n with ⟨h1, h2, h3⟩ | ⟨h1, h2⟩ | ⟨h1, h2⟩ | ⟨h1, h2⟩ | ⟨h1, h2⟩ <;> simp_all)
  all_goals (rw [IntKind.wrap_u8']; omega)
theorem first_eq (m : Int) (i : Nat) (hm : 0 ≤ m ∧ m ≤ 7) (hi : i < 32) : bits .or .u8 (IntKind.u8.wrap (IntKind.u8.wrap m * 2 ^ min (Int.toNat 5) IntKind.u8.bits)) (i : Int) = ((firstB m.toNat i).toNat : Int) := by
  have e2 : IntKind.u8.wrap (IntKind.u8.wrap m * 2 ^ min (Int.toNat 5) IntKind.u8.bits) = (m.toNat : Int) * 32 := by
    rw [show min (Int.toNat 5) IntKind.u8.bits = 5 from rfl, IntKind.wrap_u8', IntKind.wrap_u8']; omega
  rw [e2, or32 m.toNat i (by omega) hi]
  unfold firstB
  rw [UInt8.toNat_ofNat']
  omega
theorem right_m {h : Hd} (hr : rightB h = true) : 0 ≤ h.1 ∧ h.1 ≤ 7 := by
  obtain ⟨m, n, o⟩ := h
  cases o <;> simp [rightB, mayB] at hr <;> omega
theorem byte_eq (n q : Nat) (hq : q < 8) : E.int .u8 (IntKind.u8.wrap ((n : Int).fdiv (2 ^ min (IntKind.i64.wrap (8 * (q : Int))).toNat IntKind.u64.bits))) = E.byte (UInt8.ofNat (n / 256 ^ q)) := by
  have e : IntKind.i64.wrap (8 * (q : Int)) = ((8 * q : Nat) : Int) := by rw [IntWalk.i64_in _ (by omega)]; omega
  rw [e, Int.toNat_natCast, show min (8 * q) IntKind.u64.bits = 8 * q from Nat.min_eq_left (by show 8 * q ≤ 64; omega)]
  rw [show ((n : Int).fdiv (2 ^ (8 * q))) = ((n / 256 ^ q : Nat) : Int) from by
    have e : (2 : Int) ^ (8 * q) = ((256 ^ q : Nat) : Int) := by
      rw [show (256 : Nat) = 2 ^ 8 from rfl, ← Nat.pow_mul]
      simp
    rw [e, Int.fdiv_eq_ediv_of_nonneg _ (Int.natCast_nonneg _), ← Int.natCast_ediv]]
  rw [IntKind.wrap_u8']
  unfold E.byte
  rw [UInt8.toNat_ofNat']
  congr 1
theorem av_write [Known] (h : Hd) (hn : h.2.1 < 18446744073709551616) : AP Tryd.prog 96 [hd h] (.tup [byE (if rightB h then writeL h else []), .int .i64 (if rightB h then 0 else 3)]) [] := by
  refine AP.weak ?_
  have HR := @right_m h
  have HN := hid hn
  clear hn
  refine AC_of Tryd.func96 rfl Tryd.ntmps96 rfl rfl ?_
  repeat' (first | (apply AL_callP (av_right h); kernel_rfl; (iterate 4 exact rfl)) | (apply AL_callP (av_info _); kernel_rfl; (iterate 4 exact rfl)) | (apply AL_callP (av_follow _); kernel_rfl; (iterate 4 exact rfl)) | (apply AL_shl; exact rfl; exact rfl; (exact (by decide)); exact rfl) | (apply AL_move; exact rfl; exact rfl) | (apply AL_assign; exact rfl; exact rfl) | (apply AL_bin; (iterate 5 exact rfl)) | (apply AL_load1 ttok; (iterate 6 exact rfl)) | (apply AL_loadn ttok; (iterate 7 exact rfl)) | (apply AL_fieldAddr ttok; (iterate 7 exact rfl)) | (apply AL_box; (iterate 5 exact rfl)) | (apply AL_not; exact rfl; exact rfl) | (apply AL_convT ttok; (iterate 5 exact rfl)) | refine AL_nil ?_ | refine AW_region ?_ | refine AW_seq' ?_ | (apply AW_cond'; exact rfl; all_goals intro hb) | refine then_norm ?_ | refine AW_block ?_ | refine AW_ret ?_ | refine then_ret ?_ | refine blk_ret ?_ | (apply AL_bs ttok; (iterate 12 exact rfl)) | (apply AW_drawM 7 hmix; (decide +kernel); (kernel_rfl); (kernel_rfl); exact rfl; exact rfl) | (apply AD_cons; (iterate 3 exact rfl)) | refine AD.nil _ | exact qp_ok rfl | refine AW_skip ?_)
  · refine endW (.cons _ _ _ _ (.tmp _ _ rfl) (.cons _ _ _ _ (.tmp _ _ rfl) .nil)) rfl ?_
    simp_all [byE]
  · refine endW (.cons _ _ _ _ (.tmp _ _ rfl) (.cons _ _ _ _ (.tmp _ _ rfl) .nil)) rfl ?_
    have hr : rightB h = true := by simpa using (‹(!rightB h) = false›)
    rw [if_pos hr, if_pos hr, show writeL h = [firstB h.1.toNat 31] by simp [writeL, hb], show E.int IntKind.u8 (bits .or .u8 (IntKind.u8.wrap (IntKind.u8.wrap h.1 * 2 ^ min (Int.toNat 5) IntKind.u8.bits)) 31) = E.byte (firstB h.1.toNat 31) from congrArg _ (first_eq h.1 31 (HR hr) (by omega))]
    rfl
  rename_i hb1
  have hr : rightB h = true := by simpa using hb1
  have hw : writeL h = firstB h.1.toNat (infoN h.2.1) :: beN h.2.1 (followN h.2.1) := by simp [writeL, hb]
  have hlen : (beN h.2.1 (followN h.2.1)).length = followN h.2.1 := beN_length _ _
  have hf8 := followN_le h.2.1
  refine AW_loopJ (fun k tm bx fr => ∃ (i c : Nat) (L : List E), k + i = followN h.2.1 ∧ c = L.length ∧ c = i + 1 ∧ L = ((writeL h).take (i + 1)).map E.byte ∧ tm = [(33, .int .i64 (i : Int)), (32, .int .i64 (followN h.2.1 : Int)), (5, .int .i64 (followN h.2.1 : Int)), (4, .sl (.own 0) L), (3, .int .i64 0), (1, .ptr 0 0)] ∧ bx = [[.int .i64 h.1, .int .u64 (h.2.1 : Int), .bool h.2.2]] ∧ fr = [⟨c, 1, 5⟩]) (followN h.2.1 + 1) (Lands.mk' (m := followN h.2.1) (Nat.lt_succ_self _) ⟨0, 1, [E.byte (firstB h.1.toNat (infoN h.2.1))], rfl, rfl, rfl, by rw [hw]; rfl, rfl, rfl, rfl⟩ ?_ rfl rfl rfl rfl rfl rfl) ?_
  · repeat' (first | exact Av.Sub.nil | refine Av.Sub.cons rfl ?_ | refine Av.Sub.cons ?_ ?_)
    have e := congrArg (fun x : Int => D.sl (.own 0) [E.int .u8 x]) (first_eq h.1 (infoN h.2.1) (HR hr) (by have := infoN_le h.2.1; omega))
    exact e
  rintro k tm bx fr ⟨i, c, L, hk, hc, hi, hL, rfl, rfl, rfl⟩
  have hU : Uni 1 L := hL ▸ uniB1 _
  repeat' (first | (apply AL_shr; exact rfl; exact rfl; rotate_left; exact rfl) | (apply AL_move; exact rfl; exact rfl) | (apply AL_assign; exact rfl; exact rfl) | (apply AL_bin; (iterate 5 exact rfl)) | (apply AL_load1 ttok; (iterate 6 exact rfl)) | (apply AL_fieldAddr ttok; (iterate 7 exact rfl)) | (apply AL_convT ttok; (iterate 5 exact rfl)) | refine AL_nil ?_ | refine AW_region ?_ | refine AW_seq' ?_ | (apply AW_cond'; exact rfl; all_goals intro hb) | refine then_norm ?_ | refine AW_block ?_ | refine AW_exit ?_ | refine AW_ret ?_ | (apply AL_bs ttok; (iterate 12 exact rfl)) | refine AW_skip ?_ | (apply AL_append ttok; (iterate 6 exact rfl); (first | with_reducible assumption | exact rfl | rotate_left); exact rfl; exact rfl; (first | exact uniB_ok rfl | with_reducible assumption | rotate_left); (first | exact uniB_ok rfl | with_reducible assumption | rotate_left); (first | exact List.cons_ne_nil _ _ | with_reducible assumption | rotate_left); (first | with_reducible assumption | rotate_left); (first | with_reducible assumption | rotate_left); exact rfl; exact rfl))
  · have hlt : i < followN h.2.1 := by have := of_decide_eq_true hb; omega
    have hx : IntKind.i64.wrap (IntKind.i64.wrap (↑(followN h.2.1) - 1) - ↑i) = ((followN h.2.1 - 1 - i : Nat) : Int) := by
      rw [IntWalk.i64_in ((followN h.2.1 : Int) - 1) (by omega), IntWalk.i64_in _ (by omega)]; omega
    refine Lands.mk' (m := k - 1) (by omega) ⟨i + 1, L.length + 1, L ++ [E.byte (UInt8.ofNat (h.2.1 / 256 ^ (followN h.2.1 - 1 - i)))], by omega, by simp, by omega, ?_, rfl, rfl, rfl⟩ ?_ rfl rfl rfl rfl rfl rfl
    · rw [hL, hw, List.take_succ_cons, List.take_succ_cons, beN_take_succ _ _ _ hlt]
      simp
    · refine .cons ?_ (.cons rfl (.cons rfl (.cons ?_ (.cons rfl (.cons rfl .nil)))))
      · exact congrArg (D.int .i64) (IntWalk.i64_in _ (by omega))
      · have e := congrArg (fun x => D.sl (.own 0) (L ++ [x])) (byte_eq h.2.1 (followN h.2.1 - 1 - i) (by omega))
        rw [← hx] at e
        exact e
  · have := of_decide_eq_true hb; show L.length + 1 ≤ maxLen; unfold maxLen; omega
  · have := of_decide_eq_true hb; show (L.length + 1) * 1 ≤ 140737488355328; omega
  · have := of_decide_eq_true hb
    have hx : IntKind.i64.wrap (IntKind.i64.wrap (↑(followN h.2.1) - 1) - ↑i) = ((followN h.2.1 - 1 - i : Nat) : Int) := by
      rw [IntWalk.i64_in ((followN h.2.1 : Int) - 1) (by omega), IntWalk.i64_in _ (by omega)]; omega
    rw [hx, IntWalk.i64_in _ (by omega)]; omega
  · refine endW (.cons _ _ _ _ (.tmp _ _ rfl) (.cons _ _ _ _ (.tmp _ _ rfl) .nil)) rfl ?_
    rw [if_pos hr, if_pos hr, hL]
    have := of_decide_eq_false hb
    rw [List.take_of_length_le (by rw [hw, List.length_cons, hlen]; omega)]
end Go.Proofs.YtnihobjehelagaaDoor
end
/- head.Read and head.Shortest over abstract states. -/
section
open Go.RowKit Go.Pl Go.Av
namespace Go.Proofs.YtnihobjehelagaaDoor
set_option linter.unusedVariables false
set_option linter.unusedSimpArgs false
set_option maxHeartbeats 1000000
def rdD (r : Hd × Nat × Nat) : D := .tup [hd r.1, .int .i64 (r.2.1 : Int), .int .i64 (r.2.2 : Int)]
theorem idx_byte (b : List UInt8) (p : Int) (h0 : 0 ≤ p) (h1 : p < (b.length : Int)) : ∃ c r, b.drop p.toNat = c :: r ∧ r.length + p.toNat + 1 = b.length ∧ (b.map E.byte)[p.toNat]? = some (E.byte c) ∧ ∀ j : Nat, j < r.length → (b.map E.byte)[p.toNat + 1 + j]? = (r.map E.byte)[j]? := by
  have h : p.toNat < b.length := by omega
  refine ⟨b[p.toNat], b.drop (p.toNat + 1), List.drop_eq_getElem_cons h, by rw [List.length_drop]; omega, by simp [h], fun j hj => by simp [List.getElem?_drop]⟩
theorem shr5 (c : UInt8) : ((c.toNat : Int)).fdiv (2 ^ min (Int.toNat 5) IntKind.u8.bits) = ((c.toNat / 32 : Nat) : Int) := by
  rw [show min (Int.toNat 5) IntKind.u8.bits = 5 from rfl, Int.fdiv_eq_ediv_of_nonneg _ (by decide)]
  omega
theorem readN_direct {b : List UInt8} {p : Nat} {c : UInt8} {r : List UInt8} (h : b.drop p = c :: r) (h1 : c.toNat % 32 < 24) : readN b p = ((((c.toNat / 32 : Nat) : Int), c.toNat % 32, false), p + 1, 0) := by
  unfold readN; rw [h]; simp only; rw [if_pos h1]
theorem readN_open {b : List UInt8} {p : Nat} {c : UInt8} {r : List UInt8} (h : b.drop p = c :: r) (h1 : c.toNat % 32 = 31) (h2 : mayB (c.toNat / 32 : Nat) = true) : readN b p = ((((c.toNat / 32 : Nat) : Int), 0, true), p + 1, 0) := by
  unfold readN; rw [h]; simp only; rw [if_neg (by omega), if_pos ⟨h1, h2⟩]
theorem readN_bad {b : List UInt8} {p : Nat} {c : UInt8} {r : List UInt8} (h : b.drop p = c :: r) (h1 : 27 < c.toNat % 32) (h2 : c.toNat % 32 = 31 → mayB (c.toNat / 32 : Nat) = false) : readN b p = ((0, 0, false), 0, 3) := by
  unfold readN; rw [h]; simp only; rw [if_neg (by omega), if_neg (fun hh => by have := h2 hh.1; rw [hh.2] at this; cases this), if_pos h1]
theorem readN_short {b : List UInt8} {p : Nat} {c : UInt8} {r : List UInt8} (h : b.drop p = c :: r) (h1 : ¬ c.toNat % 32 < 24) (h2 : ¬ 27 < c.toNat % 32) (h3 : r.length < 2 ^ (c.toNat % 32 - 24)) : readN b p = ((0, 0, false), 0, 8) := by
  unfold readN; rw [h]; simp only; rw [if_neg h1, if_neg (by omega), if_neg h2, if_pos h3]
theorem readN_long {b : List UInt8} {p : Nat} {c : UInt8} {r : List UInt8} (h : b.drop p = c :: r) (h1 : ¬ c.toNat % 32 < 24) (h2 : ¬ 27 < c.toNat % 32) (h3 : ¬ r.length < 2 ^ (c.toNat % 32 - 24)) : readN b p = ((((c.toNat / 32 : Nat) : Int), beVal (r.take (2 ^ (c.toNat % 32 - 24))), false), p + 1 + 2 ^ (c.toNat % 32 - 24), 0) := by
  unfold readN; rw [h]; simp only; rw [if_neg h1, if_neg (by omega), if_neg h2, if_neg h3]
theorem pow_eq (v : Nat) (h : ¬ v < 24) (h' : ¬ 27 < v) : IntKind.i64.wrap (1 * 2 ^ min (IntKind.u8.wrap ((v : Int) - 24)).toNat IntKind.i64.bits) = ((2 ^ (v - 24) : Nat) : Int) ∧ 2 ^ (v - 24) ≤ 8 := by
  obtain rfl | rfl | rfl | rfl : v = 24 ∨ v = 25 ∨ v = 26 ∨ v = 27 := by omega
  all_goals decide
theorem av_read [Known] (b : List UInt8) (p : Int) (hb : b.length ≤ 4611686018427387904) : AP Tryd.prog 119 [byE b, .int .i64 p] (rdD (readH b p)) [] := by
  have HB := hid hb
  clear hb
  have HU := uniB1 b
  refine AC_of Tryd.func119 rfl Tryd.ntmps119 rfl rfl ?_
  repeat' (first | (apply AL_move; exact rfl; exact rfl) | (apply AL_assign; exact rfl; exact rfl) | (apply AL_bin; (iterate 5 exact rfl)) | (apply AL_store ttok; (iterate 8 exact rfl)) | refine AL_nil ?_ | (apply AL_guardT; (iterate 3 exact rfl); (first | with_reducible assumption | (guard_target =ₛ true = true; rfl) | (guard_target =ₛ false = false; rfl) | (guard_target =ₛ (!true) = false; rfl) | (guard_target =ₛ (!false) = true; rfl))) | (apply AL_guardFf; (iterate 3 exact rfl); (first | with_reducible assumption | (guard_target =ₛ true = true; rfl) | (guard_target =ₛ false = false; rfl) | (guard_target =ₛ (!true) = false; rfl) | (guard_target =ₛ (!false) = true; rfl))) | (apply AL_guardS; exact rfl; exact rfl; all_goals intro hb) | (apply AL_pickT; exact rfl; (first | with_reducible assumption | (guard_target =ₛ true = true; rfl) | (guard_target =ₛ false = false; rfl) | (guard_target =ₛ (!true) = false; rfl) | (guard_target =ₛ (!false) = true; rfl)); exact rfl; exact rfl) | (apply AL_pickF; exact rfl; (first | with_reducible assumption | (guard_target =ₛ true = true; rfl) | (guard_target =ₛ false = false; rfl) | (guard_target =ₛ (!true) = false; rfl) | (guard_target =ₛ (!false) = true; rfl)); exact rfl; exact rfl) | refine AW_region ?_ | refine AW_seq' ?_ | (apply AW_condA; exact rfl; (first | with_reducible assumption | (guard_target =ₛ true = true; rfl) | (guard_target =ₛ false = false; rfl) | (guard_target =ₛ (!true) = false; rfl) | (guard_target =ₛ (!false) = true; rfl))) | (apply AW_cond'; exact rfl; all_goals intro hb) | refine then_norm ?_ | refine AW_block ?_ | refine AW_ret ?_ | refine then_ret ?_ | refine blk_ret ?_ | (apply AL_len ttok; (iterate 4 exact rfl)) | (apply AL_build ttok; (iterate 6 exact rfl)) | (apply AL_alloc ttok; (iterate 4 exact rfl)) | refine AW_skip ?_)
  · (apply end0 (ts := []); (repeat (first | exact ResL.nil | (apply ResL.cons; first | exact .tmp _ _ rfl | (apply res_n ttok; (iterate 6 exact rfl)) | (apply res_1 ttok; (iterate 5 exact rfl))))); exact okSel_nil _; exact rfl; rotate_left; exact rfl)
    have : p < 0 := of_decide_eq_true hb
    rw [show readH b p = _ from if_pos (.inl this)]; rfl
  · (apply end0 (ts := []); (repeat (first | exact ResL.nil | (apply ResL.cons; first | exact .tmp _ _ rfl | (apply res_n ttok; (iterate 6 exact rfl)) | (apply res_1 ttok; (iterate 5 exact rfl))))); exact okSel_nil _; exact rfl; rotate_left; exact rfl)
    have : p > ((b.map E.byte).length : Int) := of_decide_eq_true hb
    rw [List.length_map] at this
    rw [show readH b p = _ from if_pos (.inr this)]; rfl
  · (apply end0 (ts := []); (repeat (first | exact ResL.nil | (apply ResL.cons; first | exact .tmp _ _ rfl | (apply res_n ttok; (iterate 6 exact rfl)) | (apply res_1 ttok; (iterate 5 exact rfl))))); exact okSel_nil _; exact rfl; rotate_left; exact rfl)
    have : p = ((b.map E.byte).length : Int) := by simpa using hb
    rw [List.length_map] at this
    have hd : b.drop p.toNat = [] := by rw [List.drop_eq_nil_iff]; omega
    rw [show readH b p = readN b p.toNat from if_neg (by omega)]
    unfold readN
    rw [hd]; rfl
  rename_i g1 g2
  have h0 : 0 ≤ p := by have := of_decide_eq_false g1; omega
  have h1 : p < (b.length : Int) := by
    have a1 := of_decide_eq_false g2
    rw [List.length_map] at a1 hb
    have a2 : p ≠ (b.length : Int) := by simpa using hb
    omega
  obtain ⟨c, r, hd, hl, hv, hr⟩ := idx_byte b p h0 h1
  have HH := hid (show readH b p = readN b p.toNat from if_neg (by omega))
  have HD := hid hd
  have HL := hid hl
  have HR := hid hr
  have e1 : IntKind.i64.wrap ((c.toNat / 32 : Nat) : Int) = ((c.toNat / 32 : Nat) : Int) := IntWalk.i64_in _ (by have := c.toNat_lt; omega)
  have e2 : IntKind.u64.wrap ((c.toNat % 32 : Nat) : Int) = ((c.toNat % 32 : Nat) : Int) := by rw [IntKind.wrap_u64]; omega
  have e3 : IntKind.i64.wrap (p + 1) = ((p.toNat + 1 : Nat) : Int) := by have := HB.out; rw [IntWalk.i64_in _ (by omega)]; omega
  clear hb g1 g2 hd hl hr
  repeat' (first | rw [and31 c] | rw [shr5 c] | rw [e1] | rw [e2] | rw [e3] | (apply AL_callP (av_may _); kernel_rfl; (iterate 4 exact rfl)) | (apply AL_move; exact rfl; exact rfl) | (apply AL_assign; exact rfl; exact rfl) | (apply AL_bin; (iterate 5 exact rfl)) | (apply AL_load1 ttok; (iterate 6 exact rfl)) | (apply AL_loadn ttok; (iterate 7 exact rfl)) | (apply AL_fieldAddr ttok; (iterate 7 exact rfl)) | (apply AL_store ttok; (iterate 8 exact rfl)) | (apply AL_convT ttok; (iterate 5 exact rfl)) | refine AL_nil ?_ | (apply AL_guardT; (iterate 3 exact rfl); (first | with_reducible assumption | (guard_target =ₛ true = true; rfl) | (guard_target =ₛ false = false; rfl) | (guard_target =ₛ (!true) = false; rfl) | (guard_target =ₛ (!false) = true; rfl))) | (apply AL_guardFt; (iterate 3 exact rfl); (first | with_reducible assumption | (guard_target =ₛ true = true; rfl) | (guard_target =ₛ false = false; rfl) | (guard_target =ₛ (!true) = false; rfl) | (guard_target =ₛ (!false) = true; rfl))) | (apply AL_guardS; exact rfl; exact rfl; all_goals intro hb) | (apply AL_pickT; exact rfl; (first | with_reducible assumption | (guard_target =ₛ true = true; rfl) | (guard_target =ₛ false = false; rfl) | (guard_target =ₛ (!true) = false; rfl) | (guard_target =ₛ (!false) = true; rfl)); exact rfl; exact rfl) | (apply AL_pickF; exact rfl; (first | with_reducible assumption | (guard_target =ₛ true = true; rfl) | (guard_target =ₛ false = false; rfl) | (guard_target =ₛ (!true) = false; rfl) | (guard_target =ₛ (!false) = true; rfl)); exact rfl; exact rfl) | refine AW_region ?_ | refine AW_seq' ?_ | (apply AW_condB; exact rfl; (first | with_reducible assumption | (guard_target =ₛ true = true; rfl) | (guard_target =ₛ false = false; rfl) | (guard_target =ₛ (!true) = false; rfl) | (guard_target =ₛ (!false) = true; rfl))) | (apply AW_cond'; exact rfl; all_goals intro hb) | refine then_norm ?_ | refine AW_block ?_ | refine AW_ret ?_ | refine then_ret ?_ | refine blk_ret ?_ | (apply AL_len ttok; (iterate 4 exact rfl)) | (apply AL_eload1 ttok; (iterate 6 exact rfl)) | (apply AL_build ttok; (iterate 6 exact rfl)) | (apply AL_alloc ttok; (iterate 4 exact rfl)) | refine AW_skip ?_ | (apply AL_idx ttok; (iterate 6 exact rfl); (first | with_reducible assumption | exact Int.natCast_nonneg _ | (guard_target = (0:Int) ≤ (OfNat.ofNat _ : Int); decide) | rotate_left); (first | with_reducible assumption | exact rfl); (first | exact uniB_ok rfl | with_reducible assumption | rotate_left)) | (apply AL_shr; exact rfl; exact rfl; (first | with_reducible assumption | exact Int.natCast_nonneg _ | (exact (by decide)) | rotate_left); exact rfl) | (apply AL_shl; exact rfl; exact rfl; (first | with_reducible assumption | exact Int.natCast_nonneg _ | (exact (by decide)) | rotate_left); exact rfl))
  · (apply end0 (ts := []); (repeat (first | exact ResL.nil | (apply ResL.cons; first | exact .tmp _ _ rfl | (apply res_n ttok; (iterate 6 exact rfl)) | (apply res_1 ttok; (iterate 5 exact rfl))))); exact okSel_nil _; exact rfl; rotate_left; exact rfl)
    rw [HH.out, readN_direct HD.out (by have := of_decide_eq_true hb; omega)]; rfl
  · (apply end0 (ts := []); (repeat (first | exact ResL.nil | (apply ResL.cons; first | exact .tmp _ _ rfl | (apply res_n ttok; (iterate 6 exact rfl)) | (apply res_1 ttok; (iterate 5 exact rfl))))); exact okSel_nil _; exact rfl; rotate_left; exact rfl)
    rw [HH.out, readN_open HD.out (by have := of_decide_eq_false (‹decide _ = false›); simp at *; omega) hb]; rfl
  iterate 2
    · (apply end0 (ts := []); (repeat (first | exact ResL.nil | (apply ResL.cons; first | exact .tmp _ _ rfl | (apply res_n ttok; (iterate 6 exact rfl)) | (apply res_1 ttok; (iterate 5 exact rfl))))); exact okSel_nil _; exact rfl; rotate_left; exact rfl)
      rw [HH.out, readN_bad HD.out (by have := of_decide_eq_true hb; omega) (by intro hh; first | assumption | simp_all)]; rfl
    · (apply end0 (ts := []); (repeat (first | exact ResL.nil | (apply ResL.cons; first | exact .tmp _ _ rfl | (apply res_n ttok; (iterate 6 exact rfl)) | (apply res_1 ttok; (iterate 5 exact rfl))))); exact okSel_nil _; exact rfl; rotate_left; exact rfl)
      have g1 := of_decide_eq_true hb
      have g2 := of_decide_eq_false (‹decide (((c.toNat % 32 : Nat) : Int) > 27) = false›)
      have g3 := of_decide_eq_false (‹decide (((c.toNat % 32 : Nat) : Int) < 24) = false›)
      have g4 := pow_eq (c.toNat % 32) (by omega) (by omega)
      have g5 := HL.out
      have g6 := HB.out
      rw [g4.1, List.length_map, IntWalk.i64_in _ (by omega)] at g1
      rw [HH.out, readN_short HD.out (by omega) (by omega) (by omega)]; rfl
    · have g1 := of_decide_eq_false hb
      have g2 := of_decide_eq_false (‹decide (((c.toNat % 32 : Nat) : Int) > 27) = false›)
      have g3 := of_decide_eq_false (‹decide (((c.toNat % 32 : Nat) : Int) < 24) = false›)
      have g4 := pow_eq (c.toNat % 32) (by omega) (by omega)
      have g5 := HL.out
      have g6 := HB.out
      rw [g4.1, List.length_map, IntWalk.i64_in _ (by omega)] at g1
      rw [g4.1]
      have g7 := HH.out.trans (readN_long HD.out (by omega) (by omega) (by omega))
      generalize 2 ^ (c.toNat % 32 - 24) = m at g1 g4 g7 ⊢
      have g8 := g4.2
      have G7 := hid g7
      clear hb g2 g3 g4 g7
      refine AW_loopJ (fun k tm bx fr => ∃ i, k + i = m ∧ tm = [(75, .int .i64 (i : Int)), (74, .int .i64 (m : Int)), (9, .int .i64 (m : Int)), (7, .ptr 1 0), (1, .int .i64 ((p.toNat + 1 : Nat) : Int)), (0, byE b), (4, .ptr 0 0)] ∧ bx = [[.int .i64 0, .int .u64 0, .bool false], [.int .i64 ((c.toNat / 32 : Nat) : Int), .int .u64 (beVal (r.take i) : Nat), .bool false]] ∧ fr = []) (m + 1) (Lands.mk' (m := m) (Nat.lt_succ_self _) ⟨0, rfl, rfl, rfl, rfl⟩ ?_ rfl rfl rfl rfl rfl rfl) ?_
      · repeat' (first | exact Av.Sub.nil | refine Av.Sub.cons rfl ?_)
      rintro k tm bx fr ⟨i, hk, rfl, rfl, rfl⟩
      rcases Nat.lt_or_ge i m with hlt | hge
      · have hd : decide ((i : Int) < (m : Int)) = true := by simp; omega
        have hir : i < r.length := by omega
        have hv' : (b.map E.byte)[((p.toNat + 1 + i : Nat) : Int).toNat]? = some (E.byte r[i]) := by
          rw [Int.toNat_natCast, HR.out i hir]; simp [hir]
        have e4 : IntKind.i64.wrap (((p.toNat + 1 : Nat) : Int) + (i : Int)) = ((p.toNat + 1 + i : Nat) : Int) := by rw [IntWalk.i64_in _ (by omega)]; omega
        have e7 : IntKind.i64.wrap ((i : Int) + 1) = ((i + 1 : Nat) : Int) := by rw [IntWalk.i64_in _ (by omega)]; omega
        have e6 : IntKind.u64.wrap ((r[i].toNat : Nat) : Int) = ((r[i].toNat : Nat) : Int) := by have := r[i].toNat_lt; rw [IntKind.wrap_u64]; omega
        have e5 : bits .or .u64 (IntKind.u64.wrap (((beVal (r.take i) : Nat) : Int) * 2 ^ min (Int.toNat 8) IntKind.u64.bits)) ((r[i].toNat : Nat) : Int) = ((beVal (r.take (i + 1)) : Nat) : Int) := by
          have h9 := beVal_step (beVal (r.take i)) r[i] (beVal_take_lt r i (by omega))
          rw [show ((2 : Int) ^ min (Int.toNat 8) IntKind.u64.bits) = 256 from rfl, h9.1, h9.2, take_snoc r i hir]
        repeat' (first | rw [e4] | rw [e5] | rw [e6] | rw [e7] | (apply AL_move; exact rfl; exact rfl) | (apply AL_assign; exact rfl; exact rfl) | (apply AL_bin; (iterate 5 exact rfl)) | (apply AL_load1 ttok; (iterate 6 exact rfl)) | (apply AL_fieldAddr ttok; (iterate 7 exact rfl)) | (apply AL_store ttok; (iterate 8 exact rfl)) | (apply AL_convT ttok; (iterate 5 exact rfl)) | refine AL_nil ?_ | refine AW_region ?_ | refine AW_seq' ?_ | (apply AW_condA; exact rfl; (first | with_reducible assumption | (guard_target =ₛ true = true; rfl) | (guard_target =ₛ false = false; rfl) | (guard_target =ₛ (!true) = false; rfl) | (guard_target =ₛ (!false) = true; rfl))) | refine then_norm ?_ | refine AW_block ?_ | (apply AL_eload1 ttok; (iterate 6 exact rfl)) | (apply AW_drawM 10 hmix; (decide +kernel); (kernel_rfl); (kernel_rfl); exact rfl; exact rfl) | (apply AD_cons; (iterate 3 exact rfl)) | refine AD.nil _ | exact qp_ok rfl | refine AW_skip ?_ | (apply AL_idx ttok; (iterate 6 exact rfl); (first | with_reducible assumption | exact Int.natCast_nonneg _ | (guard_target = (0:Int) ≤ (OfNat.ofNat _ : Int); decide) | rotate_left); (first | with_reducible assumption | exact rfl); (first | exact uniB_ok rfl | with_reducible assumption | rotate_left)) | (apply AL_shl; exact rfl; exact rfl; (first | with_reducible assumption | exact Int.natCast_nonneg _ | (exact (by decide)) | rotate_left); exact rfl))
        refine Lands.mk' (m := k - 1) (by omega) ⟨i + 1, by omega, rfl, rfl, rfl⟩ ?_ rfl rfl rfl rfl rfl rfl
        repeat' (first | exact Av.Sub.nil | refine Av.Sub.cons rfl ?_)
      · have hd : decide ((i : Int) < (m : Int)) = false := by simp; omega
        repeat' (first | (apply AL_move; exact rfl; exact rfl) | (apply AL_assign; exact rfl; exact rfl) | (apply AL_bin; (iterate 5 exact rfl)) | (apply AL_loadn ttok; (iterate 7 exact rfl)) | (apply AL_store ttok; (iterate 8 exact rfl)) | refine AL_nil ?_ | refine AW_region ?_ | refine AW_seq' ?_ | (apply AW_condB; exact rfl; (first | with_reducible assumption | (guard_target =ₛ true = true; rfl) | (guard_target =ₛ false = false; rfl) | (guard_target =ₛ (!true) = false; rfl) | (guard_target =ₛ (!false) = true; rfl))) | refine then_norm ?_ | refine AW_exit ?_ | refine AW_ret ?_)
        (apply end0 (ts := []); (repeat (first | exact ResL.nil | (apply ResL.cons; first | exact .tmp _ _ rfl | (apply res_n ttok; (iterate 6 exact rfl)) | (apply res_1 ttok; (iterate 5 exact rfl))))); exact okSel_nil _; exact rfl; rotate_left; exact rfl)
        have h9 : i = m := by omega
        subst h9
        rw [G7.out, IntWalk.i64_in _ (by omega)]
        rfl
    · have g2 := of_decide_eq_false hb
      have g3 := of_decide_eq_false (‹decide (((c.toNat % 32 : Nat) : Int) < 24) = false›)
      rw [IntKind.wrap_u8']; omega
end Go.Proofs.YtnihobjehelagaaDoor
end
/- The reader of items: what is needed, heads, the end, pieces. -/
section
open Go.RowKit Go.Pl Go.Av
namespace Go.Proofs.YtnihobjehelagaaDoor
set_option linter.unusedVariables false
set_option linter.unusedSimpArgs false
set_option maxHeartbeats 4000000
/-- what a reader that meets an error panics with -/
abbrev faultD (e : Nat) : D := .iface 89 (.agg [.int .i64 (e : Int)])
/-- what a reader's cells hold -/
abbrev rdC (b : List UInt8) (p m : Nat) : List D := [byE b, .int .i64 (p : Int), .int .i64 (m : Int)]
theorem av_need [Known] (e : Int) : AP Tryd.prog 98 [.bool true, .int .i64 e] (.tup []) [] := by
  refine AP.ofA ?_
  refine AC_of Tryd.func98 rfl Tryd.ntmps98 rfl rfl ?_
  repeat' (first | (apply AL_move; exact rfl; exact rfl) | (apply AL_not; exact rfl; exact rfl) | refine AL_nil ?_ | refine AW_region ?_ | refine AW_seq' ?_ | (apply AW_condB; exact rfl; (first | with_reducible assumption | (guard_target =ₛ true = true; rfl) | (guard_target =ₛ false = false; rfl) | (guard_target =ₛ (!true) = false; rfl) | (guard_target =ₛ (!false) = true; rfl))) | refine AW_skip ?_)
  all_goals (apply endQn []; exact ResL.nil; (iterate 4 exact rfl))
  all_goals rfl
theorem ax_need [Known] (e : Nat) : AX Tryd.prog 98 [.bool false, .int .i64 (e : Int)] [] (faultD e) := by
  refine AC_of Tryd.func98 rfl Tryd.ntmps98 rfl rfl ?_
  repeat' (first | (apply AL_move; exact rfl; exact rfl) | (apply AL_not; exact rfl; exact rfl) | refine AL_nil ?_ | (apply AL_panicI; exact rfl; exact rfl) | refine AW_region ?_ | refine AW_seq' ?_ | (apply AW_condA; exact rfl; (first | with_reducible assumption | (guard_target =ₛ true = true; rfl) | (guard_target =ₛ false = false; rfl) | (guard_target =ₛ (!true) = false; rfl) | (guard_target =ₛ (!false) = true; rfl))) | (apply AL_build ttok; (iterate 6 exact rfl)) | (apply AL_makeIface ttok; (iterate 4 exact rfl)))
  all_goals exact ⟨[], [], okSel_nil _, okSel_nil _, fun i h => by simp at h, fun i h => by simp at h, rfl, Nat.zero_le _⟩
theorem rdS_err {s : List UInt8} {e : Nat} (h : rdS s = .error e) : e = 8 ∨ e = 3 := by
  cases s with
  | nil => simp [rdS] at h; exact .inl h.symm
  | cons c t =>
    simp only [rdS] at h
    split at h
    · cases h
    split at h
    · cases h
    split at h
    · injection h with h; exact .inr h.symm
    split at h
    · injection h with h; exact .inl h.symm
    · cases h
theorem readH_rdS (b : List UInt8) (p : Nat) (hp : p ≤ b.length) : readH b (p : Int) = match rdS (b.drop p) with
    | .error e => ((0, 0, false), 0, e)
    | .ok (h, r) => (h, b.length - r.length, 0) := by
  have h := readN_rdS b p hp
  rw [readH, if_neg (by omega), Int.toNat_natCast]
  exact h
theorem av_rhead [Known] (b : List UInt8) (p m : Nat) (hb : b.length ≤ 1099511627776) (hp : p ≤ b.length) : AR Tryd.prog 97 [.ptr 0 0] [rdC b p m] (match rdS (b.drop p) with
    | .error e => .error (faultD e)
    | .ok (h, r) => .ok (hd h, [rdC b (b.length - r.length) m])) := by
  have hR := av_read b (p : Int) (by omega)
  rw [readH_rdS b p hp] at hR
  cases hr : rdS (b.drop p) with
  | error e =>
    rw [hr] at hR
    dsimp only at hR ⊢
    have he : ((e : Int) == 0) = false := by rcases rdS_err hr with rfl | rfl <;> rfl
    refine AC_of Tryd.func97 rfl Tryd.ntmps97 rfl rfl ?_
    repeat' (first | (apply AL_callPw (hR); kernel_rfl; (iterate 4 exact rfl)) | rw [he] | (apply AL_callX [] (ax_need e); kernel_rfl; (iterate 6 exact rfl); intro bx2 fr2 hle2) | (apply AL_move; exact rfl; exact rfl) | (apply AL_assign; exact rfl; exact rfl) | (apply AL_bin; (iterate 5 exact rfl)) | (apply AL_load1 ttok; (iterate 6 exact rfl)) | (apply AL_fieldAddr ttok; (iterate 7 exact rfl)) | (apply AL_nilCheck; exact rfl; exact rfl) | (apply AL_store ttok; (iterate 8 exact rfl)) | (apply AL_extract; (iterate 3 exact rfl)) | refine AL_nil ?_ | refine AW_region ?_ | refine AW_seq' ?_ | (apply AL_allocZ ttok; (iterate 4 exact rfl)) | (apply AW_drawE 16 hmix; (decide +kernel); (kernel_rfl); (kernel_rfl); (kernel_rfl); exact rfl; exact rfl) | (apply AE_consZ; (iterate 4 exact rfl)) | exact AE.nil _ _ _ _ | (apply AEk_puT; exact rfl) | (apply AEk_efT; exact rfl) | (apply AEk_pu; exact rfl) | (apply AOt_mk; exact rfl; exact rfl; (decide +kernel); exact rfl) | (apply AO_puT; exact rfl) | (apply AO_efT; exact rfl) | (apply AO_pu; exact rfl) | exact AO.nil _ _ _ | (apply AOs_skip; (decide +kernel)) | (apply AOs_goZ; (iterate 3 exact rfl)) | exact AOs.nil | exact qY_ok rfl rfl | exact qY_none rfl | exact qY_ef rfl rfl | refine then_pan ?_)
    all_goals first | (apply endX; exact rfl; (first | exact Nat.zero_le _ | exact Nat.le_trans (Nat.le_of_ble_eq_true rfl) (by assumption)); exact rfl)
  | ok y =>
    obtain ⟨h, r⟩ := y
    rw [hr] at hR
    dsimp only at hR ⊢
    refine AC_of Tryd.func97 rfl Tryd.ntmps97 rfl rfl ?_
    repeat' (first | (apply AL_callPw (hR); kernel_rfl; (iterate 4 exact rfl)) | (apply AL_callPw (av_need 0); kernel_rfl; (iterate 4 exact rfl)) | (apply AL_move; exact rfl; exact rfl) | (apply AL_assign; exact rfl; exact rfl) | (apply AL_bin; (iterate 5 exact rfl)) | (apply AL_load1 ttok; (iterate 6 exact rfl)) | (apply AL_loadn ttok; (iterate 7 exact rfl)) | (apply AL_fieldAddr ttok; (iterate 7 exact rfl)) | (apply AL_nilCheck; exact rfl; exact rfl) | (apply AL_store ttok; (iterate 8 exact rfl)) | (apply AL_extract; (iterate 3 exact rfl)) | refine AL_nil ?_ | refine AW_region ?_ | refine AW_seq' ?_ | refine then_norm ?_ | refine AW_ret ?_ | (apply AL_allocZ ttok; (iterate 4 exact rfl)) | (apply AW_drawE 16 hmix; (decide +kernel); (kernel_rfl); (kernel_rfl); (kernel_rfl); exact rfl; exact rfl) | (apply AE_consZ; (iterate 4 exact rfl)) | exact AE.nil _ _ _ _ | (apply AEk_puT; exact rfl) | (apply AEk_efT; exact rfl) | (apply AEk_ef; exact rfl) | (apply AOt_mk; exact rfl; exact rfl; (decide +kernel); exact rfl) | (apply AO_puT; exact rfl) | (apply AO_efT; exact rfl) | (apply AO_ef; exact rfl) | exact AO.nil _ _ _ | (apply AOs_skip; (decide +kernel)) | (apply AOs_goZ; (iterate 3 exact rfl)) | exact AOs.nil | exact qY_ok rfl rfl | exact qY_ef rfl rfl | exact qY_efn rfl)
    all_goals first | (apply endR (rfl) [0]; (repeat (first | exact ResL.nil | (apply ResL.cons; first | exact .tmp _ _ rfl | (apply res_n ttok; (iterate 6 exact rfl)) | (apply res_1 ttok; (iterate 5 exact rfl))))); (iterate 4 exact rfl))
    all_goals rfl
end Go.Proofs.YtnihobjehelagaaDoor
end
/- The reader of items: the end, pieces. -/
section
open Go.RowKit Go.Pl Go.Av
namespace Go.Proofs.YtnihobjehelagaaDoor
set_option linter.unusedVariables false
set_option linter.unusedSimpArgs false
set_option maxHeartbeats 4000000
theorem byte255 (c : UInt8) : ((c.toNat : Int) == 255) = (c == 255) := by
  rw [Bool.eq_iff_iff, beq_iff_eq, beq_iff_eq]
  constructor
  · intro h
    have : c.toNat = (255 : UInt8).toNat := by show c.toNat = 255; omega
    exact UInt8.toNat_inj.1 this
  · rintro rfl; rfl
theorem drop_at {b : List UInt8} {p : Nat} (h : p < b.length) : ∃ c t, b.drop p = c :: t ∧ (b.map E.byte)[((p : Nat) : Int).toNat]? = some (E.byte c) ∧ t = b.drop (p + 1) := by
  refine ⟨b[p], b.drop (p + 1), List.drop_eq_getElem_cons h, ?_, rfl⟩
  rw [Int.toNat_natCast, List.getElem?_map, List.getElem?_eq_getElem h]; rfl
theorem av_ends [Known] (b : List UInt8) (p m : Nat) (hb : b.length ≤ 1099511627776) (hp : p ≤ b.length) : AQ Tryd.prog 120 [.ptr 0 0] [rdC b p m] (.bool (endB (b.drop p))) [rdC b (if endB (b.drop p) = true then p + 1 else p) m] := by
  have hU := uniB1 b
  rcases Nat.lt_or_ge p b.length with hlt | hge
  · obtain ⟨c, t, hd, hv, _⟩ := drop_at hlt
    have d1 : decide ((p : Int) < ((b.map E.byte).length : Int)) = true := by simp; omega
    have e1 : IntKind.i64.wrap ((p : Int) + 1) = ((p + 1 : Nat) : Int) := by rw [IntWalk.i64_in _ (by omega)]; omega
    have e2 := byte255 c
    rw [hd]
    cases hc : c == 255 with
    | true =>
      rw [hc] at e2
      have he : endB (c :: t) = true := hc
      rw [he, if_pos rfl]
      refine AQ.weak ?_
      refine AC_of Tryd.func120 rfl Tryd.ntmps120 rfl rfl ?_
      repeat' (first | rw [e1] | rw [e2] | (apply AL_move; exact rfl; exact rfl) | (apply AL_assign; exact rfl; exact rfl) | (apply AL_bin; (iterate 5 exact rfl)) | (apply AL_load1 ttok; (iterate 6 exact rfl)) | (apply AL_fieldAddr ttok; (iterate 7 exact rfl)) | (apply AL_nilCheck; exact rfl; exact rfl) | (apply AL_store ttok; (iterate 8 exact rfl)) | refine AL_nil ?_ | (apply AL_guardT; (iterate 3 exact rfl); (first | with_reducible assumption | decide +kernel)) | (apply AL_pickT; exact rfl; (first | with_reducible assumption | decide +kernel); exact rfl; exact rfl) | refine AW_region ?_ | refine AW_seq' ?_ | (apply AW_condA; exact rfl; (first | with_reducible assumption | decide +kernel)) | refine then_norm ?_ | refine AW_ret ?_ | refine then_ret ?_ | (apply AL_len ttok; (iterate 4 exact rfl)) | (apply AL_eload1 ttok; (iterate 6 exact rfl)) | (apply AW_drawE 19 hmix; (decide +kernel); (kernel_rfl); (kernel_rfl); (kernel_rfl); exact rfl; exact rfl) | (apply AE_consZ; (iterate 4 exact rfl)) | exact AE.nil _ _ _ _ | (apply AEk_puT; exact rfl) | (apply AOt_mk; exact rfl; exact rfl; (decide +kernel); exact rfl) | (apply AO_puT; exact rfl) | exact AO.nil _ _ _ | (apply AOs_skip; (decide +kernel)) | exact AOs.nil | exact qY_ok rfl rfl | (apply AL_idx ttok; (iterate 6 exact rfl); (first | with_reducible assumption | decide +kernel | exact Int.natCast_nonneg _ | (guard_target = (0:Int) ≤ (OfNat.ofNat _ : Int); decide) | rotate_left); (first | with_reducible assumption | decide +kernel | exact rfl); (first | exact uniB_ok rfl | with_reducible assumption | decide +kernel | rotate_left)))
      all_goals (apply endQ [0]; (repeat (first | exact ResL.nil | (apply ResL.cons; first | exact .tmp _ _ rfl | (apply res_n ttok; (iterate 6 exact rfl)) | (apply res_1 ttok; (iterate 5 exact rfl))))); (iterate 4 exact rfl))
      all_goals rfl
    | false =>
      rw [hc] at e2
      have he : endB (c :: t) = false := hc
      rw [he, if_neg (by simp)]
      refine AQ.weak ?_
      refine AC_of Tryd.func120 rfl Tryd.ntmps120 rfl rfl ?_
      repeat' (first | rw [e2] | (apply AL_move; exact rfl; exact rfl) | (apply AL_assign; exact rfl; exact rfl) | (apply AL_bin; (iterate 5 exact rfl)) | (apply AL_load1 ttok; (iterate 6 exact rfl)) | (apply AL_fieldAddr ttok; (iterate 7 exact rfl)) | (apply AL_nilCheck; exact rfl; exact rfl) | refine AL_nil ?_ | (apply AL_guardT; (iterate 3 exact rfl); (first | with_reducible assumption | decide +kernel)) | (apply AL_pickT; exact rfl; (first | with_reducible assumption | decide +kernel); exact rfl; exact rfl) | refine AW_region ?_ | refine AW_seq' ?_ | (apply AW_condB; exact rfl; (first | with_reducible assumption | decide +kernel)) | refine then_norm ?_ | refine AW_ret ?_ | (apply AL_len ttok; (iterate 4 exact rfl)) | (apply AL_eload1 ttok; (iterate 6 exact rfl)) | (apply AW_drawE 19 hmix; (decide +kernel); (kernel_rfl); (kernel_rfl); (kernel_rfl); exact rfl; exact rfl) | (apply AE_consZ; (iterate 4 exact rfl)) | exact AE.nil _ _ _ _ | (apply AEk_puT; exact rfl) | (apply AOt_mk; exact rfl; exact rfl; (decide +kernel); exact rfl) | (apply AO_puT; exact rfl) | exact AO.nil _ _ _ | (apply AOs_skip; (decide +kernel)) | exact AOs.nil | exact qY_ok rfl rfl | refine AW_skip ?_ | (apply AL_idx ttok; (iterate 6 exact rfl); (first | with_reducible assumption | decide +kernel | exact Int.natCast_nonneg _ | (guard_target = (0:Int) ≤ (OfNat.ofNat _ : Int); decide) | rotate_left); (first | with_reducible assumption | decide +kernel | exact rfl); (first | exact uniB_ok rfl | with_reducible assumption | decide +kernel | rotate_left)))
      all_goals (apply endQ [0]; (repeat (first | exact ResL.nil | (apply ResL.cons; first | exact .tmp _ _ rfl | (apply res_n ttok; (iterate 6 exact rfl)) | (apply res_1 ttok; (iterate 5 exact rfl))))); (iterate 4 exact rfl))
      all_goals rfl
  · have d1 : decide ((p : Int) < ((b.map E.byte).length : Int)) = false := by simp; omega
    have hd : b.drop p = [] := List.drop_eq_nil_of_le hge
    rw [hd, if_neg (by simp [endB])]
    refine AQ.weak ?_
    refine AC_of Tryd.func120 rfl Tryd.ntmps120 rfl rfl ?_
    repeat' (first | (apply AL_move; exact rfl; exact rfl) | (apply AL_assign; exact rfl; exact rfl) | (apply AL_bin; (iterate 5 exact rfl)) | (apply AL_load1 ttok; (iterate 6 exact rfl)) | (apply AL_fieldAddr ttok; (iterate 7 exact rfl)) | (apply AL_nilCheck; exact rfl; exact rfl) | refine AL_nil ?_ | (apply AL_guardFt; (iterate 3 exact rfl); (first | with_reducible assumption | decide +kernel)) | (apply AL_pickF; exact rfl; (first | with_reducible assumption | decide +kernel); exact rfl; exact rfl) | refine AW_region ?_ | refine AW_seq' ?_ | (apply AW_condB; exact rfl; (first | with_reducible assumption | decide +kernel)) | refine then_norm ?_ | refine AW_ret ?_ | (apply AL_len ttok; (iterate 4 exact rfl)) | (apply AW_drawE 19 hmix; (decide +kernel); (kernel_rfl); (kernel_rfl); (kernel_rfl); exact rfl; exact rfl) | (apply AE_consZ; (iterate 4 exact rfl)) | exact AE.nil _ _ _ _ | (apply AEk_puT; exact rfl) | (apply AOt_mk; exact rfl; exact rfl; (decide +kernel); exact rfl) | (apply AO_puT; exact rfl) | exact AO.nil _ _ _ | (apply AOs_skip; (decide +kernel)) | exact AOs.nil | exact qY_ok rfl rfl | refine AW_skip ?_)
    all_goals (apply endQ [0]; (repeat (first | exact ResL.nil | (apply ResL.cons; first | exact .tmp _ _ rfl | (apply res_n ttok; (iterate 6 exact rfl)) | (apply res_1 ttok; (iterate 5 exact rfl))))); (iterate 4 exact rfl))
    all_goals rfl
theorem av_piece [Known] [KnownU8] (h : Hd) (b : List UInt8) (p m : Nat) (hb : b.length ≤ 1099511627776) (hp : p ≤ b.length) (hn : h.2.1 < 18446744073709551616) : AR Tryd.prog 121 [.ptr 0 0, hd h] [rdC b p m] (match pieceS h (b.drop p) with
    | .error e => .error (faultD e)
    | .ok (c, r) => .ok (byE c, [rdC b (b.length - r.length) m])) := by
  obtain ⟨k, n, o⟩ := h
  dsimp only at hn
  show AR Tryd.prog _ [.ptr 0 0, .agg [.int .i64 k, .int .u64 (n : Int), .bool o]] _ _
  have e1 : IntKind.i64.wrap (((b.map E.byte).length : Int) - (p : Int)) = ((b.length - p : Nat) : Int) := by rw [List.length_map, IntWalk.i64_in _ (by omega)]; omega
  have e2 : IntKind.u64.wrap ((b.length - p : Nat) : Int) = ((b.length - p : Nat) : Int) := by rw [IntKind.wrap_u64]; omega
  unfold pieceS
  dsimp only
  have hl : (b.drop p).length = b.length - p := List.length_drop ..
  rw [hl]
  by_cases hle : n ≤ b.length - p
  · rw [if_pos hle]
    have d1 : decide ((n : Int) ≤ ((b.length - p : Nat) : Int)) = true := by simp; omega
    have e3 : IntKind.i64.wrap (n : Int) = (n : Int) := IntWalk.i64_in _ (by omega)
    have e4 : IntKind.i64.wrap ((p : Int) + (n : Int)) = ((p + n : Nat) : Int) := by rw [IntWalk.i64_in _ (by omega)]; omega
    have hs : (b.take (((p + n : Nat) : Int)).toNat).drop ((p : Nat) : Int).toNat = (b.drop p).take n := by
      rw [Int.toNat_natCast, Int.toNat_natCast, List.drop_take]; congr 1; omega
    have hij : ((p : Nat) : Int) ≤ ((p + n : Nat) : Int) := by omega
    have hj : (((p + n : Nat) : Int)).toNat ≤ b.length := by omega
    have hcl : ((b.drop p).take n).length ≤ 1099511627776 := by rw [List.length_take, hl]; omega
    have hU := uniB1 b
    have c1 := av_cloneB _ hcl
    have c2 := av_valid _ hcl
    have eR : b.length - ((b.drop p).drop n).length = p + n := by rw [List.length_drop, hl]; omega
    by_cases h3 : k = 3
    · subst h3
      cases hv : validU ((b.drop p).take n) with
      | true =>
        rw [hv] at c2
        rw [if_neg (by simp)]
        dsimp only
        rw [eR]
        refine AC_of Tryd.func121 rfl Tryd.ntmps121 rfl rfl ?_
        repeat' (first | rw [d1] | rw [e1] | rw [e2] | rw [e3] | rw [e4] | (apply AL_callPw (av_need 8); kernel_rfl; (iterate 4 exact rfl)) | (apply AL_callPw (av_need 3); kernel_rfl; (iterate 4 exact rfl)) | (apply AL_callPw (c1); kernel_rfl; (iterate 4 exact rfl)) | (apply AL_callPw (c2); kernel_rfl; (iterate 4 exact rfl)) | (apply AL_span ttok; (iterate 9 exact rfl); (first | with_reducible assumption | exact Int.natCast_nonneg _ | exact (by decide)); (first | with_reducible assumption | decide | (simp only [List.length_cons, List.length_drop, List.length_take, List.length_append, Int.toNat_natCast] at *; omega)); (first | with_reducible assumption | decide | (simp only [List.length_cons, List.length_drop, List.length_take, List.length_append, Int.toNat_natCast] at *; omega)); (first | with_reducible assumption | exact rfl)) | (apply AL_move; exact rfl; exact rfl) | (apply AL_assign; exact rfl; exact rfl) | (apply AL_bin; (iterate 5 exact rfl)) | (apply AL_load1 ttok; (iterate 6 exact rfl)) | (apply AL_fieldAddr ttok; (iterate 7 exact rfl)) | (apply AL_nilCheck; exact rfl; exact rfl) | (apply AL_boxZ; (iterate 5 exact rfl)) | (apply AL_store ttok; (iterate 8 exact rfl)) | (apply AL_convT ttok; (iterate 5 exact rfl)) | refine AL_nil ?_ | (apply AL_guardT; (iterate 3 exact rfl); (first | with_reducible assumption | decide +kernel)) | (apply AL_pickF; exact rfl; (first | with_reducible assumption | decide +kernel); exact rfl; exact rfl) | refine AW_region ?_ | refine AW_seq' ?_ | refine then_norm ?_ | refine AW_ret ?_ | (apply AL_len ttok; (iterate 4 exact rfl)) | (apply AW_drawE 7 hmix; (decide +kernel); (kernel_rfl); (kernel_rfl); (kernel_rfl); exact rfl; exact rfl) | (apply AW_drawE 13 hmix; (decide +kernel); (kernel_rfl); (kernel_rfl); (kernel_rfl); exact rfl; exact rfl) | (apply AW_drawE 16 hmix; (decide +kernel); (kernel_rfl); (kernel_rfl); (kernel_rfl); exact rfl; exact rfl) | (apply AE_consZ; (iterate 4 exact rfl)) | exact AE.nil _ _ _ _ | (apply AEk_puT; exact rfl) | (apply AOt_mk; exact rfl; exact rfl; (decide +kernel); exact rfl) | (apply AO_puT; exact rfl) | exact AO.nil _ _ _ | (apply AOs_skip; (decide +kernel)) | exact AOs.nil | exact qY_ok rfl rfl)
        all_goals (apply endR (rfl) [0]; (repeat (first | exact ResL.nil | (apply ResL.cons; first | exact .tmp _ _ rfl | (apply res_n ttok; (iterate 6 exact rfl)) | (apply res_1 ttok; (iterate 5 exact rfl))))); (iterate 4 exact rfl))
        all_goals rfl
      | false =>
        rw [hv] at c2
        rw [if_pos ⟨rfl, rfl⟩]
        dsimp only
        refine AC_of Tryd.func121 rfl Tryd.ntmps121 rfl rfl ?_
        repeat' (first | rw [d1] | rw [e1] | rw [e2] | rw [e3] | rw [e4] | (apply AL_callPw (av_need 8); kernel_rfl; (iterate 4 exact rfl)) | (apply AL_callX [] (ax_need 3); kernel_rfl; (iterate 6 exact rfl); intro bx2 fr2 hle2) | (apply AL_callPw (c1); kernel_rfl; (iterate 4 exact rfl)) | (apply AL_callPw (c2); kernel_rfl; (iterate 4 exact rfl)) | (apply AL_span ttok; (iterate 9 exact rfl); (first | with_reducible assumption | exact Int.natCast_nonneg _ | exact (by decide)); (first | with_reducible assumption | decide | (simp only [List.length_cons, List.length_drop, List.length_take, List.length_append, Int.toNat_natCast] at *; omega)); (first | with_reducible assumption | decide | (simp only [List.length_cons, List.length_drop, List.length_take, List.length_append, Int.toNat_natCast] at *; omega)); (first | with_reducible assumption | exact rfl)) | (apply AL_move; exact rfl; exact rfl) | (apply AL_assign; exact rfl; exact rfl) | (apply AL_bin; (iterate 5 exact rfl)) | (apply AL_load1 ttok; (iterate 6 exact rfl)) | (apply AL_fieldAddr ttok; (iterate 7 exact rfl)) | (apply AL_nilCheck; exact rfl; exact rfl) | (apply AL_boxZ; (iterate 5 exact rfl)) | (apply AL_convT ttok; (iterate 5 exact rfl)) | refine AL_nil ?_ | (apply AL_guardT; (iterate 3 exact rfl); (first | with_reducible assumption | decide +kernel)) | (apply AL_pickF; exact rfl; (first | with_reducible assumption | decide +kernel); exact rfl; exact rfl) | refine AW_region ?_ | refine AW_seq' ?_ | (apply AL_len ttok; (iterate 4 exact rfl)) | (apply AW_drawE 13 hmix; (decide +kernel); (kernel_rfl); (kernel_rfl); (kernel_rfl); exact rfl; exact rfl) | (apply AW_drawE 16 hmix; (decide +kernel); (kernel_rfl); (kernel_rfl); (kernel_rfl); exact rfl; exact rfl) | (apply AE_consZ; (iterate 4 exact rfl)) | exact AE.nil _ _ _ _ | (apply AEk_puT; exact rfl) | (apply AOt_mk; exact rfl; exact rfl; (decide +kernel); exact rfl) | (apply AO_puT; exact rfl) | exact AO.nil _ _ _ | (apply AOs_skip; (decide +kernel)) | exact AOs.nil | exact qY_ok rfl rfl | refine then_pan ?_)
        all_goals (apply endX; exact rfl; (first | exact Nat.zero_le _ | exact Nat.le_trans (Nat.le_of_ble_eq_true rfl) (by assumption)); exact rfl)
    · have k3 : (k != 3) = true := by simpa using h3
      rw [if_neg (by rintro ⟨h, _⟩; exact h3 h)]
      dsimp only
      rw [eR]
      refine AC_of Tryd.func121 rfl Tryd.ntmps121 rfl rfl ?_
      repeat' (first | rw [d1] | rw [e1] | rw [e2] | rw [e3] | rw [e4] | (apply AL_callPw (av_need 8); kernel_rfl; (iterate 4 exact rfl)) | (apply AL_callPw (av_need 3); kernel_rfl; (iterate 4 exact rfl)) | (apply AL_callPw (c1); kernel_rfl; (iterate 4 exact rfl)) | (apply AL_span ttok; (iterate 9 exact rfl); (first | with_reducible assumption | exact Int.natCast_nonneg _ | exact (by decide)); (first | with_reducible assumption | decide | (simp only [List.length_cons, List.length_drop, List.length_take, List.length_append, Int.toNat_natCast] at *; omega)); (first | with_reducible assumption | decide | (simp only [List.length_cons, List.length_drop, List.length_take, List.length_append, Int.toNat_natCast] at *; omega)); (first | with_reducible assumption | exact rfl)) | (apply AL_move; exact rfl; exact rfl) | (apply AL_assign; exact rfl; exact rfl) | (apply AL_bin; (iterate 5 exact rfl)) | (apply AL_load1 ttok; (iterate 6 exact rfl)) | (apply AL_fieldAddr ttok; (iterate 7 exact rfl)) | (apply AL_nilCheck; exact rfl; exact rfl) | (apply AL_boxZ; (iterate 5 exact rfl)) | (apply AL_store ttok; (iterate 8 exact rfl)) | (apply AL_convT ttok; (iterate 5 exact rfl)) | refine AL_nil ?_ | (apply AL_guardFf; (iterate 3 exact rfl); (first | with_reducible assumption | decide +kernel)) | (apply AL_pickT; exact rfl; (first | with_reducible assumption | decide +kernel); exact rfl; exact rfl) | refine AW_region ?_ | refine AW_seq' ?_ | refine then_norm ?_ | refine AW_ret ?_ | (apply AL_len ttok; (iterate 4 exact rfl)) | (apply AW_drawE 7 hmix; (decide +kernel); (kernel_rfl); (kernel_rfl); (kernel_rfl); exact rfl; exact rfl) | (apply AW_drawE 13 hmix; (decide +kernel); (kernel_rfl); (kernel_rfl); (kernel_rfl); exact rfl; exact rfl) | (apply AW_drawE 16 hmix; (decide +kernel); (kernel_rfl); (kernel_rfl); (kernel_rfl); exact rfl; exact rfl) | (apply AE_consZ; (iterate 4 exact rfl)) | exact AE.nil _ _ _ _ | (apply AEk_puT; exact rfl) | (apply AOt_mk; exact rfl; exact rfl; (decide +kernel); exact rfl) | (apply AO_puT; exact rfl) | exact AO.nil _ _ _ | (apply AOs_skip; (decide +kernel)) | exact AOs.nil | exact qY_ok rfl rfl)
      all_goals (apply endR (rfl) [0]; (repeat (first | exact ResL.nil | (apply ResL.cons; first | exact .tmp _ _ rfl | (apply res_n ttok; (iterate 6 exact rfl)) | (apply res_1 ttok; (iterate 5 exact rfl))))); (iterate 4 exact rfl))
      all_goals rfl
  · rw [if_neg hle]
    dsimp only
    have d1 : decide ((n : Int) ≤ ((b.length - p : Nat) : Int)) = false := by simp; omega
    refine AC_of Tryd.func121 rfl Tryd.ntmps121 rfl rfl ?_
    repeat' (first | rw [d1] | rw [e1] | rw [e2] | (apply AL_callX [] (ax_need 8); kernel_rfl; (iterate 6 exact rfl); intro bx2 fr2 hle2) | (apply AL_move; exact rfl; exact rfl) | (apply AL_assign; exact rfl; exact rfl) | (apply AL_bin; (iterate 5 exact rfl)) | (apply AL_load1 ttok; (iterate 6 exact rfl)) | (apply AL_fieldAddr ttok; (iterate 7 exact rfl)) | (apply AL_nilCheck; exact rfl; exact rfl) | (apply AL_boxZ; (iterate 5 exact rfl)) | (apply AL_convT ttok; (iterate 5 exact rfl)) | refine AL_nil ?_ | refine AW_region ?_ | refine AW_seq' ?_ | (apply AL_len ttok; (iterate 4 exact rfl)) | (apply AW_drawE 13 hmix; (decide +kernel); (kernel_rfl); (kernel_rfl); (kernel_rfl); exact rfl; exact rfl) | (apply AE_consZ; (iterate 4 exact rfl)) | exact AE.nil _ _ _ _ | (apply AEk_puT; exact rfl) | (apply AOt_mk; exact rfl; exact rfl; (decide +kernel); exact rfl) | (apply AO_puT; exact rfl) | exact AO.nil _ _ _ | (apply AOs_skip; (decide +kernel)) | exact AOs.nil | exact qY_ok rfl rfl | refine then_pan ?_)
    all_goals (apply endX; exact rfl; (first | exact Nat.zero_le _ | exact Nat.le_trans (Nat.le_of_ble_eq_true rfl) (by assumption)); exact rfl)
end Go.Proofs.YtnihobjehelagaaDoor
end
/- The reader of items: bytes and texts. -/
section
open Go.RowKit Go.Pl Go.Av
namespace Go.Proofs.YtnihobjehelagaaDoor
set_option linter.unusedVariables false
set_option linter.unusedSimpArgs false
set_option maxHeartbeats 4000000
theorem drop_suf {b pre r : List UInt8} {p : Nat} (hp : p ≤ b.length) (h : b.drop p = pre ++ r) : b.drop (b.length - r.length) = r ∧ b.length - r.length ≤ b.length ∧ p + pre.length = b.length - r.length := by
  have hl := congrArg List.length h
  rw [List.length_drop, List.length_append] at hl
  have e : b.length - r.length = p + pre.length := by omega
  refine ⟨?_, by omega, e.symm⟩
  rw [e, ← List.drop_drop, h, List.drop_left]
theorem pieceS_err {h : Hd} {s : List UInt8} {e : Nat} (x : pieceS h s = .error e) : e = 8 ∨ e = 3 := by
  unfold pieceS at x
  split at x
  · split at x
    · injection x with x; exact .inr x.symm
    · cases x
  · injection x with x; exact .inl x.symm
/-- the state of a text that is read piece by piece -/
abbrev txB (b : List UInt8) (p m : Nat) (k : Int) (n : Nat) (tk : Tok) (acc : List E) : List (List D) := [rdC b p m, [.int .i64 k, .int .u64 (n : Int), .bool true], [.int .i64 0, .int .u64 0, .sl .nil [], .sl .nil []], [.int .i64 k, .int .u64 0, .sl tk acc, .sl .nil []]]
theorem av_string [Known] [KnownU8] (h : Hd) (b : List UInt8) (p m : Nat) (hb : b.length ≤ 1099511627776) (hp : p ≤ b.length) (hn : h.2.1 < 18446744073709551616) : AR Tryd.prog 100 [.ptr 0 0, hd h] [rdC b p m] (match txtS h (b.drop p) with
    | .error e => .error (faultD e)
    | .ok (c, r) => .ok (itD (.mk h.1 0 c []), [rdC b (b.length - r.length) m])) := by
  obtain ⟨k, n, o⟩ := h
  dsimp only at hn
  show AR Tryd.prog _ [.ptr 0 0, .agg [.int .i64 k, .int .u64 (n : Int), .bool o]] _ _
  cases o with
  | false =>
    have hpc := av_piece (k, n, false) b p m hb hp hn
    unfold txtS
    dsimp only at hpc ⊢
    cases hc : pieceS (k, n, false) (b.drop p) with
    | error e =>
      rw [hc] at hpc
      refine AC_of Tryd.func100 rfl Tryd.ntmps100 rfl rfl ?_
      repeat' (first | (apply AL_callX [0] (hpc.x rfl); kernel_rfl; (iterate 6 exact rfl); intro bx2 fr2 hle2) | (apply AL_move; exact rfl; exact rfl) | (apply AL_load1 ttok; (iterate 6 exact rfl)) | (apply AL_loadn ttok; (iterate 7 exact rfl)) | (apply AL_fieldAddr ttok; (iterate 7 exact rfl)) | (apply AL_boxZ; (iterate 5 exact rfl)) | (apply AL_store ttok; (iterate 8 exact rfl)) | (apply AL_not; exact rfl; exact rfl) | refine AL_nil ?_ | refine AW_region ?_ | refine AW_seq' ?_ | (apply AW_condA; exact rfl; (first | with_reducible assumption | decide +kernel)) | (apply AL_build ttok; (iterate 6 exact rfl)) | (apply AL_allocZ ttok; (iterate 4 exact rfl)) | refine then_pan ?_)
      all_goals (apply endX; exact rfl; (first | exact Nat.zero_le _ | exact Nat.le_trans (Nat.le_of_ble_eq_true rfl) (by assumption)); exact rfl)
    | ok y =>
      obtain ⟨c, r⟩ := y
      rw [hc] at hpc
      refine AC_of Tryd.func100 rfl Tryd.ntmps100 rfl rfl ?_
      repeat' (first | (apply AL_callQw [0] (hpc.q rfl); kernel_rfl; (iterate 7 exact rfl)) | (apply AL_move; exact rfl; exact rfl) | (apply AL_load1 ttok; (iterate 6 exact rfl)) | (apply AL_loadn ttok; (iterate 7 exact rfl)) | (apply AL_fieldAddr ttok; (iterate 7 exact rfl)) | (apply AL_boxZ; (iterate 5 exact rfl)) | (apply AL_store ttok; (iterate 8 exact rfl)) | (apply AL_not; exact rfl; exact rfl) | refine AL_nil ?_ | refine AW_region ?_ | refine AW_seq' ?_ | (apply AW_condA; exact rfl; (first | with_reducible assumption | decide +kernel)) | refine then_norm ?_ | refine AW_ret ?_ | refine then_ret ?_ | (apply AL_build ttok; (iterate 6 exact rfl)) | (apply AL_allocZ ttok; (iterate 4 exact rfl)))
      all_goals (apply endR (rfl) [0]; (repeat (first | exact ResL.nil | (apply ResL.cons; first | exact .tmp _ _ rfl | (apply res_n ttok; (iterate 6 exact rfl)) | (apply res_1 ttok; (iterate 5 exact rfl))))); (iterate 4 exact rfl))
      all_goals rfl
  | true =>
    unfold txtS
    dsimp only
    generalize ho : strS k ((b.drop p).length + 1) [] (b.drop p) = o
    refine AC_of Tryd.func100 rfl Tryd.ntmps100 rfl rfl ?_
    repeat' (first | (apply AL_load1 ttok; (iterate 6 exact rfl)) | (apply AL_fieldAddr ttok; (iterate 7 exact rfl)) | (apply AL_boxZ; (iterate 5 exact rfl)) | (apply AL_store ttok; (iterate 8 exact rfl)) | (apply AL_not; exact rfl; exact rfl) | refine AL_nil ?_ | refine AW_region ?_ | refine AW_seq' ?_ | (apply AW_condB; exact rfl; (first | with_reducible assumption | decide +kernel)) | refine AW_block ?_ | (apply AL_build ttok; (iterate 6 exact rfl)) | (apply AL_allocZ ttok; (iterate 4 exact rfl)) | refine AW_skip ?_)
    refine AW_loopJ (fun f tm bx fr => ∃ (acc : List UInt8) (p' c : Nat) (L : List E), p' ≤ b.length ∧ c = L.length ∧ L = acc.map E.byte ∧ acc.length + (b.length - p') ≤ b.length ∧ (b.drop p').length < f ∧ strS k f acc (b.drop p') = o ∧ tm = [(0, .ptr 0 0), (3, .ptr 1 0), (4, .ptr 2 0), (5, .ptr 3 0)] ∧
      ((acc = [] ∧ bx = txB b p' m k n .nil [] ∧ fr = []) ∨ (bx = txB b p' m k n (.own 0) L ∧ fr = [⟨c, 1, 5⟩]))) ((b.drop p).length + 2) (Lands.mk' (m := (b.drop p).length + 1) (Nat.lt_succ_self _) ⟨[], p, 0, [], hp, rfl, rfl, by simp, by omega, ho, rfl, .inl ⟨rfl, rfl, rfl⟩⟩ ?_ rfl rfl rfl rfl rfl rfl) ?_
    · exact .cons rfl (.cons rfl (.cons rfl (.cons rfl .nil)))
    rintro f tm bx fr ⟨acc, p', c, L, hp', hc, hL, hsum, hf, hS, rfl, hst⟩
    obtain ⟨f, rfl⟩ : ∃ g, f = g + 1 := ⟨f - 1, by omega⟩
    have hends := av_ends b p' m hb hp'
    rw [strS] at hS
    have hlp : (b.drop p').length = b.length - p' := List.length_drop ..
    cases he : endB (b.drop p') with
    | true =>
      rw [he] at hS hends
      dsimp only at hS
      rw [if_pos rfl] at hends
      subst hS
      dsimp only
      obtain ⟨x, hx⟩ := tail_length _ he
      obtain ⟨q1, q2, q3⟩ := drop_suf (pre := [x]) hp' hx
      have q3 : b.length - (b.drop p').tail.length = p' + 1 := q3.symm
      rw [q3]
      subst hL
      rcases hst with ⟨rfl, rfl, rfl⟩ | ⟨rfl, rfl⟩
      · repeat' (first | (apply AL_callQw [0] (hends); kernel_rfl; (iterate 7 exact rfl)) | (apply AL_move; exact rfl; exact rfl) | (apply AL_loadn ttok; (iterate 7 exact rfl)) | (apply AL_store ttok; (iterate 8 exact rfl)) | (apply AL_not; exact rfl; exact rfl) | refine AL_nil ?_ | refine AW_region ?_ | refine AW_seq' ?_ | (apply AW_condB; exact rfl; (first | with_reducible assumption | decide +kernel)) | refine then_norm ?_ | refine AW_exit ?_ | refine AW_ret ?_)
        all_goals (apply endR (rfl) [0]; (repeat (first | exact ResL.nil | (apply ResL.cons; first | exact .tmp _ _ rfl | (apply res_n ttok; (iterate 6 exact rfl)) | (apply res_1 ttok; (iterate 5 exact rfl))))); (iterate 4 exact rfl))
        all_goals rfl
      · repeat' (first | (apply AL_callQw [0] (hends); kernel_rfl; (iterate 7 exact rfl)) | (apply AL_move; exact rfl; exact rfl) | (apply AL_loadn ttok; (iterate 7 exact rfl)) | (apply AL_store ttok; (iterate 8 exact rfl)) | (apply AL_not; exact rfl; exact rfl) | refine AL_nil ?_ | refine AW_region ?_ | refine AW_seq' ?_ | (apply AW_condB; exact rfl; (first | with_reducible assumption | decide +kernel)) | refine then_norm ?_ | refine AW_exit ?_ | refine AW_ret ?_)
        all_goals (apply endR (rfl) [0]; (repeat (first | exact ResL.nil | (apply ResL.cons; first | exact .tmp _ _ rfl | (apply res_n ttok; (iterate 6 exact rfl)) | (apply res_1 ttok; (iterate 5 exact rfl))))); (iterate 4 exact rfl))
        all_goals rfl
    | false =>
      rw [he] at hS hends
      dsimp only at hS
      rw [if_neg (by simp)] at hends
      have hhd := av_rhead b p' m hb hp'
      cases hr : rdS (b.drop p') with
      | error e =>
        rw [hr] at hS hhd
        dsimp only at hS hhd
        subst hS
        dsimp only
        rcases hst with ⟨rfl, rfl, rfl⟩ | ⟨rfl, rfl⟩
        · repeat' (first | (apply AL_callQw [0] (hends); kernel_rfl; (iterate 7 exact rfl)) | (apply AL_callX [0] (hhd.x rfl); kernel_rfl; (iterate 6 exact rfl); intro bx2 fr2 hle2) | (apply AL_move; exact rfl; exact rfl) | (apply AL_not; exact rfl; exact rfl) | refine AL_nil ?_ | refine AW_region ?_ | refine AW_seq' ?_ | (apply AW_condA; exact rfl; (first | with_reducible assumption | decide +kernel)) | refine then_norm ?_ | refine AW_block ?_ | refine AW_skip ?_ | refine then_pan ?_ | refine blk_pan ?_)
          all_goals (apply endX; exact rfl; (first | exact Nat.zero_le _ | exact Nat.le_trans (Nat.le_of_ble_eq_true rfl) (by assumption)); exact rfl)
        · repeat' (first | (apply AL_callQw [0] (hends); kernel_rfl; (iterate 7 exact rfl)) | (apply AL_callX [0] (hhd.x rfl); kernel_rfl; (iterate 6 exact rfl); intro bx2 fr2 hle2) | (apply AL_move; exact rfl; exact rfl) | (apply AL_not; exact rfl; exact rfl) | refine AL_nil ?_ | refine AW_region ?_ | refine AW_seq' ?_ | (apply AW_condA; exact rfl; (first | with_reducible assumption | decide +kernel)) | refine then_norm ?_ | refine AW_block ?_ | refine AW_skip ?_ | refine then_pan ?_ | refine blk_pan ?_)
          all_goals (apply endX; exact rfl; (first | exact Nat.zero_le _ | exact Nat.le_trans (Nat.le_of_ble_eq_true rfl) (by assumption)); exact rfl)
      | ok y =>
        obtain ⟨⟨k1, n1, o1⟩, r⟩ := y
        rw [hr] at hS hhd
        dsimp only at hS hhd
        obtain ⟨_, hn1, pre, hpre, _, hpos⟩ := rdS_ok hr
        obtain ⟨q1, q2, q3⟩ := drop_suf hp' hpre
        generalize hp2 : b.length - r.length = p2 at q1 q2 q3 hhd
        by_cases hcond : k1 = k ∧ o1 = false
        · rw [if_pos hcond] at hS
          obtain ⟨rfl, rfl⟩ := hcond
          have tk : (k1 == k1) = true := beq_self_eq_true k1
          have hpc := av_piece (k1, n1, false) b p2 m hb q2 hn1
          rw [q1] at hpc
          cases hc1 : pieceS (k1, n1, false) r with
          | error e =>
            rw [hc1] at hS hpc
            dsimp only at hS hpc
            subst hS
            dsimp only
            rcases hst with ⟨rfl, rfl, rfl⟩ | ⟨rfl, rfl⟩
            · repeat' (first | (apply AL_callQw [0] (hends); kernel_rfl; (iterate 7 exact rfl)) | (apply AL_callQw [0] (hhd.q rfl); kernel_rfl; (iterate 7 exact rfl)) | (apply AL_callPw (av_need 3); kernel_rfl; (iterate 4 exact rfl)) | (apply AL_callX [0] (hpc.x rfl); kernel_rfl; (iterate 6 exact rfl); intro bx2 fr2 hle2) | (apply AW_drawX 7 4 hmix; (decide +kernel); (kernel_rfl); (decide +kernel); exact rfl; exact rfl) | exact ADX.nil _ _ | (apply ADX_dead; (decide +kernel); exact rfl) | (apply ADX_pan; (iterate 3 exact rfl)) | (apply ADX_pu; (iterate 4 exact rfl)) | exact qx_pan rfl (by assumption) | intro tm2 bx2 fr2 hle2 | (apply AL_move; exact rfl; exact rfl) | (apply AL_bin; (iterate 5 exact rfl)) | (apply AL_load1 ttok; (iterate 6 exact rfl)) | (apply AL_loadn ttok; (iterate 7 exact rfl)) | (apply AL_fieldAddr ttok; (iterate 7 exact rfl)) | (apply AL_store ttok; (iterate 8 exact rfl)) | (apply AL_not; exact rfl; exact rfl) | refine AL_nil ?_ | (apply AL_guardT; (iterate 3 exact rfl); (first | with_reducible assumption | decide +kernel)) | (apply AL_pickT; exact rfl; (first | with_reducible assumption | decide +kernel); exact rfl; exact rfl) | refine AW_region ?_ | refine AW_seq' ?_ | (apply AW_condA; exact rfl; (first | with_reducible assumption | decide +kernel)) | refine then_norm ?_ | refine AW_block ?_ | (apply AL_allocZ ttok; (iterate 4 exact rfl)) | exact qp_ok rfl | refine AW_skip ?_ | refine then_pan ?_ | refine blk_pan ?_)
              all_goals (apply endX; exact rfl; (first | exact Nat.zero_le _ | exact Nat.le_trans (Nat.le_of_ble_eq_true rfl) (by assumption)); exact rfl)
            · repeat' (first | (apply AL_callQw [0] (hends); kernel_rfl; (iterate 7 exact rfl)) | (apply AL_callQw [0] (hhd.q rfl); kernel_rfl; (iterate 7 exact rfl)) | (apply AL_callPw (av_need 3); kernel_rfl; (iterate 4 exact rfl)) | (apply AL_callX [0] (hpc.x rfl); kernel_rfl; (iterate 6 exact rfl); intro bx2 fr2 hle2) | (apply AW_drawX 7 4 hmix; (decide +kernel); (kernel_rfl); (decide +kernel); exact rfl; exact rfl) | exact ADX.nil _ _ | (apply ADX_dead; (decide +kernel); exact rfl) | (apply ADX_pan; (iterate 3 exact rfl)) | (apply ADX_pu; (iterate 4 exact rfl)) | exact qx_pan rfl (by assumption) | intro tm2 bx2 fr2 hle2 | (apply AL_move; exact rfl; exact rfl) | (apply AL_bin; (iterate 5 exact rfl)) | (apply AL_load1 ttok; (iterate 6 exact rfl)) | (apply AL_loadn ttok; (iterate 7 exact rfl)) | (apply AL_fieldAddr ttok; (iterate 7 exact rfl)) | (apply AL_store ttok; (iterate 8 exact rfl)) | (apply AL_not; exact rfl; exact rfl) | refine AL_nil ?_ | (apply AL_guardT; (iterate 3 exact rfl); (first | with_reducible assumption | decide +kernel)) | (apply AL_pickT; exact rfl; (first | with_reducible assumption | decide +kernel); exact rfl; exact rfl) | refine AW_region ?_ | refine AW_seq' ?_ | (apply AW_condA; exact rfl; (first | with_reducible assumption | decide +kernel)) | refine then_norm ?_ | refine AW_block ?_ | (apply AL_allocZ ttok; (iterate 4 exact rfl)) | exact qp_ok rfl | refine AW_skip ?_ | refine then_pan ?_ | refine blk_pan ?_)
              all_goals (apply endX; exact rfl; (first | exact Nat.zero_le _ | exact Nat.le_trans (Nat.le_of_ble_eq_true rfl) (by assumption)); exact rfl)
          | ok y =>
            obtain ⟨c1, r2⟩ := y
            rw [hc1] at hS hpc
            dsimp only at hS hpc
            obtain ⟨w1, w2, w3⟩ := pieceS_ok hc1
            obtain ⟨z1, z2, z3⟩ := drop_suf q2 (q1.trans w1)
            generalize hp3 : b.length - r2.length = p3 at z1 z2 z3 hpc
            have hpl := congrArg List.length hpre
            have hrl := congrArg List.length w1
            have hdl : (b.drop p3).length = r2.length := by rw [z1]
            rw [List.length_append] at hpl hrl
            rw [← z1] at hS
            rw [List.length_drop] at hdl
            have hf3 : (b.drop p3).length < f := by rw [List.length_drop]; omega
            have hsum3 : (acc ++ c1).length + (b.length - p3) ≤ b.length := by rw [List.length_append]; omega
            cases c1 with
            | nil =>
              rw [List.append_nil] at hS hsum3
              rcases hst with ⟨rfl, rfl, rfl⟩ | ⟨rfl, rfl⟩
              · repeat' (first | (apply AL_callQw [0] (hends); kernel_rfl; (iterate 7 exact rfl)) | (apply AL_callQw [0] (hhd.q rfl); kernel_rfl; (iterate 7 exact rfl)) | (apply AL_callPw (av_need 3); kernel_rfl; (iterate 4 exact rfl)) | (apply AL_callQw [0] (hpc.q rfl); kernel_rfl; (iterate 7 exact rfl)) | (apply AL_move; exact rfl; exact rfl) | (apply AL_bin; (iterate 5 exact rfl)) | (apply AL_load1 ttok; (iterate 6 exact rfl)) | (apply AL_loadn ttok; (iterate 7 exact rfl)) | (apply AL_fieldAddr ttok; (iterate 7 exact rfl)) | (apply AL_store ttok; (iterate 8 exact rfl)) | (apply AL_not; exact rfl; exact rfl) | refine AL_nil ?_ | (apply AL_guardT; (iterate 3 exact rfl); (first | with_reducible assumption | decide +kernel)) | (apply AL_pickT; exact rfl; (first | with_reducible assumption | decide +kernel); exact rfl; exact rfl) | refine AW_region ?_ | refine AW_seq' ?_ | (apply AW_condA; exact rfl; (first | with_reducible assumption | decide +kernel)) | refine then_norm ?_ | refine blk_norm ?_ | refine AW_block ?_ | (apply AL_allocZ ttok; (iterate 4 exact rfl)) | (apply AW_drawE 5 hmix; (decide +kernel); (kernel_rfl); (kernel_rfl); (kernel_rfl); exact rfl; exact rfl) | (apply AE_consZ; (iterate 4 exact rfl)) | exact AE.nil _ _ _ _ | (apply AEk_puT; exact rfl) | (apply AEk_efT; exact rfl) | (apply AOt_mk; exact rfl; exact rfl; (decide +kernel); exact rfl) | (apply AO_puT; exact rfl) | (apply AO_efT; exact rfl) | exact AO.nil _ _ _ | (apply AOs_skip; (decide +kernel)) | (apply AOs_goZ; (iterate 3 exact rfl)) | exact AOs.nil | exact qY_ok rfl rfl | exact qY_ef rfl rfl | refine AW_skip ?_ | (apply AL_append_none ttok; (iterate 6 exact rfl)))
                refine Lands.mk' (m := f) (Nat.lt_succ_self _) ⟨[], p3, 0, [], z2, rfl, rfl, hsum3, hf3, hS, rfl, .inl ⟨rfl, rfl, rfl⟩⟩ ?_ rfl rfl rfl rfl rfl rfl
                exact .cons rfl (.cons rfl (.cons rfl (.cons rfl .nil)))
              · subst hc
                repeat' (first | (apply AL_callQw [0] (hends); kernel_rfl; (iterate 7 exact rfl)) | (apply AL_callQw [0] (hhd.q rfl); kernel_rfl; (iterate 7 exact rfl)) | (apply AL_callPw (av_need 3); kernel_rfl; (iterate 4 exact rfl)) | (apply AL_callQw [0] (hpc.q rfl); kernel_rfl; (iterate 7 exact rfl)) | (apply AL_move; exact rfl; exact rfl) | (apply AL_bin; (iterate 5 exact rfl)) | (apply AL_load1 ttok; (iterate 6 exact rfl)) | (apply AL_loadn ttok; (iterate 7 exact rfl)) | (apply AL_fieldAddr ttok; (iterate 7 exact rfl)) | (apply AL_store ttok; (iterate 8 exact rfl)) | (apply AL_not; exact rfl; exact rfl) | refine AL_nil ?_ | (apply AL_guardT; (iterate 3 exact rfl); (first | with_reducible assumption | decide +kernel)) | (apply AL_pickT; exact rfl; (first | with_reducible assumption | decide +kernel); exact rfl; exact rfl) | refine AW_region ?_ | refine AW_seq' ?_ | (apply AW_condA; exact rfl; (first | with_reducible assumption | decide +kernel)) | refine then_norm ?_ | refine blk_norm ?_ | refine AW_block ?_ | (apply AL_allocZ ttok; (iterate 4 exact rfl)) | (apply AW_drawE 5 hmix; (decide +kernel); (kernel_rfl); (kernel_rfl); (kernel_rfl); exact rfl; exact rfl) | (apply AE_consZ; (iterate 4 exact rfl)) | exact AE.nil _ _ _ _ | (apply AEk_puT; exact rfl) | (apply AEk_efT; exact rfl) | (apply AOt_mk; exact rfl; exact rfl; (decide +kernel); exact rfl) | (apply AO_puT; exact rfl) | (apply AO_efT; exact rfl) | exact AO.nil _ _ _ | (apply AOs_skip; (decide +kernel)) | (apply AOs_goZ; (iterate 3 exact rfl)) | exact AOs.nil | exact qY_ok rfl rfl | exact qY_ef rfl rfl | refine AW_skip ?_ | (apply AL_append_none ttok; (iterate 6 exact rfl)))
                refine Lands.mk' (m := f) (Nat.lt_succ_self _) ⟨acc, p3, _, L, z2, rfl, hL, hsum3, hf3, hS, rfl, .inr ⟨rfl, rfl⟩⟩ ?_ rfl rfl rfl rfl rfl rfl
                exact .cons rfl (.cons rfl (.cons rfl (.cons rfl .nil)))
            | cons x c1 =>
              have hU1 := uniB1 (x :: c1)
              rcases hst with ⟨rfl, rfl, rfl⟩ | ⟨rfl, rfl⟩
              · repeat' (first | (apply AL_callQw [0] (hends); kernel_rfl; (iterate 7 exact rfl)) | (apply AL_callQw [0] (hhd.q rfl); kernel_rfl; (iterate 7 exact rfl)) | (apply AL_callPw (av_need 3); kernel_rfl; (iterate 4 exact rfl)) | (apply AL_callQw [0] (hpc.q rfl); kernel_rfl; (iterate 7 exact rfl)) | (apply AL_move; exact rfl; exact rfl) | (apply AL_bin; (iterate 5 exact rfl)) | (apply AL_load1 ttok; (iterate 6 exact rfl)) | (apply AL_loadn ttok; (iterate 7 exact rfl)) | (apply AL_fieldAddr ttok; (iterate 7 exact rfl)) | (apply AL_store ttok; (iterate 8 exact rfl)) | (apply AL_not; exact rfl; exact rfl) | refine AL_nil ?_ | (apply AL_guardT; (iterate 3 exact rfl); (first | with_reducible assumption | decide +kernel)) | (apply AL_pickT; exact rfl; (first | with_reducible assumption | decide +kernel); exact rfl; exact rfl) | refine AW_region ?_ | refine AW_seq' ?_ | (apply AW_condA; exact rfl; (first | with_reducible assumption | decide +kernel)) | refine then_norm ?_ | refine blk_norm ?_ | refine AW_block ?_ | (apply AL_allocZ ttok; (iterate 4 exact rfl)) | (apply AW_drawE 5 hmix; (decide +kernel); (kernel_rfl); (kernel_rfl); (kernel_rfl); exact rfl; exact rfl) | (apply AE_consZ; (iterate 4 exact rfl)) | exact AE.nil _ _ _ _ | (apply AEk_puT; exact rfl) | (apply AEk_efT; exact rfl) | (apply AOt_mk; exact rfl; exact rfl; (decide +kernel); exact rfl) | (apply AO_puT; exact rfl) | (apply AO_efT; exact rfl) | exact AO.nil _ _ _ | (apply AOs_skip; (decide +kernel)) | (apply AOs_goZ; (iterate 3 exact rfl)) | exact AOs.nil | exact qY_ok rfl rfl | exact qY_ef rfl rfl | refine AW_skip ?_ | (apply AL_append_nil ttok; (iterate 6 exact rfl); (first | exact uniB_ok rfl | with_reducible assumption | decide +kernel | rotate_left); (first | exact List.cons_ne_nil _ _ | with_reducible assumption | decide +kernel | rotate_left); (first | with_reducible assumption | decide +kernel | rotate_left); (first | with_reducible assumption | decide +kernel | rotate_left); (iterate 3 exact rfl)))
                · refine Lands.mk' (m := f) (Nat.lt_succ_self _) ⟨x :: c1, p3, _, _, z2, rfl, rfl, hsum3, hf3, hS, rfl, .inr ⟨rfl, rfl⟩⟩ ?_ rfl rfl rfl rfl rfl rfl
                  exact .cons rfl (.cons rfl (.cons rfl (.cons rfl .nil)))
                all_goals (first | rfl | (simp only [List.length_append, List.length_cons, List.length_nil, List.length_map, itEs_len]; done) | (simp only [List.length_append, List.length_cons, List.length_nil, List.length_map, itEs_len] at *; (try unfold maxLen); (try simp only [Nat.add_mul]); omega))
              · subst hc
                have hUa : Uni 1 L := hL ▸ uniB1 acc
                have hLl : L.length = acc.length := by rw [hL, List.length_map]
                repeat' (first | (apply AL_callQw [0] (hends); kernel_rfl; (iterate 7 exact rfl)) | (apply AL_callQw [0] (hhd.q rfl); kernel_rfl; (iterate 7 exact rfl)) | (apply AL_callPw (av_need 3); kernel_rfl; (iterate 4 exact rfl)) | (apply AL_callQw [0] (hpc.q rfl); kernel_rfl; (iterate 7 exact rfl)) | (apply AL_move; exact rfl; exact rfl) | (apply AL_bin; (iterate 5 exact rfl)) | (apply AL_load1 ttok; (iterate 6 exact rfl)) | (apply AL_loadn ttok; (iterate 7 exact rfl)) | (apply AL_fieldAddr ttok; (iterate 7 exact rfl)) | (apply AL_store ttok; (iterate 8 exact rfl)) | (apply AL_not; exact rfl; exact rfl) | refine AL_nil ?_ | (apply AL_guardT; (iterate 3 exact rfl); (first | with_reducible assumption | decide +kernel)) | (apply AL_pickT; exact rfl; (first | with_reducible assumption | decide +kernel); exact rfl; exact rfl) | refine AW_region ?_ | refine AW_seq' ?_ | (apply AW_condA; exact rfl; (first | with_reducible assumption | decide +kernel)) | refine then_norm ?_ | refine blk_norm ?_ | refine AW_block ?_ | (apply AL_allocZ ttok; (iterate 4 exact rfl)) | (apply AW_drawE 5 hmix; (decide +kernel); (kernel_rfl); (kernel_rfl); (kernel_rfl); exact rfl; exact rfl) | (apply AE_consZ; (iterate 4 exact rfl)) | exact AE.nil _ _ _ _ | (apply AEk_puT; exact rfl) | (apply AEk_efT; exact rfl) | (apply AOt_mk; exact rfl; exact rfl; (decide +kernel); exact rfl) | (apply AO_puT; exact rfl) | (apply AO_efT; exact rfl) | exact AO.nil _ _ _ | (apply AOs_skip; (decide +kernel)) | (apply AOs_goZ; (iterate 3 exact rfl)) | exact AOs.nil | exact qY_ok rfl rfl | exact qY_ef rfl rfl | refine AW_skip ?_ | (apply AL_append ttok; (iterate 6 exact rfl); (first | with_reducible assumption | decide +kernel | exact rfl | rotate_left); exact rfl; exact rfl; (first | exact uniB_ok rfl | with_reducible assumption | decide +kernel | rotate_left); (first | exact uniB_ok rfl | with_reducible assumption | decide +kernel | rotate_left); (first | exact List.cons_ne_nil _ _ | with_reducible assumption | decide +kernel | rotate_left); (first | with_reducible assumption | decide +kernel | rotate_left); (first | with_reducible assumption | decide +kernel | rotate_left); exact rfl; exact rfl))
                · refine Lands.mk' (m := f) (Nat.lt_succ_self _) ⟨acc ++ (x :: c1), p3, L.length + ((x :: c1).map E.byte).length, L ++ (x :: c1).map E.byte, z2, by rw [List.length_append], by rw [hL, List.map_append], hsum3, hf3, hS, rfl, .inr ⟨rfl, rfl⟩⟩ ?_ rfl rfl rfl rfl rfl rfl
                  exact .cons rfl (.cons rfl (.cons rfl (.cons rfl .nil)))
                all_goals (first | rfl | (simp only [List.length_append, List.length_cons, List.length_nil, List.length_map, itEs_len]; done) | (simp only [List.length_append, List.length_cons, List.length_nil, List.length_map, itEs_len] at *; (try unfold maxLen); (try simp only [Nat.add_mul]); omega))
        · rw [if_neg hcond] at hS
          subst hS
          dsimp only
          cases o1 with
          | true =>
            rcases hst with ⟨rfl, rfl, rfl⟩ | ⟨rfl, rfl⟩
            · repeat' (first | (apply AL_callQw [0] (hends); kernel_rfl; (iterate 7 exact rfl)) | (apply AL_callQw [0] (hhd.q rfl); kernel_rfl; (iterate 7 exact rfl)) | (apply AL_callX [] (ax_need 3); kernel_rfl; (iterate 6 exact rfl); intro bx2 fr2 hle2) | (apply AL_move; exact rfl; exact rfl) | (apply AL_bin; (iterate 5 exact rfl)) | (apply AL_load1 ttok; (iterate 6 exact rfl)) | (apply AL_fieldAddr ttok; (iterate 7 exact rfl)) | (apply AL_store ttok; (iterate 8 exact rfl)) | (apply AL_not; exact rfl; exact rfl) | refine AL_nil ?_ | (apply AL_guardT; (iterate 3 exact rfl); (first | with_reducible assumption | decide +kernel)) | (apply AL_guardFt; (iterate 3 exact rfl); (first | with_reducible assumption | decide +kernel)) | (apply AL_guardS; exact rfl; exact rfl; all_goals intro hb) | (apply AL_pickT; exact rfl; (first | with_reducible assumption | decide +kernel); exact rfl; exact rfl) | (apply AL_pickF; exact rfl; (first | with_reducible assumption | decide +kernel); exact rfl; exact rfl) | refine AW_region ?_ | refine AW_seq' ?_ | (apply AW_condA; exact rfl; (first | with_reducible assumption | decide +kernel)) | refine then_norm ?_ | refine AW_block ?_ | (apply AL_allocZ ttok; (iterate 4 exact rfl)) | refine AW_skip ?_ | refine then_pan ?_ | refine blk_pan ?_)
              all_goals (apply endX; exact rfl; (first | exact Nat.zero_le _ | exact Nat.le_trans (Nat.le_of_ble_eq_true rfl) (by assumption)); exact rfl)
            · repeat' (first | (apply AL_callQw [0] (hends); kernel_rfl; (iterate 7 exact rfl)) | (apply AL_callQw [0] (hhd.q rfl); kernel_rfl; (iterate 7 exact rfl)) | (apply AL_callX [] (ax_need 3); kernel_rfl; (iterate 6 exact rfl); intro bx2 fr2 hle2) | (apply AL_move; exact rfl; exact rfl) | (apply AL_bin; (iterate 5 exact rfl)) | (apply AL_load1 ttok; (iterate 6 exact rfl)) | (apply AL_fieldAddr ttok; (iterate 7 exact rfl)) | (apply AL_store ttok; (iterate 8 exact rfl)) | (apply AL_not; exact rfl; exact rfl) | refine AL_nil ?_ | (apply AL_guardT; (iterate 3 exact rfl); (first | with_reducible assumption | decide +kernel)) | (apply AL_guardFt; (iterate 3 exact rfl); (first | with_reducible assumption | decide +kernel)) | (apply AL_guardS; exact rfl; exact rfl; all_goals intro hb) | (apply AL_pickT; exact rfl; (first | with_reducible assumption | decide +kernel); exact rfl; exact rfl) | (apply AL_pickF; exact rfl; (first | with_reducible assumption | decide +kernel); exact rfl; exact rfl) | refine AW_region ?_ | refine AW_seq' ?_ | (apply AW_condA; exact rfl; (first | with_reducible assumption | decide +kernel)) | refine then_norm ?_ | refine AW_block ?_ | (apply AL_allocZ ttok; (iterate 4 exact rfl)) | refine AW_skip ?_ | refine then_pan ?_ | refine blk_pan ?_)
              all_goals (apply endX; exact rfl; (first | exact Nat.zero_le _ | exact Nat.le_trans (Nat.le_of_ble_eq_true rfl) (by assumption)); exact rfl)
          | false =>
            have tk : (k1 == k) = false := by simpa using fun h => hcond ⟨h, rfl⟩
            rcases hst with ⟨rfl, rfl, rfl⟩ | ⟨rfl, rfl⟩
            · repeat' (first | (apply AL_callQw [0] (hends); kernel_rfl; (iterate 7 exact rfl)) | (apply AL_callQw [0] (hhd.q rfl); kernel_rfl; (iterate 7 exact rfl)) | (apply AL_callX [] (ax_need 3); kernel_rfl; (iterate 6 exact rfl); intro bx2 fr2 hle2) | (apply AL_move; exact rfl; exact rfl) | (apply AL_bin; (iterate 5 exact rfl)) | (apply AL_load1 ttok; (iterate 6 exact rfl)) | (apply AL_fieldAddr ttok; (iterate 7 exact rfl)) | (apply AL_store ttok; (iterate 8 exact rfl)) | (apply AL_not; exact rfl; exact rfl) | refine AL_nil ?_ | (apply AL_guardFt; (iterate 3 exact rfl); (first | with_reducible assumption | decide +kernel)) | (apply AL_pickF; exact rfl; (first | with_reducible assumption | decide +kernel); exact rfl; exact rfl) | refine AW_region ?_ | refine AW_seq' ?_ | (apply AW_condA; exact rfl; (first | with_reducible assumption | decide +kernel)) | refine then_norm ?_ | refine AW_block ?_ | (apply AL_allocZ ttok; (iterate 4 exact rfl)) | refine AW_skip ?_ | refine then_pan ?_ | refine blk_pan ?_)
              all_goals (apply endX; exact rfl; (first | exact Nat.zero_le _ | exact Nat.le_trans (Nat.le_of_ble_eq_true rfl) (by assumption)); exact rfl)
            · repeat' (first | (apply AL_callQw [0] (hends); kernel_rfl; (iterate 7 exact rfl)) | (apply AL_callQw [0] (hhd.q rfl); kernel_rfl; (iterate 7 exact rfl)) | (apply AL_callX [] (ax_need 3); kernel_rfl; (iterate 6 exact rfl); intro bx2 fr2 hle2) | (apply AL_move; exact rfl; exact rfl) | (apply AL_bin; (iterate 5 exact rfl)) | (apply AL_load1 ttok; (iterate 6 exact rfl)) | (apply AL_fieldAddr ttok; (iterate 7 exact rfl)) | (apply AL_store ttok; (iterate 8 exact rfl)) | (apply AL_not; exact rfl; exact rfl) | refine AL_nil ?_ | (apply AL_guardFt; (iterate 3 exact rfl); (first | with_reducible assumption | decide +kernel)) | (apply AL_pickF; exact rfl; (first | with_reducible assumption | decide +kernel); exact rfl; exact rfl) | refine AW_region ?_ | refine AW_seq' ?_ | (apply AW_condA; exact rfl; (first | with_reducible assumption | decide +kernel)) | refine then_norm ?_ | refine AW_block ?_ | (apply AL_allocZ ttok; (iterate 4 exact rfl)) | refine AW_skip ?_ | refine then_pan ?_ | refine blk_pan ?_)
              all_goals (apply endX; exact rfl; (first | exact Nat.zero_le _ | exact Nat.le_trans (Nat.le_of_ble_eq_true rfl) (by assumption)); exact rfl)
end Go.Proofs.YtnihobjehelagaaDoor
end
/- The reader of items: lists, items. -/
section
open Go.RowKit Go.Pl Go.Av
namespace Go.Proofs.YtnihobjehelagaaDoor
set_option linter.unusedVariables false
set_option linter.unusedSimpArgs false
set_option maxHeartbeats 4000000
/-- what comes of the reading of an item at a place -/
abbrev itR (b : List UInt8) (d p m : Nat) : Except D (D × List (List D)) := match itemS d m (b.drop p) with
  | .error e => .error (faultD e)
  | .ok (x, r, m') => .ok (itD x, [rdC b (b.length - r.length) m'])
/-- the state of a list that is read item by item -/
abbrev liB (b : List UInt8) (p m n : Nat) (o : Bool) (tk : Tok) (acc : List E) : List (List D) := [rdC b p m, [.int .i64 4, .int .u64 (n : Int), .bool o], [.int .i64 0, .int .u64 0, .sl .nil [], .sl .nil []], [.int .i64 4, .int .u64 0, .sl .nil [], .sl tk acc]]
theorem av_rlist [Known] [KnownU8] (d deep : Nat) (hdd : deep + d = 6) (b : List UInt8) (hb : b.length ≤ 1099511627776)
    (IH : ∀ p m, p ≤ b.length → m ≤ 256 → AR Tryd.prog 53 [.ptr 0 0, .int .i64 ((deep + 1 : Nat) : Int)] [rdC b p m] (itR b d p m))
    (n : Nat) (o : Bool) (p m : Nat) (hp : p ≤ b.length) (hm : m ≤ 256) (hn : n < 18446744073709551616) : AR Tryd.prog 99 [.ptr 0 0, hd (4, n, o), .int .i64 (deep : Int)] [rdC b p m] (match lisS (itemS d) (4, n, o) m (b.drop p) with
    | .error e => .error (faultD e)
    | .ok (l, r, m') => .ok (itD (.mk 4 0 [] l), [rdC b (b.length - r.length) m'])) := by
  show AR Tryd.prog _ [.ptr 0 0, .agg [.int .i64 4, .int .u64 (n : Int), .bool o], .int .i64 (deep : Int)] _ _
  have hR := item_ok d (by omega)
  have ed : IntKind.i64.wrap ((deep : Int) + 1) = ((deep + 1 : Nat) : Int) := by rw [IntWalk.i64_in _ (by omega)]; omega
  cases o with
  | true =>
    unfold lisS
    dsimp only
    generalize ho : lstO (itemS d) ((b.drop p).length + 1) [] m (b.drop p) = o
    refine AC_of Tryd.func99 rfl Tryd.ntmps99 rfl rfl ?_
    repeat' (first | (apply AL_load1 ttok; (iterate 6 exact rfl)) | (apply AL_fieldAddr ttok; (iterate 7 exact rfl)) | (apply AL_boxZ; (iterate 5 exact rfl)) | (apply AL_store ttok; (iterate 8 exact rfl)) | refine AL_nil ?_ | refine AW_region ?_ | refine AW_seq' ?_ | (apply AW_condA; exact rfl; (first | with_reducible assumption | decide +kernel)) | refine AW_block ?_ | (apply AL_build ttok; (iterate 6 exact rfl)) | (apply AL_allocZ ttok; (iterate 4 exact rfl)))
    refine AW_loopJ (fun f tm bx fr => ∃ (acc : List It) (p' m' c : Nat) (L : List E), p' ≤ b.length ∧ m' ≤ 256 ∧ c = L.length ∧ L = itEs acc ∧ acc.length + (b.length - p') ≤ b.length ∧ (b.drop p').length < f ∧ lstO (itemS d) f acc m' (b.drop p') = o ∧ tm = [(0, .ptr 0 0), (2, .int .i64 (deep : Int)), (4, .ptr 1 0), (6, .ptr 2 0), (7, .ptr 3 0)] ∧
      ((acc = [] ∧ bx = liB b p' m' n true .nil [] ∧ fr = []) ∨ (bx = liB b p' m' n true (.own 0) L ∧ fr = [⟨c, 4, 26⟩]))) ((b.drop p).length + 2) (Lands.mk' (m := (b.drop p).length + 1) (Nat.lt_succ_self _) ⟨[], p, m, 0, [], hp, hm, rfl, rfl, by simp, by omega, ho, rfl, .inl ⟨rfl, rfl, rfl⟩⟩ ?_ rfl rfl rfl rfl rfl rfl) ?_
    · exact .cons rfl (.cons rfl (.cons rfl (.cons rfl (.cons rfl .nil))))
    rintro f tm bx fr ⟨acc, p', m', c, L, hp', hm', hc, hL, hsum, hf, hS, rfl, hst⟩
    obtain ⟨f, rfl⟩ : ∃ g, f = g + 1 := ⟨f - 1, by omega⟩
    have hends := av_ends b p' m' hb hp'
    rw [lstO] at hS
    have hlp : (b.drop p').length = b.length - p' := List.length_drop ..
    cases he : endB (b.drop p') with
    | true =>
      rw [he] at hS hends
      dsimp only at hS
      rw [if_pos rfl] at hends
      subst hS
      dsimp only
      obtain ⟨x, hx⟩ := tail_length _ he
      obtain ⟨q1, q2, q3⟩ := drop_suf (pre := [x]) hp' hx
      have q3 : b.length - (b.drop p').tail.length = p' + 1 := q3.symm
      rw [q3]
      subst hL
      rcases hst with ⟨rfl, rfl, rfl⟩ | ⟨rfl, rfl⟩
      · repeat' (first | (apply AL_callQw [0] (hends); kernel_rfl; (iterate 7 exact rfl)) | (apply AL_move; exact rfl; exact rfl) | (apply AL_loadn ttok; (iterate 7 exact rfl)) | (apply AL_store ttok; (iterate 8 exact rfl)) | (apply AL_not; exact rfl; exact rfl) | refine AL_nil ?_ | refine AW_region ?_ | refine AW_seq' ?_ | (apply AW_condB; exact rfl; (first | with_reducible assumption | decide +kernel)) | refine then_norm ?_ | refine AW_exit ?_ | refine AW_ret ?_ | refine then_ret ?_)
        all_goals (apply endR (rfl) [0]; (repeat (first | exact ResL.nil | (apply ResL.cons; first | exact .tmp _ _ rfl | (apply res_n ttok; (iterate 6 exact rfl)) | (apply res_1 ttok; (iterate 5 exact rfl))))); (iterate 4 exact rfl))
        all_goals rfl
      · repeat' (first | (apply AL_callQw [0] (hends); kernel_rfl; (iterate 7 exact rfl)) | (apply AL_move; exact rfl; exact rfl) | (apply AL_loadn ttok; (iterate 7 exact rfl)) | (apply AL_store ttok; (iterate 8 exact rfl)) | (apply AL_not; exact rfl; exact rfl) | refine AL_nil ?_ | refine AW_region ?_ | refine AW_seq' ?_ | (apply AW_condB; exact rfl; (first | with_reducible assumption | decide +kernel)) | refine then_norm ?_ | refine AW_exit ?_ | refine AW_ret ?_ | refine then_ret ?_)
        all_goals (apply endR (rfl) [0]; (repeat (first | exact ResL.nil | (apply ResL.cons; first | exact .tmp _ _ rfl | (apply res_n ttok; (iterate 6 exact rfl)) | (apply res_1 ttok; (iterate 5 exact rfl))))); (iterate 4 exact rfl))
        all_goals rfl
    | false =>
      rw [he] at hS hends
      dsimp only at hS
      rw [if_neg (by simp)] at hends
      have hit := IH p' m' hp' hm'
      unfold itR at hit
      cases hr : itemS d m' (b.drop p') with
      | error e =>
        rw [hr] at hS hit
        dsimp only at hS hit
        subst hS
        dsimp only
        rcases hst with ⟨rfl, rfl, rfl⟩ | ⟨rfl, rfl⟩
        · repeat' (first | rw [ed] | (apply AL_callQw [0] (hends); kernel_rfl; (iterate 7 exact rfl)) | (apply AL_callX [0] (hit.x rfl); kernel_rfl; (iterate 6 exact rfl); intro bx2 fr2 hle2) | (apply AW_drawX 9 5 hmix; (decide +kernel); (kernel_rfl); (decide +kernel); exact rfl; exact rfl) | exact ADX.nil _ _ | (apply ADX_dead; (decide +kernel); exact rfl) | (apply ADX_pan; (iterate 3 exact rfl)) | (apply ADX_pu; (iterate 4 exact rfl)) | exact qx_pan rfl (by assumption) | intro tm2 bx2 fr2 hle2 | (apply AL_move; exact rfl; exact rfl) | (apply AL_bin; (iterate 5 exact rfl)) | (apply AL_load1 ttok; (iterate 6 exact rfl)) | (apply AL_fieldAddr ttok; (iterate 7 exact rfl)) | (apply AL_not; exact rfl; exact rfl) | refine AL_nil ?_ | refine AW_region ?_ | refine AW_seq' ?_ | (apply AW_condA; exact rfl; (first | with_reducible assumption | decide +kernel)) | refine then_norm ?_ | refine AW_block ?_ | exact qp_ok rfl | refine AW_skip ?_ | refine then_pan ?_ | refine blk_pan ?_)
          all_goals (apply endX; exact rfl; (first | exact Nat.zero_le _ | exact Nat.le_trans (Nat.le_of_ble_eq_true rfl) (by assumption)); exact rfl)
        · repeat' (first | rw [ed] | (apply AL_callQw [0] (hends); kernel_rfl; (iterate 7 exact rfl)) | (apply AL_callX [0] (hit.x rfl); kernel_rfl; (iterate 6 exact rfl); intro bx2 fr2 hle2) | (apply AW_drawX 9 5 hmix; (decide +kernel); (kernel_rfl); (decide +kernel); exact rfl; exact rfl) | exact ADX.nil _ _ | (apply ADX_dead; (decide +kernel); exact rfl) | (apply ADX_pan; (iterate 3 exact rfl)) | (apply ADX_pu; (iterate 4 exact rfl)) | exact qx_pan rfl (by assumption) | intro tm2 bx2 fr2 hle2 | (apply AL_move; exact rfl; exact rfl) | (apply AL_bin; (iterate 5 exact rfl)) | (apply AL_load1 ttok; (iterate 6 exact rfl)) | (apply AL_fieldAddr ttok; (iterate 7 exact rfl)) | (apply AL_not; exact rfl; exact rfl) | refine AL_nil ?_ | refine AW_region ?_ | refine AW_seq' ?_ | (apply AW_condA; exact rfl; (first | with_reducible assumption | decide +kernel)) | refine then_norm ?_ | refine AW_block ?_ | exact qp_ok rfl | refine AW_skip ?_ | refine then_pan ?_ | refine blk_pan ?_)
          all_goals (apply endX; exact rfl; (first | exact Nat.zero_le _ | exact Nat.le_trans (Nat.le_of_ble_eq_true rfl) (by assumption)); exact rfl)
      | ok y =>
        obtain ⟨⟨k1, n1, b1, l1⟩, r, m1⟩ := y
        rw [hr] at hS hit
        dsimp only at hS hit
        obtain ⟨hwk, _, pre, hpre, hpos, _⟩ := hR _ _ _ _ _ hr (by omega)
        have hm1 := walkI_lt hwk
        obtain ⟨z1, z2, z3⟩ := drop_suf hp' hpre
        generalize hp3 : b.length - r.length = p3 at z1 z2 z3 hit
        have hpl := congrArg List.length hpre
        have hdl : (b.drop p3).length = r.length := by rw [z1]
        rw [List.length_append] at hpl
        rw [← z1] at hS
        rw [List.length_drop] at hdl
        have hf3 : (b.drop p3).length < f := by rw [List.length_drop]; omega
        have hsum3 : (acc ++ [It.mk k1 n1 b1 l1]).length + (b.length - p3) ≤ b.length := by rw [List.length_append]; simp; omega
        rcases hst with ⟨rfl, rfl, rfl⟩ | ⟨rfl, rfl⟩
        · repeat' (first | rw [ed] | (apply AL_callQw [0] (hends); kernel_rfl; (iterate 7 exact rfl)) | (apply AL_callQw [0] (hit.q rfl); kernel_rfl; (iterate 7 exact rfl)) | (apply AL_append_nilZ ttok; (iterate 6 exact rfl); exact uniB_ok rfl; exact List.cons_ne_nil _ _; exact rfl; decide +kernel; decide +kernel; (iterate 3 exact rfl)) | (apply AL_move; exact rfl; exact rfl) | (apply AL_bin; (iterate 5 exact rfl)) | (apply AL_load1 ttok; (iterate 6 exact rfl)) | (apply AL_fieldAddr ttok; (iterate 7 exact rfl)) | (apply AL_store ttok; (iterate 8 exact rfl)) | (apply AL_not; exact rfl; exact rfl) | refine AL_nil ?_ | refine AW_region ?_ | refine AW_seq' ?_ | (apply AW_condA; exact rfl; (first | with_reducible assumption | decide +kernel)) | refine then_norm ?_ | refine blk_norm ?_ | refine AW_block ?_ | (apply AL_bsZ ttok; (iterate 12 exact rfl)) | (apply AW_drawE 7 hmix; (decide +kernel); (kernel_rfl); (kernel_rfl); (kernel_rfl); exact rfl; exact rfl) | (apply AE_consZ; (iterate 4 exact rfl)) | exact AE.nil _ _ _ _ | (apply AEk_puT; exact rfl) | (apply AEk_efT; exact rfl) | (apply AOt_mk; exact rfl; exact rfl; (decide +kernel); exact rfl) | (apply AO_puT; exact rfl) | (apply AO_efT; exact rfl) | exact AO.nil _ _ _ | (apply AOs_skip; (decide +kernel)) | (apply AOs_goZ; (iterate 3 exact rfl)) | exact AOs.nil | exact qY_ok rfl rfl | exact qY_wk rfl rfl rfl rfl rfl | exact qY_ef rfl rfl | refine AW_skip ?_)
          refine Lands.mk' (m := f) (Nat.lt_succ_self _) ⟨[It.mk k1 n1 b1 l1], p3, m1, 1, itEs [It.mk k1 n1 b1 l1], z2, by omega, rfl, rfl, hsum3, hf3, hS, rfl, .inr ⟨rfl, rfl⟩⟩ ?_ rfl rfl rfl rfl rfl rfl
          exact .cons rfl (.cons rfl (.cons rfl (.cons rfl (.cons rfl .nil))))
        · subst hc
          have hUa : Uni 4 L := hL ▸ uniI acc
          have hLl : L.length = acc.length := by rw [hL, itEs_len]
          repeat' (first | rw [ed] | (apply AL_callQw [0] (hends); kernel_rfl; (iterate 7 exact rfl)) | (apply AL_callQw [0] (hit.q rfl); kernel_rfl; (iterate 7 exact rfl)) | (apply AL_move; exact rfl; exact rfl) | (apply AL_bin; (iterate 5 exact rfl)) | (apply AL_load1 ttok; (iterate 6 exact rfl)) | (apply AL_fieldAddr ttok; (iterate 7 exact rfl)) | (apply AL_store ttok; (iterate 8 exact rfl)) | (apply AL_not; exact rfl; exact rfl) | refine AL_nil ?_ | refine AW_region ?_ | refine AW_seq' ?_ | (apply AW_condA; exact rfl; (first | with_reducible assumption | decide +kernel)) | refine then_norm ?_ | refine blk_norm ?_ | refine AW_block ?_ | (apply AL_bsZ ttok; (iterate 12 exact rfl)) | (apply AW_drawE 7 hmix; (decide +kernel); (kernel_rfl); (kernel_rfl); (kernel_rfl); exact rfl; exact rfl) | (apply AE_consZ; (iterate 4 exact rfl)) | exact AE.nil _ _ _ _ | (apply AEk_puT; exact rfl) | (apply AEk_efT; exact rfl) | (apply AOt_mk; exact rfl; exact rfl; (decide +kernel); exact rfl) | (apply AO_puT; exact rfl) | (apply AO_efT; exact rfl) | exact AO.nil _ _ _ | (apply AOs_skip; (decide +kernel)) | (apply AOs_goZ; (iterate 3 exact rfl)) | exact AOs.nil | exact qY_ok rfl rfl | exact qY_wk rfl rfl rfl rfl rfl | exact qY_ef rfl rfl | refine AW_skip ?_ | (apply AL_append ttok; (iterate 6 exact rfl); (first | with_reducible assumption | decide +kernel | exact rfl | rotate_left); exact rfl; exact rfl; (first | exact uniB_ok rfl | with_reducible assumption | decide +kernel | rotate_left); (first | exact uniB_ok rfl | with_reducible assumption | decide +kernel | rotate_left); (first | exact List.cons_ne_nil _ _ | with_reducible assumption | decide +kernel | rotate_left); (first | with_reducible assumption | decide +kernel | rotate_left); (first | with_reducible assumption | decide +kernel | rotate_left); exact rfl; exact rfl))
          · refine Lands.mk' (m := f) (Nat.lt_succ_self _) ⟨acc ++ [It.mk k1 n1 b1 l1], p3, m1, L.length + 1, L ++ [E.agg [.int .i64 k1, .int .u64 (n1 : Int), .sl (b1.map E.byte), .sl (itEs l1)]], z2, by omega, by rw [List.length_append]; rfl, by rw [hL]; exact (itEs_app _ [It.mk k1 n1 b1 l1]).symm, hsum3, hf3, hS, rfl, .inr ⟨rfl, rfl⟩⟩ ?_ rfl rfl rfl rfl rfl rfl
            exact .cons rfl (.cons rfl (.cons rfl (.cons rfl (.cons rfl .nil))))
          all_goals (first | rfl | (simp only [List.length_append, List.length_cons, List.length_nil, List.length_map, itEs_len]; done) | (simp only [List.length_append, List.length_cons, List.length_nil, List.length_map, itEs_len] at *; (try unfold maxLen); (try simp only [Nat.add_mul]); omega))
  | false =>
    unfold lisS
    dsimp only
    have e1 : IntKind.i64.wrap (((b.map E.byte).length : Int) - (p : Int)) = ((b.length - p : Nat) : Int) := by rw [List.length_map, IntWalk.i64_in _ (by omega)]; omega
    have e2 : IntKind.u64.wrap ((b.length - p : Nat) : Int) = ((b.length - p : Nat) : Int) := by rw [IntKind.wrap_u64]; omega
    have hl : (b.drop p).length = b.length - p := List.length_drop ..
    rw [hl]
    by_cases hle : n ≤ b.length - p
    · rw [if_pos hle]
      have d1 : decide ((n : Int) ≤ ((b.length - p : Nat) : Int)) = true := by simp; omega
      generalize ho : lstN (itemS d) n [] m (b.drop p) = o
      refine AC_of Tryd.func99 rfl Tryd.ntmps99 rfl rfl ?_
      repeat' (first | rw [d1] | rw [e1] | rw [e2] | (apply AL_callPw (av_need 8); kernel_rfl; (iterate 4 exact rfl)) | (apply AL_move; exact rfl; exact rfl) | (apply AL_bin; (iterate 5 exact rfl)) | (apply AL_load1 ttok; (iterate 6 exact rfl)) | (apply AL_fieldAddr ttok; (iterate 7 exact rfl)) | (apply AL_nilCheck; exact rfl; exact rfl) | (apply AL_boxZ; (iterate 5 exact rfl)) | (apply AL_store ttok; (iterate 8 exact rfl)) | (apply AL_convT ttok; (iterate 5 exact rfl)) | refine AL_nil ?_ | refine AW_region ?_ | refine AW_seq' ?_ | (apply AW_condB; exact rfl; (first | with_reducible assumption | decide +kernel)) | refine then_norm ?_ | refine AW_block ?_ | (apply AL_len ttok; (iterate 4 exact rfl)) | (apply AL_build ttok; (iterate 6 exact rfl)) | (apply AL_allocZ ttok; (iterate 4 exact rfl)) | (apply AW_drawE 13 hmix; (decide +kernel); (kernel_rfl); (kernel_rfl); (kernel_rfl); exact rfl; exact rfl) | (apply AE_consZ; (iterate 4 exact rfl)) | exact AE.nil _ _ _ _ | (apply AEk_puT; exact rfl) | (apply AOt_mk; exact rfl; exact rfl; (decide +kernel); exact rfl) | (apply AO_puT; exact rfl) | exact AO.nil _ _ _ | (apply AOs_skip; (decide +kernel)) | exact AOs.nil | exact qY_ok rfl rfl | refine AW_skip ?_)
      refine AW_loopJ (fun f tm bx fr => ∃ (i : Nat) (acc : List It) (p' m' c : Nat) (L : List E), f + i = n ∧ p' ≤ b.length ∧ m' ≤ 256 ∧ c = L.length ∧ L = itEs acc ∧ acc.length + (b.length - p') ≤ b.length ∧ lstN (itemS d) f acc m' (b.drop p') = o ∧ tm = [(0, .ptr 0 0), (2, .int .i64 (deep : Int)), (4, .ptr 1 0), (6, .ptr 2 0), (7, .ptr 3 0), (40, .int .u64 (n : Int)), (41, .int .u64 (i : Int))] ∧
        ((acc = [] ∧ bx = liB b p' m' n false .nil [] ∧ fr = []) ∨ (bx = liB b p' m' n false (.own 0) L ∧ fr = [⟨c, 4, 26⟩]))) (n + 1) (Lands.mk' (m := n) (Nat.lt_succ_self _) ⟨0, [], p, m, 0, [], rfl, hp, hm, rfl, rfl, by simp, ho, rfl, .inl ⟨rfl, rfl, rfl⟩⟩ ?_ rfl rfl rfl rfl rfl rfl) ?_
      · exact .cons rfl (.cons rfl (.cons rfl (.cons rfl (.cons rfl (.cons rfl (.cons rfl .nil))))))
      rintro f tm bx fr ⟨i, acc, p', m', c, L, hfi, hp', hm', hc, hL, hsum, hS, rfl, hst⟩
      cases f with
      | zero =>
        have dn : decide ((i : Int) < (n : Int)) = false := by simp; omega
        rw [lstN] at hS
        subst hS
        dsimp only
        have q3 : b.length - (b.drop p').length = p' := by rw [List.length_drop]; omega
        rw [q3]
        subst hL
        rcases hst with ⟨rfl, rfl, rfl⟩ | ⟨rfl, rfl⟩
        · repeat' (first | (apply AL_bin; (iterate 5 exact rfl)) | (apply AL_loadn ttok; (iterate 7 exact rfl)) | (apply AL_store ttok; (iterate 8 exact rfl)) | refine AL_nil ?_ | refine AW_region ?_ | refine AW_seq' ?_ | (apply AW_condB; exact rfl; (first | with_reducible assumption | decide +kernel)) | refine then_norm ?_ | refine AW_exit ?_ | refine AW_ret ?_)
          all_goals (apply endR (rfl) [0]; (repeat (first | exact ResL.nil | (apply ResL.cons; first | exact .tmp _ _ rfl | (apply res_n ttok; (iterate 6 exact rfl)) | (apply res_1 ttok; (iterate 5 exact rfl))))); (iterate 4 exact rfl))
          all_goals rfl
        · repeat' (first | (apply AL_bin; (iterate 5 exact rfl)) | (apply AL_loadn ttok; (iterate 7 exact rfl)) | (apply AL_store ttok; (iterate 8 exact rfl)) | refine AL_nil ?_ | refine AW_region ?_ | refine AW_seq' ?_ | (apply AW_condB; exact rfl; (first | with_reducible assumption | decide +kernel)) | refine then_norm ?_ | refine AW_exit ?_ | refine AW_ret ?_)
          all_goals (apply endR (rfl) [0]; (repeat (first | exact ResL.nil | (apply ResL.cons; first | exact .tmp _ _ rfl | (apply res_n ttok; (iterate 6 exact rfl)) | (apply res_1 ttok; (iterate 5 exact rfl))))); (iterate 4 exact rfl))
          all_goals rfl
      | succ f =>
        have dn : decide ((i : Int) < (n : Int)) = true := by simp; omega
        have ei : IntKind.u64.wrap ((i : Int) + 1) = ((i + 1 : Nat) : Int) := by rw [IntKind.wrap_u64]; omega
        rw [lstN] at hS
        have hlp : (b.drop p').length = b.length - p' := List.length_drop ..
        have hit := IH p' m' hp' hm'
        unfold itR at hit
        cases hr : itemS d m' (b.drop p') with
        | error e =>
          rw [hr] at hS hit
          dsimp only at hS hit
          subst hS
          dsimp only
          rcases hst with ⟨rfl, rfl, rfl⟩ | ⟨rfl, rfl⟩
          · repeat' (first | rw [ed] | (apply AL_callX [0] (hit.x rfl); kernel_rfl; (iterate 6 exact rfl); intro bx2 fr2 hle2) | (apply AW_drawX 9 5 hmix; (decide +kernel); (kernel_rfl); (decide +kernel); exact rfl; exact rfl) | exact ADX.nil _ _ | (apply ADX_dead; (decide +kernel); exact rfl) | (apply ADX_pan; (iterate 3 exact rfl)) | (apply ADX_pu; (iterate 4 exact rfl)) | exact qx_pan rfl (by assumption) | intro tm2 bx2 fr2 hle2 | (apply AL_move; exact rfl; exact rfl) | (apply AL_bin; (iterate 5 exact rfl)) | (apply AL_load1 ttok; (iterate 6 exact rfl)) | (apply AL_fieldAddr ttok; (iterate 7 exact rfl)) | refine AL_nil ?_ | refine AW_region ?_ | refine AW_seq' ?_ | (apply AW_condA; exact rfl; (first | with_reducible assumption | decide +kernel)) | refine AW_block ?_ | exact qp_ok rfl | refine AW_skip ?_ | refine then_pan ?_ | refine blk_pan ?_)
            all_goals (apply endX; exact rfl; (first | exact Nat.zero_le _ | exact Nat.le_trans (Nat.le_of_ble_eq_true rfl) (by assumption)); exact rfl)
          · repeat' (first | rw [ed] | (apply AL_callX [0] (hit.x rfl); kernel_rfl; (iterate 6 exact rfl); intro bx2 fr2 hle2) | (apply AW_drawX 9 5 hmix; (decide +kernel); (kernel_rfl); (decide +kernel); exact rfl; exact rfl) | exact ADX.nil _ _ | (apply ADX_dead; (decide +kernel); exact rfl) | (apply ADX_pan; (iterate 3 exact rfl)) | (apply ADX_pu; (iterate 4 exact rfl)) | exact qx_pan rfl (by assumption) | intro tm2 bx2 fr2 hle2 | (apply AL_move; exact rfl; exact rfl) | (apply AL_bin; (iterate 5 exact rfl)) | (apply AL_load1 ttok; (iterate 6 exact rfl)) | (apply AL_fieldAddr ttok; (iterate 7 exact rfl)) | refine AL_nil ?_ | refine AW_region ?_ | refine AW_seq' ?_ | (apply AW_condA; exact rfl; (first | with_reducible assumption | decide +kernel)) | refine AW_block ?_ | exact qp_ok rfl | refine AW_skip ?_ | refine then_pan ?_ | refine blk_pan ?_)
            all_goals (apply endX; exact rfl; (first | exact Nat.zero_le _ | exact Nat.le_trans (Nat.le_of_ble_eq_true rfl) (by assumption)); exact rfl)
        | ok y =>
          obtain ⟨⟨k1, n1, b1, l1⟩, r, m1⟩ := y
          rw [hr] at hS hit
          dsimp only at hS hit
          obtain ⟨hwk, _, pre, hpre, hpos, _⟩ := hR _ _ _ _ _ hr (by omega)
          have hm1 := walkI_lt hwk
          obtain ⟨z1, z2, z3⟩ := drop_suf hp' hpre
          generalize hp3 : b.length - r.length = p3 at z1 z2 z3 hit
          have hpl := congrArg List.length hpre
          have hdl : (b.drop p3).length = r.length := by rw [z1]
          rw [List.length_append] at hpl
          rw [← z1] at hS
          rw [List.length_drop] at hdl
          have hsum3 : (acc ++ [It.mk k1 n1 b1 l1]).length + (b.length - p3) ≤ b.length := by rw [List.length_append]; simp; omega
          rcases hst with ⟨rfl, rfl, rfl⟩ | ⟨rfl, rfl⟩
          · repeat' (first | rw [ed] | rw [ei] | (apply AL_callQw [0] (hit.q rfl); kernel_rfl; (iterate 7 exact rfl)) | (apply AL_append_nilZ ttok; (iterate 6 exact rfl); exact uniB_ok rfl; exact List.cons_ne_nil _ _; exact rfl; decide +kernel; decide +kernel; (iterate 3 exact rfl)) | (apply AL_move; exact rfl; exact rfl) | (apply AL_bin; (iterate 5 exact rfl)) | (apply AL_load1 ttok; (iterate 6 exact rfl)) | (apply AL_fieldAddr ttok; (iterate 7 exact rfl)) | (apply AL_store ttok; (iterate 8 exact rfl)) | refine AL_nil ?_ | refine AW_region ?_ | refine AW_seq' ?_ | (apply AW_condA; exact rfl; (first | with_reducible assumption | decide +kernel)) | refine then_norm ?_ | refine AW_block ?_ | (apply AL_bsZ ttok; (iterate 12 exact rfl)) | (apply AW_drawE 7 hmix; (decide +kernel); (kernel_rfl); (kernel_rfl); (kernel_rfl); exact rfl; exact rfl) | (apply AE_consZ; (iterate 4 exact rfl)) | exact AE.nil _ _ _ _ | (apply AEk_puT; exact rfl) | (apply AEk_efT; exact rfl) | (apply AOt_mk; exact rfl; exact rfl; (decide +kernel); exact rfl) | (apply AO_puT; exact rfl) | (apply AO_efT; exact rfl) | exact AO.nil _ _ _ | (apply AOs_skip; (decide +kernel)) | (apply AOs_goZ; (iterate 3 exact rfl)) | exact AOs.nil | exact qY_ok rfl rfl | exact qY_wk rfl rfl rfl rfl rfl | exact qY_ef rfl rfl | refine AW_skip ?_)
            refine Lands.mk' (m := f) (Nat.lt_succ_self _) ⟨i + 1, [It.mk k1 n1 b1 l1], p3, m1, 1, itEs [It.mk k1 n1 b1 l1], by omega, z2, by omega, rfl, rfl, hsum3, hS, rfl, .inr ⟨rfl, rfl⟩⟩ ?_ rfl rfl rfl rfl rfl rfl
            exact .cons rfl (.cons rfl (.cons rfl (.cons rfl (.cons rfl (.cons rfl (.cons rfl .nil))))))
          · subst hc
            have hUa : Uni 4 L := hL ▸ uniI acc
            have hLl : L.length = acc.length := by rw [hL, itEs_len]
            repeat' (first | rw [ed] | rw [ei] | (apply AL_callQw [0] (hit.q rfl); kernel_rfl; (iterate 7 exact rfl)) | (apply AL_move; exact rfl; exact rfl) | (apply AL_bin; (iterate 5 exact rfl)) | (apply AL_load1 ttok; (iterate 6 exact rfl)) | (apply AL_fieldAddr ttok; (iterate 7 exact rfl)) | (apply AL_store ttok; (iterate 8 exact rfl)) | refine AL_nil ?_ | refine AW_region ?_ | refine AW_seq' ?_ | (apply AW_condA; exact rfl; (first | with_reducible assumption | decide +kernel)) | refine then_norm ?_ | refine AW_block ?_ | (apply AL_bsZ ttok; (iterate 12 exact rfl)) | (apply AW_drawE 7 hmix; (decide +kernel); (kernel_rfl); (kernel_rfl); (kernel_rfl); exact rfl; exact rfl) | (apply AE_consZ; (iterate 4 exact rfl)) | exact AE.nil _ _ _ _ | (apply AEk_puT; exact rfl) | (apply AEk_efT; exact rfl) | (apply AOt_mk; exact rfl; exact rfl; (decide +kernel); exact rfl) | (apply AO_puT; exact rfl) | (apply AO_efT; exact rfl) | exact AO.nil _ _ _ | (apply AOs_skip; (decide +kernel)) | (apply AOs_goZ; (iterate 3 exact rfl)) | exact AOs.nil | exact qY_ok rfl rfl | exact qY_wk rfl rfl rfl rfl rfl | exact qY_ef rfl rfl | refine AW_skip ?_ | (apply AL_append ttok; (iterate 6 exact rfl); (first | with_reducible assumption | decide +kernel | exact rfl | rotate_left); exact rfl; exact rfl; (first | exact uniB_ok rfl | with_reducible assumption | decide +kernel | rotate_left); (first | exact uniB_ok rfl | with_reducible assumption | decide +kernel | rotate_left); (first | exact List.cons_ne_nil _ _ | with_reducible assumption | decide +kernel | rotate_left); (first | with_reducible assumption | decide +kernel | rotate_left); (first | with_reducible assumption | decide +kernel | rotate_left); exact rfl; exact rfl))
            · refine Lands.mk' (m := f) (Nat.lt_succ_self _) ⟨i + 1, acc ++ [It.mk k1 n1 b1 l1], p3, m1, L.length + 1, L ++ [E.agg [.int .i64 k1, .int .u64 (n1 : Int), .sl (b1.map E.byte), .sl (itEs l1)]], by omega, z2, by omega, by rw [List.length_append]; rfl, by rw [hL]; exact (itEs_app _ [It.mk k1 n1 b1 l1]).symm, hsum3, hS, rfl, .inr ⟨rfl, rfl⟩⟩ ?_ rfl rfl rfl rfl rfl rfl
              exact .cons rfl (.cons rfl (.cons rfl (.cons rfl (.cons rfl (.cons rfl (.cons rfl .nil))))))
            all_goals (first | rfl | (simp only [List.length_append, List.length_cons, List.length_nil, List.length_map, itEs_len]; done) | (simp only [List.length_append, List.length_cons, List.length_nil, List.length_map, itEs_len] at *; (try unfold maxLen); (try simp only [Nat.add_mul]); omega))
    · rw [if_neg hle]
      dsimp only
      have d1 : decide ((n : Int) ≤ ((b.length - p : Nat) : Int)) = false := by simp; omega
      refine AC_of Tryd.func99 rfl Tryd.ntmps99 rfl rfl ?_
      repeat' (first | rw [d1] | rw [e1] | rw [e2] | (apply AL_callX [] (ax_need 8); kernel_rfl; (iterate 6 exact rfl); intro bx2 fr2 hle2) | (apply AL_move; exact rfl; exact rfl) | (apply AL_bin; (iterate 5 exact rfl)) | (apply AL_load1 ttok; (iterate 6 exact rfl)) | (apply AL_fieldAddr ttok; (iterate 7 exact rfl)) | (apply AL_nilCheck; exact rfl; exact rfl) | (apply AL_boxZ; (iterate 5 exact rfl)) | (apply AL_store ttok; (iterate 8 exact rfl)) | (apply AL_convT ttok; (iterate 5 exact rfl)) | refine AL_nil ?_ | refine AW_region ?_ | refine AW_seq' ?_ | (apply AW_condB; exact rfl; (first | with_reducible assumption | decide +kernel)) | (apply AL_len ttok; (iterate 4 exact rfl)) | (apply AL_build ttok; (iterate 6 exact rfl)) | (apply AL_allocZ ttok; (iterate 4 exact rfl)) | (apply AW_drawE 13 hmix; (decide +kernel); (kernel_rfl); (kernel_rfl); (kernel_rfl); exact rfl; exact rfl) | (apply AE_consZ; (iterate 4 exact rfl)) | exact AE.nil _ _ _ _ | (apply AEk_puT; exact rfl) | (apply AOt_mk; exact rfl; exact rfl; (decide +kernel); exact rfl) | (apply AO_puT; exact rfl) | exact AO.nil _ _ _ | (apply AOs_skip; (decide +kernel)) | exact AOs.nil | exact qY_ok rfl rfl | refine AW_skip ?_ | refine then_pan ?_)
      all_goals (apply endX; exact rfl; (first | exact Nat.zero_le _ | exact Nat.le_trans (Nat.le_of_ble_eq_true rfl) (by assumption)); exact rfl)
end Go.Proofs.YtnihobjehelagaaDoor
end
/- The reader of items: an item. -/
section
open Go.RowKit Go.Pl Go.Av
namespace Go.Proofs.YtnihobjehelagaaDoor
set_option linter.unusedVariables false
set_option linter.unusedSimpArgs false
set_option maxHeartbeats 4000000
theorem okK_not {k : Int} (h : okK k = false) : (k == 0) = false ∧ (k == 2) = false ∧ (k == 3) = false ∧ (k == 4) = false := by
  simpa [okK] using h
theorem av_ritem [Known] [KnownU8] (b : List UInt8) (hb : b.length ≤ 1099511627776) : ∀ (d deep : Nat), deep + d = 7 → ∀ p m, p ≤ b.length → m ≤ 256 → AR Tryd.prog 53 [.ptr 0 0, .int .i64 (deep : Int)] [rdC b p m] (itR b d p m)
  | d, deep => fun hdd p m hp hm => by
    have hhd := av_rhead b p m hb hp
    unfold itR
    cases hr : rdS (b.drop p) with
    | error e =>
      rw [hr] at hhd
      have hi : itemS d m (b.drop p) = .error e := by cases d <;> rw [itemS, hr]
      rw [hi]
      dsimp only at hhd ⊢
      refine AC_of Tryd.func53 rfl Tryd.ntmps53 rfl rfl ?_
      repeat' (first | (apply AL_callX [0] (hhd.x rfl); kernel_rfl; (iterate 6 exact rfl); intro bx2 fr2 hle2) | (apply AL_move; exact rfl; exact rfl) | refine AL_nil ?_ | refine AW_region ?_ | refine AW_seq' ?_ | (apply AL_allocZ ttok; (iterate 4 exact rfl)) | refine then_pan ?_)
      all_goals (apply endX; exact rfl; (first | exact Nat.zero_le _ | exact Nat.le_trans (Nat.le_of_ble_eq_true rfl) (by assumption)); exact rfl)
    | ok y =>
      obtain ⟨⟨k, n, o⟩, r⟩ := y
      rw [hr] at hhd
      dsimp only at hhd
      obtain ⟨_, hn, pre, hpre, _, hpos⟩ := rdS_ok hr
      dsimp only at hn
      obtain ⟨q1, q2, q3⟩ := drop_suf hp hpre
      generalize hp2 : b.length - r.length = p2 at q1 q2 q3 hhd
      replace hhd : AR Tryd.prog _ _ _ (.ok (.agg [.int .i64 k, .int .u64 (n : Int), .bool o], [rdC b p2 m])) := hhd
      cases hk : okK k with
      | false =>
        have hi : itemS d m (b.drop p) = .error 3 := by cases d <;> rw [itemS, hr] <;> dsimp only <;> rw [hk] <;> rfl
        rw [hi]
        dsimp only
        obtain ⟨k0, k2, k3, k4⟩ := okK_not hk
        refine AC_of Tryd.func53 rfl Tryd.ntmps53 rfl rfl ?_
        repeat' (first | rw [k4] | (apply AL_callQw [0] (hhd.q rfl); kernel_rfl; (iterate 7 exact rfl)) | (apply AL_callX [] (ax_need 3); kernel_rfl; (iterate 6 exact rfl); intro bx2 fr2 hle2) | (apply AL_move; exact rfl; exact rfl) | (apply AL_bin; (iterate 5 exact rfl)) | (apply AL_load1 ttok; (iterate 6 exact rfl)) | (apply AL_fieldAddr ttok; (iterate 7 exact rfl)) | (apply AL_store ttok; (iterate 8 exact rfl)) | refine AL_nil ?_ | (apply AL_guardT; (iterate 3 exact rfl); (first | with_reducible assumption | decide +kernel)) | (apply AL_pickF; exact rfl; (first | with_reducible assumption | decide +kernel); exact rfl; exact rfl) | refine AW_region ?_ | refine AW_seq' ?_ | (apply AL_allocZ ttok; (iterate 4 exact rfl)) | refine then_pan ?_)
        all_goals (apply endX; exact rfl; (first | exact Nat.zero_le _ | exact Nat.le_trans (Nat.le_of_ble_eq_true rfl) (by assumption)); exact rfl)
      | true =>
        have hk' := okK_cases hk
        cases d with
        | zero =>
          have hi : itemS 0 m (b.drop p) = .error 9 := by rw [itemS, hr]; dsimp only; rw [hk]; rfl
          rw [hi]
          dsimp only
          obtain rfl : deep = 7 := by omega
          rcases hk' with rfl | rfl | rfl | rfl
          all_goals
            refine AC_of Tryd.func53 rfl Tryd.ntmps53 rfl rfl ?_
            repeat' (first | (apply AL_callQw [0] (hhd.q rfl); kernel_rfl; (iterate 7 exact rfl)) | (apply AL_callPw (av_need 3); kernel_rfl; (iterate 4 exact rfl)) | (apply AL_callX [] (ax_need 9); kernel_rfl; (iterate 6 exact rfl); intro bx2 fr2 hle2) | (apply AL_move; exact rfl; exact rfl) | (apply AL_bin; (iterate 5 exact rfl)) | (apply AL_load1 ttok; (iterate 6 exact rfl)) | (apply AL_fieldAddr ttok; (iterate 7 exact rfl)) | (apply AL_store ttok; (iterate 8 exact rfl)) | refine AL_nil ?_ | (apply AL_guardT; (iterate 3 exact rfl); (first | with_reducible assumption | decide +kernel)) | (apply AL_guardFf; (iterate 3 exact rfl); (first | with_reducible assumption | decide +kernel)) | (apply AL_pickT; exact rfl; (first | with_reducible assumption | decide +kernel); exact rfl; exact rfl) | (apply AL_pickF; exact rfl; (first | with_reducible assumption | decide +kernel); exact rfl; exact rfl) | refine AW_region ?_ | refine AW_seq' ?_ | (apply AL_allocZ ttok; (iterate 4 exact rfl)) | refine then_pan ?_)
            all_goals (apply endX; exact rfl; (first | exact Nat.zero_le _ | exact Nat.le_trans (Nat.le_of_ble_eq_true rfl) (by assumption)); exact rfl)
        | succ d =>
          have dd : decide ((deep : Int) ≤ 6) = true := by simp; omega
          by_cases hm0 : m = 0
          · have hi : itemS (d + 1) m (b.drop p) = .error 2 := by rw [itemS, hr]; dsimp only; rw [hk, if_neg (by simp), if_pos hm0]
            rw [hi]
            dsimp only
            subst hm0
            rcases hk' with rfl | rfl | rfl | rfl
            all_goals
              refine AC_of Tryd.func53 rfl Tryd.ntmps53 rfl rfl ?_
              repeat' (first | rw [dd] | (apply AL_callQw [0] (hhd.q rfl); kernel_rfl; (iterate 7 exact rfl)) | (apply AL_callPw (av_need 3); kernel_rfl; (iterate 4 exact rfl)) | (apply AL_callPw (av_need 9); kernel_rfl; (iterate 4 exact rfl)) | (apply AL_callX [] (ax_need 2); kernel_rfl; (iterate 6 exact rfl); intro bx2 fr2 hle2) | (apply AL_move; exact rfl; exact rfl) | (apply AL_bin; (iterate 5 exact rfl)) | (apply AL_load1 ttok; (iterate 6 exact rfl)) | (apply AL_fieldAddr ttok; (iterate 7 exact rfl)) | (apply AL_nilCheck; exact rfl; exact rfl) | (apply AL_store ttok; (iterate 8 exact rfl)) | refine AL_nil ?_ | (apply AL_guardT; (iterate 3 exact rfl); (first | with_reducible assumption | decide +kernel)) | (apply AL_guardFf; (iterate 3 exact rfl); (first | with_reducible assumption | decide +kernel)) | (apply AL_pickT; exact rfl; (first | with_reducible assumption | decide +kernel); exact rfl; exact rfl) | (apply AL_pickF; exact rfl; (first | with_reducible assumption | decide +kernel); exact rfl; exact rfl) | refine AW_region ?_ | refine AW_seq' ?_ | (apply AL_allocZ ttok; (iterate 4 exact rfl)) | refine then_pan ?_)
              all_goals (apply endX; exact rfl; (first | exact Nat.zero_le _ | exact Nat.le_trans (Nat.le_of_ble_eq_true rfl) (by assumption)); exact rfl)
          · have hi : itemS (d + 1) m (b.drop p) = bodyS (itemS d) (k, n, o) (m - 1) r := by rw [itemS, hr]; dsimp only; rw [hk, if_neg (by simp), if_neg hm0]
            rw [hi]
            have dm : decide ((m : Int) > 0) = true := by simp; omega
            have em : IntKind.i64.wrap ((m : Int) - 1) = ((m - 1 : Nat) : Int) := by rw [IntWalk.i64_in _ (by omega)]; omega
            rcases hk' with rfl | rfl | rfl | rfl
            · unfold bodyS
              rw [if_pos rfl]
              dsimp only
              rw [hp2]
              refine AC_of Tryd.func53 rfl Tryd.ntmps53 rfl rfl ?_
              repeat' (first | rw [dd] | rw [dm] | rw [em] | (apply AL_callQw [0] (hhd.q rfl); kernel_rfl; (iterate 7 exact rfl)) | (apply AL_callPw (av_need 3); kernel_rfl; (iterate 4 exact rfl)) | (apply AL_callPw (av_need 9); kernel_rfl; (iterate 4 exact rfl)) | (apply AL_callPw (av_need 2); kernel_rfl; (iterate 4 exact rfl)) | (apply AL_move; exact rfl; exact rfl) | (apply AL_assign; exact rfl; exact rfl) | (apply AL_bin; (iterate 5 exact rfl)) | (apply AL_load1 ttok; (iterate 6 exact rfl)) | (apply AL_fieldAddr ttok; (iterate 7 exact rfl)) | (apply AL_nilCheck; exact rfl; exact rfl) | (apply AL_store ttok; (iterate 8 exact rfl)) | refine AL_nil ?_ | (apply AL_guardFf; (iterate 3 exact rfl); (first | with_reducible assumption | decide +kernel)) | (apply AL_pickT; exact rfl; (first | with_reducible assumption | decide +kernel); exact rfl; exact rfl) | refine AW_region ?_ | refine AW_seq' ?_ | (apply AW_condA; exact rfl; (first | with_reducible assumption | decide +kernel)) | refine then_norm ?_ | refine AW_block ?_ | refine AW_ret ?_ | refine then_ret ?_ | refine blk_ret ?_ | (apply AL_build ttok; (iterate 6 exact rfl)) | (apply AL_allocZ ttok; (iterate 4 exact rfl)))
              all_goals (apply endR (rfl) [0]; (repeat (first | exact ResL.nil | (apply ResL.cons; first | exact .tmp _ _ rfl | (apply res_n ttok; (iterate 6 exact rfl)) | (apply res_1 ttok; (iterate 5 exact rfl))))); (iterate 4 exact rfl))
              all_goals rfl
            · have hs := av_string (2, n, o) b p2 (m - 1) hb q2 hn
              rw [q1] at hs
              unfold bodyS
              rw [if_neg (by simp), if_neg (by simp)]
              cases ht : txtS (2, n, o) r with
              | error e =>
                rw [ht] at hs
                dsimp only at hs ⊢
                refine AC_of Tryd.func53 rfl Tryd.ntmps53 rfl rfl ?_
                repeat' (first | rw [dd] | rw [dm] | rw [em] | (apply AL_callQw [0] (hhd.q rfl); kernel_rfl; (iterate 7 exact rfl)) | (apply AL_callPw (av_need 3); kernel_rfl; (iterate 4 exact rfl)) | (apply AL_callPw (av_need 9); kernel_rfl; (iterate 4 exact rfl)) | (apply AL_callPw (av_need 2); kernel_rfl; (iterate 4 exact rfl)) | (apply AL_callX [0] (hs.x rfl); kernel_rfl; (iterate 6 exact rfl); intro bx2 fr2 hle2) | (apply AL_move; exact rfl; exact rfl) | (apply AL_assign; exact rfl; exact rfl) | (apply AL_bin; (iterate 5 exact rfl)) | (apply AL_load1 ttok; (iterate 6 exact rfl)) | (apply AL_loadn ttok; (iterate 7 exact rfl)) | (apply AL_fieldAddr ttok; (iterate 7 exact rfl)) | (apply AL_nilCheck; exact rfl; exact rfl) | (apply AL_store ttok; (iterate 8 exact rfl)) | refine AL_nil ?_ | (apply AL_guardT; (iterate 3 exact rfl); (first | with_reducible assumption | decide +kernel)) | (apply AL_guardFf; (iterate 3 exact rfl); (first | with_reducible assumption | decide +kernel)) | (apply AL_pickT; exact rfl; (first | with_reducible assumption | decide +kernel); exact rfl; exact rfl) | (apply AL_pickF; exact rfl; (first | with_reducible assumption | decide +kernel); exact rfl; exact rfl) | refine AW_region ?_ | refine AW_seq' ?_ | (apply AW_condB; exact rfl; (first | with_reducible assumption | decide +kernel)) | refine then_norm ?_ | refine AW_block ?_ | (apply AL_allocZ ttok; (iterate 4 exact rfl)) | refine AW_skip ?_ | refine then_pan ?_)
                all_goals (apply endX; exact rfl; (first | exact Nat.zero_le _ | exact Nat.le_trans (Nat.le_of_ble_eq_true rfl) (by assumption)); exact rfl)
              | ok y =>
                obtain ⟨c, r2⟩ := y
                rw [ht] at hs
                dsimp only at hs ⊢
                refine AC_of Tryd.func53 rfl Tryd.ntmps53 rfl rfl ?_
                repeat' (first | rw [dd] | rw [dm] | rw [em] | (apply AL_callQw [0] (hhd.q rfl); kernel_rfl; (iterate 7 exact rfl)) | (apply AL_callPw (av_need 3); kernel_rfl; (iterate 4 exact rfl)) | (apply AL_callPw (av_need 9); kernel_rfl; (iterate 4 exact rfl)) | (apply AL_callPw (av_need 2); kernel_rfl; (iterate 4 exact rfl)) | (apply AL_callQw [0] (hs.q rfl); kernel_rfl; (iterate 7 exact rfl)) | (apply AL_move; exact rfl; exact rfl) | (apply AL_assign; exact rfl; exact rfl) | (apply AL_bin; (iterate 5 exact rfl)) | (apply AL_load1 ttok; (iterate 6 exact rfl)) | (apply AL_loadn ttok; (iterate 7 exact rfl)) | (apply AL_fieldAddr ttok; (iterate 7 exact rfl)) | (apply AL_nilCheck; exact rfl; exact rfl) | (apply AL_store ttok; (iterate 8 exact rfl)) | refine AL_nil ?_ | (apply AL_guardT; (iterate 3 exact rfl); (first | with_reducible assumption | decide +kernel)) | (apply AL_guardFf; (iterate 3 exact rfl); (first | with_reducible assumption | decide +kernel)) | (apply AL_pickT; exact rfl; (first | with_reducible assumption | decide +kernel); exact rfl; exact rfl) | (apply AL_pickF; exact rfl; (first | with_reducible assumption | decide +kernel); exact rfl; exact rfl) | refine AW_region ?_ | refine AW_seq' ?_ | (apply AW_condB; exact rfl; (first | with_reducible assumption | decide +kernel)) | refine then_norm ?_ | refine AW_block ?_ | refine AW_ret ?_ | (apply AL_allocZ ttok; (iterate 4 exact rfl)) | refine AW_skip ?_)
                all_goals (apply endR (rfl) [0]; (repeat (first | exact ResL.nil | (apply ResL.cons; first | exact .tmp _ _ rfl | (apply res_n ttok; (iterate 6 exact rfl)) | (apply res_1 ttok; (iterate 5 exact rfl))))); (iterate 4 exact rfl))
                all_goals rfl
            · have hs := av_string (3, n, o) b p2 (m - 1) hb q2 hn
              rw [q1] at hs
              unfold bodyS
              rw [if_neg (by simp), if_neg (by simp)]
              cases ht : txtS (3, n, o) r with
              | error e =>
                rw [ht] at hs
                dsimp only at hs ⊢
                refine AC_of Tryd.func53 rfl Tryd.ntmps53 rfl rfl ?_
                repeat' (first | rw [dd] | rw [dm] | rw [em] | (apply AL_callQw [0] (hhd.q rfl); kernel_rfl; (iterate 7 exact rfl)) | (apply AL_callPw (av_need 3); kernel_rfl; (iterate 4 exact rfl)) | (apply AL_callPw (av_need 9); kernel_rfl; (iterate 4 exact rfl)) | (apply AL_callPw (av_need 2); kernel_rfl; (iterate 4 exact rfl)) | (apply AL_callX [0] (hs.x rfl); kernel_rfl; (iterate 6 exact rfl); intro bx2 fr2 hle2) | (apply AL_move; exact rfl; exact rfl) | (apply AL_assign; exact rfl; exact rfl) | (apply AL_bin; (iterate 5 exact rfl)) | (apply AL_load1 ttok; (iterate 6 exact rfl)) | (apply AL_loadn ttok; (iterate 7 exact rfl)) | (apply AL_fieldAddr ttok; (iterate 7 exact rfl)) | (apply AL_nilCheck; exact rfl; exact rfl) | (apply AL_store ttok; (iterate 8 exact rfl)) | refine AL_nil ?_ | (apply AL_guardT; (iterate 3 exact rfl); (first | with_reducible assumption | decide +kernel)) | (apply AL_guardFf; (iterate 3 exact rfl); (first | with_reducible assumption | decide +kernel)) | (apply AL_pickT; exact rfl; (first | with_reducible assumption | decide +kernel); exact rfl; exact rfl) | (apply AL_pickF; exact rfl; (first | with_reducible assumption | decide +kernel); exact rfl; exact rfl) | refine AW_region ?_ | refine AW_seq' ?_ | (apply AW_condB; exact rfl; (first | with_reducible assumption | decide +kernel)) | refine then_norm ?_ | refine AW_block ?_ | (apply AL_allocZ ttok; (iterate 4 exact rfl)) | refine AW_skip ?_ | refine then_pan ?_)
                all_goals (apply endX; exact rfl; (first | exact Nat.zero_le _ | exact Nat.le_trans (Nat.le_of_ble_eq_true rfl) (by assumption)); exact rfl)
              | ok y =>
                obtain ⟨c, r2⟩ := y
                rw [ht] at hs
                dsimp only at hs ⊢
                refine AC_of Tryd.func53 rfl Tryd.ntmps53 rfl rfl ?_
                repeat' (first | rw [dd] | rw [dm] | rw [em] | (apply AL_callQw [0] (hhd.q rfl); kernel_rfl; (iterate 7 exact rfl)) | (apply AL_callPw (av_need 3); kernel_rfl; (iterate 4 exact rfl)) | (apply AL_callPw (av_need 9); kernel_rfl; (iterate 4 exact rfl)) | (apply AL_callPw (av_need 2); kernel_rfl; (iterate 4 exact rfl)) | (apply AL_callQw [0] (hs.q rfl); kernel_rfl; (iterate 7 exact rfl)) | (apply AL_move; exact rfl; exact rfl) | (apply AL_assign; exact rfl; exact rfl) | (apply AL_bin; (iterate 5 exact rfl)) | (apply AL_load1 ttok; (iterate 6 exact rfl)) | (apply AL_loadn ttok; (iterate 7 exact rfl)) | (apply AL_fieldAddr ttok; (iterate 7 exact rfl)) | (apply AL_nilCheck; exact rfl; exact rfl) | (apply AL_store ttok; (iterate 8 exact rfl)) | refine AL_nil ?_ | (apply AL_guardT; (iterate 3 exact rfl); (first | with_reducible assumption | decide +kernel)) | (apply AL_guardFf; (iterate 3 exact rfl); (first | with_reducible assumption | decide +kernel)) | (apply AL_pickT; exact rfl; (first | with_reducible assumption | decide +kernel); exact rfl; exact rfl) | (apply AL_pickF; exact rfl; (first | with_reducible assumption | decide +kernel); exact rfl; exact rfl) | refine AW_region ?_ | refine AW_seq' ?_ | (apply AW_condB; exact rfl; (first | with_reducible assumption | decide +kernel)) | refine then_norm ?_ | refine AW_block ?_ | refine AW_ret ?_ | (apply AL_allocZ ttok; (iterate 4 exact rfl)) | refine AW_skip ?_)
                all_goals (apply endR (rfl) [0]; (repeat (first | exact ResL.nil | (apply ResL.cons; first | exact .tmp _ _ rfl | (apply res_n ttok; (iterate 6 exact rfl)) | (apply res_1 ttok; (iterate 5 exact rfl))))); (iterate 4 exact rfl))
                all_goals rfl
            · have hs := av_rlist d deep (by omega) b hb (fun p m hp hm => av_ritem b hb d (deep + 1) (by omega) p m hp hm) n o p2 (m - 1) q2 (by omega) hn
              rw [q1] at hs
              unfold bodyS
              rw [if_neg (by simp), if_pos rfl]
              cases ht : lisS (itemS d) (4, n, o) (m - 1) r with
              | error e =>
                rw [ht] at hs
                dsimp only at hs ⊢
                refine AC_of Tryd.func53 rfl Tryd.ntmps53 rfl rfl ?_
                repeat' (first | rw [dd] | rw [dm] | rw [em] | (apply AL_callQw [0] (hhd.q rfl); kernel_rfl; (iterate 7 exact rfl)) | (apply AL_callPw (av_need 3); kernel_rfl; (iterate 4 exact rfl)) | (apply AL_callPw (av_need 9); kernel_rfl; (iterate 4 exact rfl)) | (apply AL_callPw (av_need 2); kernel_rfl; (iterate 4 exact rfl)) | (apply AL_callX [0] (hs.x rfl); kernel_rfl; (iterate 6 exact rfl); intro bx2 fr2 hle2) | (apply AL_move; exact rfl; exact rfl) | (apply AL_assign; exact rfl; exact rfl) | (apply AL_bin; (iterate 5 exact rfl)) | (apply AL_load1 ttok; (iterate 6 exact rfl)) | (apply AL_loadn ttok; (iterate 7 exact rfl)) | (apply AL_fieldAddr ttok; (iterate 7 exact rfl)) | (apply AL_nilCheck; exact rfl; exact rfl) | (apply AL_store ttok; (iterate 8 exact rfl)) | refine AL_nil ?_ | (apply AL_guardT; (iterate 3 exact rfl); (first | with_reducible assumption | decide +kernel)) | (apply AL_pickF; exact rfl; (first | with_reducible assumption | decide +kernel); exact rfl; exact rfl) | refine AW_region ?_ | refine AW_seq' ?_ | (apply AW_condA; exact rfl; (first | with_reducible assumption | decide +kernel)) | (apply AW_condB; exact rfl; (first | with_reducible assumption | decide +kernel)) | refine then_norm ?_ | refine AW_block ?_ | (apply AL_allocZ ttok; (iterate 4 exact rfl)) | refine then_pan ?_ | refine blk_pan ?_)
                all_goals (apply endX; exact rfl; (first | exact Nat.zero_le _ | exact Nat.le_trans (Nat.le_of_ble_eq_true rfl) (by assumption)); exact rfl)
              | ok y =>
                obtain ⟨l, r2, m2⟩ := y
                rw [ht] at hs
                dsimp only at hs ⊢
                refine AC_of Tryd.func53 rfl Tryd.ntmps53 rfl rfl ?_
                repeat' (first | rw [dd] | rw [dm] | rw [em] | (apply AL_callQw [0] (hhd.q rfl); kernel_rfl; (iterate 7 exact rfl)) | (apply AL_callPw (av_need 3); kernel_rfl; (iterate 4 exact rfl)) | (apply AL_callPw (av_need 9); kernel_rfl; (iterate 4 exact rfl)) | (apply AL_callPw (av_need 2); kernel_rfl; (iterate 4 exact rfl)) | (apply AL_callQw [0] (hs.q rfl); kernel_rfl; (iterate 7 exact rfl)) | (apply AL_move; exact rfl; exact rfl) | (apply AL_assign; exact rfl; exact rfl) | (apply AL_bin; (iterate 5 exact rfl)) | (apply AL_load1 ttok; (iterate 6 exact rfl)) | (apply AL_loadn ttok; (iterate 7 exact rfl)) | (apply AL_fieldAddr ttok; (iterate 7 exact rfl)) | (apply AL_nilCheck; exact rfl; exact rfl) | (apply AL_store ttok; (iterate 8 exact rfl)) | refine AL_nil ?_ | (apply AL_guardT; (iterate 3 exact rfl); (first | with_reducible assumption | decide +kernel)) | (apply AL_pickF; exact rfl; (first | with_reducible assumption | decide +kernel); exact rfl; exact rfl) | refine AW_region ?_ | refine AW_seq' ?_ | (apply AW_condA; exact rfl; (first | with_reducible assumption | decide +kernel)) | (apply AW_condB; exact rfl; (first | with_reducible assumption | decide +kernel)) | refine then_norm ?_ | refine AW_block ?_ | refine AW_ret ?_ | refine then_ret ?_ | refine blk_ret ?_ | (apply AL_allocZ ttok; (iterate 4 exact rfl)))
                all_goals (apply endR (rfl) [0]; (repeat (first | exact ResL.nil | (apply ResL.cons; first | exact .tmp _ _ rfl | (apply res_n ttok; (iterate 6 exact rfl)) | (apply res_1 ttok; (iterate 5 exact rfl))))); (iterate 4 exact rfl))
                all_goals rfl
  termination_by d => d
end Go.Proofs.YtnihobjehelagaaDoor
end
/- A function that defers a call which recovers. -/
section
open Go.RowKit Go.Pl
namespace Go.Av
set_option linter.unusedSimpArgs false
set_option linter.unusedVariables false
section
variable {P : Program} {Q : X → St → Prop} {n : Nat} {ee : Nat × Nat} {tm tm' : List (Nat × D)} {bx bx' : List (List D)} {fr fr' : List Fr} {b0 : Bs} {g : G} {w : World} {a : Act} {T : Tab}
variable {ops : Array Oper} {rest : List Oper} {t ty : Nat} {pos : String} {after : Array Edge}
/-! ### what an interface value holds -/
def zAgg (P : Program) (t : TypeId) : Option (List Value) := match P.info? t with
  | some i => match i.zero with
    | some (.agg cs) => some cs.toList
    | _ => none
  | none => none
theorem AL_taY [Known] [Dfr] (hT : chk P T = true) {x : Operand} {xt at_ : TypeId} {d : D} {ti : Ti} {fs : List Fd} (hx : ev tm x = .iface at_ d) (ht : tl T at_ = some ti) (hk : ti.kd = .struct fs) (htd : Nat.blt t n = true)
    (k : AL P ops rest ⟨n, (t, .tup [d, .bool true]) :: tm, bx, fr, ee⟩ Q) : AL P ops (⟨some t, .typeAssert x xt at_ true, ty, pos, after, none⟩ :: rest) ⟨n, tm, bx, fr, ee⟩ Q :=
  AL_val _ htd (fun g a w hi => by
    have h1 : V w g fr (ev tm x) (a.eval x) := hi.ev x
    rw [hx] at h1
    obtain ⟨fields, hu, _⟩ := (tl_ok hT ht).struct hk
    generalize hv : a.eval x = v at h1
    cases h1 with
    | iface _ _ u hu' =>
      refine ⟨.tuple #[u, .bool true], ?_, .tup _ [u, .bool true] rfl fun j d' v' hd' hv' => ?_⟩
      · simp [execOp, hv, Instr.typeAssert, Sem.run_bind, run_underlying hu]
      · match j with
        | 0 => simp at hd' hv'; subst hd' hv'; exact hu'
        | 1 => simp at hd' hv'; subst hd' hv'; exact .bool true
        | j + 2 => simp at hd') k
theorem AL_taN [Known] [Dfr] (hT : chk P T = true) {x : Operand} {xt at_ : TypeId} {cs : List Value} {ti : Ti} {fs : List Fd} (hx : ev tm x = .nili) (ht : tl T at_ = some ti) (hk : ti.kd = .struct fs) (hz : zAgg P at_ = some cs) (htd : Nat.blt t n = true)
    (k : AL P ops rest ⟨n, (t, .tup [.agg (cs.map const1), .bool false]) :: tm, bx, fr, ee⟩ Q) : AL P ops (⟨some t, .typeAssert x xt at_ true, ty, pos, after, none⟩ :: rest) ⟨n, tm, bx, fr, ee⟩ Q :=
  AL_val _ htd (fun g a w hi => by
    have h1 : V w g fr (ev tm x) (a.eval x) := hi.ev x
    rw [hx] at h1
    obtain ⟨fields, hu, _⟩ := (tl_ok hT ht).struct hk
    generalize hv : a.eval x = v at h1
    have hzv : (zeroValue at_).run P w = .ok (.agg cs.toArray) w := by
      unfold zAgg at hz
      cases hi' : P.info? at_ with
      | none => simp [hi'] at hz
      | some i =>
        simp only [hi'] at hz
        cases hz' : i.zero with
        | none => simp [hz'] at hz
        | some z =>
          simp only [hz'] at hz
          cases z with
          | agg c => simp at hz; subst hz; simp [zeroValue, typeInfo, Sem.run_bind, hi', hz']
          | _ => simp at hz
    cases h1 with
    | nili =>
      refine ⟨.tuple #[.agg cs.toArray, .bool false], ?_, .tup _ [.agg cs.toArray, .bool false] rfl fun j d' v' hd' hv' => ?_⟩
      · simp [execOp, hv, Instr.typeAssert, Sem.run_bind, run_underlying hu, hzv]
      · match j with
        | 0 =>
          simp at hd' hv'; subst hd' hv'
          refine .agg _ cs (by simp) fun j d v hd hv => ?_
          rw [List.getElem?_map, hv] at hd
          simp at hd
          exact hd ▸ const1_ok _ _ _ v
        | 1 => simp at hd' hv'; subst hd' hv'; exact .bool false
        | j + 2 => simp at hd') k
/-! ### the first region of a deferred call -/
theorem upon_S {o : Oper} {K K' : Act → World → Prop} {R R' : Exit → Act → World → Prop} {r : Result Next} (h : o.upon P a K R r) (hK : ∀ a w, K a w → K' a w) (hR : ∀ c w, R (.panic c) a w → R' (.panic c) a w) (hL : LetsOut R → False) : o.upon P a K' R' r := by
  cases r with
  | ok nx w' =>
    cases nx <;> simp only [Oper.upon] at h ⊢
    case value v => exact hK _ _ h
    case skip => exact hK _ _ h
    case defer d => exact hK _ _ h
    case enter f args =>
      refine Calls.mono h (fun e w'' he => ?_)
      cases e with
      | returned u => exact hK _ _ he
      | panicked c => exact hR _ _ he
      | outgrown => exact (hL he).elim
    case row row args => exact Rows.mono h fun u w'' he => hK _ _ he
  | halt x w' =>
    cases x <;> simp only [Oper.upon] at h ⊢
    case panic u => exact hR _ _ h
theorem opsS_of_list {ops : Array Oper} {cs : List Frame} {R : Exit → Act → World → Prop} {Q' : Exit → Act → List Frame → World → Prop} (hR : ∀ e a w, R e a w → Q' e a cs w) (hL : LetsOut R → False) :
    ∀ (l : List Oper) (k : Nat) (a : Act) (w : World), (∀ j, l[j]? = ops[k + j]?) → wpList P ops R l a w → wpOpsS P ops Q' (List.range' k l.length) a cs w
  | [], k, a, w, _, h => by
    simp only [List.length_nil, List.range'_zero, wpOpsS]
    exact hR _ _ _ h
  | o :: l, k, a, w, hl, h => by
    have h0 : ops[k]? = some o := by simpa using (hl 0).symm
    have ih := fun a w => opsS_of_list hR hL l (k + 1) a w (fun j => by have := hl (j + 1); simpa [Nat.add_assoc, Nat.add_comm 1 j] using this)
    rw [List.length_cons, List.range'_succ]
    simp only [wpOpsS, h0]
    unfold wpList at h
    by_cases hw : Region.wanted o (yielded ops a.tmps) = true
    · rw [if_pos hw] at h
      rw [if_pos hw]
      rcases h with h | ⟨_, hlo⟩
      · unfold Oper.wp at h
        split
        · rename_i w' hr
          rw [hr] at h
          exact h.elim
        · exact upon_S h (fun a w h => ih a w h) (fun c w h => hR _ _ _ h) hL
      · exact (hL hlo).elim
    · rw [if_neg hw] at h
      rw [if_neg hw]
      exact ih _ _ h
end
/-- the state in which a function begins -/
theorem inv_enter [Known] {n : Nat} {args : List D} {bx : List (List D)} {fr : List Fr} {g : G} {w : World} {vs : List Value} (hle : args.length ≤ n) (hm : Mem g bx fr w) (hlen : vs.length = args.length) (hv : ∀ (j : Nat) (d : D) (v : Value), args[j]? = some d → vs[j]? = some v → V w g fr d v) :
    Inv ⟨g, fr, w⟩ ⟨n, number 0 args, bx, fr, (bx.length, fr.length)⟩ g { tmps := vs.toArray ++ Array.replicate (n - vs.toArray.size) undef, defers := [] } w := by
  refine ⟨by simp; omega, rfl, hm, fun t => ?_, Evo.refl _, by rw [hm.bl]; exact Nat.le_refl _, Nat.le_refl _⟩
  rw [look_number]
  simp only [Nat.zero_le, if_true, Nat.sub_zero]
  cases ht : args[t]? with
  | none => exact .junk _
  | some d =>
    have hlt : t < args.length := (List.getElem?_eq_some_iff.1 ht).1
    refine hv t d _ ht ?_
    have hlt2 : t < vs.length := by omega
    simp [Array.getD_getElem?, Array.getElem?_append, hlt2]
/-- what a deferred function that recovers in its first operation leaves -/
theorem CD_of [Known] {P : Program} {f : FuncId} {fn : Func} {id n t0 : Nat} {o0 : Oper} {l : List Oper} {y : Code} {args : List D} {bx : List (List D)} {fr : List Fr} {u u' : FrameMode} {dv : D} {post : St → Prop}
    (hf : P.funcs[f]? = some fn) (hb : fn.body = some ((Code.region id (o0 :: l).toArray false).seq y)) (hn : fn.ntmps = n) (hr : fn.results = #[]) (hl : Nat.ble args.length n = true) (ht : Nat.blt t0 n = true)
    (ho : o0.dst = some t0) (hg : o0.guard = none) {w : World} (hop : ∀ ρ, (execOp ρ o0).run P w = .ok .recover w) {g : G} {vs : List Value} (hm : Mem g bx fr w) (hlen : vs.length = args.length) (hv : ∀ (j : Nat) (d : D) (v : Value), args[j]? = some d → vs[j]? = some v → V w g fr d v)
    (hrec : ∀ (c₀ : Frame) (cs : List Frame), c₀.mode = u → match recoverD (c₀ :: cs) with
      | some (v, cs') => V w g fr dv v ∧ cs' = { c₀ with mode := u' } :: cs
      | none => dv = .nili ∧ u' = u)
    (h1 : AL P (o0 :: l).toArray l ⟨n, (t0, dv) :: number 0 args, bx, fr, (bx.length, fr.length)⟩ (fun x S => x = .norm ∧ AW P y S (fun x S => x = .norm ∧ post S))) :
    CallsD P f vs.toArray u w fun e u2 w' => (∃ v, e = .returned v) ∧ u2 = u' ∧ ∃ S g', Mem g' S.bx S.fr w' ∧ Evo ⟨g, fr, w⟩ ⟨g', S.fr, w'⟩ ∧ post S := by
  refine callsD_of_wpS hf hb fun c₀ cs hc => ?_
  refine wpS_seq (wpS_region ?_)
  have hi0 := inv_enter (Nat.le_of_ble_eq_true hl) hm hlen hv
  rw [hn]
  generalize ha : ({ tmps := vs.toArray ++ Array.replicate (n - vs.toArray.size) undef, defers := [] } : Act) = a at hi0
  obtain ⟨v0, cs1, hcs1, hV0, hstep⟩ : ∃ (v0 : Value) (cs1 : List Frame), cs1 = { c₀ with mode := u' } :: cs ∧ V w g fr dv v0 ∧ ∀ Q', wpOpsS P (o0 :: l).toArray Q' (List.range' 1 l.length) (a.put o0.dst v0) cs1 w → wpOpsS P (o0 :: l).toArray Q' (List.range (o0 :: l).toArray.size) a (c₀ :: cs) w := by
    have h0 : ((o0 :: l).toArray)[0]? = some o0 := by simp
    have hw : Region.wanted o0 (yielded (o0 :: l).toArray a.tmps) = true := by simp [Region.wanted, hg]
    have hsz : List.range (o0 :: l).toArray.size = 0 :: List.range' 1 l.length := by
      rw [List.range_eq_range']; simp [List.range'_succ]
    have hre := hrec c₀ cs hc
    cases hrd : recoverD (c₀ :: cs) with
    | none =>
      rw [hrd] at hre
      obtain ⟨rfl, rfl⟩ := hre
      refine ⟨.nilIface, c₀ :: cs, by subst hc; rfl, .nili, fun Q' h => ?_⟩
      rw [hsz]
      simp only [wpOpsS, h0, if_pos hw, hop, hrd]
      exact h
    | some y =>
      obtain ⟨v, cs'⟩ := y
      rw [hrd] at hre
      refine ⟨v, cs', hre.2, hre.1, fun Q' h => ?_⟩
      rw [hsz]
      simp only [wpOpsS, h0, if_pos hw, hop, hrd]
      exact h
  refine hstep _ ?_
  have hi1 : Inv ⟨g, fr, w⟩ ⟨n, (t0, dv) :: number 0 args, bx, fr, (bx.length, fr.length)⟩ g (a.put o0.dst v0) w := by
    rw [ho]; exact hi0.put ht hV0
  refine opsS_of_list (R := conc ⟨g, fr, w⟩ (fun x S => x = .norm ∧ AW P y S (fun x S => x = .norm ∧ post S))) (fun e a' w' h => ?_) (fun ⟨_, _, h⟩ => h) l 1 _ _ (fun j => by simp [Nat.add_comm 1 j]) (h1.run _ _ _ _ hi1)
  cases e with
  | normal =>
    obtain ⟨S, g', hi, _, hy⟩ := h
    refine wpS_of_wp ?_
    refine wp_mono (hy.run _ _ _ _ hi) fun e a2 w2 hc2 => ?_
    cases e with
    | normal =>
      obtain ⟨S2, g2, hi2, _, hp⟩ := hc2
      refine ⟨hi2.defers, u', hcs1, .tuple #[], by simp [results, hr, Sem.run_bind], ⟨_, rfl⟩, rfl, S2, g2, hi2.mem, hi2.evo, hp⟩
    | panic c => obtain ⟨_, _, _, _, _, _, _, h, _⟩ := hc2; cases h
    | ret => obtain ⟨_, _, _, h, _⟩ := hc2; cases h
    | exit i => obtain ⟨_, _, _, h, _⟩ := hc2; cases h
    | goto i => obtain ⟨_, _, _, h, _⟩ := hc2; cases h
    | outgrown => exact hc2.elim
  | panic c => obtain ⟨_, _, _, _, _, _, _, h, _⟩ := h; cases h
  | ret => obtain ⟨_, _, _, h, _⟩ := h; cases h
  | exit i => obtain ⟨_, _, _, h, _⟩ := h; cases h
  | goto i => obtain ⟨_, _, _, h, _⟩ := h; cases h
  | outgrown => exact h.elim
/-- code, then code behind it -/
theorem wp_split [Known] [Dfr] {P : Program} {x y : Code} {S S1 : St} {R : Exit → Act → World → Prop} {b0 : Bs} {g : G} {a : Act} {w : World} (hi : Inv b0 S g a w) (h : AW P x S (fun X S' => X = .norm ∧ S' = S1))
    (k : ∀ g a w, Inv b0 S1 g a w → y.wp P R a w) : (x.seq y).wp P R a w := by
  refine wp_seq (wp_mono (h.run _ _ _ _ hi) fun e a' w' hc => ?_)
  cases e with
  | normal => obtain ⟨S', g', hi', _, rfl⟩ := hc; exact k _ _ _ hi'
  | panic c => obtain ⟨_, _, _, _, _, _, _, h, _⟩ := hc; cases h
  | ret => obtain ⟨_, _, _, h, _⟩ := hc; cases h
  | exit i => obtain ⟨_, _, _, h, _⟩ := hc; cases h
  | goto i => obtain ⟨_, _, _, h, _⟩ := hc; cases h
  | outgrown => exact hc.elim
/-- a closure made and deferred -/
theorem wp_deferR [Known] {P : Program} {R : Exit → Act → World → Prop} {id t fd : Nat} {caps : Array Operand} {ds : List D} {ats : Array TypeId} {ty1 ty2 : Nat} {pos1 pos2 : String} {af1 af2 : Array Edge} {n : Nat} {ee : Nat × Nat} {tm : List (Nat × D)} {bx : List (List D)} {fr : List Fr} {b0 : Bs} {g : G} {a : Act} {w : World} {y : Code}
    (hi : Inv b0 ⟨n, tm, bx, fr, ee⟩ g a w) (hds : caps.toList.map (ev tm) = ds) (htd : Nat.blt t n = true)
    (k : ∀ (cvs : List Value) (a' : Act), cvs.length = ds.length → (∀ (j : Nat) (d : D) (v : Value), ds[j]? = some d → cvs[j]? = some v → V w g fr d v) →
      @Inv _ ⟨[{ target := .fn (.func fd) cvs.toArray, args := #[] }]⟩ b0 ⟨n, (t, .fn fd ds) :: tm, bx, fr, ee⟩ g a' w → y.wp P R a' w) :
    ((Code.region id #[⟨some t, .makeFunc (.func fd) #[] caps, ty1, pos1, af1, none⟩, ⟨none, .defer { callee := .value (.tmp t), args := #[], argTypes := ats }, ty2, pos2, af2, none⟩] false).seq y).wp P R a w := by
  refine wp_seq ?_
  have hcv := evs hi caps
  generalize hcvs : caps.toList.map a.eval = cvs at hcv
  have hce : caps.map a.eval = cvs.toArray := by rw [← hcvs, ← Array.toList_map, Array.toArray_toList]
  have hV : V w g fr (.fn fd ds) (.func (.func fd) #[] cvs.toArray) := .fn fd ds cvs (by rw [← hds, ← hcvs]; simp) (by rw [← hds]; exact hcv)
  have hi1 := hi.put htd hV
  have hlt : t < a.tmps.size := by rw [hi.size]; simpa using htd
  have e1 : (execOp a.eval ⟨some t, .makeFunc (.func fd) #[] caps, ty1, pos1, af1, none⟩).run P w = .ok (.value (.func (.func fd) #[] cvs.toArray)) w := by
    simp [execOp, hce, Instr.makeFunc, Sem.run_bind]
  have e2 : (execOp (a.put (some t) (.func (.func fd) #[] cvs.toArray)).eval ⟨none, .defer { callee := .value (.tmp t), args := #[], argTypes := ats }, ty2, pos2, af2, none⟩).run P w = .ok (.defer { target := .fn (.func fd) cvs.toArray, args := #[] }) w := by
    simp [execOp, resolve, Act.eval, Act.put, hlt, Deferred.ofValue, Sem.run_bind]
  refine wp_region_lit ?_
  unfold wpList
  rw [if_pos (by simp [Region.wanted])]
  refine .inl ?_
  unfold Oper.wp
  rw [e1]
  show wpList _ _ _ _ _ _
  unfold wpList
  rw [if_pos (by simp [Region.wanted])]
  refine .inl ?_
  unfold Oper.wp
  rw [e2]
  rw [Oper.upon_defer]
  refine k cvs _ (by rw [← hds, ← hcvs]; simp) (by rw [← hds]; exact hcv) ?_
  refine @Inv.mk _ ⟨[{ target := .fn (.func fd) cvs.toArray, args := #[] }]⟩ _ _ _ _ _ ?_ ?_ hi1.mem (fun t' => ?_) hi1.evo hi1.bd
  · have := hi1.size; simpa [Act.put] using this
  · have := hi1.defers
    simp only [Act.put] at this ⊢
    rw [this]; rfl
  · have := hi1.tm t'; simpa [Act.put] using this
theorem Inv.parts [Known] [Dfr] {b : Bs} {S : St} {g : G} {a : Act} {w : World} (h : Inv b S g a w) : a.tmps.size = S.n ∧ Mem g S.bx S.fr w ∧ (∀ t, V w g S.fr (look S.tm t) (a.tmps.getD t undef)) ∧ Evo b ⟨g, S.fr, w⟩ := ⟨h.size, h.mem, h.tm, h.evo⟩
/-- the results of a function whose one deferred call recovers -/
theorem leaves_one [Known] {P : Program} {fn : Func} {rs : List ResultVar} (hr : fn.results = rs.toArray) {b : Bs} (hbρ : b.g.ρ = []) (hbf : b.fr = []) {S : St} {g : G} {a : Act} {w : World} {d : Deferred} (hi : @Inv _ ⟨[d]⟩ b S g a w) {bs : List Nat} (hbs : okSel bs S.bx.length)
    {fd : FuncId} {cvs : List Value} (hd : d = { target := .fn (.func fd) cvs.toArray, args := #[] }) (hfd : isFn P fd = true) {args : List D} (hlen : cvs.length = args.length) (hV : ∀ (j : Nat) (d : D) (v : Value), args[j]? = some d → cvs[j]? = some v → V w g S.fr d v)
    {u u' : FrameMode} (hu : u ≠ .run) (hset : settle u' = .returning) {bxs bxs' : List (List D)} (hsel : selB bs [] S.bx = bxs)
    (hC : ∀ (g : G) (w : World) (vs : List Value), Mem g bxs [] w → vs.length = (args.map (D.ren (idx bs) (idx []))).length → (∀ (j : Nat) (d : D) (v : Value), (args.map (D.ren (idx bs) (idx [])))[j]? = some d → vs[j]? = some v → V w g [] d v) →
      CallsD P fd vs.toArray u w fun e u2 w' => (∃ v, e = .returned v) ∧ u2 = u' ∧ ∃ g', Mem g' bxs' [] w' ∧ Evo ⟨g, [], w⟩ ⟨g', [], w'⟩)
    {tmR : List (Nat × D)} (htm : ∀ t, V w (g.sel bs []) [] (look tmR t) (a.tmps.getD t undef)) {ds : List D} (hres : ResL P ⟨S.n, tmR, bxs', [], (0, 0)⟩ rs ds) {R : Ending → World → Prop}
    (hR : ∀ g' w' v, Evo b ⟨g', [], w'⟩ → Mem g' [] [] w' → V w' g' [] ((ret1 ds).ren (idx []) (idx [])) v → R (.returned v) w') : Leaves P fn a.tmps R [d] u w := by
  subst hd
  obtain ⟨isz, hm, itm, iev⟩ := @Inv.parts _ ⟨[{ target := .fn (.func fd) cvs.toArray, args := #[] }]⟩ b S g a w hi
  refine leaves_cons (f := fd) (args := cvs.toArray) hu (by
    have := run_callFunc' hfd cvs.toArray w
    simpa [invoke] using this) ?_
  have hms := hm.sel hbs (okSel_nil _)
  rw [hsel] at hms
  have hsF : selF [] S.fr = [] := rfl
  rw [hsF] at hms
  refine (hC (g.sel bs []) w cvs hms (by simpa using hlen) (fun j d v hd hv => ?_)).mono fun e u2 w' ⟨⟨v, he⟩, hu2, g', hm', hev⟩ => ?_
  · rw [List.getElem?_map] at hd
    cases hj : args[j]? with
    | none => simp [hj] at hd
    | some d0 =>
      simp [hj] at hd; subst hd
      have := (hV j d0 v hj hv).sel hm hbs (okSel_nil _)
      rw [hsF] at this; exact this
  · subst he hu2
    show Leaves P fn a.tmps R [] (settle u2) w'
    rw [hset]
    have hevS : Evo b ⟨g.sel bs [], [], w⟩ := by
      have := iev.sel hm hbs (okSel_nil _) (fun i hi => by rw [hbρ] at hi; simp at hi) (fun i hi => by rw [hbf] at hi; simp at hi)
      rw [hsF] at this; exact this
    have hinv : @Inv _ ⟨a.defers⟩ b ⟨S.n, tmR, bxs', [], (0, 0)⟩ g' a w' := @Inv.mk _ ⟨a.defers⟩ _ _ _ _ _ isz rfl hm' (fun t => (htm t).evo hev) (hevS.trans hev) ⟨by rw [hbρ]; simp, by rw [hbf]; simp⟩
    obtain ⟨v, hrun, hv⟩ := @results_run _ ⟨a.defers⟩ _ _ _ _ _ _ hinv _ _ hr _ hres
    refine ⟨v, hrun, hR (g'.sel [] []) w' v ?_ ?_ ?_⟩
    · have := (hevS.trans hev).sel hm' (okSel_nil bxs'.length) (okSel_nil _) (fun i hi => by rw [hbρ] at hi; simp at hi) (fun i hi => by rw [hbf] at hi; simp at hi)
      exact this
    · exact hm'.sel (okSel_nil _) (okSel_nil _)
    · exact hv.sel hm' (okSel_nil _) (okSel_nil _)
/-- a call that panics: what the variables that it is not handed hold stays -/
theorem AL_callX2 [Known] [Dfr] {P : Program} {Q : X → St → Prop} {n : Nat} {ee : Nat × Nat} {tm : List (Nat × D)} {bx : List (List D)} {fr : List Fr} {ops : Array Oper} {rest : List Oper} {ty : Nat} {pos : String} {after : Array Edge} {f : FuncId} {ars : Array Operand} {ats : Array TypeId} {t : Option Nat} {cds : List D} {p p' : D} {bxs : List (List D)} (bs : List Nat) (hX : AX P f cds bxs p) (hf : isFn P f = true)
    (hc : D.wks ((ars.toList.map (ev tm)).map (D.ren (idx bs) (idx []))) = cds) (hb : selOk bs bx.length = true) (hbx : selB bs [] bx = bxs) (hle : Nat.ble bs.length bxs.length = true) (htd : (match t with | some t => Nat.blt t n | none => true) = true) (hp : nf (p.ren (upN bs bx.length) (upN [] fr.length)) = some p')
    (k : ∀ bx2 fr2, bxs.length ≤ bx2.length → Q (.pan p') ⟨n, tm, aftB bs [] bx fr.length bx2, fr2, ee⟩) : AL P ops (⟨t, .call { callee := .value (.func f), args := ars, argTypes := ats }, ty, pos, after, none⟩ :: rest) ⟨n, tm, bx, fr, ee⟩ Q := by
  refine AL_call bs [] hf (AC.unwk (hc ▸ hX)) rfl (selOk_ok hb) (okSel_nil _) hbx rfl htd (fun d bx' fr' h => ?_) fun d0 bx' fr' h => by cases h.1
  obtain ⟨h1, h2⟩ := h
  injection h1 with h1
  subst h1
  have hle := Nat.le_of_ble_eq_true hle
  refine ⟨by omega, ?_⟩
  have e := nf_eq hp
  subst e
  exact k _ _ h2
theorem wp_split2 [Known] [Dfr] {P : Program} {x y : Code} {S : St} {R : Exit → Act → World → Prop} {b0 : Bs} {g : G} {a : Act} {w : World} (n : Nat) (tm : List (Nat × D)) (bx : List (List D)) (fr : List Fr) (ee : Nat × Nat) (hi : Inv b0 S g a w)
    (h : AW P x S (fun X S' => X = .norm ∧ S'.n = n ∧ S'.bx = bx ∧ S'.fr = fr ∧ S'.e = ee ∧ Sub S'.tm tm)) (k : ∀ g a w, Inv b0 ⟨n, tm, bx, fr, ee⟩ g a w → y.wp P R a w) : (x.seq y).wp P R a w := by
  refine wp_seq (wp_mono (h.run _ _ _ _ hi) fun e a' w' hc => ?_)
  cases e with
  | normal =>
    obtain ⟨⟨n', tm', bx', fr', ee'⟩, g', hi', _, h1, h2, h3, h4, h5⟩ := hc
    dsimp only at h1 h2 h3 h4 h5
    subst h1 h2 h3 h4
    exact k _ _ _ (hi'.sub h5)
  | panic c => obtain ⟨_, _, _, _, _, _, _, h, _⟩ := hc; cases h
  | ret => obtain ⟨_, _, _, h, _⟩ := hc; cases h
  | exit i => obtain ⟨_, _, _, h, _⟩ := hc; cases h
  | goto i => obtain ⟨_, _, _, h, _⟩ := hc; cases h
  | outgrown => exact hc.elim
theorem Inv.dl [Known] [Dfr] {b : Bs} {S : St} {g : G} {a : Act} {w : World} (h : Inv b S g a w) : a.defers = Dfr.l := h.defers
theorem Inv.rebase [Known] [Dfr] {b : Bs} {n : Nat} {tm : List (Nat × D)} {bx : List (List D)} {fr : List Fr} {ee : Nat × Nat} {g : G} {a : Act} {w : World} (h : Inv b ⟨n, tm, bx, fr, ee⟩ g a w) (p q : Nat) (hp : bx.length = p) (hq : fr.length = q) : Inv ⟨g, fr, w⟩ ⟨n, tm, bx, fr, (p, q)⟩ g a w :=
  ⟨h.size, h.defers, h.mem, h.tm, Evo.refl _, by show g.ρ.length ≤ p; rw [h.mem.bl]; exact Nat.le_of_eq hp, Nat.le_of_eq hq⟩
theorem Inv.base [Known] [Dfr] {b b1 : Bs} {S : St} {g : G} {a : Act} {w : World} (h : Inv b1 S g a w) (he : Evo b b1) (hρ : b.g.ρ = []) (hf : b.fr = []) : Inv b S g a w :=
  ⟨h.size, h.defers, h.mem, h.tm, he.trans h.evo, by rw [hρ]; simp, by rw [hf]; simp⟩
/-- a run under deferred calls -/
theorem AW_runD [Known] {P : Program} {c : Code} {S : St} {Q : X → St → Prop} {b : Bs} {g : G} {a : Act} {w : World} {R : Exit → Act → World → Prop} (df : List Deferred) (h : @AW _ ⟨df⟩ P c S Q) (hi : @Inv _ ⟨df⟩ b S g a w)
    (k1 : ∀ S g a w, @Inv _ ⟨df⟩ b S g a w → a.defers = df → Q .ret S → R .ret a w) (k2 : ∀ S g a w v d, @Inv _ ⟨df⟩ b S g a w → a.defers = df → V w g S.fr d v → Q (.pan d) S → R (.panic [{ v, recovered := false }]) a w)
    (k3 : ∀ S, Q .norm S → False) (k4 : ∀ S i, Q (.exit i) S → False) (k5 : ∀ S i, Q (.goto i) S → False) : c.wp P R a w := by
  refine wp_mono (@AW.run _ ⟨df⟩ P c S Q h b g a w hi) fun e a' w' hc => ?_
  cases e with
  | normal => obtain ⟨S', g', hi', h⟩ := hc; exact (k3 _ h).elim
  | ret => obtain ⟨S', g', hi', h⟩ := hc; exact k1 _ _ _ _ hi' (@Inv.dl _ ⟨df⟩ _ _ _ _ _ hi') h
  | exit i => obtain ⟨S', g', hi', h⟩ := hc; exact (k4 _ _ h).elim
  | goto i => obtain ⟨S', g', hi', h⟩ := hc; exact (k5 _ _ h).elim
  | panic c => obtain ⟨S', g', v, d, hi', rfl, hv, h⟩ := hc; exact k2 _ _ _ _ v d hi' (@Inv.dl _ ⟨df⟩ _ _ _ _ _ hi') hv h
  | outgrown => exact hc.elim
end Go.Av
end
