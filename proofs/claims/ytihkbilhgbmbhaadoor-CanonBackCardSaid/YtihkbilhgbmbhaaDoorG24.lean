/- The reader of items: what is needed, heads, the end, pieces. -/
import Derived.Test.YtihkbilhgbmbhaaDoorG09
import Derived.Test.YtihkbilhgbmbhaaDoorG23
import Derived.Test.YtihkbilhgbmbhaaDoorG12
import Derived.Test.YtihkbilhgbmbhaaDoorG16
set_option linter.unusedVariables false
set_option linter.unusedSimpArgs false
section
open Go.RowKit Go.Pl Go.Av
namespace Go.Proofs.YtihkbilhgbmbhaaDoor
set_option maxHeartbeats 4000000
abbrev faultD (e : Nat) : D := .iface 121 (.agg [.int .i64 (e : Int)])
abbrev rdC (b : List UInt8) (p m : Nat) : List D := [byE b, .int .i64 (p : Int), .int .i64 (m : Int)]
theorem av_need [Known] (e : Int) : AP Tryd.prog 96 [.bool true, .int .i64 e] (.tup []) [] := by
 refine AP.ofA ?_
 refine AC_of Tryd.func96 rfl Tryd.ntmps96 rfl rfl ?_
 repeat' (first | (apply AL_move; exact rfl; exact rfl) | (apply AL_not; exact rfl; exact rfl) | refine AL_nil ?_ | refine AW_region ?_ | refine AW_seq' ?_ | (apply AW_condB; exact rfl; (first | with_reducible assumption | (guard_target =ₛ true = true; rfl) | (guard_target =ₛ false = false; rfl) | (guard_target =ₛ (!true) = false; rfl) | (guard_target =ₛ (!false) = true; rfl))) | refine AW_skip ?_)
 all_goals (apply endQn []; exact ResL.nil; (iterate 4 exact rfl))
 all_goals rfl
theorem ax_need [Known] (e : Nat) : AX Tryd.prog 96 [.bool false, .int .i64 (e : Int)] [] (faultD e) := by
 refine AC_of Tryd.func96 rfl Tryd.ntmps96 rfl rfl ?_
 repeat' (first | (apply AL_move; exact rfl; exact rfl) | (apply AL_not; exact rfl; exact rfl) | refine AL_nil ?_ | (apply AL_panicI; exact rfl; exact rfl) | refine AW_region ?_ | refine AW_seq' ?_ | (apply AW_condA; exact rfl; (first | with_reducible assumption | (guard_target =ₛ true = true; rfl) | (guard_target =ₛ false = false; rfl) | (guard_target =ₛ (!true) = false; rfl) | (guard_target =ₛ (!false) = true; rfl))) | (apply AL_build ttok; (iterate 6 exact rfl)) | (apply AL_makeIface ttok; (iterate 4 exact rfl)))
 all_goals exact ⟨[], [], okSel_nil _, okSel_nil _, fun i h => by simp at h, fun i h => by simp at h, rfl, Nat.zero_le _⟩
theorem rdS_err {s : List UInt8} {e : Nat} (h : rdS s = .error e) : e = 8 \/ e = 3 := by
 cases s with
 | nil => simp [rdS] at h; exact .inl h.symm
 | cons c t =>
  simp only [rdS] at h
  split at h
  ·cases h
  split at h
  ·cases h
  split at h
  ·injection h with h; exact .inr h.symm
  split at h
  ·injection h with h; exact .inl h.symm
  ·cases h
theorem readH_rdS (b : List UInt8) (p : Nat) (hp : p <= b.length) : readH b (p : Int) = match rdS (b.drop p) with
  | .error e => ((0, 0, false), 0, e)
  | .ok (h, r) => (h, b.length - r.length, 0) := by
 have h := readN_rdS b p hp
 rw [readH, if_neg (by omega), Int.toNat_natCast]
 exact h
theorem av_rhead [Known] (b : List UInt8) (p m : Nat) (hb : b.length <= 1099511627776) (hp : p <= b.length) : AR Tryd.prog 95 [.ptr 0 0] [rdC b p m] (match rdS (b.drop p) with
  | .error e => .error (faultD e)
  | .ok (h, r) => .ok (hd h, [rdC b (b.length - r.length) m])) := by
 have hR := av_read b (p : Int) (by omega)
 rw [readH_rdS b p hp] at hR
 cases hr : rdS (b.drop p) with
 | error e =>
  rw [hr] at hR
  dsimp only at hR ⊢
  have he : ((e : Int) == 0) = false := by rcases rdS_err hr with rfl | rfl <;> rfl
  refine AC_of Tryd.func95 rfl Tryd.ntmps95 rfl rfl ?_
  repeat' (first | (apply AL_callPw (hR); kernel_rfl; (iterate 4 exact rfl)) | rw [he] | (apply AL_callX [] (ax_need e); kernel_rfl; (iterate 6 exact rfl); intro bx2 fr2 hle2) | (apply AL_move; exact rfl; exact rfl) | (apply AL_assign; exact rfl; exact rfl) | (apply AL_bin; (iterate 5 exact rfl)) | (apply AL_load1 ttok; (iterate 6 exact rfl)) | (apply AL_fieldAddr ttok; (iterate 7 exact rfl)) | (apply AL_nilCheck; exact rfl; exact rfl) | (apply AL_store ttok; (iterate 8 exact rfl)) | (apply AL_extract; (iterate 3 exact rfl)) | refine AL_nil ?_ | refine AW_region ?_ | refine AW_seq' ?_ | (apply AL_allocZ ttok; (iterate 4 exact rfl)) | (apply AW_drawE 16 hmix; (decide +kernel); (kernel_rfl); (kernel_rfl); (kernel_rfl); exact rfl; exact rfl) | (apply AE_consZ; (iterate 4 exact rfl)) | exact AE.nil _ _ _ _ | (apply AEk_puT; exact rfl) | (apply AEk_efT; exact rfl) | (apply AEk_pu; exact rfl) | (apply AOt_mk; exact rfl; exact rfl; (decide +kernel); exact rfl) | (apply AO_puT; exact rfl) | (apply AO_efT; exact rfl) | (apply AO_pu; exact rfl) | exact AO.nil _ _ _ | (apply AOs_skip; (decide +kernel)) | (apply AOs_goZ; (iterate 3 exact rfl)) | exact AOs.nil | exact qY_ok rfl rfl | exact qY_none rfl | exact qY_ef rfl rfl | refine then_pan ?_)
  all_goals first | (apply endX; exact rfl; (first | exact Nat.zero_le _ | exact Nat.le_trans (Nat.le_of_ble_eq_true rfl) (by assumption)); exact rfl)
 | ok y =>
  obtain ⟨h, r⟩ := y
  rw [hr] at hR
  dsimp only at hR ⊢
  refine AC_of Tryd.func95 rfl Tryd.ntmps95 rfl rfl ?_
  repeat' (first | (apply AL_callPw (hR); kernel_rfl; (iterate 4 exact rfl)) | (apply AL_callPw (av_need 0); kernel_rfl; (iterate 4 exact rfl)) | (apply AL_move; exact rfl; exact rfl) | (apply AL_assign; exact rfl; exact rfl) | (apply AL_bin; (iterate 5 exact rfl)) | (apply AL_load1 ttok; (iterate 6 exact rfl)) | (apply AL_loadn ttok; (iterate 7 exact rfl)) | (apply AL_fieldAddr ttok; (iterate 7 exact rfl)) | (apply AL_nilCheck; exact rfl; exact rfl) | (apply AL_store ttok; (iterate 8 exact rfl)) | (apply AL_extract; (iterate 3 exact rfl)) | refine AL_nil ?_ | refine AW_region ?_ | refine AW_seq' ?_ | refine then_norm ?_ | refine AW_ret ?_ | (apply AL_allocZ ttok; (iterate 4 exact rfl)) | (apply AW_drawE 16 hmix; (decide +kernel); (kernel_rfl); (kernel_rfl); (kernel_rfl); exact rfl; exact rfl) | (apply AE_consZ; (iterate 4 exact rfl)) | exact AE.nil _ _ _ _ | (apply AEk_puT; exact rfl) | (apply AEk_efT; exact rfl) | (apply AEk_ef; exact rfl) | (apply AOt_mk; exact rfl; exact rfl; (decide +kernel); exact rfl) | (apply AO_puT; exact rfl) | (apply AO_efT; exact rfl) | (apply AO_ef; exact rfl) | exact AO.nil _ _ _ | (apply AOs_skip; (decide +kernel)) | (apply AOs_goZ; (iterate 3 exact rfl)) | exact AOs.nil | exact qY_ok rfl rfl | exact qY_ef rfl rfl | exact qY_efn rfl)
  all_goals first | (apply endR (rfl) [0]; (repeat (first | exact ResL.nil | (apply ResL.cons; first | exact .tmp _ _ rfl | (apply res_n ttok; (iterate 6 exact rfl)) | (apply res_1 ttok; (iterate 5 exact rfl))))); (iterate 4 exact rfl))
  all_goals rfl
end Go.Proofs.YtihkbilhgbmbhaaDoor
end
section
open Go.RowKit Go.Pl Go.Av
namespace Go.Proofs.YtihkbilhgbmbhaaDoor
set_option maxHeartbeats 4000000
theorem byte255 (c : UInt8) : ((c.toNat : Int) == 255) = (c == 255) := by
 rw [Bool.eq_iff_iff, beq_iff_eq, beq_iff_eq]
 constructor
 ·intro h
  have : c.toNat = (255 : UInt8).toNat := by show c.toNat = 255; omega
  exact UInt8.toNat_inj.1 this
 ·rintro rfl; rfl
theorem drop_at {b : List UInt8} {p : Nat} (h : p < b.length) : ∃ c t, b.drop p = c :: t /\ (b.map E.byte)[((p : Nat) : Int).toNat]? = some (E.byte c) /\ t = b.drop (p + 1) := by
 refine ⟨b[p], b.drop (p + 1), List.drop_eq_getElem_cons h, ?_, rfl⟩
 rw [Int.toNat_natCast, List.getElem?_map, List.getElem?_eq_getElem h]; rfl
theorem av_ends [Known] (b : List UInt8) (p m : Nat) (hb : b.length <= 1099511627776) (hp : p <= b.length) : AQ Tryd.prog 111 [.ptr 0 0] [rdC b p m] (.bool (endB (b.drop p))) [rdC b (if endB (b.drop p) = true then p + 1 else p) m] := by
 have hU := uniB1 b
 rcases Nat.lt_or_ge p b.length with hlt | hge
 ·obtain ⟨c, t, hd, hv, _⟩ := drop_at hlt
  have d1 : decide ((p : Int) < ((b.map E.byte).length : Int)) = true := by simp; omega
  have e1 : IntKind.i64.wrap ((p : Int) + 1) = ((p + 1 : Nat) : Int) := by rw [IntWalk.i64_in _ (by omega)]; omega
  have e2 := byte255 c
  rw [hd]
  cases hc : c == 255 with
  | true =>
   rw [hc] at e2
   have he : endB (c :: t) = true := hc
   rw [he, if_pos rfl]
   refine AQ.weak ?_
   refine AC_of Tryd.func111 rfl Tryd.ntmps111 rfl rfl ?_
   repeat' (first | rw [e1] | rw [e2] | (apply AL_move; exact rfl; exact rfl) | (apply AL_assign; exact rfl; exact rfl) | (apply AL_bin; (iterate 5 exact rfl)) | (apply AL_load1 ttok; (iterate 6 exact rfl)) | (apply AL_fieldAddr ttok; (iterate 7 exact rfl)) | (apply AL_nilCheck; exact rfl; exact rfl) | (apply AL_store ttok; (iterate 8 exact rfl)) | refine AL_nil ?_ | (apply AL_guardT; (iterate 3 exact rfl); (first | with_reducible assumption | decide +kernel)) | (apply AL_pickT; exact rfl; (first | with_reducible assumption | decide +kernel); exact rfl; exact rfl) | refine AW_region ?_ | refine AW_seq' ?_ | (apply AW_condA; exact rfl; (first | with_reducible assumption | decide +kernel)) | refine then_norm ?_ | refine AW_ret ?_ | refine then_ret ?_ | (apply AL_len ttok; (iterate 4 exact rfl)) | (apply AL_eload1 ttok; (iterate 6 exact rfl)) | (apply AW_drawE 19 hmix; (decide +kernel); (kernel_rfl); (kernel_rfl); (kernel_rfl); exact rfl; exact rfl) | (apply AE_consZ; (iterate 4 exact rfl)) | exact AE.nil _ _ _ _ | (apply AEk_puT; exact rfl) | (apply AOt_mk; exact rfl; exact rfl; (decide +kernel); exact rfl) | (apply AO_puT; exact rfl) | exact AO.nil _ _ _ | (apply AOs_skip; (decide +kernel)) | exact AOs.nil | exact qY_ok rfl rfl | (apply AL_idx ttok; (iterate 6 exact rfl); (first | with_reducible assumption | decide +kernel | exact Int.natCast_nonneg _ | (guard_target = (0:Int) <= (OfNat.ofNat _ : Int); decide) | rotate_left); (first | with_reducible assumption | decide +kernel | exact rfl); (first | exact uniB_ok rfl | with_reducible assumption | decide +kernel | rotate_left)))
   all_goals (apply endQ [0]; (repeat (first | exact ResL.nil | (apply ResL.cons; first | exact .tmp _ _ rfl | (apply res_n ttok; (iterate 6 exact rfl)) | (apply res_1 ttok; (iterate 5 exact rfl))))); (iterate 4 exact rfl))
   all_goals rfl
  | false =>
   rw [hc] at e2
   have he : endB (c :: t) = false := hc
   rw [he, if_neg (by simp)]
   refine AQ.weak ?_
   refine AC_of Tryd.func111 rfl Tryd.ntmps111 rfl rfl ?_
   repeat' (first | rw [e2] | (apply AL_move; exact rfl; exact rfl) | (apply AL_assign; exact rfl; exact rfl) | (apply AL_bin; (iterate 5 exact rfl)) | (apply AL_load1 ttok; (iterate 6 exact rfl)) | (apply AL_fieldAddr ttok; (iterate 7 exact rfl)) | (apply AL_nilCheck; exact rfl; exact rfl) | refine AL_nil ?_ | (apply AL_guardT; (iterate 3 exact rfl); (first | with_reducible assumption | decide +kernel)) | (apply AL_pickT; exact rfl; (first | with_reducible assumption | decide +kernel); exact rfl; exact rfl) | refine AW_region ?_ | refine AW_seq' ?_ | (apply AW_condB; exact rfl; (first | with_reducible assumption | decide +kernel)) | refine then_norm ?_ | refine AW_ret ?_ | (apply AL_len ttok; (iterate 4 exact rfl)) | (apply AL_eload1 ttok; (iterate 6 exact rfl)) | (apply AW_drawE 19 hmix; (decide +kernel); (kernel_rfl); (kernel_rfl); (kernel_rfl); exact rfl; exact rfl) | (apply AE_consZ; (iterate 4 exact rfl)) | exact AE.nil _ _ _ _ | (apply AEk_puT; exact rfl) | (apply AOt_mk; exact rfl; exact rfl; (decide +kernel); exact rfl) | (apply AO_puT; exact rfl) | exact AO.nil _ _ _ | (apply AOs_skip; (decide +kernel)) | exact AOs.nil | exact qY_ok rfl rfl | refine AW_skip ?_ | (apply AL_idx ttok; (iterate 6 exact rfl); (first | with_reducible assumption | decide +kernel | exact Int.natCast_nonneg _ | (guard_target = (0:Int) <= (OfNat.ofNat _ : Int); decide) | rotate_left); (first | with_reducible assumption | decide +kernel | exact rfl); (first | exact uniB_ok rfl | with_reducible assumption | decide +kernel | rotate_left)))
   all_goals (apply endQ [0]; (repeat (first | exact ResL.nil | (apply ResL.cons; first | exact .tmp _ _ rfl | (apply res_n ttok; (iterate 6 exact rfl)) | (apply res_1 ttok; (iterate 5 exact rfl))))); (iterate 4 exact rfl))
   all_goals rfl
 ·have d1 : decide ((p : Int) < ((b.map E.byte).length : Int)) = false := by simp; omega
  have hd : b.drop p = [] := List.drop_eq_nil_of_le hge
  rw [hd, if_neg (by simp [endB])]
  refine AQ.weak ?_
  refine AC_of Tryd.func111 rfl Tryd.ntmps111 rfl rfl ?_
  repeat' (first | (apply AL_move; exact rfl; exact rfl) | (apply AL_assign; exact rfl; exact rfl) | (apply AL_bin; (iterate 5 exact rfl)) | (apply AL_load1 ttok; (iterate 6 exact rfl)) | (apply AL_fieldAddr ttok; (iterate 7 exact rfl)) | (apply AL_nilCheck; exact rfl; exact rfl) | refine AL_nil ?_ | (apply AL_guardFt; (iterate 3 exact rfl); (first | with_reducible assumption | decide +kernel)) | (apply AL_pickF; exact rfl; (first | with_reducible assumption | decide +kernel); exact rfl; exact rfl) | refine AW_region ?_ | refine AW_seq' ?_ | (apply AW_condB; exact rfl; (first | with_reducible assumption | decide +kernel)) | refine then_norm ?_ | refine AW_ret ?_ | (apply AL_len ttok; (iterate 4 exact rfl)) | (apply AW_drawE 19 hmix; (decide +kernel); (kernel_rfl); (kernel_rfl); (kernel_rfl); exact rfl; exact rfl) | (apply AE_consZ; (iterate 4 exact rfl)) | exact AE.nil _ _ _ _ | (apply AEk_puT; exact rfl) | (apply AOt_mk; exact rfl; exact rfl; (decide +kernel); exact rfl) | (apply AO_puT; exact rfl) | exact AO.nil _ _ _ | (apply AOs_skip; (decide +kernel)) | exact AOs.nil | exact qY_ok rfl rfl | refine AW_skip ?_)
  all_goals (apply endQ [0]; (repeat (first | exact ResL.nil | (apply ResL.cons; first | exact .tmp _ _ rfl | (apply res_n ttok; (iterate 6 exact rfl)) | (apply res_1 ttok; (iterate 5 exact rfl))))); (iterate 4 exact rfl))
  all_goals rfl
theorem av_piece [Known] [KnownU8] (h : Hd) (b : List UInt8) (p m : Nat) (hb : b.length <= 1099511627776) (hp : p <= b.length) (hn : h.2.1 < 18446744073709551616) : AR Tryd.prog 112 [.ptr 0 0, hd h] [rdC b p m] (match pieceS h (b.drop p) with
  | .error e => .error (faultD e)
  | .ok (c, r) => .ok (byE c, [rdC b (b.length - r.length) m])) := by
 obtain ⟨k, n, o⟩ := h
 dsimp only at hn
 show AR Tryd.prog _ [.ptr 0 0, .agg [.int .i64 k, .int .u64 (n : Int), .bool o]] _ _
 have e1 : IntKind.i64.wrap (((b.map E.byte).length : Int) - (p : Int)) = ((b.length - p : Nat) : Int) := by rw [List.length_map, IntWalk.i64_in _ (by omega)]; omega
 have e2 : IntKind.u64.wrap ((b.length - p : Nat) : Int) = ((b.length - p : Nat) : Int) := by rw [IntKind.wrap_u64]; omega
 unfold pieceS
 dsimp only
 have hl : (b.drop p).length = b.length - p := List.length_drop ..
 rw [hl]
 by_cases hle : n <= b.length - p
 ·rw [if_pos hle]
  have d1 : decide ((n : Int) <= ((b.length - p : Nat) : Int)) = true := by simp; omega
  have e3 : IntKind.i64.wrap (n : Int) = (n : Int) := IntWalk.i64_in _ (by omega)
  have e4 : IntKind.i64.wrap ((p : Int) + (n : Int)) = ((p + n : Nat) : Int) := by rw [IntWalk.i64_in _ (by omega)]; omega
  have hs : (b.take (((p + n : Nat) : Int)).toNat).drop ((p : Nat) : Int).toNat = (b.drop p).take n := by
   rw [Int.toNat_natCast, Int.toNat_natCast, List.drop_take]; congr 1; omega
  have hij : ((p : Nat) : Int) <= ((p + n : Nat) : Int) := by omega
  have hj : (((p + n : Nat) : Int)).toNat <= b.length := by omega
  have hcl : ((b.drop p).take n).length <= 140737488351232 := by rw [List.length_take, hl]; omega
  have hU := uniB1 b
  have c1 := av_cloneB _ hcl
  have c2 := av_valid _ hcl
  have eR : b.length - ((b.drop p).drop n).length = p + n := by rw [List.length_drop, hl]; omega
  by_cases h3 : k = 3
  ·subst h3
   cases hv : validU ((b.drop p).take n) with
   | true =>
    rw [hv] at c2
    rw [if_neg (by simp)]
    dsimp only
    rw [eR]
    refine AC_of Tryd.func112 rfl Tryd.ntmps112 rfl rfl ?_
    repeat' (first | rw [d1] | rw [e1] | rw [e2] | rw [e3] | rw [e4] | (apply AL_callPw (av_need 8); kernel_rfl; (iterate 4 exact rfl)) | (apply AL_callPw (av_need 3); kernel_rfl; (iterate 4 exact rfl)) | (apply AL_callPw (c1); kernel_rfl; (iterate 4 exact rfl)) | (apply AL_callPw (c2); kernel_rfl; (iterate 4 exact rfl)) | (apply AL_span ttok; (iterate 9 exact rfl); (first | with_reducible assumption | exact Int.natCast_nonneg _ | exact (by decide)); (first | with_reducible assumption | decide | (simp only [List.length_cons, List.length_drop, List.length_take, List.length_append, Int.toNat_natCast] at *; omega)); (first | with_reducible assumption | decide | (simp only [List.length_cons, List.length_drop, List.length_take, List.length_append, Int.toNat_natCast] at *; omega)); (first | with_reducible assumption | exact rfl)) | (apply AL_move; exact rfl; exact rfl) | (apply AL_assign; exact rfl; exact rfl) | (apply AL_bin; (iterate 5 exact rfl)) | (apply AL_load1 ttok; (iterate 6 exact rfl)) | (apply AL_fieldAddr ttok; (iterate 7 exact rfl)) | (apply AL_nilCheck; exact rfl; exact rfl) | (apply AL_boxZ; (iterate 5 exact rfl)) | (apply AL_store ttok; (iterate 8 exact rfl)) | (apply AL_convT ttok; (iterate 5 exact rfl)) | refine AL_nil ?_ | (apply AL_guardT; (iterate 3 exact rfl); (first | with_reducible assumption | decide +kernel)) | (apply AL_pickF; exact rfl; (first | with_reducible assumption | decide +kernel); exact rfl; exact rfl) | refine AW_region ?_ | refine AW_seq' ?_ | refine then_norm ?_ | refine AW_ret ?_ | (apply AL_len ttok; (iterate 4 exact rfl)) | (apply AW_drawE 7 hmix; (decide +kernel); (kernel_rfl); (kernel_rfl); (kernel_rfl); exact rfl; exact rfl) | (apply AW_drawE 13 hmix; (decide +kernel); (kernel_rfl); (kernel_rfl); (kernel_rfl); exact rfl; exact rfl) | (apply AW_drawE 16 hmix; (decide +kernel); (kernel_rfl); (kernel_rfl); (kernel_rfl); exact rfl; exact rfl) | (apply AE_consZ; (iterate 4 exact rfl)) | exact AE.nil _ _ _ _ | (apply AEk_puT; exact rfl) | (apply AOt_mk; exact rfl; exact rfl; (decide +kernel); exact rfl) | (apply AO_puT; exact rfl) | exact AO.nil _ _ _ | (apply AOs_skip; (decide +kernel)) | exact AOs.nil | exact qY_ok rfl rfl)
    all_goals (apply endR (rfl) [0]; (repeat (first | exact ResL.nil | (apply ResL.cons; first | exact .tmp _ _ rfl | (apply res_n ttok; (iterate 6 exact rfl)) | (apply res_1 ttok; (iterate 5 exact rfl))))); (iterate 4 exact rfl))
    all_goals rfl
   | false =>
    rw [hv] at c2
    rw [if_pos ⟨rfl, rfl⟩]
    dsimp only
    refine AC_of Tryd.func112 rfl Tryd.ntmps112 rfl rfl ?_
    repeat' (first | rw [d1] | rw [e1] | rw [e2] | rw [e3] | rw [e4] | (apply AL_callPw (av_need 8); kernel_rfl; (iterate 4 exact rfl)) | (apply AL_callX [] (ax_need 3); kernel_rfl; (iterate 6 exact rfl); intro bx2 fr2 hle2) | (apply AL_callPw (c1); kernel_rfl; (iterate 4 exact rfl)) | (apply AL_callPw (c2); kernel_rfl; (iterate 4 exact rfl)) | (apply AL_span ttok; (iterate 9 exact rfl); (first | with_reducible assumption | exact Int.natCast_nonneg _ | exact (by decide)); (first | with_reducible assumption | decide | (simp only [List.length_cons, List.length_drop, List.length_take, List.length_append, Int.toNat_natCast] at *; omega)); (first | with_reducible assumption | decide | (simp only [List.length_cons, List.length_drop, List.length_take, List.length_append, Int.toNat_natCast] at *; omega)); (first | with_reducible assumption | exact rfl)) | (apply AL_move; exact rfl; exact rfl) | (apply AL_assign; exact rfl; exact rfl) | (apply AL_bin; (iterate 5 exact rfl)) | (apply AL_load1 ttok; (iterate 6 exact rfl)) | (apply AL_fieldAddr ttok; (iterate 7 exact rfl)) | (apply AL_nilCheck; exact rfl; exact rfl) | (apply AL_boxZ; (iterate 5 exact rfl)) | (apply AL_convT ttok; (iterate 5 exact rfl)) | refine AL_nil ?_ | (apply AL_guardT; (iterate 3 exact rfl); (first | with_reducible assumption | decide +kernel)) | (apply AL_pickF; exact rfl; (first | with_reducible assumption | decide +kernel); exact rfl; exact rfl) | refine AW_region ?_ | refine AW_seq' ?_ | (apply AL_len ttok; (iterate 4 exact rfl)) | (apply AW_drawE 13 hmix; (decide +kernel); (kernel_rfl); (kernel_rfl); (kernel_rfl); exact rfl; exact rfl) | (apply AW_drawE 16 hmix; (decide +kernel); (kernel_rfl); (kernel_rfl); (kernel_rfl); exact rfl; exact rfl) | (apply AE_consZ; (iterate 4 exact rfl)) | exact AE.nil _ _ _ _ | (apply AEk_puT; exact rfl) | (apply AOt_mk; exact rfl; exact rfl; (decide +kernel); exact rfl) | (apply AO_puT; exact rfl) | exact AO.nil _ _ _ | (apply AOs_skip; (decide +kernel)) | exact AOs.nil | exact qY_ok rfl rfl | refine then_pan ?_)
    all_goals (apply endX; exact rfl; (first | exact Nat.zero_le _ | exact Nat.le_trans (Nat.le_of_ble_eq_true rfl) (by assumption)); exact rfl)
  ·have k3 : (k != 3) = true := by simpa using h3
   rw [if_neg (by rintro ⟨h, _⟩; exact h3 h)]
   dsimp only
   rw [eR]
   refine AC_of Tryd.func112 rfl Tryd.ntmps112 rfl rfl ?_
   repeat' (first | rw [d1] | rw [e1] | rw [e2] | rw [e3] | rw [e4] | (apply AL_callPw (av_need 8); kernel_rfl; (iterate 4 exact rfl)) | (apply AL_callPw (av_need 3); kernel_rfl; (iterate 4 exact rfl)) | (apply AL_callPw (c1); kernel_rfl; (iterate 4 exact rfl)) | (apply AL_span ttok; (iterate 9 exact rfl); (first | with_reducible assumption | exact Int.natCast_nonneg _ | exact (by decide)); (first | with_reducible assumption | decide | (simp only [List.length_cons, List.length_drop, List.length_take, List.length_append, Int.toNat_natCast] at *; omega)); (first | with_reducible assumption | decide | (simp only [List.length_cons, List.length_drop, List.length_take, List.length_append, Int.toNat_natCast] at *; omega)); (first | with_reducible assumption | exact rfl)) | (apply AL_move; exact rfl; exact rfl) | (apply AL_assign; exact rfl; exact rfl) | (apply AL_bin; (iterate 5 exact rfl)) | (apply AL_load1 ttok; (iterate 6 exact rfl)) | (apply AL_fieldAddr ttok; (iterate 7 exact rfl)) | (apply AL_nilCheck; exact rfl; exact rfl) | (apply AL_boxZ; (iterate 5 exact rfl)) | (apply AL_store ttok; (iterate 8 exact rfl)) | (apply AL_convT ttok; (iterate 5 exact rfl)) | refine AL_nil ?_ | (apply AL_guardFf; (iterate 3 exact rfl); (first | with_reducible assumption | decide +kernel)) | (apply AL_pickT; exact rfl; (first | with_reducible assumption | decide +kernel); exact rfl; exact rfl) | refine AW_region ?_ | refine AW_seq' ?_ | refine then_norm ?_ | refine AW_ret ?_ | (apply AL_len ttok; (iterate 4 exact rfl)) | (apply AW_drawE 7 hmix; (decide +kernel); (kernel_rfl); (kernel_rfl); (kernel_rfl); exact rfl; exact rfl) | (apply AW_drawE 13 hmix; (decide +kernel); (kernel_rfl); (kernel_rfl); (kernel_rfl); exact rfl; exact rfl) | (apply AW_drawE 16 hmix; (decide +kernel); (kernel_rfl); (kernel_rfl); (kernel_rfl); exact rfl; exact rfl) | (apply AE_consZ; (iterate 4 exact rfl)) | exact AE.nil _ _ _ _ | (apply AEk_puT; exact rfl) | (apply AOt_mk; exact rfl; exact rfl; (decide +kernel); exact rfl) | (apply AO_puT; exact rfl) | exact AO.nil _ _ _ | (apply AOs_skip; (decide +kernel)) | exact AOs.nil | exact qY_ok rfl rfl)
   all_goals (apply endR (rfl) [0]; (repeat (first | exact ResL.nil | (apply ResL.cons; first | exact .tmp _ _ rfl | (apply res_n ttok; (iterate 6 exact rfl)) | (apply res_1 ttok; (iterate 5 exact rfl))))); (iterate 4 exact rfl))
   all_goals rfl
 ·rw [if_neg hle]
  dsimp only
  have d1 : decide ((n : Int) <= ((b.length - p : Nat) : Int)) = false := by simp; omega
  refine AC_of Tryd.func112 rfl Tryd.ntmps112 rfl rfl ?_
  repeat' (first | rw [d1] | rw [e1] | rw [e2] | (apply AL_callX [] (ax_need 8); kernel_rfl; (iterate 6 exact rfl); intro bx2 fr2 hle2) | (apply AL_move; exact rfl; exact rfl) | (apply AL_assign; exact rfl; exact rfl) | (apply AL_bin; (iterate 5 exact rfl)) | (apply AL_load1 ttok; (iterate 6 exact rfl)) | (apply AL_fieldAddr ttok; (iterate 7 exact rfl)) | (apply AL_nilCheck; exact rfl; exact rfl) | (apply AL_boxZ; (iterate 5 exact rfl)) | (apply AL_convT ttok; (iterate 5 exact rfl)) | refine AL_nil ?_ | refine AW_region ?_ | refine AW_seq' ?_ | (apply AL_len ttok; (iterate 4 exact rfl)) | (apply AW_drawE 13 hmix; (decide +kernel); (kernel_rfl); (kernel_rfl); (kernel_rfl); exact rfl; exact rfl) | (apply AE_consZ; (iterate 4 exact rfl)) | exact AE.nil _ _ _ _ | (apply AEk_puT; exact rfl) | (apply AOt_mk; exact rfl; exact rfl; (decide +kernel); exact rfl) | (apply AO_puT; exact rfl) | exact AO.nil _ _ _ | (apply AOs_skip; (decide +kernel)) | exact AOs.nil | exact qY_ok rfl rfl | refine then_pan ?_)
  all_goals (apply endX; exact rfl; (first | exact Nat.zero_le _ | exact Nat.le_trans (Nat.le_of_ble_eq_true rfl) (by assumption)); exact rfl)
end Go.Proofs.YtihkbilhgbmbhaaDoor
end
