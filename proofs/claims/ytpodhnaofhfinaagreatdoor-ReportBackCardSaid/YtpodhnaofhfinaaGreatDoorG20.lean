/- head.Read and head.Shortest over abstract states. -/
import Derived.Test.YtpodhnaofhfinaaGreatDoorG19
import Derived.Test.YtpodhnaofhfinaaGreatDoorG11
import Derived.Test.YtpodhnaofhfinaaGreatDoorG12
import Derived.Test.YtpodhnaofhfinaaGreatDoorG16
set_option linter.unusedVariables false
set_option linter.unusedSimpArgs false
section
open Go.RowKit Go.Pl Go.Av
namespace Go.Proofs.YtpodhnaofhfinaaGreatDoor
set_option maxHeartbeats 1000000
def rdD (r : Hd × Nat × Nat) : D := .tup [hd r.1, .int .i64 (r.2.1 : Int), .int .i64 (r.2.2 : Int)]
theorem idx_byte (b : List UInt8) (p : Int) (h0 : 0 <= p) (h1 : p < (b.length : Int)) : ∃ c r, b.drop p.toNat = c :: r /\ r.length + p.toNat + 1 = b.length /\ (b.map E.byte)[p.toNat]? = some (E.byte c) /\ ∀ j : Nat, j < r.length -> (b.map E.byte)[p.toNat + 1 + j]? = (r.map E.byte)[j]? := by
 have h : p.toNat < b.length := by omega
 refine ⟨b[p.toNat], b.drop (p.toNat + 1), List.drop_eq_getElem_cons h, by rw [List.length_drop]; omega, by simp [h], fun j hj => by simp [List.getElem?_drop]⟩
theorem shr5 (c : UInt8) : ((c.toNat : Int)).fdiv (2 ^ min (Int.toNat 5) IntKind.u8.bits) = ((c.toNat / 32 : Nat) : Int) := by
 rw [show min (Int.toNat 5) IntKind.u8.bits = 5 from rfl, Int.fdiv_eq_ediv_of_nonneg _ (by decide)]
 omega
theorem readN_direct {b : List UInt8} {p : Nat} {c : UInt8} {r : List UInt8} (h : b.drop p = c :: r) (h1 : c.toNat % 32 < 24) : readN b p = ((((c.toNat / 32 : Nat) : Int), c.toNat % 32, false), p + 1, 0) := by
 unfold readN; rw [h]; simp only; rw [if_pos h1]
theorem readN_open {b : List UInt8} {p : Nat} {c : UInt8} {r : List UInt8} (h : b.drop p = c :: r) (h1 : c.toNat % 32 = 31) (h2 : mayB (c.toNat / 32 : Nat) = true) : readN b p = ((((c.toNat / 32 : Nat) : Int), 0, true), p + 1, 0) := by
 unfold readN; rw [h]; simp only; rw [if_neg (by omega), if_pos ⟨h1, h2⟩]
theorem readN_bad {b : List UInt8} {p : Nat} {c : UInt8} {r : List UInt8} (h : b.drop p = c :: r) (h1 : 27 < c.toNat % 32) (h2 : c.toNat % 32 = 31 -> mayB (c.toNat / 32 : Nat) = false) : readN b p = ((0, 0, false), 0, 3) := by
 unfold readN; rw [h]; simp only; rw [if_neg (by omega), if_neg (fun hh => by have := h2 hh.1; rw [hh.2] at this; cases this), if_pos h1]
theorem readN_short {b : List UInt8} {p : Nat} {c : UInt8} {r : List UInt8} (h : b.drop p = c :: r) (h1 : ¬ c.toNat % 32 < 24) (h2 : ¬ 27 < c.toNat % 32) (h3 : r.length < 2 ^ (c.toNat % 32 - 24)) : readN b p = ((0, 0, false), 0, 8) := by
 unfold readN; rw [h]; simp only; rw [if_neg h1, if_neg (by omega), if_neg h2, if_pos h3]
theorem readN_long {b : List UInt8} {p : Nat} {c : UInt8} {r : List UInt8} (h : b.drop p = c :: r) (h1 : ¬ c.toNat % 32 < 24) (h2 : ¬ 27 < c.toNat % 32) (h3 : ¬ r.length < 2 ^ (c.toNat % 32 - 24)) : readN b p = ((((c.toNat / 32 : Nat) : Int), beVal (r.take (2 ^ (c.toNat % 32 - 24))), false), p + 1 + 2 ^ (c.toNat % 32 - 24), 0) := by
 unfold readN; rw [h]; simp only; rw [if_neg h1, if_neg (by omega), if_neg h2, if_neg h3]
theorem pow_eq (v : Nat) (h : ¬ v < 24) (h' : ¬ 27 < v) : IntKind.i64.wrap (1 * 2 ^ min (IntKind.u8.wrap ((v : Int) - 24)).toNat IntKind.i64.bits) = ((2 ^ (v - 24) : Nat) : Int) /\ 2 ^ (v - 24) <= 8 := by
 obtain rfl | rfl | rfl | rfl : v = 24 \/ v = 25 \/ v = 26 \/ v = 27 := by omega
 all_goals decide
theorem av_read [Known] (b : List UInt8) (p : Int) (hb : b.length <= 4611686018427387904) : AP Tryz.prog 98 [byE b, .int .i64 p] (rdD (readH b p)) [] := by
 have HB := hid hb
 clear hb
 have HU := uniB1 b
 refine AC_of Tryz.func98 rfl Tryz.ntmps98 rfl rfl ?_
 repeat' (first | (apply AL_go ttok; exact rfl) | (apply AW_go ttok; exact rfl) | (apply K_go ttok; exact rfl) | (apply AL_guardT; (iterate 3 exact rfl); (first | with_reducible assumption | (solve | simp only [bn]))) | (apply AL_guardFf; (iterate 3 exact rfl); (first | with_reducible assumption | (solve | simp only [bn]))) | (apply AL_guardS; exact rfl; exact rfl; all_goals intro hb) | (apply AL_pickT; exact rfl; (first | with_reducible assumption | (solve | simp only [bn])); exact rfl; exact rfl) | (apply AL_pickF; exact rfl; (first | with_reducible assumption | (solve | simp only [bn])); exact rfl; exact rfl) | (apply AW_condA; exact rfl; (first | with_reducible assumption | (solve | simp only [bn]))) | (apply AW_cond'; exact rfl; all_goals intro hb) | (apply AL_len ttok; (iterate 4 exact rfl)))
 ·(apply end0 (ts := []); (apply resG_ok ttok; exact rfl); exact okSel_nil _; exact rfl; rotate_left; exact rfl)
  have : p < 0 := of_decide_eq_true hb
  rw [show readH b p = _ from if_pos (.inl this)]; rfl
 ·(apply end0 (ts := []); (apply resG_ok ttok; exact rfl); exact okSel_nil _; exact rfl; rotate_left; exact rfl)
  have : p > ((b.map E.byte).length : Int) := of_decide_eq_true hb
  rw [List.length_map] at this
  rw [show readH b p = _ from if_pos (.inr this)]; rfl
 ·(apply end0 (ts := []); (apply resG_ok ttok; exact rfl); exact okSel_nil _; exact rfl; rotate_left; exact rfl)
  have : p = ((b.map E.byte).length : Int) := by simpa using hb
  rw [List.length_map] at this
  have hd : b.drop p.toNat = [] := by rw [List.drop_eq_nil_iff]; omega
  rw [show readH b p = readN b p.toNat from if_neg (by omega)]
  unfold readN
  rw [hd]; rfl
 rename_i g1 g2
 have h0 : 0 <= p := by have := of_decide_eq_false g1; omega
 have h1 : p < (b.length : Int) := by
  have a1 := of_decide_eq_false g2
  rw [List.length_map] at a1 hb
  have a2 : p ≠ (b.length : Int) := by simpa using hb
  omega
 obtain ⟨c, r, hd, hl, hv, hr⟩ := idx_byte b p h0 h1
 have HH := hid (show readH b p = readN b p.toNat from if_neg (by omega))
 have HD := hid hd
 have HL := hid hl
 have HR := hid hr
 have e1 : IntKind.i64.wrap ((c.toNat / 32 : Nat) : Int) = ((c.toNat / 32 : Nat) : Int) := IntWalk.i64_in _ (by have := c.toNat_lt; omega)
 have e2 : IntKind.u64.wrap ((c.toNat % 32 : Nat) : Int) = ((c.toNat % 32 : Nat) : Int) := by rw [IntKind.wrap_u64]; omega
 have e3 : IntKind.i64.wrap (p + 1) = ((p.toNat + 1 : Nat) : Int) := by have := HB.out; rw [IntWalk.i64_in _ (by omega)]; omega
 clear hb g1 g2 hd hl hr
 repeat' (first | rw [and31 c] | rw [shr5 c] | rw [e1] | rw [e2] | rw [e3] | (apply AL_callP (av_may _); kernel_rfl; (iterate 4 exact rfl)) | (apply AL_go ttok; exact rfl) | (apply AW_go ttok; exact rfl) | (apply K_go ttok; exact rfl) | (apply AL_guardT; (iterate 3 exact rfl); (first | with_reducible assumption | (solve | simp only [bn]))) | (apply AL_guardFt; (iterate 3 exact rfl); (first | with_reducible assumption | (solve | simp only [bn]))) | (apply AL_guardS; exact rfl; exact rfl; all_goals intro hb) | (apply AL_pickT; exact rfl; (first | with_reducible assumption | (solve | simp only [bn])); exact rfl; exact rfl) | (apply AL_pickF; exact rfl; (first | with_reducible assumption | (solve | simp only [bn])); exact rfl; exact rfl) | (apply AW_condB; exact rfl; (first | with_reducible assumption | (solve | simp only [bn]))) | (apply AW_cond'; exact rfl; all_goals intro hb) | (apply AL_len ttok; (iterate 4 exact rfl)) | (apply AL_idx ttok; (iterate 6 exact rfl); (first | with_reducible assumption | exact Int.natCast_nonneg _ | (guard_target = (0:Int) <= (OfNat.ofNat _ : Int); decide) | rotate_left); (first | with_reducible assumption | exact rfl); (first | exact uniB_ok rfl | with_reducible assumption | rotate_left)) | (apply AL_shr; exact rfl; exact rfl; (first | with_reducible assumption | exact Int.natCast_nonneg _ | (exact (by decide)) | rotate_left); exact rfl) | (apply AL_shl; exact rfl; exact rfl; (first | with_reducible assumption | exact Int.natCast_nonneg _ | (exact (by decide)) | rotate_left); exact rfl))
 ·(apply end0 (ts := []); (apply resG_ok ttok; exact rfl); exact okSel_nil _; exact rfl; rotate_left; exact rfl)
  rw [HH.out, readN_direct HD.out (by have := of_decide_eq_true hb; omega)]; rfl
 ·(apply end0 (ts := []); (apply resG_ok ttok; exact rfl); exact okSel_nil _; exact rfl; rotate_left; exact rfl)
  rw [HH.out, readN_open HD.out (by have := of_decide_eq_false (‹decide _ = false›); simp at *; omega) hb]; rfl
 iterate 2
  ·(apply end0 (ts := []); (apply resG_ok ttok; exact rfl); exact okSel_nil _; exact rfl; rotate_left; exact rfl)
   rw [HH.out, readN_bad HD.out (by have := of_decide_eq_true hb; omega) (by intro hh; first | assumption | simp_all)]; rfl
  ·(apply end0 (ts := []); (apply resG_ok ttok; exact rfl); exact okSel_nil _; exact rfl; rotate_left; exact rfl)
   have g1 := of_decide_eq_true hb
   have g2 := of_decide_eq_false (‹decide (((c.toNat % 32 : Nat) : Int) > 27) = false›)
   have g3 := of_decide_eq_false (‹decide (((c.toNat % 32 : Nat) : Int) < 24) = false›)
   have g4 := pow_eq (c.toNat % 32) (by omega) (by omega)
   have g5 := HL.out
   have g6 := HB.out
   rw [g4.1, List.length_map, IntWalk.i64_in _ (by omega)] at g1
   rw [HH.out, readN_short HD.out (by omega) (by omega) (by omega)]; rfl
  ·have g1 := of_decide_eq_false hb
   have g2 := of_decide_eq_false (‹decide (((c.toNat % 32 : Nat) : Int) > 27) = false›)
   have g3 := of_decide_eq_false (‹decide (((c.toNat % 32 : Nat) : Int) < 24) = false›)
   have g4 := pow_eq (c.toNat % 32) (by omega) (by omega)
   have g5 := HL.out
   have g6 := HB.out
   rw [g4.1, List.length_map, IntWalk.i64_in _ (by omega)] at g1
   rw [g4.1]
   have g7 := HH.out.trans (readN_long HD.out (by omega) (by omega) (by omega))
   generalize 2 ^ (c.toNat % 32 - 24) = m at g1 g4 g7 ⊢
   have g8 := g4.2
   have G7 := hid g7
   clear hb g2 g3 g4 g7
   refine AW_loopJ (fun k tm bx fr => ∃ i, k + i = m /\ tm = [(75, .int .i64 (i : Int)), (74, .int .i64 (m : Int)), (9, .int .i64 (m : Int)), (7, .ptr 1 0), (1, .int .i64 ((p.toNat + 1 : Nat) : Int)), (0, byE b), (4, .ptr 0 0)] /\ bx = [[.int .i64 0, .int .u64 0, .bool false], [.int .i64 ((c.toNat / 32 : Nat) : Int), .int .u64 (beVal (r.take i) : Nat), .bool false]] /\ fr = []) (m + 1) (Lands.mk' (m := m) (Nat.lt_succ_self _) ⟨0, rfl, rfl, rfl, rfl⟩ ?_ rfl rfl rfl rfl rfl rfl) ?_
   ·repeat' (first | exact Av.Sub.nil | refine Av.Sub.cons rfl ?_)
   rintro k tm bx fr ⟨i, hk, rfl, rfl, rfl⟩
   rcases Nat.lt_or_ge i m with hlt | hge
   ·have hd : decide ((i : Int) < (m : Int)) = true := by simp; omega
    have hir : i < r.length := by omega
    have hv' : (b.map E.byte)[((p.toNat + 1 + i : Nat) : Int).toNat]? = some (E.byte r[i]) := by
     rw [Int.toNat_natCast, HR.out i hir]; simp [hir]
    have e4 : IntKind.i64.wrap (((p.toNat + 1 : Nat) : Int) + (i : Int)) = ((p.toNat + 1 + i : Nat) : Int) := by rw [IntWalk.i64_in _ (by omega)]; omega
    have e7 : IntKind.i64.wrap ((i : Int) + 1) = ((i + 1 : Nat) : Int) := by rw [IntWalk.i64_in _ (by omega)]; omega
    have e6 : IntKind.u64.wrap ((r[i].toNat : Nat) : Int) = ((r[i].toNat : Nat) : Int) := by have := r[i].toNat_lt; rw [IntKind.wrap_u64]; omega
    have e5 : bits .or .u64 (IntKind.u64.wrap (((beVal (r.take i) : Nat) : Int) * 2 ^ min (Int.toNat 8) IntKind.u64.bits)) ((r[i].toNat : Nat) : Int) = ((beVal (r.take (i + 1)) : Nat) : Int) := by
     have h9 := beVal_step (beVal (r.take i)) r[i] (beVal_take_lt r i (by omega))
     rw [show ((2 : Int) ^ min (Int.toNat 8) IntKind.u64.bits) = 256 from rfl, h9.1, h9.2, take_snoc r i hir]
    repeat' (first | rw [e4] | rw [e5] | rw [e6] | rw [e7] | (apply AL_go ttok; exact rfl) | (apply AW_go ttok; exact rfl) | (apply AW_condA; exact rfl; (first | with_reducible assumption | (solve | simp only [bn]))) | (apply AW_drawM 10 hmix; (decide +kernel); (kernel_rfl); (kernel_rfl); exact rfl; exact rfl) | (apply AD_cons; (iterate 3 exact rfl)) | refine AD.nil _ | exact qp_ok rfl | (apply AL_idx ttok; (iterate 6 exact rfl); (first | with_reducible assumption | exact Int.natCast_nonneg _ | (guard_target = (0:Int) <= (OfNat.ofNat _ : Int); decide) | rotate_left); (first | with_reducible assumption | exact rfl); (first | exact uniB_ok rfl | with_reducible assumption | rotate_left)) | (apply AL_shl; exact rfl; exact rfl; (first | with_reducible assumption | exact Int.natCast_nonneg _ | (exact (by decide)) | rotate_left); exact rfl))
    refine Lands.mk' (m := k - 1) (by omega) ⟨i + 1, by omega, rfl, rfl, rfl⟩ ?_ rfl rfl rfl rfl rfl rfl
    repeat' (first | exact Av.Sub.nil | refine Av.Sub.cons rfl ?_)
   ·have hd : decide ((i : Int) < (m : Int)) = false := by simp; omega
    repeat' (first | (apply AW_go ttok; exact rfl) | (apply AW_condB; exact rfl; (first | with_reducible assumption | (solve | simp only [bn]))))
    (apply end0 (ts := []); (apply resG_ok ttok; exact rfl); exact okSel_nil _; exact rfl; rotate_left; exact rfl)
    have h9 : i = m := by omega
    subst h9
    rw [G7.out, IntWalk.i64_in _ (by omega)]
    rfl
  ·have g2 := of_decide_eq_false hb
   have g3 := of_decide_eq_false (‹decide (((c.toNat % 32 : Nat) : Int) < 24) = false›)
   rw [IntKind.wrap_u8']; omega
end Go.Proofs.YtpodhnaofhfinaaGreatDoor
end
section
open Go.RowKit Go.Pl Go.Av
namespace Go.Proofs.YtpodhnaofhfinaaGreatDoor
set_option maxHeartbeats 4000000
abbrev faultD (e : Nat) : D := .iface 116 (.agg [.int .i64 (e : Int)])
abbrev rdC (b : List UInt8) (p m : Nat) : List D := [byE b, .int .i64 (p : Int), .int .i64 (m : Int)]
theorem av_need [Known] (e : Int) : AP Tryz.prog 84 [.bool true, .int .i64 e] (.tup []) [] := by
 refine AP.ofA ?_
 refine AC_of Tryz.func84 rfl Tryz.ntmps84 rfl rfl ?_
 repeat' (first | (apply AW_go ttok; exact rfl) | (apply AW_condB; exact rfl; (first | with_reducible assumption | (solve | simp only [bn]))))
 all_goals (apply endQn []; exact ResL.nil; (iterate 4 exact rfl))
 all_goals rfl
theorem ax_need [Known] (e : Nat) : AX Tryz.prog 84 [.bool false, .int .i64 (e : Int)] [] (faultD e) := by
 refine AC_of Tryz.func84 rfl Tryz.ntmps84 rfl rfl ?_
 repeat' (first | (apply AW_go ttok; exact rfl) | (apply AL_panicI; exact rfl; exact rfl) | (apply AW_condA; exact rfl; (first | with_reducible assumption | (solve | simp only [bn]))) | (apply AL_makeIface ttok; (iterate 4 exact rfl)))
 all_goals exact ⟨[], [], okSel_nil _, okSel_nil _, fun i h => by simp at h, fun i h => by simp at h, rfl, Nat.zero_le _⟩
theorem rdS_err {s : List UInt8} {e : Nat} (h : rdS s = .error e) : e = 8 \/ e = 3 := by
 cases s with
 | nil => simp [rdS] at h; exact .inl h.symm
 | cons c t =>
  simp only [rdS] at h
  split at h
  ·cases h
  split at h
  ·cases h
  split at h
  ·injection h with h; exact .inr h.symm
  split at h
  ·injection h with h; exact .inl h.symm
  ·cases h
theorem readH_rdS (b : List UInt8) (p : Nat) (hp : p <= b.length) : readH b (p : Int) = match rdS (b.drop p) with
  | .error e => ((0, 0, false), 0, e)
  | .ok (h, r) => (h, b.length - r.length, 0) := by
 have h := readN_rdS b p hp
 rw [readH, if_neg (by omega), Int.toNat_natCast]
 exact h
theorem av_rhead [Known] (b : List UInt8) (p m : Nat) (hb : b.length <= 1099511627776) (hp : p <= b.length) : AR Tryz.prog 83 [.ptr 0 0] [rdC b p m] (match rdS (b.drop p) with
  | .error e => .error (faultD e)
  | .ok (h, r) => .ok (hd h, [rdC b (b.length - r.length) m])) := by
 have hR := av_read b (p : Int) (by omega)
 rw [readH_rdS b p hp] at hR
 cases hr : rdS (b.drop p) with
 | error e =>
  rw [hr] at hR
  dsimp only at hR ⊢
  have he : ((e : Int) == 0) = false := by rcases rdS_err hr with rfl | rfl <;> rfl
  refine AC_of Tryz.func83 rfl Tryz.ntmps83 rfl rfl ?_
  repeat' (first | (apply AL_callPw (hR); kernel_rfl; (iterate 4 exact rfl)) | rw [he] | (apply AL_callX [] (ax_need e); kernel_rfl; (iterate 6 exact rfl); intro bx2 fr2 hle2) | (apply AL_go ttok; exact rfl) | (apply AW_go ttok; exact rfl) | (apply K_go ttok; exact rfl) | (apply AW_drawE 16 hmix; (decide +kernel); (kernel_rfl); (kernel_rfl); (kernel_rfl); exact rfl; exact rfl) | (apply AE_consZ; (iterate 4 exact rfl)) | exact AE.nil _ _ _ _ | (apply AEk_puT; exact rfl) | (apply AEk_efT; exact rfl) | (apply AEk_pu; exact rfl) | (apply AOt_mk; exact rfl; exact rfl; (decide +kernel); exact rfl) | (apply AO_puT; exact rfl) | (apply AO_efT; exact rfl) | (apply AO_pu; exact rfl) | exact AO.nil _ _ _ | (apply AOs_skip; (decide +kernel)) | (apply AOs_goZ; (iterate 3 exact rfl)) | exact AOs.nil | exact qY_ok rfl rfl | exact qY_none rfl | exact qY_ef rfl rfl)
  all_goals first | (apply endX; exact rfl; (first | exact Nat.zero_le _ | exact Nat.le_trans (Nat.le_of_ble_eq_true rfl) (by assumption)); exact rfl)
 | ok y =>
  obtain ⟨h, r⟩ := y
  rw [hr] at hR
  dsimp only at hR ⊢
  refine AC_of Tryz.func83 rfl Tryz.ntmps83 rfl rfl ?_
  repeat' (first | (apply AL_callPw (hR); kernel_rfl; (iterate 4 exact rfl)) | (apply AL_callPw (av_need 0); kernel_rfl; (iterate 4 exact rfl)) | (apply AL_go ttok; exact rfl) | (apply AW_go ttok; exact rfl) | (apply AW_drawE 16 hmix; (decide +kernel); (kernel_rfl); (kernel_rfl); (kernel_rfl); exact rfl; exact rfl) | (apply AE_consZ; (iterate 4 exact rfl)) | exact AE.nil _ _ _ _ | (apply AEk_puT; exact rfl) | (apply AEk_efT; exact rfl) | (apply AEk_ef; exact rfl) | (apply AOt_mk; exact rfl; exact rfl; (decide +kernel); exact rfl) | (apply AO_puT; exact rfl) | (apply AO_efT; exact rfl) | (apply AO_ef; exact rfl) | exact AO.nil _ _ _ | (apply AOs_skip; (decide +kernel)) | (apply AOs_goZ; (iterate 3 exact rfl)) | exact AOs.nil | exact qY_ok rfl rfl | exact qY_ef rfl rfl | exact qY_efn rfl)
  all_goals first | (apply endR (rfl) [0]; (apply resG_ok ttok; exact rfl); (iterate 4 exact rfl))
  all_goals rfl
end Go.Proofs.YtpodhnaofhfinaaGreatDoor
end
section
open Go.RowKit Go.Pl Go.Av
namespace Go.Proofs.YtpodhnaofhfinaaGreatDoor
set_option maxHeartbeats 4000000
theorem byte255 (c : UInt8) : ((c.toNat : Int) == 255) = (c == 255) := by
 rw [Bool.eq_iff_iff, beq_iff_eq, beq_iff_eq]
 constructor
 ·intro h
  have : c.toNat = (255 : UInt8).toNat := by show c.toNat = 255; omega
  exact UInt8.toNat_inj.1 this
 ·rintro rfl; rfl
theorem drop_at {b : List UInt8} {p : Nat} (h : p < b.length) : ∃ c t, b.drop p = c :: t /\ (b.map E.byte)[((p : Nat) : Int).toNat]? = some (E.byte c) /\ t = b.drop (p + 1) := by
 refine ⟨b[p], b.drop (p + 1), List.drop_eq_getElem_cons h, ?_, rfl⟩
 rw [Int.toNat_natCast, List.getElem?_map, List.getElem?_eq_getElem h]; rfl
theorem av_ends [Known] (b : List UInt8) (p m : Nat) (hb : b.length <= 1099511627776) (hp : p <= b.length) : AQ Tryz.prog 99 [.ptr 0 0] [rdC b p m] (.bool (endB (b.drop p))) [rdC b (if endB (b.drop p) = true then p + 1 else p) m] := by
 have hU := uniB1 b
 rcases Nat.lt_or_ge p b.length with hlt | hge
 ·obtain ⟨c, t, hd, hv, _⟩ := drop_at hlt
  have d1 : decide ((p : Int) < ((b.map E.byte).length : Int)) = true := by simp; omega
  have e1 : IntKind.i64.wrap ((p : Int) + 1) = ((p + 1 : Nat) : Int) := by rw [IntWalk.i64_in _ (by omega)]; omega
  have e2 := byte255 c
  rw [hd]
  cases hc : c == 255 with
  | true =>
   rw [hc] at e2
   have he : endB (c :: t) = true := hc
   rw [he, if_pos rfl]
   refine AQ.weak ?_
   refine AC_of Tryz.func99 rfl Tryz.ntmps99 rfl rfl ?_
   repeat' (first | rw [e1] | rw [e2] | (apply AL_go ttok; exact rfl) | (apply AW_go ttok; exact rfl) | (apply K_go ttok; exact rfl) | (apply AL_guardT; (iterate 3 exact rfl); (first | with_reducible assumption | decide +kernel)) | (apply AL_pickT; exact rfl; (first | with_reducible assumption | decide +kernel); exact rfl; exact rfl) | (apply AW_condA; exact rfl; (first | with_reducible assumption | decide +kernel)) | (apply AL_len ttok; (iterate 4 exact rfl)) | (apply AW_drawE 19 hmix; (decide +kernel); (kernel_rfl); (kernel_rfl); (kernel_rfl); exact rfl; exact rfl) | (apply AE_consZ; (iterate 4 exact rfl)) | exact AE.nil _ _ _ _ | (apply AEk_puT; exact rfl) | (apply AOt_mk; exact rfl; exact rfl; (decide +kernel); exact rfl) | (apply AO_puT; exact rfl) | exact AO.nil _ _ _ | (apply AOs_skip; (decide +kernel)) | exact AOs.nil | exact qY_ok rfl rfl | (apply AL_idx ttok; (iterate 6 exact rfl); (first | with_reducible assumption | decide +kernel | exact Int.natCast_nonneg _ | (guard_target = (0:Int) <= (OfNat.ofNat _ : Int); decide) | rotate_left); (first | with_reducible assumption | decide +kernel | exact rfl); (first | exact uniB_ok rfl | with_reducible assumption | decide +kernel | rotate_left)))
   all_goals (apply endQ [0]; (apply resG_ok ttok; exact rfl); (iterate 4 exact rfl))
   all_goals rfl
  | false =>
   rw [hc] at e2
   have he : endB (c :: t) = false := hc
   rw [he, if_neg (by simp)]
   refine AQ.weak ?_
   refine AC_of Tryz.func99 rfl Tryz.ntmps99 rfl rfl ?_
   repeat' (first | rw [e2] | (apply AL_go ttok; exact rfl) | (apply AW_go ttok; exact rfl) | (apply K_go ttok; exact rfl) | refine K_nil ?_ | (apply AL_guardT; (iterate 3 exact rfl); (first | with_reducible assumption | decide +kernel)) | (apply AL_pickT; exact rfl; (first | with_reducible assumption | decide +kernel); exact rfl; exact rfl) | (apply AW_condB; exact rfl; (first | with_reducible assumption | decide +kernel)) | (apply AL_len ttok; (iterate 4 exact rfl)) | (apply AW_drawE 19 hmix; (decide +kernel); (kernel_rfl); (kernel_rfl); (kernel_rfl); exact rfl; exact rfl) | (apply AE_consZ; (iterate 4 exact rfl)) | exact AE.nil _ _ _ _ | (apply AEk_puT; exact rfl) | (apply AOt_mk; exact rfl; exact rfl; (decide +kernel); exact rfl) | (apply AO_puT; exact rfl) | exact AO.nil _ _ _ | (apply AOs_skip; (decide +kernel)) | exact AOs.nil | exact qY_ok rfl rfl | (apply AL_idx ttok; (iterate 6 exact rfl); (first | with_reducible assumption | decide +kernel | exact Int.natCast_nonneg _ | (guard_target = (0:Int) <= (OfNat.ofNat _ : Int); decide) | rotate_left); (first | with_reducible assumption | decide +kernel | exact rfl); (first | exact uniB_ok rfl | with_reducible assumption | decide +kernel | rotate_left)))
   all_goals (apply endQ [0]; (apply resG_ok ttok; exact rfl); (iterate 4 exact rfl))
   all_goals rfl
 ·have d1 : decide ((p : Int) < ((b.map E.byte).length : Int)) = false := by simp; omega
  have hd : b.drop p = [] := List.drop_eq_nil_of_le hge
  rw [hd, if_neg (by simp [endB])]
  refine AQ.weak ?_
  refine AC_of Tryz.func99 rfl Tryz.ntmps99 rfl rfl ?_
  repeat' (first | (apply AL_go ttok; exact rfl) | (apply AW_go ttok; exact rfl) | (apply K_go ttok; exact rfl) | refine K_nil ?_ | (apply AL_guardFt; (iterate 3 exact rfl); (first | with_reducible assumption | decide +kernel)) | (apply AL_pickF; exact rfl; (first | with_reducible assumption | decide +kernel); exact rfl; exact rfl) | (apply AW_condB; exact rfl; (first | with_reducible assumption | decide +kernel)) | (apply AL_len ttok; (iterate 4 exact rfl)) | (apply AW_drawE 19 hmix; (decide +kernel); (kernel_rfl); (kernel_rfl); (kernel_rfl); exact rfl; exact rfl) | (apply AE_consZ; (iterate 4 exact rfl)) | exact AE.nil _ _ _ _ | (apply AEk_puT; exact rfl) | (apply AOt_mk; exact rfl; exact rfl; (decide +kernel); exact rfl) | (apply AO_puT; exact rfl) | exact AO.nil _ _ _ | (apply AOs_skip; (decide +kernel)) | exact AOs.nil | exact qY_ok rfl rfl)
  all_goals (apply endQ [0]; (apply resG_ok ttok; exact rfl); (iterate 4 exact rfl))
  all_goals rfl
theorem av_piece [Known] [KnownU8] (h : Hd) (b : List UInt8) (p m : Nat) (hb : b.length <= 1099511627776) (hp : p <= b.length) (hn : h.2.1 < 18446744073709551616) : AR Tryz.prog 100 [.ptr 0 0, hd h] [rdC b p m] (match pieceS h (b.drop p) with
  | .error e => .error (faultD e)
  | .ok (c, r) => .ok (byE c, [rdC b (b.length - r.length) m])) := by
 obtain ⟨k, n, o⟩ := h
 dsimp only at hn
 show AR Tryz.prog _ [.ptr 0 0, .agg [.int .i64 k, .int .u64 (n : Int), .bool o]] _ _
 have e1 : IntKind.i64.wrap (((b.map E.byte).length : Int) - (p : Int)) = ((b.length - p : Nat) : Int) := by rw [List.length_map, IntWalk.i64_in _ (by omega)]; omega
 have e2 : IntKind.u64.wrap ((b.length - p : Nat) : Int) = ((b.length - p : Nat) : Int) := by rw [IntKind.wrap_u64]; omega
 unfold pieceS
 dsimp only
 have hl : (b.drop p).length = b.length - p := List.length_drop ..
 rw [hl]
 by_cases hle : n <= b.length - p
 ·rw [if_pos hle]
  have d1 : decide ((n : Int) <= ((b.length - p : Nat) : Int)) = true := by simp; omega
  have e3 : IntKind.i64.wrap (n : Int) = (n : Int) := IntWalk.i64_in _ (by omega)
  have e4 : IntKind.i64.wrap ((p : Int) + (n : Int)) = ((p + n : Nat) : Int) := by rw [IntWalk.i64_in _ (by omega)]; omega
  have hs : (b.take (((p + n : Nat) : Int)).toNat).drop ((p : Nat) : Int).toNat = (b.drop p).take n := by
   rw [Int.toNat_natCast, Int.toNat_natCast, List.drop_take]; congr 1; omega
  have hij : ((p : Nat) : Int) <= ((p + n : Nat) : Int) := by omega
  have hj : (((p + n : Nat) : Int)).toNat <= b.length := by omega
  have hcl : ((b.drop p).take n).length <= 140737488351232 := by rw [List.length_take, hl]; omega
  have hU := uniB1 b
  have c1 := av_cloneB _ hcl
  have c2 := av_valid _ hcl
  have eR : b.length - ((b.drop p).drop n).length = p + n := by rw [List.length_drop, hl]; omega
  by_cases h3 : k = 3
  ·subst h3
   cases hv : validU ((b.drop p).take n) with
   | true =>
    rw [hv] at c2
    rw [if_neg (by simp)]
    dsimp only
    rw [eR]
    refine AC_of Tryz.func100 rfl Tryz.ntmps100 rfl rfl ?_
    repeat' (first | rw [d1] | rw [e1] | rw [e2] | rw [e3] | rw [e4] | (apply AL_callPw (av_need 8); kernel_rfl; (iterate 4 exact rfl)) | (apply AL_callPw (av_need 3); kernel_rfl; (iterate 4 exact rfl)) | (apply AL_callPw (c1); kernel_rfl; (iterate 4 exact rfl)) | (apply AL_callPw (c2); kernel_rfl; (iterate 4 exact rfl)) | (apply AL_span ttok; (iterate 9 exact rfl); (first | with_reducible assumption | exact Int.natCast_nonneg _ | exact (by decide)); (first | with_reducible assumption | decide | (simp only [List.length_cons, List.length_drop, List.length_take, List.length_append, Int.toNat_natCast] at *; omega)); (first | with_reducible assumption | decide | (simp only [List.length_cons, List.length_drop, List.length_take, List.length_append, Int.toNat_natCast] at *; omega)); (first | with_reducible assumption | exact rfl)) | (apply AL_go ttok; exact rfl) | (apply AW_go ttok; exact rfl) | refine K_nil ?_ | (apply AL_guardT; (iterate 3 exact rfl); (first | with_reducible assumption | decide +kernel)) | (apply AL_pickF; exact rfl; (first | with_reducible assumption | decide +kernel); exact rfl; exact rfl) | (apply AL_len ttok; (iterate 4 exact rfl)) | (apply AW_drawE 7 hmix; (decide +kernel); (kernel_rfl); (kernel_rfl); (kernel_rfl); exact rfl; exact rfl) | (apply AW_drawE 13 hmix; (decide +kernel); (kernel_rfl); (kernel_rfl); (kernel_rfl); exact rfl; exact rfl) | (apply AW_drawE 16 hmix; (decide +kernel); (kernel_rfl); (kernel_rfl); (kernel_rfl); exact rfl; exact rfl) | (apply AE_consZ; (iterate 4 exact rfl)) | exact AE.nil _ _ _ _ | (apply AEk_puT; exact rfl) | (apply AOt_mk; exact rfl; exact rfl; (decide +kernel); exact rfl) | (apply AO_puT; exact rfl) | exact AO.nil _ _ _ | (apply AOs_skip; (decide +kernel)) | exact AOs.nil | exact qY_ok rfl rfl)
    all_goals (apply endR (rfl) [0]; (apply resG_ok ttok; exact rfl); (iterate 4 exact rfl))
    all_goals rfl
   | false =>
    rw [hv] at c2
    rw [if_pos ⟨rfl, rfl⟩]
    dsimp only
    refine AC_of Tryz.func100 rfl Tryz.ntmps100 rfl rfl ?_
    repeat' (first | rw [d1] | rw [e1] | rw [e2] | rw [e3] | rw [e4] | (apply AL_callPw (av_need 8); kernel_rfl; (iterate 4 exact rfl)) | (apply AL_callX [] (ax_need 3); kernel_rfl; (iterate 6 exact rfl); intro bx2 fr2 hle2) | (apply AL_callPw (c1); kernel_rfl; (iterate 4 exact rfl)) | (apply AL_callPw (c2); kernel_rfl; (iterate 4 exact rfl)) | (apply AL_span ttok; (iterate 9 exact rfl); (first | with_reducible assumption | exact Int.natCast_nonneg _ | exact (by decide)); (first | with_reducible assumption | decide | (simp only [List.length_cons, List.length_drop, List.length_take, List.length_append, Int.toNat_natCast] at *; omega)); (first | with_reducible assumption | decide | (simp only [List.length_cons, List.length_drop, List.length_take, List.length_append, Int.toNat_natCast] at *; omega)); (first | with_reducible assumption | exact rfl)) | (apply AL_go ttok; exact rfl) | (apply AW_go ttok; exact rfl) | (apply K_go ttok; exact rfl) | refine K_nil ?_ | (apply AL_guardT; (iterate 3 exact rfl); (first | with_reducible assumption | decide +kernel)) | (apply AL_pickF; exact rfl; (first | with_reducible assumption | decide +kernel); exact rfl; exact rfl) | (apply AL_len ttok; (iterate 4 exact rfl)) | (apply AW_drawE 13 hmix; (decide +kernel); (kernel_rfl); (kernel_rfl); (kernel_rfl); exact rfl; exact rfl) | (apply AW_drawE 16 hmix; (decide +kernel); (kernel_rfl); (kernel_rfl); (kernel_rfl); exact rfl; exact rfl) | (apply AE_consZ; (iterate 4 exact rfl)) | exact AE.nil _ _ _ _ | (apply AEk_puT; exact rfl) | (apply AOt_mk; exact rfl; exact rfl; (decide +kernel); exact rfl) | (apply AO_puT; exact rfl) | exact AO.nil _ _ _ | (apply AOs_skip; (decide +kernel)) | exact AOs.nil | exact qY_ok rfl rfl)
    all_goals (apply endX; exact rfl; (first | exact Nat.zero_le _ | exact Nat.le_trans (Nat.le_of_ble_eq_true rfl) (by assumption)); exact rfl)
  ·have k3 : (k != 3) = true := by simpa using h3
   rw [if_neg (by rintro ⟨h, _⟩; exact h3 h)]
   dsimp only
   rw [eR]
   refine AC_of Tryz.func100 rfl Tryz.ntmps100 rfl rfl ?_
   repeat' (first | rw [d1] | rw [e1] | rw [e2] | rw [e3] | rw [e4] | (apply AL_callPw (av_need 8); kernel_rfl; (iterate 4 exact rfl)) | (apply AL_callPw (av_need 3); kernel_rfl; (iterate 4 exact rfl)) | (apply AL_callPw (c1); kernel_rfl; (iterate 4 exact rfl)) | (apply AL_span ttok; (iterate 9 exact rfl); (first | with_reducible assumption | exact Int.natCast_nonneg _ | exact (by decide)); (first | with_reducible assumption | decide | (simp only [List.length_cons, List.length_drop, List.length_take, List.length_append, Int.toNat_natCast] at *; omega)); (first | with_reducible assumption | decide | (simp only [List.length_cons, List.length_drop, List.length_take, List.length_append, Int.toNat_natCast] at *; omega)); (first | with_reducible assumption | exact rfl)) | (apply AL_go ttok; exact rfl) | (apply AW_go ttok; exact rfl) | refine K_nil ?_ | (apply AL_guardFf; (iterate 3 exact rfl); (first | with_reducible assumption | decide +kernel)) | (apply AL_pickT; exact rfl; (first | with_reducible assumption | decide +kernel); exact rfl; exact rfl) | (apply AL_len ttok; (iterate 4 exact rfl)) | (apply AW_drawE 7 hmix; (decide +kernel); (kernel_rfl); (kernel_rfl); (kernel_rfl); exact rfl; exact rfl) | (apply AW_drawE 13 hmix; (decide +kernel); (kernel_rfl); (kernel_rfl); (kernel_rfl); exact rfl; exact rfl) | (apply AW_drawE 16 hmix; (decide +kernel); (kernel_rfl); (kernel_rfl); (kernel_rfl); exact rfl; exact rfl) | (apply AE_consZ; (iterate 4 exact rfl)) | exact AE.nil _ _ _ _ | (apply AEk_puT; exact rfl) | (apply AOt_mk; exact rfl; exact rfl; (decide +kernel); exact rfl) | (apply AO_puT; exact rfl) | exact AO.nil _ _ _ | (apply AOs_skip; (decide +kernel)) | exact AOs.nil | exact qY_ok rfl rfl)
   all_goals (apply endR (rfl) [0]; (apply resG_ok ttok; exact rfl); (iterate 4 exact rfl))
   all_goals rfl
 ·rw [if_neg hle]
  dsimp only
  have d1 : decide ((n : Int) <= ((b.length - p : Nat) : Int)) = false := by simp; omega
  refine AC_of Tryz.func100 rfl Tryz.ntmps100 rfl rfl ?_
  repeat' (first | rw [d1] | rw [e1] | rw [e2] | (apply AL_callX [] (ax_need 8); kernel_rfl; (iterate 6 exact rfl); intro bx2 fr2 hle2) | (apply AL_go ttok; exact rfl) | (apply AW_go ttok; exact rfl) | (apply K_go ttok; exact rfl) | (apply AL_len ttok; (iterate 4 exact rfl)) | (apply AW_drawE 13 hmix; (decide +kernel); (kernel_rfl); (kernel_rfl); (kernel_rfl); exact rfl; exact rfl) | (apply AE_consZ; (iterate 4 exact rfl)) | exact AE.nil _ _ _ _ | (apply AEk_puT; exact rfl) | (apply AOt_mk; exact rfl; exact rfl; (decide +kernel); exact rfl) | (apply AO_puT; exact rfl) | exact AO.nil _ _ _ | (apply AOs_skip; (decide +kernel)) | exact AOs.nil | exact qY_ok rfl rfl)
  all_goals (apply endX; exact rfl; (first | exact Nat.zero_le _ | exact Nat.le_trans (Nat.le_of_ble_eq_true rfl) (by assumption)); exact rfl)
end Go.Proofs.YtpodhnaofhfinaaGreatDoor
end
