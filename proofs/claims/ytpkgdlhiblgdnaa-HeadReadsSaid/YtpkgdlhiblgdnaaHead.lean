/- Contracts of package head: what Right, Size, Write, Read, Shortest compute, for every head and all bytes. -/
import Derived.Test.YtpkgdlhiblgdnaaClone
open Go.RowKit Go.Pl
namespace Go.Proofs.Ytpkgdlhiblgdnaa
set_option maxHeartbeats 1000000
set_option linter.unusedVariables false
set_option linter.unusedSimpArgs false

/-- a head: Major, N, Open -/
abbrev Hd := Int × Nat × Bool
def RH : Rep Hd := Rep.prod Rep.i64 (Rep.prod Rep.u64 Rep.bool)
def hv (h : Hd) : Value := .agg #[.int .i64 h.1, .int .u64 (h.2.1 : Int), .bool h.2.2]
def mayB (m : Int) : Bool := decide (2 ≤ m ∧ m ≤ 5 ∨ m = 7)
def rightB (h : Hd) : Bool := if h.2.2 then decide (h.2.1 = 0) && mayB h.1 else decide (0 ≤ h.1 ∧ h.1 ≤ 7)
def followN (n : Nat) : Nat := if n < 24 then 0 else if n < 256 then 1 else if n < 65536 then 2 else if n < 4294967296 then 4 else 8
def infoN (n : Nat) : Nat := if n < 24 then n else if n < 256 then 24 else if n < 65536 then 25 else if n < 4294967296 then 26 else 27
def sizeN (h : Hd) : Nat := if rightB h then (if h.2.2 then 1 else 1 + followN h.2.1) else 0

theorem may_any (m : Int) (w : World) : Calls Try.prog 51 #[.int .i64 m] w fun e w' => e = .returned (.bool (mayB m)) ∧ w = w' := by
  have hm : m < 2 ∨ (2 ≤ m ∧ m ≤ 5) ∨ m = 6 ∨ m = 7 ∨ 7 < m := by omega
  rcases hm with h | h | rfl | rfl | h
  · have e : mayB m = false := by simp [mayB]; omega
    rw [e]; clear e
    have h7 : (m == 7) = false := by simp; omega
    go_enter Try.func51, Try.ntmps51
    go_wp2
    go_ret
    exact ⟨by simp [h7], rfl⟩
  · have e : mayB m = true := by simp [mayB]; omega
    rw [e]; clear e
    go_enter Try.func51, Try.ntmps51
    go_wp2
    go_ret
    exact ⟨rfl, rfl⟩
  · go_enter Try.func51, Try.ntmps51
    go_wp2
    go_ret
    exact ⟨rfl, rfl⟩
  · go_enter Try.func51, Try.ntmps51
    go_wp2
    go_ret
    exact ⟨rfl, rfl⟩
  · have e : mayB m = false := by simp [mayB]; omega
    rw [e]; clear e
    have h7 : (m == 7) = false := by simp; omega
    go_enter Try.func51, Try.ntmps51
    go_wp2
    go_ret
    exact ⟨by simp [h7]; omega, rfl⟩
theorem follow_z (n : Int) (w : World) (h0 : 0 ≤ n) (k : Int) (hk : (n < 24 ∧ k = 0) ∨ (24 ≤ n ∧ n < 256 ∧ k = 1) ∨ (256 ≤ n ∧ n < 65536 ∧ k = 2) ∨ (65536 ≤ n ∧ n < 4294967296 ∧ k = 4) ∨ (4294967296 ≤ n ∧ k = 8)) :
    Calls Try.prog 50 #[.int .u64 n] w fun e w' => e = .returned (.int .i64 k) ∧ w = w' := by
  rcases hk with ⟨h1, rfl⟩ | ⟨h1, h2, rfl⟩ | ⟨h1, h2, rfl⟩ | ⟨h1, h2, rfl⟩ | ⟨h1, rfl⟩
  all_goals
    go_enter Try.func50, Try.ntmps50
    go_wp2
    go_ret
    exact ⟨rfl, rfl⟩
theorem follow_any (n : Nat) (w : World) : Calls Try.prog 50 #[.int .u64 (n : Int)] w fun e w' => e = .returned (.int .i64 (followN n)) ∧ w = w' := by
  refine follow_z n w (by omega) _ ?_
  unfold followN
  split
  · omega
  split
  · omega
  split
  · omega
  split
  · omega
  · omega
theorem right_any (h : Hd) (w : World) : Calls Try.prog 37 #[hv h] w fun e w' => e = .returned (.bool (rightB h)) ∧ Below w.heap.size w w' := by
  obtain ⟨m, n, o⟩ := h
  unfold hv
  cases o with
  | true =>
    by_cases hn : n = 0
    · subst hn
      have e : rightB (m, 0, true) = mayB m := by simp [rightB]
      rw [e]
      go_enter Try.func37, Try.ntmps37
      go_wp2_with fail
      refine (may_any m _).mono ?_
      rintro e w' ⟨rfl, rfl⟩
      go_wp2
      go_ret
      exact ⟨by simp, (Below.refl _ _).alloc (Nat.le_refl _) _⟩
    · have e : rightB (m, n, true) = false := by simp [rightB, hn]
      rw [e]
      have hn0 : ((n : Int) == 0) = false := by simp; omega
      clear e
      go_enter Try.func37, Try.ntmps37
      go_wp2
      go_ret
      exact ⟨rfl, (Below.refl _ _).alloc (Nat.le_refl _) _⟩
  | false =>
    by_cases h1 : 0 ≤ m
    · by_cases h2 : m ≤ 7
      · have e : rightB (m, n, false) = true := by simp [rightB]; omega
        rw [e]
        go_enter Try.func37, Try.ntmps37
        go_wp2
        go_ret
        exact ⟨rfl, (Below.refl _ _).alloc (Nat.le_refl _) _⟩
      · have e : rightB (m, n, false) = false := by simp [rightB]; omega
        rw [e]
        go_enter Try.func37, Try.ntmps37
        go_wp2
        go_ret
        exact ⟨by simp; try omega, (Below.refl _ _).alloc (Nat.le_refl _) _⟩
    · have e : rightB (m, n, false) = false := by simp [rightB]; omega
      rw [e]
      go_enter Try.func37, Try.ntmps37
      go_wp2
      go_ret
      exact ⟨by simp; try omega, (Below.refl _ _).alloc (Nat.le_refl _) _⟩
theorem info_any (n : Nat) (hn : n < 18446744073709551616) (w : World) : Calls Try.prog 49 #[.int .u64 (n : Int)] w fun e w' => e = .returned (.int .u8 (infoN n)) ∧ w = w' := by
  have hc : (n < 24 ∧ followN n = 0 ∧ infoN n = n) ∨ (24 ≤ n ∧ followN n = 1 ∧ infoN n = 24) ∨ (24 ≤ n ∧ followN n = 2 ∧ infoN n = 25) ∨ (24 ≤ n ∧ followN n = 4 ∧ infoN n = 26) ∨ (24 ≤ n ∧ followN n = 8 ∧ infoN n = 27) := by
    unfold followN infoN
    by_cases h1 : n < 24
    · simp [h1]
    by_cases h2 : n < 256
    · simp [h1, h2]; omega
    by_cases h3 : n < 65536
    · simp [h1, h2, h3]; omega
    by_cases h4 : n < 4294967296
    · simp [h1, h2, h3, h4]; omega
    · simp [h1, h2, h3, h4]; omega
  rcases hc with ⟨h1, h2, h3⟩ | ⟨h1, h2, h3⟩ | ⟨h1, h2, h3⟩ | ⟨h1, h2, h3⟩ | ⟨h1, h2, h3⟩
  all_goals
    rw [h3]
    have HF := hid h2
    clear h2 h3
    go_enter Try.func49, Try.ntmps49
    go_wp2_with fail
    refine (follow_any n _).mono ?_
    rintro e w' ⟨rfl, rfl⟩
    rw [HF.out]
    go_wp2
    go_ret
    exact ⟨rfl, rfl⟩
theorem size_any (h : Hd) (w : World) : Calls Try.prog 38 #[hv h] w fun e w' => e = .returned (.int .i64 (sizeN h)) ∧ Below w.heap.size w w' := by
  go_enter Try.func38, Try.ntmps38
  unfold hv
  go_wp2_with fail
  refine (right_any h _).mono ?_
  rintro e w1 ⟨rfl, hb1⟩
  simp only [World.size_alloc] at hb1
  have hbx := (Blk.new w 69 #[.int .i64 h.1, .int .u64 (h.2.1 : Int), .bool h.2.2]).below hb1 (by omega)
  have b1 := hbx.cell 1
  have b2 := hbx.cell 2
  simp at b1 b2
  have HB := hid (((Below.refl _ w).alloc (Nat.le_refl _) _).trans (hb1.mono (by omega)))
  clear hb1 hbx
  cases hr : rightB h with
  | false =>
    have e : sizeN h = 0 := by simp [sizeN, hr]
    have HE := hid e
    clear hr e
    go_wp2
    go_ret
    exact ⟨by rw [HE.out]; rfl, HB.out⟩
  | true =>
    cases ho : h.2.2 with
    | true =>
      have e : sizeN h = 1 := by simp [sizeN, hr, ho]
      have HE := hid e
      rw [ho] at b2
      clear hr e ho
      go_wp2
      go_ret
      exact ⟨by rw [HE.out]; first | rfl | (congr 2; omega), HB.out⟩
    | false =>
      have e : sizeN h = 1 + followN h.2.1 := by simp [sizeN, hr, ho]
      have HE := hid e
      rw [ho] at b2
      clear hr e ho
      go_wp2_with fail
      refine (follow_any h.2.1 _).mono ?_
      rintro e w' ⟨rfl, rfl⟩
      have hf : followN h.2.1 ≤ 8 := by unfold followN; repeat' split
                                        all_goals omega
      go_wp2
      go_ret
      exact ⟨by rw [HE.out]; first | rfl | (congr 2; omega), HB.out⟩
end Go.Proofs.Ytpkgdlhiblgdnaa
