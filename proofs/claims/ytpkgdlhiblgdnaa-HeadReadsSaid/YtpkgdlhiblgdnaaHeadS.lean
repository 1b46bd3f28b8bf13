/- The contract of head.Shortest, and that the fixed calls of chapter 2 come out as they must. -/
import Derived.Test.YtpkgdlhiblgdnaaHeadR
open Go.RowKit Go.Pl
namespace Go.Proofs.Ytpkgdlhiblgdnaa
set_option maxHeartbeats 1000000
set_option linter.unusedVariables false
set_option linter.unusedSimpArgs false
theorem read_is {w : World} {B : Nat} {v : Value} {l : List UInt8} (hB : B ≤ w.heap.size) (h : SlB w (· < B) v l) (p : Int) {a : Int} {n : Nat} {o : Bool} {x y : Nat} (hr : readH l p = ((a, n, o), x, y)) :
    Calls Try.prog 40 #[v, .int .i64 p] w fun e w' => e = .returned (.tuple #[.agg #[.int .i64 a, .int .u64 (n : Int), .bool o], .int .i64 (x : Int), .int .i64 (y : Int)]) ∧ Below w.heap.size w w' := by
  have := read_any hB h p
  rw [hr] at this
  exact this
def shortB (l : List UInt8) (p : Int) : Bool := ((readH l p).2.2 == 0) && (((readH l p).2.1 : Int) - p == (sizeN (readH l p).1 : Int))
theorem readN_bd (l : List UInt8) (p : Nat) : (readN l p).2.1 ≤ l.length ∧ (readN l p).1.2.1 < 18446744073709551616 ∧ ((readN l p).2.2 = 0 → p < (readN l p).2.1) := by
  unfold readN
  split
  · exact ⟨Nat.zero_le _, by decide, fun h => by simp at h⟩
  · rename_i c r hd
    have hl : l.length - p = r.length + 1 := by
      have := congrArg List.length hd
      simpa using this
    have hc := c.toNat_lt
    split
    · exact ⟨by dsimp only; omega, by dsimp only; omega, fun _ => by dsimp only; omega⟩
    split
    · exact ⟨by dsimp only; omega, by dsimp only; omega, fun _ => by dsimp only; omega⟩
    split
    · exact ⟨Nat.zero_le _, by decide, fun h => by simp at h⟩
    split
    · exact ⟨Nat.zero_le _, by decide, fun h => by simp at h⟩
    · rename_i h1 h2 h3 h4
      have hk : 2 ^ (c.toNat % 32 - 24) ≤ 8 := by
        have : 2 ^ (c.toNat % 32 - 24) ≤ 2 ^ 3 := Nat.pow_le_pow_right (by decide) (by omega)
        omega
      have h0 := Nat.two_pow_pos (c.toNat % 32 - 24)
      refine ⟨by dsimp only; omega, ?_, fun _ => by dsimp only; omega⟩
      have h5 := beVal_lt (r.take (2 ^ (c.toNat % 32 - 24)))
      have h6 : 256 ^ (r.take (2 ^ (c.toNat % 32 - 24))).length ≤ 256 ^ 8 := Nat.pow_le_pow_right (by decide) (by rw [List.length_take]; omega)
      dsimp only
      omega
theorem readH_bd (l : List UInt8) (p : Int) : (readH l p).2.1 ≤ l.length ∧ (readH l p).1.2.1 < 18446744073709551616 ∧ ((readH l p).2.2 = 0 → 0 ≤ p ∧ p < (readH l p).2.1) := by
  unfold readH
  split
  · exact ⟨Nat.zero_le _, by decide, fun h => by simp at h⟩
  · obtain ⟨h1, h2, h3⟩ := readN_bd l p.toNat
    exact ⟨h1, h2, fun h => ⟨by omega, by have := h3 h; omega⟩⟩
theorem sizeN_le (h : Hd) : sizeN h ≤ 9 := by
  unfold sizeN
  have := followN_le h.2.1
  split
  · split <;> omega
  · omega
theorem shortest_any {w : World} {B : Nat} {v : Value} {l : List UInt8} (hB : B ≤ w.heap.size) (h : SlB w (· < B) v l) (p : Int) (hp : -9223372036854775808 ≤ p ∧ p ≤ 9223372036854775807) :
    Calls Try.prog 42 #[v, .int .i64 p] w fun e w' => e = .returned (.bool (shortB l p)) ∧ Below w.heap.size w w' := by
  obtain ⟨A, cap, rfl, hcl, hcm, _⟩ := h.form
  unfold maxLen at hcm
  obtain ⟨⟨a, n, o⟩, x, y, hr⟩ : ∃ (h : Hd) (x y : Nat), readH l p = (h, x, y) := ⟨_, _, _, rfl⟩
  obtain ⟨hb1, hb2, hb3⟩ := readH_bd l p
  have hs : shortB l p = ((y == 0) && ((x : Int) - p == (sizeN (a, n, o) : Int))) := by unfold shortB; rw [hr]
  rw [hr] at hb1 hb2 hb3
  dsimp only at hb1 hb2 hb3
  have hz9 := sizeN_le (a, n, o)
  have HS := hid hs
  have HH := hid h
  have HR := hid hr
  have HB3 := hid hb3
  clear h hr hs hb2 hb3
  go_enter Try.func42, Try.ntmps42
  go_wp2_with fail
  refine (read_is hB HH.out p HR.out).mono ?_
  rintro e w1 ⟨rfl, hbw⟩
  have HB := hid hbw
  clear hbw
  by_cases hy : y = 0
  · obtain ⟨hp0, hpx⟩ := HB3.out hy
    subst hy
    have h00 : (((0 : Nat) : Int) == 0) = true := rfl
    go_wp2_with fail
    refine (size_any (a, n, o) _).mono ?_
    rintro e w2 ⟨rfl, hb2⟩
    go_wp2
    go_ret
    refine ⟨by rw [HS.out]; simp, (HB.out.alloc (by have := HB.out.size; omega) _).trans (hb2.mono (by have := HB.out.size; simp; omega))⟩
  · have hy0 : ((y : Int) == 0) = false := by simp; omega
    go_wp2
    go_ret
    refine ⟨by rw [HS.out]; simp [hy], HB.out.alloc (by have := HB.out.size; omega) _⟩

theorem alive_head (w : World) : Calls Try.prog 36 #[] w fun e w' => e = .returned (.bool true) ∧ Below w.heap.size w w' := by
  go_enter Try.func36, Try.ntmps36
  go_wp2_with fail
  refine (write_ok (0, 500, false) w (by decide) (by decide)).mono ?_
  rintro e w1 ⟨v1, rfl, ho1, hb1⟩
  rw [show writeL (0, 500, false) = [25, 1, 244] from by decide] at ho1
  have hz1 := hb1.size
  obtain ⟨A1, c1, rfl⟩ := ho1.form
  have hs1 := ho1.sl (S' := fun k => w.heap.size ≤ k ∧ k < w1.heap.size) (fun _ h => h.elim) (fun g hg => ho1.block g hg)
  have hs1 : SlB w1 (fun k => w.heap.size ≤ k ∧ k < w1.heap.size) (.slice A1 3 c1) [25, 1, 244] := hs1
  have HB1 := hid hb1
  have HS1 := hid hs1
  clear hb1 ho1 hs1
  go_wp2_with fail
  refine (read_is (B := w1.heap.size + 1) (by simp) (SlB.new (w := w1) [0, 159] rfl (heap_alloc_new _ _) (by omega) (by simp [maxLen])) 1 (a := 4) (n := 0) (o := true) (x := 2) (y := 0) (by decide)).mono ?_
  rintro e w2 ⟨rfl, hb2⟩
  simp only [World.size_alloc] at hb2
  have hz2 := hb2.size
  simp only [World.size_alloc] at hz2
  have HB2 := hid ((HB1.out.alloc (by omega) _).trans (hb2.mono (by omega)))
  have HS2 := hid (HS1.out.frame (w' := w2) fun k hk => (hb2.block k (by omega)).trans (Below.heap_alloc _ _ _ hk.2))
  clear hb2
  go_wp2_with fail
  have hk2 := (Blk.new w2 69 #[.int .i64 4, .int .u64 0, .bool true]).alloc (.cells #[.int .u8 31] 5)
  refine (read_is (B := w2.heap.size + 2) (by simp) (SlB.row [31] rfl (heap_alloc2_new w2 _ _) (by omega) (by simp [maxLen])) 0 (a := 0) (n := 0) (o := false) (x := 0) (y := 3) (by decide)).mono ?_
  rintro e w3 ⟨rfl, hb3⟩
  simp only [World.size_alloc] at hb3
  have hz3 := hb3.size
  simp only [World.size_alloc] at hz3
  have HB3 := hid (((HB2.out.alloc (by omega) _).alloc (by simp; omega) _).trans (hb3.mono (by omega)))
  have HS3 := hid (HS2.out.frame (w' := w3) fun k hk => ((hb3.block k (by omega)).trans (Below.heap_alloc _ _ _ (by simp; omega))).trans (Below.heap_alloc _ _ _ (by omega)))
  have HK3 := hid (hk2.below hb3 (by omega))
  clear hb3 hk2
  go_wp2_with fail
  refine (read_is (B := w3.heap.size + 2) (by simp) (SlB.row [24] rfl (heap_alloc2_new w3 _ _) (by omega) (by simp [maxLen])) 0 (a := 0) (n := 0) (o := false) (x := 0) (y := 8) (by decide)).mono ?_
  rintro e w4 ⟨rfl, hb4⟩
  simp only [World.size_alloc] at hb4
  have hz4 := hb4.size
  simp only [World.size_alloc] at hz4
  have HB4 := hid (((HB3.out.alloc (by omega) _).alloc (by simp; omega) _).trans (hb4.mono (by omega)))
  have hs4 := HS3.out.frame (w' := w4.alloc (.cells #[.int .i64 0, .int .u64 0, .bool false] 69)) fun k hk => (Below.heap_alloc _ _ _ (by omega)).trans (((hb4.block k (by omega)).trans (Below.heap_alloc _ _ _ (by simp; omega))).trans (Below.heap_alloc _ _ _ (by omega)))
  have hk4 := ((((HK3.out.alloc (.cells #[.int .i64 0, .int .u64 0, .bool false] 69)).alloc (.cells #[.int .u8 24] 5)).below hb4 (by omega))).alloc (.cells #[.int .i64 0, .int .u64 0, .bool false] 69)
  have m0 := hk4.cell 0
  have m1 := hk4.cell 1
  have m2 := hk4.cell 2
  simp only [List.getElem?_toArray, List.getElem?_cons_zero, List.getElem?_cons_succ] at m0 m1 m2
  have hstr := strB hs4
  clear hb4 hk4 hs4
  go_wp2_with fail
  refine (shortest_any (B := w4.heap.size + 2) (by simp) (SlB.row [24, 5] rfl (heap_alloc2_new w4 _ _) (by omega) (by simp [maxLen])) 0 (by omega)).mono ?_
  rintro e w5 ⟨rfl, hb5⟩
  rw [show shortB [24, 5] 0 = false from by decide]
  simp only [World.size_alloc] at hb5
  have hz5 := hb5.size
  simp only [World.size_alloc] at hz5
  have HB5 := hid (((HB4.out.alloc (by omega) _).alloc (by simp; omega) _).trans (hb5.mono (by omega)))
  clear hb5 m0 m1 m2 hstr
  go_wp2_with fail
  refine (shortest_any (B := w5.heap.size + 1) (by simp) (SlB.row (g := w5.heap.size) [24, 24] rfl (heap_alloc_new _ _) (by omega) (by simp [maxLen])) 0 (by omega)).mono ?_
  rintro e w6 ⟨rfl, hb6⟩
  rw [show shortB [24, 24] 0 = true from by decide]
  simp only [World.size_alloc] at hb6
  have HB6 := hid ((HB5.out.alloc (by omega) _).trans (hb6.mono (by omega)))
  clear hb6
  go_wp2
  go_ret
  exact ⟨rfl, HB6.out⟩
end Go.Proofs.Ytpkgdlhiblgdnaa
