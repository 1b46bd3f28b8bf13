/- slices.Clone over bytes: a fresh copy. -/
import Derived.Test.YthbmdkhlialmeaaBase
import Derived.Test.YthbmdkhlialmeaaProg
open Go.RowKit Go.Pl
namespace Go.Proofs.Ythbmdkhlialmeaa
theorem elB : Elem Try.prog 29 5 1 1 := Elem.mk (z := .int .u8 0) Try.underlying29 (by kernel_rfl) rfl (by decide)
theorem and3 (b : UInt8) : ((b.toNat &&& 3 : Nat) : Int) ≤ 3 := by
  have : b.toNat &&& 3 ≤ 3 := Nat.and_le_right
  omega
theorem and7 (b : UInt8) : ((b.toNat &&& 7 : Nat) : Int) ≤ 7 := by
  have : b.toNat &&& 7 ≤ 7 := Nat.and_le_right
  omega
theorem elI : Elem Try.prog 40 3 Rep.i64.n 8 := Elem.mk (z := .int .i64 0) Try.underlying40 (by kernel_rfl) rfl (by decide)
/-- []byte of a constant -/
theorem kcB (w : World) (C : Array Value) (n c : Nat) : (convert 29 29 (.slice (some ⟨w.heap.size, 0, none⟩) n c)).run Try.prog (w.alloc (.cells C 5)) = .ok (.slice (some ⟨w.heap.size, 0, none⟩) n c) (w.alloc (.cells C 5 (C.size, C.size + 1))) :=
  Lib.run_convert_bytes_const w _ _ C n c Try.underlying29 Try.underlying5
theorem strB {w : World} {S : Nat → Prop} {v : Value} {l : List UInt8} (h : SlB w S v l) : (convert 29 9 v).run Try.prog w = .ok (.string ⟨l.toArray⟩) w :=
  run_str _ _ _ Try.underlying29 Try.underlying5 Try.underlying9 h
theorem clone_any (v : Value) (l : List UInt8) (S : Nat → Prop) (w : World) (h : SlB w S v l) (hl : l.length ≤ 140737488351232) :
    Calls Try.prog 28 #[v] w fun e w' => ∃ v', e = .returned v' ∧ Own Rep.byte w' w.heap.size 5 (fun _ => False) v' l ∧ Below w.heap.size w w' := by
  have h' := h
  obtain ⟨A, cap, rfl, h1, h2, hh⟩ := h'.form
  cases A with
  | none =>
    have hl0 : l = [] := by
      by_cases hn : l = []
      · exact hn
      · obtain ⟨g, off, hA, _⟩ := hh hn; cases hA
    subst hl0
    go_enter Try.func28, Try.ntmps28
    go_wp2
    go_ret
    exact ⟨_, rfl, Own.nil _ _ _ _ _, Below.refl _ _⟩
  | some ad =>
    clear hh
    have hS : SlB (w.alloc (.cells #[] 5)) (fun k => S k ∧ k < w.heap.size) (.slice (some ad) l.length cap) l := by
      obtain ⟨A, c, hv, q1, q2, qq⟩ := h.form
      injection hv with hA hn hc
      subst hA hc
      refine SlB.mk rfl q1 q2 fun hn => ?_
      obtain ⟨g, off, hA, hS, hc⟩ := qq hn
      have hlt : g < w.heap.size := World.block_lt_of_cell? w _ (hc 0 (by cases l <;> simp_all))
      exact ⟨g, off, hA, ⟨hS, hlt⟩, fun j hj => by rw [World.cell?_alloc_lt w _ _ hlt]; exact hc j hj⟩
    go_enter Try.func28, Try.ntmps28
    go_wp2_with (at_builtin; (refine wpList_apps rfl _ _ _ rfl elB rfl (Own.made Rep.byte w w.heap.size 5 (fun _ => False) (Nat.le_refl _) (fun h => h)) (fun _ h => h.elim) rfl hS (fun _ h => run_byte_any h) (by simp; simp only [maxLen] at h2 ⊢; omega) (by simp; omega) (by simp) ?_); intro v' w1 hap)
    go_ret
    refine ⟨_, rfl, by simpa using hap.own, ((Below.refl _ _).alloc (Nat.le_refl _) _).grown hap.grown (by simp) (fun k hk => by cases hk; exact Nat.le_refl _)⟩
end Go.Proofs.Ythbmdkhlialmeaa
