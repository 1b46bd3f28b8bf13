/- From the form's own reading of an argument to this seat's words. -/
import Derived.Test.YteijmldnfjcipaaGreatDoorBase
import Derived.Deep.Slices
import Derived.ChangeArms
open Go.RowKit
namespace Go.Pl
def Opens {α : Type} (P : Program) (t : TypeId) (R : Rep α) : Prop :=
  ∀ (H : Type) (enc : TypeId × Value → H) (W : World) (spare : Nat → Bool) (held : Bool) (fuel : Nat) (cs : List Value) (y : DataW H × List MemPlace),
    DataW.trod enc P W 0 spare held fuel t cs = some y → ∃ x, R.ok W (· < W.heap.size) cs x
variable {P : Program} {t : TypeId}
theorem opens_i64 (ht : P.underlying t = some (.int .i64)) : Opens P t Rep.i64 := by
  intro H enc W spare held fuel cs y h
  obtain ⟨n, rfl, _, hw⟩ := DataW.trod_int ht h
  have hx : -9223372036854775808 ≤ n ∧ n ≤ 9223372036854775807 := by simpa [Lit.wf, IntKind.min, IntKind.max, IntKind.signed, IntKind.bits] using hw
  exact ⟨n, rfl, hx⟩
theorem opens_u64 (ht : P.underlying t = some (.int .u64)) : Opens P t Rep.u64 := by
  intro H enc W spare held fuel cs y h
  obtain ⟨n, rfl, _, hw⟩ := DataW.trod_int ht h
  have hx : 0 ≤ n ∧ n ≤ 18446744073709551615 := by simpa [Lit.wf, IntKind.min, IntKind.max, IntKind.signed, IntKind.bits] using hw
  refine ⟨n.toNat, ?_, by omega⟩
  rw [Int.toNat_of_nonneg hx.1]
theorem opens_byte (ht : P.underlying t = some (.int .u8)) : Opens P t Rep.byte := by
  intro H enc W spare held fuel cs y h
  obtain ⟨n, rfl, _, hw⟩ := DataW.trod_int ht h
  have hx : 0 ≤ n ∧ n ≤ 255 := by simpa [Lit.wf, IntKind.min, IntKind.max, IntKind.signed, IntKind.bits] using hw
  refine ⟨UInt8.ofNat n.toNat, ?_⟩
  show [Value.int .u8 n] = [.int .u8 ((UInt8.ofNat n.toNat).toNat : Int)]
  rw [u8_ofNat (by omega), Int.toNat_of_nonneg hx.1]
theorem opens_bool (ht : P.underlying t = some .bool) : Opens P t Rep.bool := by
  intro H enc W spare held fuel cs y h
  obtain ⟨n, rfl, _⟩ := DataW.trod_bool ht h
  exact ⟨n, rfl⟩
theorem opens_str (ht : P.underlying t = some .string) : Opens P t Rep.str := by
  intro H enc W spare held fuel cs y h
  obtain ⟨s, rfl, _, hs⟩ := DataW.trod_string ht h
  exact ⟨s.data.toList, rfl, by rw [Array.length_toList]; exact hs⟩
theorem opens_slice {α : Type} {R : Rep α} {e : TypeId} (hR : 0 < R.n) (ht : P.underlying t = some (.slice e)) (hc : P.cellsOf e = R.n) (he : Opens P e R) : Opens P t (Rep.slice R hR) := by
  intro H enc W spare held fuel cs y h
  rcases Go.Deep.open_slice ht h with ⟨rfl, _⟩ | ⟨a, len, cap, m, n, D, Pl, rfl, _, hl, hm, hmm, _, hi⟩
  · exact ⟨[], _, rfl, Sl.nil _ _ _⟩
  · rw [hc] at hi
    have hlm : len ≤ m := by rw [hmm]; split <;> omega
    have key : ∀ k, k ≤ len → ∃ (l : List α) (cs : List Value), l.length = k ∧ Run R W (· < W.heap.size) cs l ∧ ∀ j, j < cs.length → W.cell? (a.add j) = cs[j]? := by
      intro k
      induction k with
      | zero => intro _; exact ⟨[], [], rfl, rfl, fun j hj => by simp at hj⟩
      | succ k ih =>
        intro hk
        obtain ⟨l, cs, hll, hr, hcc⟩ := ih (by omega)
        obtain ⟨cs', hcs', ht'⟩ := hi k (by omega)
        obtain ⟨x, hx⟩ := he H enc W spare held n cs' _ ht'
        obtain ⟨_, hcl, hat⟩ := World.cells?_some hcs'
        refine ⟨l ++ [x], cs ++ cs', by simp [hll], hr.append (Run.single hx), fun j hj => ?_⟩
        have hlen := hr.length
        rw [hll] at hlen
        rcases Nat.lt_or_ge j cs.length with h1 | h1
        · rw [List.getElem?_append_left h1]; exact hcc j h1
        · rw [List.getElem?_append_right h1]
          have h2 : j - cs.length < R.n := by rw [List.length_append, hcl] at hj; omega
          have := hat (j - cs.length) h2
          rw [Go.Deep.add_add] at this
          rw [← this]
          congr 2
          omega
    obtain ⟨l, cs, hll, hr, hcc⟩ := key len (Nat.le_refl _)
    subst hll
    refine ⟨l, _, rfl, some a, cap, rfl, hl, hm, cs, hr, fun hne => ?_⟩
    have hlen := hr.length
    have hpos : 0 < cs.length := by rw [hlen]; exact Nat.mul_pos (List.length_pos_iff.2 hne) hR
    obtain ⟨b, off, spot⟩ := a
    have h0 := (hcc 0 hpos).trans (List.getElem?_eq_getElem hpos)
    have hspot : spot = none := by simpa [Addr.add] using World.cell?_spot h0
    subst hspot
    refine ⟨b, off, rfl, World.block_lt_of_cell? W _ (by simpa [Addr.add] using h0), fun j hj => ?_⟩
    rw [← hcc j hj]
    congr 1
    unfold Addr.add; split <;> simp_all

/-- structs: the fields one behind the other -/
theorem opens_prod {α β : Type} {R : Rep α} {R' : Rep β} {fs : Array Field} {f0 f1 : Field} (hs : P.underlying t = some (.struct fs)) (hfs : fs = #[f0, f1]) (hc : P.cellsOf t = R.n + R'.n)
    (h00 : f0.offset = 0) (h01 : f1.offset = R.n) (hc0 : P.cellsOf f0.type = R.n) (hc1 : P.cellsOf f1.type = R'.n) (h0 : Opens P f0.type R) (h1 : Opens P f1.type R') : Opens P t (R.prod R') := by
  intro H enc W spare held fuel cs y h
  obtain ⟨xs, n, _, _, hl, hxl, hg⟩ := DataW.trod_struct hs h
  subst hfs
  have e0 := hg 0 f0 rfl
  have e1 := hg 1 f1 rfl
  rw [h00, hc0, List.drop_zero] at e0
  rw [h01, hc1] at e1
  have hn : xs.length = 2 := hxl
  have hx0 : xs[0]? = some (xs[0]'(by omega)) := List.getElem?_eq_getElem (by omega)
  have hx1 : xs[1]? = some (xs[1]'(by omega)) := List.getElem?_eq_getElem (by omega)
  obtain ⟨x, hx⟩ := h0 H enc W spare held n _ _ (e0.trans hx0)
  obtain ⟨x', hx'⟩ := h1 H enc W spare held n _ _ (e1.trans hx1)
  refine ⟨(x, x'), cs.take R.n, (cs.drop R.n).take R'.n, ?_, hx, hx'⟩
  rw [List.take_of_length_le (i := R'.n) (by rw [List.length_drop]; omega)]
  exact (List.take_append_drop _ _).symm
theorem opens_prod3 {α β γ : Type} {R : Rep α} {R' : Rep β} {R2 : Rep γ} {fs : Array Field} {f0 f1 f2 : Field} (hs : P.underlying t = some (.struct fs)) (hfs : fs = #[f0, f1, f2]) (hc : P.cellsOf t = R.n + (R'.n + R2.n))
    (h00 : f0.offset = 0) (h01 : f1.offset = R.n) (h02 : f2.offset = R.n + R'.n) (hc0 : P.cellsOf f0.type = R.n) (hc1 : P.cellsOf f1.type = R'.n) (hc2 : P.cellsOf f2.type = R2.n) (h0 : Opens P f0.type R) (h1 : Opens P f1.type R') (h2 : Opens P f2.type R2) : Opens P t (R.prod (R'.prod R2)) := by
  intro H enc W spare held fuel cs y h
  obtain ⟨xs, n, _, _, hl, hxl, hg⟩ := DataW.trod_struct hs h
  subst hfs
  have e0 := hg 0 f0 rfl
  have e1 := hg 1 f1 rfl
  have e2 := hg 2 f2 rfl
  rw [h00, hc0, List.drop_zero] at e0
  rw [h01, hc1] at e1
  rw [h02, hc2] at e2
  have hn : xs.length = 3 := hxl
  have hx0 : xs[0]? = some (xs[0]'(by omega)) := List.getElem?_eq_getElem (by omega)
  have hx1 : xs[1]? = some (xs[1]'(by omega)) := List.getElem?_eq_getElem (by omega)
  have hx2 : xs[2]? = some (xs[2]'(by omega)) := List.getElem?_eq_getElem (by omega)
  obtain ⟨x, hx⟩ := h0 H enc W spare held n _ _ (e0.trans hx0)
  obtain ⟨x', hx'⟩ := h1 H enc W spare held n _ _ (e1.trans hx1)
  obtain ⟨x2, hx2⟩ := h2 H enc W spare held n _ _ (e2.trans hx2)
  refine ⟨(x, x', x2), cs.take R.n, (cs.drop R.n), (List.take_append_drop _ _).symm, hx, (cs.drop R.n).take R'.n, ((cs.drop R.n).drop R'.n), (List.take_append_drop _ _).symm, hx', ?_⟩
  rw [List.drop_drop]
  rw [List.take_of_length_le (i := R2.n) (by rw [List.length_drop]; omega)] at hx2
  exact hx2
/-- an argument: one value of one cell -/
theorem Opens.value {α : Type} {R : Rep α} (h : Opens P t R) {H : Type} {enc : TypeId × Value → H} {W : World} {spare : Nat → Bool} {held : Bool} {v : Value} {d : DataW H} {p : List MemPlace} (hv : DataW.Trod enc P W 0 spare held t v d p) :
    ∃ x, R.ok W (· < W.heap.size) v.cells.toList x := by
  obtain ⟨fuel, hf⟩ := hv
  exact h H enc W spare held fuel _ _ hf
end Go.Pl
