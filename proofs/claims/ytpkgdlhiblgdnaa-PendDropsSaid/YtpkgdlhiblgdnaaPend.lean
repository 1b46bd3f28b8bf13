/- Contracts of package pend. -/
import Derived.Test.YtpkgdlhiblgdnaaClone
open Go.RowKit Go.Pl
namespace Go.Proofs.Ytpkgdlhiblgdnaa
set_option maxHeartbeats 1000000

/-- an entry: To, Data, Need -/
abbrev Ent := Int × List UInt8 × Int
def RE : Rep Ent := Rep.prod Rep.i64 (Rep.prod (Rep.slice Rep.byte (by decide)) Rep.i64)

theorem elE : Elem Try.prog 30 29 RE.n 40 := Elem.mk (z := .agg #[.int .i64 0, .slice none 0 0, .int .i64 0]) Try.underlying30 (by kernel_rfl) rfl (by decide)


/-- a queue in memory: block q, its list's value v -/
structure QAt (w : World) (B q : Nat) (v : Value) (D : Nat → Prop) (l : List Ent) : Prop where
  blk : Blk w q 49 #[.bool true, v]
  Bq : B ≤ q
  own : Own RE w B 29 D v l
  Dq : ¬ D q
  Dlt : ∀ k, D k → k < w.heap.size
  apart : v.ownBlock ≠ some q
/-- what may change by an operation on a queue -/
def Mq (q : Nat) (v : Value) (k : Nat) : Prop := k = q ∨ v.ownBlock = some k

theorem QAt.keep {w w' : World} {B q : Nat} {v : Value} {D : Nat → Prop} {l : List Ent} (h : QAt w B q v D l) (hc : ∀ k, k < w.heap.size → (k = q ∨ v.ownBlock = some k ∨ D k) → w'.heap[k]? = w.heap[k]?) (hz : w.heap.size ≤ w'.heap.size) : QAt w' B q v D l := by
  obtain ⟨h1, h2, ho, hq, hD, h4⟩ := h
  refine ⟨(hc q h1.lt (.inl rfl)).trans h1, h2, ho.keep fun k hk => ?_, hq, fun k hk => Nat.lt_of_lt_of_le (hD k hk) hz, h4⟩
  rcases hk with hk | hk
  · exact hc k (hD k hk) (.inr (.inr hk))
  · exact hc k (ho.block k hk).2 (.inr (.inl hk))
theorem QAt.chg {w w' : World} {B q : Nat} {v : Value} {D : Nat → Prop} {l : List Ent} (h : QAt w B q v D l) (hc : ∀ k, k < w.heap.size → w'.heap[k]? = w.heap[k]?) (hz : w.heap.size ≤ w'.heap.size) : QAt w' B q v D l :=
  h.keep (fun k hk _ => hc k hk) hz
theorem QAt.mq {w : World} {B q : Nat} {v : Value} {D : Nat → Prop} {l : List Ent} (h : QAt w B q v D l) : ∀ k, k < B → ¬ Mq q v k := by
  intro k hk hm
  rcases hm with rfl | hm
  · have := h.Bq; omega
  · have := (h.own.block k hm).1; omega

theorem new_any (B : Nat) (w : World) (hB : B ≤ w.heap.size) : Calls Try.prog 14 #[] w fun e w' => e = .returned (.pointer (some ⟨w.heap.size, 0, none⟩)) ∧ QAt w' B w.heap.size (.slice none 0 0) (fun _ => False) [] ∧ Below w.heap.size w w' ∧ w'.heap.size = w.heap.size + 1 := by
  go_enter Try.func14, Try.ntmps14
  go_wp2
  go_ret
  exact ⟨rfl, ⟨Blk.new _ _ _, hB, Own.nil _ _ _ _ _, fun h => h, fun _ h => h.elim, by simp [Value.ownBlock]⟩, (Below.refl _ _).alloc (Nat.le_refl _) _, by simp⟩
theorem len_nil (w : World) : Calls Try.prog 18 #[.pointer none] w fun e w' => e = .returned (.int .i64 0) ∧ w = w' := by
  go_enter Try.func18, Try.ntmps18
  go_wp2
  go_ret
  exact ⟨rfl, rfl⟩
theorem len_cell (q : Nat) (A : Option Addr) (n c : Nat) (w : World) (h2 : w.cell? ⟨q, 1, none⟩ = some (.slice A n c)) :
    Calls Try.prog 18 #[.pointer (some ⟨q, 0, none⟩)] w fun e w' => e = .returned (.int .i64 n) ∧ w = w' := by
  go_enter Try.func18, Try.ntmps18
  go_wp2
  go_ret
  exact ⟨rfl, rfl⟩
theorem len_any {w : World} {B q : Nat} {v : Value} {D : Nat → Prop} {l : List Ent} (h : QAt w B q v D l) :
    Calls Try.prog 18 #[.pointer (some ⟨q, 0, none⟩)] w fun e w' => e = .returned (.int .i64 l.length) ∧ w = w' := by
  have ho := h.own
  obtain ⟨A, c, rfl⟩ := ho.form
  exact len_cell q A _ c w (by rw [h.blk.cell]; rfl)

/-- may the entry be? -/
def badE (x : Ent) : Bool := decide (x.1 < 1 ∨ x.1 > 1099511627776 ∨ x.2.2 < 0 ∨ x.2.2 > 1099511627776 ∨ 1002 < x.2.1.length)
def addCode (l : List Ent) (x : Ent) : Int := if badE x then 1 else if 64 ≤ l.length then 5 else 0
def addQ (l : List Ent) (x : Ent) : List Ent := if addCode l x = 0 then l ++ [x] else l

theorem add_bad {w : World} {B q : Nat} {v : Value} {D : Nat → Prop} {l : List Ent} (h : QAt w B q v D l) (x : Ent) (A : Option Addr) (c : Nat) (hx : badE x = true) :
    Calls Try.prog 15 #[.pointer (some ⟨q, 0, none⟩), .agg #[.int .i64 x.1, .slice A x.2.1.length c, .int .i64 x.2.2]] w fun e w' => e = .returned (.int .i64 1) ∧ Below w.heap.size w w' := by
  obtain ⟨tt, data, need⟩ := x
  have c0 := h.blk.cell 0
  have c1 := h.blk.cell 1
  simp at c0 c1
  have hq := h.blk.lt
  simp only [badE, decide_eq_true_eq] at hx
  dsimp only at hx ⊢
  clear h
  by_cases h1 : tt < 1
  · clear hx
    go_enter Try.func15, Try.ntmps15
    go_wp2
    go_ret
    exact ⟨rfl, (Below.refl _ _).alloc (Nat.le_refl _) _⟩
  by_cases h2 : tt > 1099511627776
  · clear hx
    go_enter Try.func15, Try.ntmps15
    go_wp2
    go_ret
    exact ⟨rfl, (Below.refl _ _).alloc (Nat.le_refl _) _⟩
  by_cases h3 : need < 0
  · clear hx
    go_enter Try.func15, Try.ntmps15
    go_wp2
    go_ret
    exact ⟨rfl, (Below.refl _ _).alloc (Nat.le_refl _) _⟩
  by_cases h4 : need > 1099511627776
  · clear hx
    go_enter Try.func15, Try.ntmps15
    go_wp2
    go_ret
    exact ⟨rfl, (Below.refl _ _).alloc (Nat.le_refl _) _⟩
  · have h5 : 1002 < data.length := by omega
    clear hx
    go_enter Try.func15, Try.ntmps15
    go_wp2
    go_ret
    exact ⟨rfl, (Below.refl _ _).alloc (Nat.le_refl _) _⟩
theorem add_full {w : World} {B q : Nat} {v : Value} {D : Nat → Prop} {l : List Ent} (h : QAt w B q v D l) (x : Ent) (A : Option Addr) (c : Nat) (hx : badE x = false) (hl : 64 ≤ l.length) :
    Calls Try.prog 15 #[.pointer (some ⟨q, 0, none⟩), .agg #[.int .i64 x.1, .slice A x.2.1.length c, .int .i64 x.2.2]] w fun e w' => e = .returned (.int .i64 5) ∧ Below w.heap.size w w' := by
  obtain ⟨tt, data, need⟩ := x
  have c0 := h.blk.cell 0
  have c1 := h.blk.cell 1
  have ho := h.own
  obtain ⟨A', c', rfl⟩ := ho.form
  simp at c0 c1
  have hq := h.blk.lt
  simp only [badE, decide_eq_false_iff_not] at hx
  dsimp only at hx ⊢
  have h1 : 1 ≤ tt := by omega
  have h2 : tt ≤ 1099511627776 := by omega
  have h3 : 0 ≤ need := by omega
  have h4 : need ≤ 1099511627776 := by omega
  have h5 : data.length ≤ 1002 := by omega
  clear h hx ho
  go_enter Try.func15, Try.ntmps15
  go_wp2
  go_ret
  exact ⟨rfl, (Below.refl _ _).alloc (Nat.le_refl _) _⟩
end Go.Proofs.Ytpkgdlhiblgdnaa
