/- Words and contracts on the way to the laws of this seat: each theorem says what a function of the program computes and which memory it leaves as it was; its conditions are its hypotheses. -/
import Derived.WalkKit
import Derived.WalkSpells
import Derived.WalkLawsBesides
import Derived.Deep.RegionLaw
import Derived.Deep.RegionHeld3
import Derived.Deep.AppendLies
import Derived.Deep.DeepFit
import Derived.Deep.QuietTactic
import Derived.BigQuiet
import Derived.Deep.LoopGhost
import Derived.Deep.DeepCutAuto
import Derived.Deep.CutBlock
import Derived.Deep.Draws
import Derived.Lib.SlBytesConst
import Derived.Deep.Slices
import Derived.ChangeArms
import Derived.Test.YtnihobjehelagaaDoorRows
section
open Go.RowKit
namespace Go.Pl

theorem run_eql_slice_nil' {P : Program} (w : World) (t e : TypeId) (a : Option Addr) (n c : Nat) (h : P.underlying t = some (.slice e)) :
    (binOp .eql t (.slice a n c) (.slice none 0 0)).run P w = .ok (.bool a.isNone) w := by
  have := Lib.run_eql_slice_nil (P := P) w t e a n c 0 0 h
  simpa using this
attribute [go_sem] run_eql_slice_nil'

theorem hid {p : Prop} (h : p) : Hid p := h

/-! ### worlds -/
/-- only old blocks of S, and new ones, may have changed -/
structure Chg (S : Nat → Prop) (w w' : World) : Prop where
  os : w'.os = w.os
  tape : w'.tape = w.tape
  output : w'.output = w.output
  size : w.heap.size ≤ w'.heap.size
  block : ∀ k, k < w.heap.size → ¬ S k → w'.heap[k]? = w.heap[k]?

theorem Chg.refl (S : Nat → Prop) (w : World) : Chg S w w := ⟨rfl, rfl, rfl, Nat.le_refl _, fun _ _ _ => rfl⟩
theorem Chg.mono {S S' : Nat → Prop} {w w' : World} (h : Chg S w w') (hs : ∀ k, k < w.heap.size → S k → S' k) : Chg S' w w' :=
  ⟨h.os, h.tape, h.output, h.size, fun k hk hn => h.block k hk (fun hh => hn (hs k hk hh))⟩
/-- second step may change S2: old ones of S2 must be in S or new -/
theorem Chg.trans {S S' : Nat → Prop} {a b c : World} (h : Chg S a b) (k : Chg S' b c) (hs : ∀ i, i < a.heap.size → S' i → S i) : Chg S a c :=
  ⟨k.os.trans h.os, k.tape.trans h.tape, k.output.trans h.output, Nat.le_trans h.size k.size,
    fun i hi hn => (k.block i (Nat.lt_of_lt_of_le hi h.size) (fun hh => hn (hs i hi hh))).trans (h.block i hi hn)⟩
theorem Chg.of_grownBy {w w' : World} {row : Option Nat} (h : w.grownBy w' row) : Chg (fun k => some k = row) w w' :=
  ⟨h.os, h.tape, h.output, h.size, fun k hk hn => h.block k hk hn⟩
theorem Chg.of_below {w w' : World} (h : Below w.heap.size w w') (S : Nat → Prop) : Chg S w w' :=
  ⟨h.os, h.tape, h.output, h.size, fun k hk _ => h.block k hk⟩
theorem Chg.below {S : Nat → Prop} {B : Nat} {w w' : World} (h : Chg S w w') (hB : B ≤ w.heap.size) (hs : ∀ k, k < B → ¬ S k) : Below B w w' :=
  ⟨h.os, h.tape, h.output, h.size, fun k hk => h.block k (by omega) (hs k hk)⟩
theorem Chg.alloc {S : Nat → Prop} {a w : World} (h : Chg S a w) (o : Obj) : Chg S a (w.alloc o) :=
  ⟨h.os, h.tape, h.output, Nat.le_trans h.size (by simp), fun k hk hn => (Below.heap_alloc w o k (by have := h.size; omega)).trans (h.block k hk hn)⟩
theorem Chg.drew {S : Nat → Prop} {a w : World} (h : Chg S a w) : Chg S a w.drew := ⟨h.os, h.tape, h.output, h.size, h.block⟩
theorem Chg.drewN {S : Nat → Prop} {a w : World} (h : Chg S a w) (n : Nat) : Chg S a (w.drewN n) := ⟨h.os, h.tape, h.output, h.size, h.block⟩
theorem Chg.setCell {S : Nat → Prop} {a w : World} (h : Chg S a w) {p : Addr} (hp : S p.block ∨ a.heap.size ≤ p.block) (u : Value) : Chg S a (w.setCell p u) :=
  ⟨h.os, h.tape, h.output, by simpa [World.setCell] using h.size, fun i hi hn => (Below.heap_setCell w p u i (by
    rintro rfl
    rcases hp with hp | hp
    · exact hn hp
    · omega)).trans (h.block i hi hn)⟩
theorem Chg.cell {S : Nat → Prop} {w w' : World} (h : Chg S w w') {p : Addr} (hp : p.block < w.heap.size) (hn : ¬ S p.block) : w'.cell? p = w.cell? p :=
  World.cell?_of_block (h.block p.block hp hn)
theorem Chg.frozen {S : Nat → Prop} {w w' : World} (h : Chg S w w') {p : Addr} (hp : p.block < w.heap.size) (hn : ¬ S p.block) : w'.frozen? p = w.frozen? p :=
  World.frozen?_of_block (h.block p.block hp hn)

theorem below_drewN {B : Nat} {a w : World} (h : Below B a w) (n : Nat) : Below B a (w.drewN n) := ⟨h.os, h.tape, h.output, h.size, h.block⟩

/-- what a walk wants behind a call that keeps everything below B: the two rules -/
theorem bcell {B : Nat} {W w1 : World} (hb : Below B W w1) : (∀ b o, b < B → w1.cell? ⟨b, o, none⟩ = W.cell? ⟨b, o, none⟩) ∧ (∀ b o, b < B → w1.frozen? ⟨b, o, none⟩ = W.frozen? ⟨b, o, none⟩) :=
  ⟨fun b o h => hb.cell (p := ⟨b, o, none⟩) h, fun b o h => hb.frozen (p := ⟨b, o, none⟩) h⟩

/-! ### a block known whole -/
def Blk (w : World) (g : Nat) (t : TypeId) (cs : Array Value) : Prop := w.heap[g]? = some (.cells cs t (0, 0))
section
variable {w w' : World} {g : Nat} {t : TypeId} {cs : Array Value}
theorem Blk.lt (h : Blk w g t cs) : g < w.heap.size := by
  rcases Nat.lt_or_ge g w.heap.size with hlt | hge
  · exact hlt
  · unfold Blk at h; rw [Array.getElem?_eq_none hge] at h; cases h
theorem Blk.cell (h : Blk w g t cs) (i : Nat) : w.cell? ⟨g, i, none⟩ = cs[i]? := cell_of_row w g i cs t (0, 0) h
theorem Blk.frozen (h : Blk w g t cs) (i : Nat) : w.frozen? ⟨g, i, none⟩ = false := by
  unfold Blk at h
  simp [World.frozen?, h]
theorem Blk.new (w : World) (t : TypeId) (cs : Array Value) : Blk (w.alloc (.cells cs t)) w.heap.size t cs := heap_alloc_new w _
theorem Blk.drew (h : Blk w g t cs) : Blk w.drew g t cs := h
theorem Blk.drewN (h : Blk w g t cs) (n : Nat) : Blk (w.drewN n) g t cs := h
theorem Blk.alloc (h : Blk w g t cs) (o : Obj) : Blk (w.alloc o) g t cs := (Below.heap_alloc w o g h.lt).trans h
theorem Blk.set_ (h : Blk w g t cs) (i : Nat) (u : Value) : Blk (w.setCell ⟨g, i, none⟩ u) g t (cs.setIfInBounds i u) := by
  unfold Blk at h ⊢
  simp [World.setCell, Array.getElem?_modify, h]
theorem Blk.far (h : Blk w g t cs) {p : Addr} (hp : g ≠ p.block) (u : Value) : Blk (w.setCell p u) g t cs := (Below.heap_setCell w p u g hp).trans h
theorem Blk.below {B : Nat} (h : Blk w g t cs) (hb : Below B w w') (hg : g < B) : Blk w' g t cs := (hb.block g hg).trans h
theorem Blk.chg {S : Nat → Prop} (h : Blk w g t cs) (hb : Chg S w w') (hg : ¬ S g) : Blk w' g t cs := (hb.block g h.lt hg).trans h
end

/-! ### what cells read as -/
structure Rep (α : Type) where
  n : Nat
  ok : World → (Nat → Prop) → List Value → α → Prop
  len : ∀ {w S cs x}, ok w S cs x → cs.length = n
  one : ∀ {w S cs x}, ok w S cs x → ∀ u ∈ cs, u.oneCell' = true
  frame : ∀ {w w' S cs x}, (∀ k, S k → w'.heap[k]? = w.heap[k]?) → ok w S cs x → ok w' S cs x
  mono : ∀ {w S S' cs x}, (∀ k, S k → S' k) → ok w S cs x → ok w S' cs x
  lt : ∀ {w S cs x}, ok w S cs x → ok w (fun k => S k ∧ k < w.heap.size) cs x

def Rep.i64 : Rep Int where
  n := 1
  ok := fun _ _ cs x => cs = [.int .i64 x] ∧ -9223372036854775808 ≤ x ∧ x ≤ 9223372036854775807
  len := by rintro _ _ _ _ ⟨rfl, _⟩; rfl
  one := by rintro _ _ _ _ ⟨rfl, _⟩ u hu; simp at hu; subst hu; rfl
  frame := fun _ h => h
  mono := fun _ h => h
  lt := fun h => h
def Rep.u64 : Rep Nat where
  n := 1
  ok := fun _ _ cs x => cs = [.int .u64 (x : Int)] ∧ x < 18446744073709551616
  len := by rintro _ _ _ _ ⟨rfl, _⟩; rfl
  one := by rintro _ _ _ _ ⟨rfl, _⟩ u hu; simp at hu; subst hu; rfl
  frame := fun _ h => h
  mono := fun _ h => h
  lt := fun h => h
def Rep.byte : Rep UInt8 where
  n := 1
  ok := fun _ _ cs x => cs = [.int .u8 (x.toNat : Int)]
  len := by rintro _ _ _ _ rfl; rfl
  one := by rintro _ _ _ _ rfl u hu; simp at hu; subst hu; rfl
  frame := fun _ h => h
  mono := fun _ h => h
  lt := fun h => h
def Rep.bool : Rep Bool where
  n := 1
  ok := fun _ _ cs x => cs = [.bool x]
  len := by rintro _ _ _ _ rfl; rfl
  one := by rintro _ _ _ _ rfl u hu; simp at hu; subst hu; rfl
  frame := fun _ h => h
  mono := fun _ h => h
  lt := fun h => h
def Rep.str : Rep (List UInt8) where
  n := 1
  ok := fun _ _ cs x => cs = [.string ⟨x.toArray⟩] ∧ x.length ≤ maxLen
  len := by rintro _ _ _ _ ⟨rfl, _⟩; rfl
  one := by rintro _ _ _ _ ⟨rfl, _⟩ u hu; simp at hu; subst hu; rfl
  frame := fun _ h => h
  mono := fun _ h => h
  lt := fun h => h
def Rep.prod {α β : Type} (R : Rep α) (R' : Rep β) : Rep (α × β) where
  n := R.n + R'.n
  ok := fun w S cs x => ∃ c1 c2, cs = c1 ++ c2 ∧ R.ok w S c1 x.1 ∧ R'.ok w S c2 x.2
  len := by rintro _ _ _ _ ⟨c1, c2, rfl, h1, h2⟩; simp [R.len h1, R'.len h2]
  one := by
    rintro _ _ _ _ ⟨c1, c2, rfl, h1, h2⟩ u hu
    rcases List.mem_append.1 hu with h | h
    · exact R.one h1 u h
    · exact R'.one h2 u h
  frame := by rintro _ _ _ _ _ hf ⟨c1, c2, rfl, h1, h2⟩; exact ⟨c1, c2, rfl, R.frame hf h1, R'.frame hf h2⟩
  mono := by rintro _ _ _ _ _ hf ⟨c1, c2, rfl, h1, h2⟩; exact ⟨c1, c2, rfl, R.mono hf h1, R'.mono hf h2⟩
  lt := by rintro _ _ _ _ ⟨c1, c2, rfl, h1, h2⟩; exact ⟨c1, c2, rfl, R.lt h1, R'.lt h2⟩

/-- a run of elements, cells one behind the other -/
def Run {α : Type} (R : Rep α) (w : World) (S : Nat → Prop) : List Value → List α → Prop
  | cs, [] => cs = []
  | cs, x :: l => ∃ c1 c2, cs = c1 ++ c2 ∧ R.ok w S c1 x ∧ Run R w S c2 l
section
variable {α : Type} {R : Rep α} {w w' : World} {S S' : Nat → Prop}
theorem Run.length {l : List α} : ∀ {cs}, Run R w S cs l → cs.length = l.length * R.n := by
  induction l with
  | nil => intro cs h; simp [Run] at h; simp [h]
  | cons x l ih =>
    rintro cs ⟨c1, c2, rfl, h1, h2⟩
    simp [R.len h1, ih h2, Nat.add_mul, Nat.add_comm]
theorem Run.one {l : List α} : ∀ {cs}, Run R w S cs l → ∀ u ∈ cs, u.oneCell' = true := by
  induction l with
  | nil => intro cs h u hu; simp [Run] at h; subst h; cases hu
  | cons x l ih =>
    rintro cs ⟨c1, c2, rfl, h1, h2⟩ u hu
    rcases List.mem_append.1 hu with h | h
    · exact R.one h1 u h
    · exact ih h2 u h
theorem Run.frame (hf : ∀ k, S k → w'.heap[k]? = w.heap[k]?) {l : List α} : ∀ {cs}, Run R w S cs l → Run R w' S cs l := by
  induction l with
  | nil => intro cs h; exact h
  | cons x l ih => rintro cs ⟨c1, c2, rfl, h1, h2⟩; exact ⟨c1, c2, rfl, R.frame hf h1, ih h2⟩
theorem Run.mono (hf : ∀ k, S k → S' k) {l : List α} : ∀ {cs}, Run R w S cs l → Run R w S' cs l := by
  induction l with
  | nil => intro cs h; exact h
  | cons x l ih => rintro cs ⟨c1, c2, rfl, h1, h2⟩; exact ⟨c1, c2, rfl, R.mono hf h1, ih h2⟩
theorem Run.lt {l : List α} : ∀ {cs}, Run R w S cs l → Run R w (fun k => S k ∧ k < w.heap.size) cs l := by
  induction l with
  | nil => intro cs h; exact h
  | cons x l ih => rintro cs ⟨c1, c2, rfl, h1, h2⟩; exact ⟨c1, c2, rfl, R.lt h1, ih h2⟩
theorem Run.append {l l' : List α} : ∀ {cs cs'}, Run R w S cs l → Run R w S cs' l' → Run R w S (cs ++ cs') (l ++ l') := by
  induction l with
  | nil => intro cs cs' h h'; simp [Run] at h; subst h; simpa using h'
  | cons x l ih => rintro cs cs' ⟨c1, c2, rfl, h1, h2⟩ h'; exact ⟨c1, c2 ++ cs', by simp, h1, ih h2 h'⟩
theorem Run.single {x : α} {cs : List Value} (h : R.ok w S cs x) : Run R w S cs [x] := ⟨cs, [], by simp, h, rfl⟩
theorem Run.nil : Run R w S [] ([] : List α) := rfl
/-- element i's own cells -/
theorem Run.get {l : List α} : ∀ {cs} (i : Nat) (hi : i < l.length), Run R w S cs l → ∃ c, R.ok w S c l[i] ∧ c.length = R.n ∧ ∀ j, j < R.n → cs[i * R.n + j]? = c[j]? := by
  induction l with
  | nil => intro cs i hi; simp at hi
  | cons x l ih =>
    rintro cs i hi ⟨c1, c2, rfl, h1, h2⟩
    have hl := R.len h1
    cases i with
    | zero =>
      refine ⟨c1, h1, hl, fun j hj => ?_⟩
      simp [List.getElem?_append_left (show j < c1.length by omega)]
    | succ i =>
      obtain ⟨c, hc, hcl, hg⟩ := ih i (by simpa using hi) h2
      refine ⟨c, by simpa using hc, hcl, fun j hj => ?_⟩
      rw [← hg j hj, List.getElem?_append_right (by rw [hl, Nat.add_mul]; omega)]
      congr 1
      rw [hl, Nat.add_mul]; omega
theorem Run.split {l l' : List α} : ∀ {cs}, Run R w S cs (l ++ l') → ∃ c1 c2, cs = c1 ++ c2 ∧ Run R w S c1 l ∧ Run R w S c2 l' := by
  induction l with
  | nil => intro cs h; exact ⟨[], cs, rfl, rfl, h⟩
  | cons x l ih =>
    rintro cs ⟨c1, c2, rfl, h1, h2⟩
    obtain ⟨d1, d2, rfl, h3, h4⟩ := ih h2
    exact ⟨c1 ++ d1, d2, by simp, ⟨c1, d1, rfl, h1, h3⟩, h4⟩
end

/-- a slice value that reads as the list l -/
def Sl {α : Type} (R : Rep α) (w : World) (S : Nat → Prop) (v : Value) (l : List α) : Prop :=
  ∃ A cap, v = .slice A l.length cap ∧ l.length ≤ cap ∧ cap ≤ maxLen ∧
    ∃ cs, Run R w S cs l ∧ (l ≠ [] → ∃ g off, A = some ⟨g, off, none⟩ ∧ S g ∧ ∀ j, j < cs.length → w.cell? ⟨g, off + j, none⟩ = cs[j]?)

section
variable {α : Type} {R : Rep α} {w w' : World} {S S' : Nat → Prop} {v : Value} {l : List α}
theorem Sl.frame (hf : ∀ k, S k → w'.heap[k]? = w.heap[k]?) (h : Sl R w S v l) : Sl R w' S v l := by
  obtain ⟨A, cap, hv, h1, h2, cs, hr, hh⟩ := h
  refine ⟨A, cap, hv, h1, h2, cs, hr.frame hf, fun hn => ?_⟩
  obtain ⟨g, off, hA, hS, hc⟩ := hh hn
  exact ⟨g, off, hA, hS, fun j hj => (World.cell?_of_block (hf g hS)).trans (hc j hj)⟩
theorem Sl.mono (hf : ∀ k, S k → S' k) (h : Sl R w S v l) : Sl R w S' v l := by
  obtain ⟨A, cap, hv, h1, h2, cs, hr, hh⟩ := h
  refine ⟨A, cap, hv, h1, h2, cs, hr.mono hf, fun hn => ?_⟩
  obtain ⟨g, off, hA, hS, hc⟩ := hh hn
  exact ⟨g, off, hA, hf g hS, hc⟩
theorem Sl.lt (hR : 0 < R.n) (h : Sl R w S v l) : Sl R w (fun k => S k ∧ k < w.heap.size) v l := by
  obtain ⟨A, cap, hv, h1, h2, cs, hr, hh⟩ := h
  refine ⟨A, cap, hv, h1, h2, cs, hr.lt, fun hn => ?_⟩
  obtain ⟨g, off, hA, hS, hc⟩ := hh hn
  have hl := hr.length
  have hpos : 0 < cs.length := by rw [hl]; exact Nat.mul_pos (List.length_pos_iff.2 hn) hR
  refine ⟨g, off, hA, ⟨hS, ?_⟩, hc⟩
  exact World.block_lt_of_cell? w _ ((hc 0 hpos).trans (List.getElem?_eq_getElem hpos))
theorem Sl.below {B : Nat} (h : Sl R w (· < B) v l) (hb : Below B w w') : Sl R w' (· < B) v l := h.frame fun k hk => hb.block k hk
theorem Sl.chg {M : Nat → Prop} (h : Sl R w S v l) (hc : Chg M w w') (hlt : ∀ k, S k → k < w.heap.size) (hd : ∀ k, S k → ¬ M k) : Sl R w' S v l := h.frame fun k hk => hc.block k (hlt k hk) (hd k hk)
theorem Sl.nil (R : Rep α) (w : World) (S : Nat → Prop) : Sl R w S (.slice none 0 0) [] :=
  ⟨none, 0, rfl, Nat.le_refl _, Nat.zero_le _, [], rfl, fun h => absurd rfl h⟩
theorem Sl.length_le (h : Sl R w S v l) : l.length ≤ maxLen := by
  obtain ⟨A, cap, hv, h1, h2, _⟩ := h; omega
theorem Sl.one (h : Sl R w S v l) : v.oneCell' = true := by
  obtain ⟨A, cap, rfl, _⟩ := h; rfl
end
def Rep.slice {α : Type} (R : Rep α) (hR : 0 < R.n) : Rep (List α) where
  n := 1
  ok := fun w S cs l => ∃ v, cs = [v] ∧ Sl R w S v l
  len := by rintro _ _ _ _ ⟨v, rfl, h⟩; rfl
  one := by rintro _ _ _ _ ⟨v, rfl, h⟩ u hu; simp at hu; subst hu; exact h.one
  frame := by rintro _ _ _ _ _ hf ⟨v, rfl, h⟩; exact ⟨v, rfl, h.frame hf⟩
  mono := by rintro _ _ _ _ _ hf ⟨v, rfl, h⟩; exact ⟨v, rfl, h.mono hf⟩
  lt := by rintro _ _ _ _ ⟨v, rfl, h⟩; exact ⟨v, rfl, h.lt hR⟩


/-- kept where the old blocks of S are kept -/
theorem Sl.keep {α : Type} {R : Rep α} {w w' : World} {S S' : Nat → Prop} {v : Value} {l : List α} (hR : 0 < R.n) (h : Sl R w S v l) (hf : ∀ k, k < w.heap.size → S k → w'.heap[k]? = w.heap[k]?) (hS : ∀ k, k < w.heap.size → S k → S' k) : Sl R w' S' v l :=
  ((h.lt hR).frame fun k hk => hf k hk.2 hk.1).mono fun k hk => hS k hk.2 hk.1
theorem Rep.keep {α : Type} (R : Rep α) {w w' : World} {S S' : Nat → Prop} {cs : List Value} {x : α} (h : R.ok w S cs x) (hf : ∀ k, k < w.heap.size → S k → w'.heap[k]? = w.heap[k]?) (hS : ∀ k, k < w.heap.size → S k → S' k) : R.ok w' S' cs x :=
  R.mono (fun k hk => hS k hk.2 hk.1) (R.frame (fun k hk => hf k hk.2 hk.1) (R.lt h))
theorem Run.keep {α : Type} {R : Rep α} {w w' : World} {S S' : Nat → Prop} {cs : List Value} {l : List α} (h : Run R w S cs l) (hf : ∀ k, k < w.heap.size → S k → w'.heap[k]? = w.heap[k]?) (hS : ∀ k, k < w.heap.size → S k → S' k) : Run R w' S' cs l :=
  (h.lt.frame fun k hk => hf k hk.2 hk.1).mono fun k hk => hS k hk.2 hk.1

/-! ### owned rows -/
/-- what a slice type's element is in the table -/
def Elem (P : Program) (t e size bytes : Nat) : Prop :=
  P.underlying t = some (.slice e) ∧ 0 < size ∧ ∃ (i : TypeInfo) (z : Value), P.info? e = some i ∧ i.zero = some z ∧ i.size = size ∧ i.bytes = bytes ∧ z.cells.size = size
theorem Elem.mk {P : Program} {t e size bytes : Nat} {z : Value} (ht : P.underlying t = some (.slice e)) (h : (P.info? e).map (fun i => (i.zero, i.size, i.bytes)) = some (some z, size, bytes)) (hz : z.cells.size = size) (hs : 0 < size) : Elem P t e size bytes := by
  obtain ⟨i, hi, h1, h2, h3⟩ := info_parts h
  exact ⟨ht, hs, i, z, hi, h1, h2, h3, hz⟩

/-- the slice v owns (in a block of its own, from base on, not of S) the elements l, whose inner memory lies in S -/
structure Own {α : Type} (R : Rep α) (w : World) (base : Nat) (e : TypeId) (S : Nat → Prop) (v : Value) (l : List α) : Prop where
  ex : ∃ xs, w.ownsRow base e R.n v l.length xs ∧ Run R w S xs l
  apart : ∀ g, v.ownBlock = some g → ¬ S g
section
variable {α : Type} {R : Rep α} {w w' : World} {S S' : Nat → Prop} {v : Value} {l l' : List α} {base : Nat} {e : TypeId}
theorem Own.nil (R : Rep α) (w : World) (base : Nat) (e : TypeId) (S : Nat → Prop) : Own R w base e S (.slice none 0 0) [] :=
  ⟨⟨[], World.ownsRow_nil _ _ _ _, rfl⟩, fun g hg => by simp [Value.ownBlock] at hg⟩
theorem Own.made (R : Rep α) (w : World) (base : Nat) (e : TypeId) (S : Nat → Prop) (hb : base ≤ w.heap.size) (hS : ¬ S w.heap.size) :
    Own R (w.alloc (.cells #[] e)) base e S (.slice (some ⟨w.heap.size, 0, none⟩) 0 0) [] :=
  ⟨⟨[], World.ownsRow_made w #[] 0 hb (Nat.zero_le _) (by simp), rfl⟩, fun g hg => by simp [Value.ownBlock] at hg; subst hg; exact hS⟩
theorem Own.form (h : Own R w base e S v l) : ∃ A c, v = .slice A l.length c := by
  obtain ⟨xs, hx, _⟩ := h.ex
  rcases hx.2 with ⟨rfl, h0⟩ | ⟨g, cap, cur, hv, _⟩
  · exact ⟨none, 0, by rw [h0]⟩
  · exact ⟨_, cap, hv⟩
theorem Own.block (h : Own R w base e S v l) : ∀ g, v.ownBlock = some g → base ≤ g ∧ g < w.heap.size := by
  obtain ⟨xs, hx, _⟩ := h.ex
  exact hx.lt
/-- kept where neither its own row nor its elements' memory is touched -/
theorem Own.keep (h : Own R w base e S v l) (hf : ∀ k, (S k ∨ v.ownBlock = some k) → w'.heap[k]? = w.heap[k]?) : Own R w' base e S v l := by
  obtain ⟨⟨xs, hx, hr⟩, ha⟩ := h
  refine ⟨⟨xs, ⟨hx.1, ?_⟩, hr.frame fun k hk => hf k (.inl hk)⟩, ha⟩
  rcases hx.2 with h0 | ⟨g, cap, cur, hv, hb, hg, rest⟩
  · exact .inl h0
  · exact .inr ⟨g, cap, cur, hv, hb, by rw [hf g (.inr (by rw [hv]; rfl))]; exact hg, rest⟩
theorem Own.lower {base' : Nat} (h : Own R w base e S v l) (hb : base' ≤ base) : Own R w base' e S v l := by
  obtain ⟨⟨xs, hx, hr⟩, ha⟩ := h
  refine ⟨⟨xs, ⟨hx.1, ?_⟩, hr⟩, ha⟩
  rcases hx.2 with h0 | ⟨g, cap, cur, hv, hb', rest⟩
  · exact .inl h0
  · exact .inr ⟨g, cap, cur, hv, by omega, rest⟩
theorem Own.mono (h : Own R w base e S v l) (hs : ∀ k, S k → S' k) (ha : ∀ g, v.ownBlock = some g → ¬ S' g) : Own R w base e S' v l := by
  obtain ⟨⟨xs, hx, hr⟩, _⟩ := h
  exact ⟨⟨xs, hx, hr.mono hs⟩, ha⟩
theorem Own.lt (h : Own R w base e S v l) : Own R w base e (fun k => S k ∧ k < w.heap.size) v l := by
  obtain ⟨⟨xs, hx, hr⟩, ha⟩ := h
  exact ⟨⟨xs, hx, hr.lt⟩, fun g hg hh => ha g hg hh.1⟩
/-- kept where neither its own row nor its elements' memory is touched; only blocks that are there count -/
theorem Own.keep' (h : Own R w base e S v l) (hf : ∀ k, k < w.heap.size → (S k ∨ v.ownBlock = some k) → w'.heap[k]? = w.heap[k]?) (hS : ∀ k, k < w.heap.size → S k → S' k) (ha : ∀ g, v.ownBlock = some g → ¬ S' g) : Own R w' base e S' v l :=
  Own.mono (h.lt.keep fun k hk => by
    rcases hk with hk | hk
    · exact hf k hk.2 (.inl hk.1)
    · exact hf k (h.block k hk).2 (.inr hk)) (fun k hk => hS k hk.2 hk.1) ha
/-- as a slice that is read -/
theorem Own.sl (h : Own R w base e S v l) (hs : ∀ k, S k → S' k) (ho : ∀ g, v.ownBlock = some g → S' g) : Sl R w S' v l := by
  obtain ⟨⟨xs, hx, hr⟩, _⟩ := h
  rcases hx.2 with ⟨rfl, h0⟩ | ⟨g, cap, cur, rfl, hb, hg, h1, h2, h3, h4⟩
  · have : l = [] := List.eq_nil_of_length_eq_zero h0
    subst this
    exact Sl.nil _ _ _
  · refine ⟨_, cap, rfl, h1, h2, xs, hr.mono hs, fun _ => ⟨g, 0, rfl, ho g rfl, fun j hj => ?_⟩⟩
    have := hx.cells (g := g) rfl j xs[j] (by simp [hj])
    rw [show (⟨g, 0, none⟩ : Addr).add j = ⟨g, 0 + j, none⟩ from by unfold Addr.add; split <;> simp_all] at this
    rw [this]; simp [hj]
/-- element k's cells -/
theorem Own.at_ (h : Own R w base e S v l) (k : Nat) (hk : k < l.length) : ∃ g c ec, v = .slice (some ⟨g, 0, none⟩) l.length c ∧ base ≤ g ∧ g < w.heap.size ∧ R.ok w S ec l[k] ∧ ec.length = R.n ∧
    ∀ j, j < R.n → w.cell? ⟨g, k * R.n + j, none⟩ = ec[j]? := by
  obtain ⟨⟨xs, hx, hr⟩, _⟩ := h
  obtain ⟨ec, hok, hl, hget⟩ := hr.get k hk
  rcases hx.2 with ⟨_, h0⟩ | ⟨g, cap, cur, hv, hb, hg, h1, h2, h3, h4⟩
  · omega
  · refine ⟨g, cap, ec, hv, hb, (Array.getElem?_eq_some_iff.1 hg).1, hok, hl, fun j hj => ?_⟩
    have hlen := hr.length
    have hle : (k + 1) * R.n ≤ xs.length := by rw [hlen]; exact Nat.mul_le_mul_right _ hk
    have hlt : k * R.n + j < xs.length := by rw [Nat.add_mul] at hle; omega
    have := hx.cells (g := g) (by rw [hv]; rfl) (k * R.n + j) xs[k * R.n + j] (by simp [hlt])
    rw [show (⟨g, 0, none⟩ : Addr).add (k * R.n + j) = ⟨g, k * R.n + j, none⟩ from by unfold Addr.add; split <;> simp_all] at this
    rw [this, ← hget j hj, List.getElem?_eq_getElem hlt]
theorem Own.slOf (h : Own R w base e S v l) : Sl R w (fun k => S k ∨ v.ownBlock = some k) v l := h.sl (fun _ h => .inl h) (fun _ h => .inr h)
theorem Own.len_le (h : Own R w base e S v l) : l.length ≤ maxLen := by
  obtain ⟨xs, hx, _⟩ := h.ex
  rcases hx.2 with ⟨_, h0⟩ | ⟨g, cap, cur, _, _, _, h1, h2, _⟩
  · rw [h0]; exact Nat.zero_le _
  · omega
end

section
variable {P : Program} {α : Type} {R : Rep α} {w w' : World} {S S' : Nat → Prop} {v : Value} {l l' : List α} {base : Nat} {e : TypeId}
/-- what an append leaves -/
structure App {α : Type} (R : Rep α) (base : Nat) (e : TypeId) (S : Nat → Prop) (w : World) (v : Value) (l : List α) (v' : Value) (w' : World) : Prop where
  own : Own R w' base e S v' l
  grown : w.grownBy w' v.ownBlock
  at_ : ∀ g, v'.ownBlock = some g → v.ownBlock = some g ∨ w.heap.size ≤ g

theorem run_app {t ty bytes : Nat} (E : Elem P t e R.n bytes) (hown : Own R w base e S v l) (hSlt : ∀ k, S k → k < w.heap.size)
    {ad : Addr} {m c : Nat} {news : List Value} (hnews : Run R w S news l') (hm : m = l'.length) (hcell : ∀ j u, news[j]? = some u → w.cell? (ad.add j) = some u)
    (h63 : l.length + m ≤ maxLen) (hbytes : (l.length + m) * bytes ≤ 140737488355328) (hbase : base ≤ w.heap.size) :
    ∃ v' w', (Builtin.append_ #[t, t] ty #[v, .slice (some ad) m c]).run P w = .ok v' w' ∧ App R base e S w v (l ++ l') v' w' := by
  obtain ⟨ht, hs0, i, z, hi, hz, hsz, hby, hzs⟩ := E
  subst hm
  have hown' := hown
  obtain ⟨⟨xs, hx, hr⟩, ha⟩ := hown
  obtain ⟨v', w', hrun, h2, h3, _, h5⟩ := run_append_own_at (P := P) w base t ty e i z R.n bytes ht hi hz hsz hby hzs hs0 v l.length xs hx ad l'.length c news hnews.length hcell hnews.one h63 hbytes hbase
  refine ⟨v', w', hrun, ⟨⟨xs ++ news, by simpa using h2, (hr.append hnews).frame fun k hk => h3.block k (hSlt k hk) (fun e => ha k e.symm hk)⟩, fun g hg => ?_⟩, h3, fun g hg => ?_⟩
  rotate_left
  · rcases h5 with h5 | h5
    · exact .inl (h5 ▸ hg)
    · rw [h5] at hg
      injection hg with hg
      exact .inr (by omega)
  rcases h5 with h5 | h5
  · exact ha g (by rw [← h5]; exact hg)
  · intro hS
    have := hSlt g hS
    rw [h5] at hg
    injection hg with hg
    omega

theorem wp_app {o : Oper} {a : Act} {K : Act → World → Prop} {Q : Exit → Act → World → Prop} (s x : Operand) (t : TypeId) {bytes : Nat}
    (ho : o.op = .call { callee := .builtin .append, args := #[s, x], argTypes := #[t, t] })
    (E : Elem P t e R.n bytes) (hs : a.eval s = v) (hown : Own R w base e S v l) (hSlt : ∀ k, S k → k < w.heap.size)
    {ad : Addr} {m c : Nat} {news : List Value} (hx : a.eval x = .slice (some ad) m c) (hnews : Run R w S news l') (hm : m = l'.length) (hcell : ∀ j u, news[j]? = some u → w.cell? (ad.add j) = some u)
    (h63 : l.length + m ≤ maxLen) (hbytes : (l.length + m) * bytes ≤ 140737488355328) (hbase : base ≤ w.heap.size)
    (h : ∀ v' w', App R base e S w v (l ++ l') v' w' → K (a.put o.dst v') w') : o.wp P a w K Q := by
  obtain ⟨v', w', hr, h2⟩ := run_app (P := P) (ty := o.type) (c := c) E hown hSlt hnews hm hcell h63 hbytes hbase
  unfold Oper.wp execOp
  simp only [ho, resolve, invoke, builtin, Sem.run_bind, Sem.run_pure, Result.andThen_ok, List.map_toArray, List.map_cons, List.map_nil, hs, hx, hr]
  exact h v' w' h2
theorem wpList_app {ops : Array Oper} {rest : List Oper} {o : Oper} {a : Act} {Q : Exit → Act → World → Prop} (hgd : o.guard = none) (s x : Operand) (t : TypeId) {bytes : Nat}
    (ho : o.op = .call { callee := .builtin .append, args := #[s, x], argTypes := #[t, t] })
    (E : Elem P t e R.n bytes) (hs : a.eval s = v) (hown : Own R w base e S v l) (hSlt : ∀ k, S k → k < w.heap.size)
    {ad : Addr} {m c : Nat} {news : List Value} (hx : a.eval x = .slice (some ad) m c) (hnews : Run R w S news l') (hm : m = l'.length) (hcell : ∀ j u, news[j]? = some u → w.cell? (ad.add j) = some u)
    (h63 : l.length + m ≤ maxLen) (hbytes : (l.length + m) * bytes ≤ 140737488355328) (hbase : base ≤ w.heap.size)
    (h : ∀ v' w', App R base e S w v (l ++ l') v' w' → wpList P ops Q rest (a.put o.dst v') w') : wpList P ops Q (o :: rest) a w :=
  wpList_plain hgd fun _ hK => wp_app s x t ho E hs hown hSlt hx hnews hm hcell h63 hbytes hbase fun v' w' h2 => hK _ _ (h v' w' h2)
theorem step_app {ops : Array Oper} {o : Oper} {a : Act} {K : Act → World → Prop} {Q : Exit → Act → World → Prop} {Els : Prop} (hgd : o.guard = none) (s x : Operand) (t : TypeId) {bytes : Nat}
    (ho : o.op = .call { callee := .builtin .append, args := #[s, x], argTypes := #[t, t] })
    (E : Elem P t e R.n bytes) (hs : a.eval s = v) (hown : Own R w base e S v l) (hSlt : ∀ k, S k → k < w.heap.size)
    {ad : Addr} {m c : Nat} {news : List Value} (hx : a.eval x = .slice (some ad) m c) (hnews : Run R w S news l') (hm : m = l'.length) (hcell : ∀ j u, news[j]? = some u → w.cell? (ad.add j) = some u)
    (h63 : l.length + m ≤ maxLen) (hbytes : (l.length + m) * bytes ≤ 140737488355328) (hbase : base ≤ w.heap.size)
    (h : ∀ v' w', App R base e S w v (l ++ l') v' w' → K (a.put o.dst v') w') :
    if Region.wanted o (yielded ops a.tmps) = true then Oper.wp P o a w K Q else Els := by
  have hw : Region.wanted o (yielded ops a.tmps) = true := by simp [Region.wanted, hgd]
  rw [if_pos hw]
  exact wp_app s x t ho E hs hown hSlt hx hnews hm hcell h63 hbytes hbase h

/-- the source is a slice that reads as l' (nil, empty or not) -/
theorem run_apps {t ty bytes : Nat} (E : Elem P t e R.n bytes) (hown : Own R w base e S v l) (hSlt : ∀ k, S k → k < w.heap.size)
    {x : Value} {S2 : Nat → Prop} (hnews : Sl R w S2 x l') (hS2 : ∀ cs, Run R w S2 cs l' → Run R w S cs l')
    (h63 : l.length + l'.length ≤ maxLen) (hbytes : (l.length + l'.length) * bytes ≤ 140737488355328) (hbase : base ≤ w.heap.size) :
    ∃ v' w', (Builtin.append_ #[t, t] ty #[v, x]).run P w = .ok v' w' ∧ App R base e S w v (l ++ l') v' w' := by
  obtain ⟨A, cap, rfl, h1, h2, cs, hr, hh⟩ := hnews
  cases hA : A with
  | some ad =>
    refine run_app E hown hSlt (hS2 cs hr) rfl (fun j u hu => ?_) h63 hbytes hbase
    have hne : l' ≠ [] := by
      rintro rfl
      simp [Run] at hr; subst hr; simp at hu
    obtain ⟨g, off, hA', _, hc⟩ := hh hne
    rw [hA] at hA'
    injection hA' with hA'
    subst hA'
    have hj : j < cs.length := by
      rcases Nat.lt_or_ge j cs.length with h | h
      · exact h
      · rw [List.getElem?_eq_none h] at hu; cases hu
    rw [show (⟨g, off, none⟩ : Addr).add j = ⟨g, off + j, none⟩ from by unfold Addr.add; split <;> simp_all, hc j hj, hu]
  | none =>
    have hl : l' = [] := by
      by_cases hne : l' = []
      · exact hne
      · obtain ⟨g, off, hA', _⟩ := hh hne
        rw [hA] at hA'; cases hA'
    subst hl
    obtain ⟨ht, hs0, i, z, hi, hz, hsz, hby, hzs⟩ := E
    refine ⟨v, w, ?_, ⟨by simpa using hown, World.grownBy.refl w _, fun _ h => .inl h⟩⟩
    obtain ⟨xs, hx, _⟩ := hown.ex
    rcases hx.2 with ⟨rfl, _⟩ | ⟨g, cap, cur, rfl, _, _, hnc, _⟩
    · simp [Builtin.append_, run_underlying ht, sizeOf, typeInfo, hi, Builtin.lenOf, Builtin.firstCells]
    · simp [Builtin.append_, run_underlying ht, sizeOf, typeInfo, hi, Builtin.lenOf, Builtin.firstCells, hnc, storeCells]
theorem wp_apps {o : Oper} {a : Act} {K : Act → World → Prop} {Q : Exit → Act → World → Prop} (s x : Operand) (t : TypeId) {bytes : Nat}
    (ho : o.op = .call { callee := .builtin .append, args := #[s, x], argTypes := #[t, t] })
    (E : Elem P t e R.n bytes) (hs : a.eval s = v) (hown : Own R w base e S v l) (hSlt : ∀ k, S k → k < w.heap.size)
    {xv : Value} {S2 : Nat → Prop} (hx : a.eval x = xv) (hnews : Sl R w S2 xv l') (hS2 : ∀ cs, Run R w S2 cs l' → Run R w S cs l')
    (h63 : l.length + l'.length ≤ maxLen) (hbytes : (l.length + l'.length) * bytes ≤ 140737488355328) (hbase : base ≤ w.heap.size)
    (h : ∀ v' w', App R base e S w v (l ++ l') v' w' → K (a.put o.dst v') w') : o.wp P a w K Q := by
  obtain ⟨v', w', hr, h2⟩ := run_apps (P := P) (ty := o.type) E hown hSlt hnews hS2 h63 hbytes hbase
  unfold Oper.wp execOp
  simp only [ho, resolve, invoke, builtin, Sem.run_bind, Sem.run_pure, Result.andThen_ok, List.map_toArray, List.map_cons, List.map_nil, hs, hx, hr]
  exact h v' w' h2
theorem wpList_apps {ops : Array Oper} {rest : List Oper} {o : Oper} {a : Act} {Q : Exit → Act → World → Prop} (hgd : o.guard = none) (s x : Operand) (t : TypeId) {bytes : Nat}
    (ho : o.op = .call { callee := .builtin .append, args := #[s, x], argTypes := #[t, t] })
    (E : Elem P t e R.n bytes) (hs : a.eval s = v) (hown : Own R w base e S v l) (hSlt : ∀ k, S k → k < w.heap.size)
    {xv : Value} {S2 : Nat → Prop} (hx : a.eval x = xv) (hnews : Sl R w S2 xv l') (hS2 : ∀ cs, Run R w S2 cs l' → Run R w S cs l')
    (h63 : l.length + l'.length ≤ maxLen) (hbytes : (l.length + l'.length) * bytes ≤ 140737488355328) (hbase : base ≤ w.heap.size)
    (h : ∀ v' w', App R base e S w v (l ++ l') v' w' → wpList P ops Q rest (a.put o.dst v') w') : wpList P ops Q (o :: rest) a w :=
  wpList_plain hgd fun _ hK => wp_apps s x t ho E hs hown hSlt hx hnews hS2 h63 hbytes hbase fun v' w' h2 => hK _ _ (h v' w' h2)
theorem step_apps {ops : Array Oper} {o : Oper} {a : Act} {K : Act → World → Prop} {Q : Exit → Act → World → Prop} {Els : Prop} (hgd : o.guard = none) (s x : Operand) (t : TypeId) {bytes : Nat}
    (ho : o.op = .call { callee := .builtin .append, args := #[s, x], argTypes := #[t, t] })
    (E : Elem P t e R.n bytes) (hs : a.eval s = v) (hown : Own R w base e S v l) (hSlt : ∀ k, S k → k < w.heap.size)
    {xv : Value} {S2 : Nat → Prop} (hx : a.eval x = xv) (hnews : Sl R w S2 xv l') (hS2 : ∀ cs, Run R w S2 cs l' → Run R w S cs l')
    (h63 : l.length + l'.length ≤ maxLen) (hbytes : (l.length + l'.length) * bytes ≤ 140737488355328) (hbase : base ≤ w.heap.size)
    (h : ∀ v' w', App R base e S w v (l ++ l') v' w' → K (a.put o.dst v') w') :
    if Region.wanted o (yielded ops a.tmps) = true then Oper.wp P o a w K Q else Els := by
  have hw : Region.wanted o (yielded ops a.tmps) = true := by simp [Region.wanted, hgd]
  rw [if_pos hw]
  exact wp_apps s x t ho E hs hown hSlt hx hnews hS2 h63 hbytes hbase h

/-- another own slice is kept by an append -/
theorem App.keep_own {β : Type} {R' : Rep β} {b' : Nat} {e' : TypeId} {S2 : Nat → Prop} {u v' : Value} {l2 : List β} (h : App R base e S w v l v' w') (hu : Own R' w b' e' S2 u l2) (hS : ∀ k, S2 k → k < w.heap.size)
    (hne : ∀ g, v.ownBlock = some g → u.ownBlock ≠ some g ∧ ¬ S2 g) : Own R' w' b' e' S2 u l2 ∧ ∀ g, v'.ownBlock = some g → u.ownBlock ≠ some g ∧ ¬ S2 g := by
  refine ⟨hu.keep fun k hk => ?_, fun g hg => ?_⟩
  · rcases hk with hk | hk
    · exact h.grown.block k (hS k hk) (fun e => (hne k e.symm).2 hk)
    · exact h.grown.block k (hu.block k hk).2 (fun e => (hne k e.symm).1 hk)
  · rcases h.at_ g hg with h1 | h1
    · exact hne g h1
    · exact ⟨fun e => by have := (hu.block g e).2; omega, fun e => by have := hS g e; omega⟩
theorem App.below {B : Nat} {w0 : World} {v' : Value} (h : App R base e S w v l v' w') (hb : Below B w0 w) (hB : B ≤ w.heap.size) (hv : ∀ g, v.ownBlock = some g → B ≤ g) : Below B w0 w' :=
  hb.grown h.grown hB hv
theorem App.form1 {x0 : α} {v' : Value} (h : App R base e S w v (l ++ [x0]) v' w') : ∃ A c, v' = .slice A (l.length + 1) c := by
  obtain ⟨A, c, h⟩ := h.own.form
  exact ⟨A, c, by rw [h]; simp⟩
/-- append of one element that has just been laid into a block of its own: all is said of the world w ahead of that block -/
theorem wp_app1 {W : World} {x0 : α} {o : Oper} {a : Act} {K : Act → World → Prop} {Q : Exit → Act → World → Prop} (s x : Operand) (t : TypeId) {bytes : Nat}
    (ho : o.op = .call { callee := .builtin .append, args := #[s, x], argTypes := #[t, t] })
    (E : Elem P t e R.n bytes) (hs : a.eval s = v) (hown : Own R w base e S v l) (hSlt : ∀ k, S k → k < w.heap.size)
    {c : Nat} {cs : Array Value} {t' : TypeId} (hx : a.eval x = .slice (some ⟨w.heap.size, 0, none⟩) 1 c) (hok : R.ok w S cs.toList x0)
    (hW : W.heap = w.heap.push (.cells cs t')) (hWo : W.os = w.os ∧ W.tape = w.tape ∧ W.output = w.output)
    (hl : l.length < 2147483648) (hby : bytes ≤ 4096) (hbase : base ≤ w.heap.size)
    (h : ∀ v' w', App R base e S w v (l ++ [x0]) v' w' → K (a.put o.dst v') w') : o.wp P a W K Q := by
  have hz : W.heap.size = w.heap.size + 1 := by rw [hW]; simp
  have hk : ∀ k, k < w.heap.size → W.heap[k]? = w.heap[k]? := fun k hk => by rw [hW, Array.getElem?_push, if_neg (by omega)]
  have hb : W.heap[w.heap.size]? = some (.cells cs t' (0, 0)) := by rw [hW]; simp
  refine wp_app (w := W) (m := 1) (l' := [x0]) s x t ho E hs (hown.keep fun k hh => hk k ?_) (fun k hh => by have := hSlt k hh; omega) hx (Run.single (R.frame (fun k hh => hk k (hSlt k hh)) hok)) rfl (World.news_of_block hb) (by simp only [maxLen]; omega) ?_ (by omega) ?_
  · rcases hh with hh | hh
    · exact hSlt k hh
    · exact (hown.block k hh).2
  · have : (l.length + 1) * bytes ≤ 2147483648 * 4096 := Nat.mul_le_mul (by omega) hby
    omega
  · intro v' w' ha
    refine h v' w' ⟨ha.own, ⟨ha.grown.os.trans hWo.1, ha.grown.tape.trans hWo.2.1, ha.grown.output.trans hWo.2.2, by have := ha.grown.size; omega, fun k hkk hne => (ha.grown.block k (by omega) hne).trans (hk k hkk)⟩, fun g hg => ?_⟩
    rcases ha.at_ g hg with h1 | h1
    · exact .inl h1
    · exact .inr (by omega)
theorem wpList_app1 {W : World} {x0 : α} {ops : Array Oper} {rest : List Oper} {o : Oper} {a : Act} {Q : Exit → Act → World → Prop} (hgd : o.guard = none) (s x : Operand) (t : TypeId) {bytes : Nat}
    (ho : o.op = .call { callee := .builtin .append, args := #[s, x], argTypes := #[t, t] })
    (E : Elem P t e R.n bytes) (hs : a.eval s = v) (hown : Own R w base e S v l) (hSlt : ∀ k, S k → k < w.heap.size)
    {c : Nat} {cs : Array Value} {t' : TypeId} (hx : a.eval x = .slice (some ⟨w.heap.size, 0, none⟩) 1 c) (hok : R.ok w S cs.toList x0)
    (hW : W.heap = w.heap.push (.cells cs t')) (hWo : W.os = w.os ∧ W.tape = w.tape ∧ W.output = w.output)
    (hl : l.length < 2147483648) (hby : bytes ≤ 4096) (hbase : base ≤ w.heap.size)
    (h : ∀ v' w', App R base e S w v (l ++ [x0]) v' w' → wpList P ops Q rest (a.put o.dst v') w') : wpList P ops Q (o :: rest) a W :=
  wpList_plain hgd fun _ hK => wp_app1 s x t ho E hs hown hSlt hx hok hW hWo hl hby hbase fun v' w' h2 => hK _ _ (h v' w' h2)
theorem step_app1 {W : World} {x0 : α} {ops : Array Oper} {o : Oper} {a : Act} {K : Act → World → Prop} {Q : Exit → Act → World → Prop} {Els : Prop} (hgd : o.guard = none) (s x : Operand) (t : TypeId) {bytes : Nat}
    (ho : o.op = .call { callee := .builtin .append, args := #[s, x], argTypes := #[t, t] })
    (E : Elem P t e R.n bytes) (hs : a.eval s = v) (hown : Own R w base e S v l) (hSlt : ∀ k, S k → k < w.heap.size)
    {c : Nat} {cs : Array Value} {t' : TypeId} (hx : a.eval x = .slice (some ⟨w.heap.size, 0, none⟩) 1 c) (hok : R.ok w S cs.toList x0)
    (hW : W.heap = w.heap.push (.cells cs t')) (hWo : W.os = w.os ∧ W.tape = w.tape ∧ W.output = w.output)
    (hl : l.length < 2147483648) (hby : bytes ≤ 4096) (hbase : base ≤ w.heap.size)
    (h : ∀ v' w', App R base e S w v (l ++ [x0]) v' w' → K (a.put o.dst v') w') :
    if Region.wanted o (yielded ops a.tmps) = true then Oper.wp P o a W K Q else Els := by
  have hw : Region.wanted o (yielded ops a.tmps) = true := by simp [Region.wanted, hgd]
  rw [if_pos hw]
  exact wp_app1 s x t ho E hs hown hSlt hx hok hW hWo hl hby hbase h

end

/-! ### bits of bytes -/
theorem u8_andB (b m : UInt8) : bits .and .u8 (b.toNat : Int) (m.toNat : Int) = ((b &&& m).toNat : Int) := by
  rw [u8_and_nat _ _ b.toNat_lt m.toNat_lt, UInt8.toNat_and]

theorem u8_ofNat {k : Nat} (h : k < 256) : (UInt8.ofNat k).toNat = k := by
  rw [UInt8.toNat_ofNat']; omega

/-! ### bytes -/
def bv (b : UInt8) : Value := .int .u8 (b.toNat : Int)
theorem run_byte {w : World} {S : Nat → Prop} {l : List UInt8} : ∀ {cs}, Run Rep.byte w S cs l ↔ cs = l.map bv := by
  induction l with
  | nil => intro cs; simp [Run]
  | cons x l ih =>
    intro cs
    simp only [Run, List.map_cons]
    constructor
    · rintro ⟨c1, c2, rfl, rfl, h2⟩
      rw [ih.1 h2]; rfl
    · rintro rfl
      exact ⟨[bv x], l.map bv, rfl, rfl, ih.2 rfl⟩
theorem run_byte_any {w w' : World} {S S' : Nat → Prop} {l : List UInt8} {cs} (h : Run Rep.byte w S cs l) : Run Rep.byte w' S' cs l := run_byte.2 (run_byte.1 h)

abbrev SlB (w : World) (S : Nat → Prop) (v : Value) (l : List UInt8) : Prop := Sl Rep.byte w S v l
theorem SlB.form {w : World} {S : Nat → Prop} {v : Value} {l : List UInt8} (h : SlB w S v l) :
    ∃ A cap, v = .slice A l.length cap ∧ l.length ≤ cap ∧ cap ≤ maxLen ∧
      (l ≠ [] → ∃ g off, A = some ⟨g, off, none⟩ ∧ S g ∧ ∀ j (hj : j < l.length), w.cell? ⟨g, off + j, none⟩ = some (.int .u8 (l[j].toNat : Int))) := by
  obtain ⟨A, cap, hv, h1, h2, cs, hr, hh⟩ := h
  have := run_byte.1 hr
  subst this
  refine ⟨A, cap, hv, h1, h2, fun hn => ?_⟩
  obtain ⟨g, off, hA, hS, hc⟩ := hh hn
  exact ⟨g, off, hA, hS, fun j hj => by rw [hc j (by simpa using hj)]; simp [bv, hj]⟩
theorem SlB.mk {w : World} {S : Nat → Prop} {A : Option Addr} {n cap : Nat} {l : List UInt8} (hn : n = l.length) (h1 : l.length ≤ cap) (h2 : cap ≤ maxLen)
    (h : l ≠ [] → ∃ g off, A = some ⟨g, off, none⟩ ∧ S g ∧ ∀ j (hj : j < l.length), w.cell? ⟨g, off + j, none⟩ = some (.int .u8 (l[j].toNat : Int))) : SlB w S (.slice A n cap) l := by
  subst hn
  refine ⟨A, cap, rfl, h1, h2, l.map bv, run_byte.2 rfl, fun hn => ?_⟩
  obtain ⟨g, off, hA, hS, hc⟩ := h hn
  exact ⟨g, off, hA, hS, fun j hj => by rw [hc j (by simpa using hj)]; simp [bv, show j < l.length by simpa using hj]⟩
/-- string(b) -/
theorem run_str {P : Program} {w : World} {S : Nat → Prop} {v : Value} {l : List UInt8} (src dst e : TypeId) (hs : P.underlying src = some (.slice e)) (he : P.underlying e = some (.int .u8)) (hd : P.underlying dst = some .string) (h : SlB w S v l) :
    (convert src dst v).run P w = .ok (.string ⟨l.toArray⟩) w := by
  obtain ⟨A, cap, rfl, h1, h2, hh⟩ := h.form
  by_cases hn : l = []
  · subst hn
    cases A with
    | none => exact run_convert_bytes_nil w src e hs he _ _ dst hd
    | some a => exact run_convert_bytes_back w src dst e a cap [] hs he hd (fun j hj => by simp at hj)
  · obtain ⟨g, off, rfl, _, hc⟩ := hh hn
    exact run_convert_bytes_back w src dst e ⟨g, off, none⟩ cap l hs he hd (fun j hj => by
      rw [show (⟨g, off, none⟩ : Addr).add j = ⟨g, off + j, none⟩ from by unfold Addr.add; split <;> simp_all]; exact hc j hj)
/-- a new row of bytes, marked or not -/
theorem SlB.new {w W : World} {S : Nat → Prop} {cs : Array Value} {t : TypeId} {fr : Nat × Nat} (l : List UInt8) (hcs : cs = (l.map bv).toArray) (hW : W.heap[w.heap.size]? = some (.cells cs t fr)) (hS : S w.heap.size) (hl : l.length ≤ maxLen) :
    SlB W S (.slice (some ⟨w.heap.size, 0, none⟩) l.length l.length) l := by
  refine SlB.mk rfl (Nat.le_refl _) hl fun _ => ⟨w.heap.size, 0, rfl, hS, fun j hj => ?_⟩
  rw [cell_of_row W w.heap.size (0 + j) cs t fr hW, hcs]
  simp [bv, hj]
/-- a row of bytes at block g -/
theorem SlB.row {W : World} {S : Nat → Prop} {g : Nat} {cs : Array Value} {t : TypeId} {fr : Nat × Nat} (l : List UInt8) (hcs : cs = (l.map bv).toArray) (hW : W.heap[g]? = some (.cells cs t fr)) (hS : S g) (hl : l.length ≤ maxLen) :
    SlB W S (.slice (some ⟨g, 0, none⟩) l.length l.length) l := by
  refine SlB.mk rfl (Nat.le_refl _) hl fun _ => ⟨g, 0, rfl, hS, fun j hj => ?_⟩
  rw [cell_of_row W g (0 + j) cs t fr hW, hcs]
  simp [bv, hj]
/-- a literal's row -/
theorem Own.lit {α : Type} {R : Rep α} (w : World) (base : Nat) (e : TypeId) (S : Nat → Prop) (cs : Array Value) (l : List α) (hb : base ≤ w.heap.size) (hl : l.length ≤ maxLen) (hr : Run R (w.alloc (.cells cs e)) S cs.toList l) (hS : ¬ S w.heap.size) :
    Own R (w.alloc (.cells cs e)) base e S (.slice (some ⟨w.heap.size, 0, none⟩) l.length l.length) l :=
  ⟨⟨_, World.ownsRow_lit w cs l.length hb hl (by rw [← hr.length, Array.length_toList]), hr⟩, fun g hg => by simp [Value.ownBlock] at hg; subst hg; exact hS⟩
theorem Own.flat {w : World} {base : Nat} {e : TypeId} {S S' : Nat → Prop} {v : Value} {l : List UInt8} (h : Own Rep.byte w base e S v l) (ha : ∀ g, v.ownBlock = some g → ¬ S' g) : Own Rep.byte w base e S' v l := by
  obtain ⟨⟨xs, hx, hr⟩, _⟩ := h
  exact ⟨⟨xs, hx, run_byte_any hr⟩, ha⟩
end Go.Pl
end
/- From the form's own reading of an argument to this seat's words. -/
section
open Go.RowKit
namespace Go.Pl
def Opens {α : Type} (P : Program) (t : TypeId) (R : Rep α) : Prop :=
  ∀ (H : Type) (enc : TypeId × Value → H) (W : World) (spare : Nat → Bool) (held : Bool) (fuel : Nat) (cs : List Value) (y : DataW H × List MemPlace),
    DataW.trod enc P W 0 spare held fuel t cs = some y → ∃ x, R.ok W (· < W.heap.size) cs x
variable {P : Program} {t : TypeId}
theorem opens_i64 (ht : P.underlying t = some (.int .i64)) : Opens P t Rep.i64 := by
  intro H enc W spare held fuel cs y h
  obtain ⟨n, rfl, _, hw⟩ := DataW.trod_int ht h
  have hx : -9223372036854775808 ≤ n ∧ n ≤ 9223372036854775807 := by simpa [Lit.wf, IntKind.min, IntKind.max, IntKind.signed, IntKind.bits] using hw
  exact ⟨n, rfl, hx⟩
theorem opens_u64 (ht : P.underlying t = some (.int .u64)) : Opens P t Rep.u64 := by
  intro H enc W spare held fuel cs y h
  obtain ⟨n, rfl, _, hw⟩ := DataW.trod_int ht h
  have hx : 0 ≤ n ∧ n ≤ 18446744073709551615 := by simpa [Lit.wf, IntKind.min, IntKind.max, IntKind.signed, IntKind.bits] using hw
  refine ⟨n.toNat, ?_, by omega⟩
  rw [Int.toNat_of_nonneg hx.1]
theorem opens_byte (ht : P.underlying t = some (.int .u8)) : Opens P t Rep.byte := by
  intro H enc W spare held fuel cs y h
  obtain ⟨n, rfl, _, hw⟩ := DataW.trod_int ht h
  have hx : 0 ≤ n ∧ n ≤ 255 := by simpa [Lit.wf, IntKind.min, IntKind.max, IntKind.signed, IntKind.bits] using hw
  refine ⟨UInt8.ofNat n.toNat, ?_⟩
  show [Value.int .u8 n] = [.int .u8 ((UInt8.ofNat n.toNat).toNat : Int)]
  rw [u8_ofNat (by omega), Int.toNat_of_nonneg hx.1]
theorem opens_bool (ht : P.underlying t = some .bool) : Opens P t Rep.bool := by
  intro H enc W spare held fuel cs y h
  obtain ⟨n, rfl, _⟩ := DataW.trod_bool ht h
  exact ⟨n, rfl⟩
theorem opens_str (ht : P.underlying t = some .string) : Opens P t Rep.str := by
  intro H enc W spare held fuel cs y h
  obtain ⟨s, rfl, _, hs⟩ := DataW.trod_string ht h
  exact ⟨s.data.toList, rfl, by rw [Array.length_toList]; exact hs⟩
theorem opens_slice {α : Type} {R : Rep α} {e : TypeId} (hR : 0 < R.n) (ht : P.underlying t = some (.slice e)) (hc : P.cellsOf e = R.n) (he : Opens P e R) : Opens P t (Rep.slice R hR) := by
  intro H enc W spare held fuel cs y h
  rcases Go.Deep.open_slice ht h with ⟨rfl, _⟩ | ⟨a, len, cap, m, n, D, Pl, rfl, _, hl, hm, hmm, _, hi⟩
  · exact ⟨[], _, rfl, Sl.nil _ _ _⟩
  · rw [hc] at hi
    have hlm : len ≤ m := by rw [hmm]; split <;> omega
    have key : ∀ k, k ≤ len → ∃ (l : List α) (cs : List Value), l.length = k ∧ Run R W (· < W.heap.size) cs l ∧ ∀ j, j < cs.length → W.cell? (a.add j) = cs[j]? := by
      intro k
      induction k with
      | zero => intro _; exact ⟨[], [], rfl, rfl, fun j hj => by simp at hj⟩
      | succ k ih =>
        intro hk
        obtain ⟨l, cs, hll, hr, hcc⟩ := ih (by omega)
        obtain ⟨cs', hcs', ht'⟩ := hi k (by omega)
        obtain ⟨x, hx⟩ := he H enc W spare held n cs' _ ht'
        obtain ⟨_, hcl, hat⟩ := World.cells?_some hcs'
        refine ⟨l ++ [x], cs ++ cs', by simp [hll], hr.append (Run.single hx), fun j hj => ?_⟩
        have hlen := hr.length
        rw [hll] at hlen
        rcases Nat.lt_or_ge j cs.length with h1 | h1
        · rw [List.getElem?_append_left h1]; exact hcc j h1
        · rw [List.getElem?_append_right h1]
          have h2 : j - cs.length < R.n := by rw [List.length_append, hcl] at hj; omega
          have := hat (j - cs.length) h2
          rw [Go.Deep.add_add] at this
          rw [← this]
          congr 2
          omega
    obtain ⟨l, cs, hll, hr, hcc⟩ := key len (Nat.le_refl _)
    subst hll
    refine ⟨l, _, rfl, some a, cap, rfl, hl, hm, cs, hr, fun hne => ?_⟩
    have hlen := hr.length
    have hpos : 0 < cs.length := by rw [hlen]; exact Nat.mul_pos (List.length_pos_iff.2 hne) hR
    obtain ⟨b, off, spot⟩ := a
    have h0 := (hcc 0 hpos).trans (List.getElem?_eq_getElem hpos)
    have hspot : spot = none := by simpa [Addr.add] using World.cell?_spot h0
    subst hspot
    refine ⟨b, off, rfl, World.block_lt_of_cell? W _ (by simpa [Addr.add] using h0), fun j hj => ?_⟩
    rw [← hcc j hj]
    congr 1
    unfold Addr.add; split <;> simp_all

/-- structs: the fields one behind the other -/
theorem opens_prod {α β : Type} {R : Rep α} {R' : Rep β} {fs : Array Field} {f0 f1 : Field} (hs : P.underlying t = some (.struct fs)) (hfs : fs = #[f0, f1]) (hc : P.cellsOf t = R.n + R'.n)
    (h00 : f0.offset = 0) (h01 : f1.offset = R.n) (hc0 : P.cellsOf f0.type = R.n) (hc1 : P.cellsOf f1.type = R'.n) (h0 : Opens P f0.type R) (h1 : Opens P f1.type R') : Opens P t (R.prod R') := by
  intro H enc W spare held fuel cs y h
  obtain ⟨xs, n, _, _, hl, hxl, hg⟩ := DataW.trod_struct hs h
  subst hfs
  have e0 := hg 0 f0 rfl
  have e1 := hg 1 f1 rfl
  rw [h00, hc0, List.drop_zero] at e0
  rw [h01, hc1] at e1
  have hn : xs.length = 2 := hxl
  have hx0 : xs[0]? = some (xs[0]'(by omega)) := List.getElem?_eq_getElem (by omega)
  have hx1 : xs[1]? = some (xs[1]'(by omega)) := List.getElem?_eq_getElem (by omega)
  obtain ⟨x, hx⟩ := h0 H enc W spare held n _ _ (e0.trans hx0)
  obtain ⟨x', hx'⟩ := h1 H enc W spare held n _ _ (e1.trans hx1)
  refine ⟨(x, x'), cs.take R.n, (cs.drop R.n).take R'.n, ?_, hx, hx'⟩
  rw [List.take_of_length_le (i := R'.n) (by rw [List.length_drop]; omega)]
  exact (List.take_append_drop _ _).symm
theorem opens_prod3 {α β γ : Type} {R : Rep α} {R' : Rep β} {R2 : Rep γ} {fs : Array Field} {f0 f1 f2 : Field} (hs : P.underlying t = some (.struct fs)) (hfs : fs = #[f0, f1, f2]) (hc : P.cellsOf t = R.n + (R'.n + R2.n))
    (h00 : f0.offset = 0) (h01 : f1.offset = R.n) (h02 : f2.offset = R.n + R'.n) (hc0 : P.cellsOf f0.type = R.n) (hc1 : P.cellsOf f1.type = R'.n) (hc2 : P.cellsOf f2.type = R2.n) (h0 : Opens P f0.type R) (h1 : Opens P f1.type R') (h2 : Opens P f2.type R2) : Opens P t (R.prod (R'.prod R2)) := by
  intro H enc W spare held fuel cs y h
  obtain ⟨xs, n, _, _, hl, hxl, hg⟩ := DataW.trod_struct hs h
  subst hfs
  have e0 := hg 0 f0 rfl
  have e1 := hg 1 f1 rfl
  have e2 := hg 2 f2 rfl
  rw [h00, hc0, List.drop_zero] at e0
  rw [h01, hc1] at e1
  rw [h02, hc2] at e2
  have hn : xs.length = 3 := hxl
  have hx0 : xs[0]? = some (xs[0]'(by omega)) := List.getElem?_eq_getElem (by omega)
  have hx1 : xs[1]? = some (xs[1]'(by omega)) := List.getElem?_eq_getElem (by omega)
  have hx2 : xs[2]? = some (xs[2]'(by omega)) := List.getElem?_eq_getElem (by omega)
  obtain ⟨x, hx⟩ := h0 H enc W spare held n _ _ (e0.trans hx0)
  obtain ⟨x', hx'⟩ := h1 H enc W spare held n _ _ (e1.trans hx1)
  obtain ⟨x2, hx2⟩ := h2 H enc W spare held n _ _ (e2.trans hx2)
  refine ⟨(x, x', x2), cs.take R.n, (cs.drop R.n), (List.take_append_drop _ _).symm, hx, (cs.drop R.n).take R'.n, ((cs.drop R.n).drop R'.n), (List.take_append_drop _ _).symm, hx', ?_⟩
  rw [List.drop_drop]
  rw [List.take_of_length_le (i := R2.n) (by rw [List.length_drop]; omega)] at hx2
  exact hx2
/-- an argument: one value of one cell -/
theorem Opens.value {α : Type} {R : Rep α} (h : Opens P t R) {H : Type} {enc : TypeId × Value → H} {W : World} {spare : Nat → Bool} {held : Bool} {v : Value} {d : DataW H} {p : List MemPlace} (hv : DataW.Trod enc P W 0 spare held t v d p) :
    ∃ x, R.ok W (· < W.heap.size) v.cells.toList x := by
  obtain ⟨fuel, hf⟩ := hv
  exact h H enc W spare held fuel _ _ hf
end Go.Pl
end
/- The package-level variables whose cells are known when a call begins: their numbers and cells; and those that hold an error: their numbers and its type. -/
section
namespace Go.Av
mutual
/-- the cells of a datum that is made of letters and numbers -/
def dcs : DataW Unit → List Value
  | .lit l => [l.value]
  | .agg l => dcsl l
  | _ => []
def dcsl : List (DataW Unit) → List Value
  | [] => []
  | d :: l => dcs d ++ dcsl l
end
def tabs : List (Nat × List Value) := [(1, dcs Go.Proofs.YtnihobjehelagaaDoor.Rows.laid_unicode_utf8_acceptRanges), (0, dcs Go.Proofs.YtnihobjehelagaaDoor.Rows.laid_unicode_utf8_first), (6, dcs Go.Proofs.YtnihobjehelagaaDoor.Rows.laid_math_bits_deBruijn32tab), (7, dcs Go.Proofs.YtnihobjehelagaaDoor.Rows.laid_math_bits_deBruijn64tab), (2, dcs Go.Proofs.YtnihobjehelagaaDoor.Rows.laid_internal_strconv_uint64pow10)]
def tabI : List (Nat × TypeId) := [(5, 213), (4, 213)]
/-- which of them are known -/
class Known where
  ks : List Nat
/-- which calls are deferred in a frame -/
class Dfr where
  l : List Deferred
instance dfr0 : Dfr := ⟨[]⟩
/-- the tables of unicode/utf8 are known -/
class KnownU8 [Known] : Prop where
  first : 0 ∈ Known.ks
  accept : 1 ∈ Known.ks
/-- what strconv names is known -/
class KnownSc [Known] : Prop where
  range : 5 ∈ Known.ks
  syn : 4 ∈ Known.ks
/-- the tables that numbers are written by are known -/
class KnownFm [Known] : Prop where
  pow : 2 ∈ Known.ks
  bru : 7 ∈ Known.ks
  bru32 : 6 ∈ Known.ks
end Go.Av
end
