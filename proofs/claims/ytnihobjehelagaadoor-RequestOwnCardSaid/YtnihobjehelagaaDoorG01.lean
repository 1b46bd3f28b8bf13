/- Words and contracts on the way to the laws of this seat: each theorem says what a function of the program computes and which memory it leaves as it was; its conditions are its hypotheses. -/
import Derived.WalkKit
import Derived.WalkSpells
import Derived.WalkLawsBesides
import Derived.Deep.RegionLaw
import Derived.Deep.RegionHeld3
import Derived.Deep.AppendLies
import Derived.Deep.DeepFit
import Derived.Deep.QuietTactic
import Derived.BigQuiet
import Derived.Deep.LoopGhost
import Derived.Deep.DeepCutAuto
import Derived.Deep.CutBlock
import Derived.Deep.Draws
import Derived.Lib.SlBytesConst
import Derived.Deep.Slices
import Derived.ChangeArms
import Derived.Shelf.LaysM
import Derived.Shelf.Strconv.Itoa1
import Derived.Shelf.Strconv.Itoa2
import Derived.Test.YtnihobjehelagaaDoorProg
import Derived.Test.YtnihobjehelagaaDoorRows
import Derived.Deep.MidRow
section
open Go.RowKit
namespace Go.Pl

theorem run_eql_slice_nil' {P : Program} (w : World) (t e : TypeId) (a : Option Addr) (n c : Nat) (h : P.underlying t = some (.slice e)) :
    (binOp .eql t (.slice a n c) (.slice none 0 0)).run P w = .ok (.bool a.isNone) w := by
  have := Lib.run_eql_slice_nil (P := P) w t e a n c 0 0 h
  simpa using this
attribute [go_sem] run_eql_slice_nil'

theorem hid {p : Prop} (h : p) : Hid p := h

/-! ### worlds -/
/-- only old blocks of S, and new ones, may have changed -/
structure Chg (S : Nat → Prop) (w w' : World) : Prop where
  os : w'.os = w.os
  tape : w'.tape = w.tape
  output : w'.output = w.output
  size : w.heap.size ≤ w'.heap.size
  block : ∀ k, k < w.heap.size → ¬ S k → w'.heap[k]? = w.heap[k]?

theorem Chg.refl (S : Nat → Prop) (w : World) : Chg S w w := ⟨rfl, rfl, rfl, Nat.le_refl _, fun _ _ _ => rfl⟩
theorem Chg.mono {S S' : Nat → Prop} {w w' : World} (h : Chg S w w') (hs : ∀ k, k < w.heap.size → S k → S' k) : Chg S' w w' :=
  ⟨h.os, h.tape, h.output, h.size, fun k hk hn => h.block k hk (fun hh => hn (hs k hk hh))⟩
/-- second step may change S2: old ones of S2 must be in S or new -/
theorem Chg.trans {S S' : Nat → Prop} {a b c : World} (h : Chg S a b) (k : Chg S' b c) (hs : ∀ i, i < a.heap.size → S' i → S i) : Chg S a c :=
  ⟨k.os.trans h.os, k.tape.trans h.tape, k.output.trans h.output, Nat.le_trans h.size k.size,
    fun i hi hn => (k.block i (Nat.lt_of_lt_of_le hi h.size) (fun hh => hn (hs i hi hh))).trans (h.block i hi hn)⟩
theorem Chg.of_grownBy {w w' : World} {row : Option Nat} (h : w.grownBy w' row) : Chg (fun k => some k = row) w w' :=
  ⟨h.os, h.tape, h.output, h.size, fun k hk hn => h.block k hk hn⟩
theorem Chg.of_below {w w' : World} (h : Below w.heap.size w w') (S : Nat → Prop) : Chg S w w' :=
  ⟨h.os, h.tape, h.output, h.size, fun k hk _ => h.block k hk⟩
theorem Chg.below {S : Nat → Prop} {B : Nat} {w w' : World} (h : Chg S w w') (hB : B ≤ w.heap.size) (hs : ∀ k, k < B → ¬ S k) : Below B w w' :=
  ⟨h.os, h.tape, h.output, h.size, fun k hk => h.block k (by omega) (hs k hk)⟩
theorem Chg.alloc {S : Nat → Prop} {a w : World} (h : Chg S a w) (o : Obj) : Chg S a (w.alloc o) :=
  ⟨h.os, h.tape, h.output, Nat.le_trans h.size (by simp), fun k hk hn => (Below.heap_alloc w o k (by have := h.size; omega)).trans (h.block k hk hn)⟩
theorem Chg.drew {S : Nat → Prop} {a w : World} (h : Chg S a w) : Chg S a w.drew := ⟨h.os, h.tape, h.output, h.size, h.block⟩
theorem Chg.drewN {S : Nat → Prop} {a w : World} (h : Chg S a w) (n : Nat) : Chg S a (w.drewN n) := ⟨h.os, h.tape, h.output, h.size, h.block⟩
theorem Chg.setCell {S : Nat → Prop} {a w : World} (h : Chg S a w) {p : Addr} (hp : S p.block ∨ a.heap.size ≤ p.block) (u : Value) : Chg S a (w.setCell p u) :=
  ⟨h.os, h.tape, h.output, by simpa [World.setCell] using h.size, fun i hi hn => (Below.heap_setCell w p u i (by
    rintro rfl
    rcases hp with hp | hp
    · exact hn hp
    · omega)).trans (h.block i hi hn)⟩
theorem Chg.cell {S : Nat → Prop} {w w' : World} (h : Chg S w w') {p : Addr} (hp : p.block < w.heap.size) (hn : ¬ S p.block) : w'.cell? p = w.cell? p :=
  World.cell?_of_block (h.block p.block hp hn)
theorem Chg.frozen {S : Nat → Prop} {w w' : World} (h : Chg S w w') {p : Addr} (hp : p.block < w.heap.size) (hn : ¬ S p.block) : w'.frozen? p = w.frozen? p :=
  World.frozen?_of_block (h.block p.block hp hn)

theorem below_drewN {B : Nat} {a w : World} (h : Below B a w) (n : Nat) : Below B a (w.drewN n) := ⟨h.os, h.tape, h.output, h.size, h.block⟩

/-- what a walk wants behind a call that keeps everything below B: the two rules -/
theorem bcell {B : Nat} {W w1 : World} (hb : Below B W w1) : (∀ b o, b < B → w1.cell? ⟨b, o, none⟩ = W.cell? ⟨b, o, none⟩) ∧ (∀ b o, b < B → w1.frozen? ⟨b, o, none⟩ = W.frozen? ⟨b, o, none⟩) :=
  ⟨fun b o h => hb.cell (p := ⟨b, o, none⟩) h, fun b o h => hb.frozen (p := ⟨b, o, none⟩) h⟩

/-! ### a block known whole -/
def Blk (w : World) (g : Nat) (t : TypeId) (cs : Array Value) : Prop := w.heap[g]? = some (.cells cs t (0, 0))
section
variable {w w' : World} {g : Nat} {t : TypeId} {cs : Array Value}
theorem Blk.lt (h : Blk w g t cs) : g < w.heap.size := by
  rcases Nat.lt_or_ge g w.heap.size with hlt | hge
  · exact hlt
  · unfold Blk at h; rw [Array.getElem?_eq_none hge] at h; cases h
theorem Blk.cell (h : Blk w g t cs) (i : Nat) : w.cell? ⟨g, i, none⟩ = cs[i]? := cell_of_row w g i cs t (0, 0) h
theorem Blk.frozen (h : Blk w g t cs) (i : Nat) : w.frozen? ⟨g, i, none⟩ = false := by
  unfold Blk at h
  simp [World.frozen?, h]
theorem Blk.new (w : World) (t : TypeId) (cs : Array Value) : Blk (w.alloc (.cells cs t)) w.heap.size t cs := heap_alloc_new w _
theorem Blk.drew (h : Blk w g t cs) : Blk w.drew g t cs := h
theorem Blk.drewN (h : Blk w g t cs) (n : Nat) : Blk (w.drewN n) g t cs := h
theorem Blk.alloc (h : Blk w g t cs) (o : Obj) : Blk (w.alloc o) g t cs := (Below.heap_alloc w o g h.lt).trans h
theorem Blk.set_ (h : Blk w g t cs) (i : Nat) (u : Value) : Blk (w.setCell ⟨g, i, none⟩ u) g t (cs.setIfInBounds i u) := by
  unfold Blk at h ⊢
  simp [World.setCell, Array.getElem?_modify, h]
theorem Blk.far (h : Blk w g t cs) {p : Addr} (hp : g ≠ p.block) (u : Value) : Blk (w.setCell p u) g t cs := (Below.heap_setCell w p u g hp).trans h
theorem Blk.below {B : Nat} (h : Blk w g t cs) (hb : Below B w w') (hg : g < B) : Blk w' g t cs := (hb.block g hg).trans h
theorem Blk.chg {S : Nat → Prop} (h : Blk w g t cs) (hb : Chg S w w') (hg : ¬ S g) : Blk w' g t cs := (hb.block g h.lt hg).trans h
end

/-! ### what cells read as -/
structure Rep (α : Type) where
  n : Nat
  ok : World → (Nat → Prop) → List Value → α → Prop
  len : ∀ {w S cs x}, ok w S cs x → cs.length = n
  one : ∀ {w S cs x}, ok w S cs x → ∀ u ∈ cs, u.oneCell' = true
  frame : ∀ {w w' S cs x}, (∀ k, S k → w'.heap[k]? = w.heap[k]?) → ok w S cs x → ok w' S cs x
  mono : ∀ {w S S' cs x}, (∀ k, S k → S' k) → ok w S cs x → ok w S' cs x
  lt : ∀ {w S cs x}, ok w S cs x → ok w (fun k => S k ∧ k < w.heap.size) cs x

def Rep.i64 : Rep Int where
  n := 1
  ok := fun _ _ cs x => cs = [.int .i64 x] ∧ -9223372036854775808 ≤ x ∧ x ≤ 9223372036854775807
  len := by rintro _ _ _ _ ⟨rfl, _⟩; rfl
  one := by rintro _ _ _ _ ⟨rfl, _⟩ u hu; simp at hu; subst hu; rfl
  frame := fun _ h => h
  mono := fun _ h => h
  lt := fun h => h
def Rep.u64 : Rep Nat where
  n := 1
  ok := fun _ _ cs x => cs = [.int .u64 (x : Int)] ∧ x < 18446744073709551616
  len := by rintro _ _ _ _ ⟨rfl, _⟩; rfl
  one := by rintro _ _ _ _ ⟨rfl, _⟩ u hu; simp at hu; subst hu; rfl
  frame := fun _ h => h
  mono := fun _ h => h
  lt := fun h => h
def Rep.byte : Rep UInt8 where
  n := 1
  ok := fun _ _ cs x => cs = [.int .u8 (x.toNat : Int)]
  len := by rintro _ _ _ _ rfl; rfl
  one := by rintro _ _ _ _ rfl u hu; simp at hu; subst hu; rfl
  frame := fun _ h => h
  mono := fun _ h => h
  lt := fun h => h
def Rep.bool : Rep Bool where
  n := 1
  ok := fun _ _ cs x => cs = [.bool x]
  len := by rintro _ _ _ _ rfl; rfl
  one := by rintro _ _ _ _ rfl u hu; simp at hu; subst hu; rfl
  frame := fun _ h => h
  mono := fun _ h => h
  lt := fun h => h
def Rep.str : Rep (List UInt8) where
  n := 1
  ok := fun _ _ cs x => cs = [.string ⟨x.toArray⟩] ∧ x.length ≤ maxLen
  len := by rintro _ _ _ _ ⟨rfl, _⟩; rfl
  one := by rintro _ _ _ _ ⟨rfl, _⟩ u hu; simp at hu; subst hu; rfl
  frame := fun _ h => h
  mono := fun _ h => h
  lt := fun h => h
def Rep.prod {α β : Type} (R : Rep α) (R' : Rep β) : Rep (α × β) where
  n := R.n + R'.n
  ok := fun w S cs x => ∃ c1 c2, cs = c1 ++ c2 ∧ R.ok w S c1 x.1 ∧ R'.ok w S c2 x.2
  len := by rintro _ _ _ _ ⟨c1, c2, rfl, h1, h2⟩; simp [R.len h1, R'.len h2]
  one := by
    rintro _ _ _ _ ⟨c1, c2, rfl, h1, h2⟩ u hu
    rcases List.mem_append.1 hu with h | h
    · exact R.one h1 u h
    · exact R'.one h2 u h
  frame := by rintro _ _ _ _ _ hf ⟨c1, c2, rfl, h1, h2⟩; exact ⟨c1, c2, rfl, R.frame hf h1, R'.frame hf h2⟩
  mono := by rintro _ _ _ _ _ hf ⟨c1, c2, rfl, h1, h2⟩; exact ⟨c1, c2, rfl, R.mono hf h1, R'.mono hf h2⟩
  lt := by rintro _ _ _ _ ⟨c1, c2, rfl, h1, h2⟩; exact ⟨c1, c2, rfl, R.lt h1, R'.lt h2⟩

/-- a run of elements, cells one behind the other -/
def Run {α : Type} (R : Rep α) (w : World) (S : Nat → Prop) : List Value → List α → Prop
  | cs, [] => cs = []
  | cs, x :: l => ∃ c1 c2, cs = c1 ++ c2 ∧ R.ok w S c1 x ∧ Run R w S c2 l
section
variable {α : Type} {R : Rep α} {w w' : World} {S S' : Nat → Prop}
theorem Run.length {l : List α} : ∀ {cs}, Run R w S cs l → cs.length = l.length * R.n := by
  induction l with
  | nil => intro cs h; simp [Run] at h; simp [h]
  | cons x l ih =>
    rintro cs ⟨c1, c2, rfl, h1, h2⟩
    simp [R.len h1, ih h2, Nat.add_mul, Nat.add_comm]
theorem Run.one {l : List α} : ∀ {cs}, Run R w S cs l → ∀ u ∈ cs, u.oneCell' = true := by
  induction l with
  | nil => intro cs h u hu; simp [Run] at h; subst h; cases hu
  | cons x l ih =>
    rintro cs ⟨c1, c2, rfl, h1, h2⟩ u hu
    rcases List.mem_append.1 hu with h | h
    · exact R.one h1 u h
    · exact ih h2 u h
theorem Run.frame (hf : ∀ k, S k → w'.heap[k]? = w.heap[k]?) {l : List α} : ∀ {cs}, Run R w S cs l → Run R w' S cs l := by
  induction l with
  | nil => intro cs h; exact h
  | cons x l ih => rintro cs ⟨c1, c2, rfl, h1, h2⟩; exact ⟨c1, c2, rfl, R.frame hf h1, ih h2⟩
theorem Run.mono (hf : ∀ k, S k → S' k) {l : List α} : ∀ {cs}, Run R w S cs l → Run R w S' cs l := by
  induction l with
  | nil => intro cs h; exact h
  | cons x l ih => rintro cs ⟨c1, c2, rfl, h1, h2⟩; exact ⟨c1, c2, rfl, R.mono hf h1, ih h2⟩
theorem Run.lt {l : List α} : ∀ {cs}, Run R w S cs l → Run R w (fun k => S k ∧ k < w.heap.size) cs l := by
  induction l with
  | nil => intro cs h; exact h
  | cons x l ih => rintro cs ⟨c1, c2, rfl, h1, h2⟩; exact ⟨c1, c2, rfl, R.lt h1, ih h2⟩
theorem Run.append {l l' : List α} : ∀ {cs cs'}, Run R w S cs l → Run R w S cs' l' → Run R w S (cs ++ cs') (l ++ l') := by
  induction l with
  | nil => intro cs cs' h h'; simp [Run] at h; subst h; simpa using h'
  | cons x l ih => rintro cs cs' ⟨c1, c2, rfl, h1, h2⟩ h'; exact ⟨c1, c2 ++ cs', by simp, h1, ih h2 h'⟩
theorem Run.single {x : α} {cs : List Value} (h : R.ok w S cs x) : Run R w S cs [x] := ⟨cs, [], by simp, h, rfl⟩
theorem Run.nil : Run R w S [] ([] : List α) := rfl
/-- element i's own cells -/
theorem Run.get {l : List α} : ∀ {cs} (i : Nat) (hi : i < l.length), Run R w S cs l → ∃ c, R.ok w S c l[i] ∧ c.length = R.n ∧ ∀ j, j < R.n → cs[i * R.n + j]? = c[j]? := by
  induction l with
  | nil => intro cs i hi; simp at hi
  | cons x l ih =>
    rintro cs i hi ⟨c1, c2, rfl, h1, h2⟩
    have hl := R.len h1
    cases i with
    | zero =>
      refine ⟨c1, h1, hl, fun j hj => ?_⟩
      simp [List.getElem?_append_left (show j < c1.length by omega)]
    | succ i =>
      obtain ⟨c, hc, hcl, hg⟩ := ih i (by simpa using hi) h2
      refine ⟨c, by simpa using hc, hcl, fun j hj => ?_⟩
      rw [← hg j hj, List.getElem?_append_right (by rw [hl, Nat.add_mul]; omega)]
      congr 1
      rw [hl, Nat.add_mul]; omega
theorem Run.split {l l' : List α} : ∀ {cs}, Run R w S cs (l ++ l') → ∃ c1 c2, cs = c1 ++ c2 ∧ Run R w S c1 l ∧ Run R w S c2 l' := by
  induction l with
  | nil => intro cs h; exact ⟨[], cs, rfl, rfl, h⟩
  | cons x l ih =>
    rintro cs ⟨c1, c2, rfl, h1, h2⟩
    obtain ⟨d1, d2, rfl, h3, h4⟩ := ih h2
    exact ⟨c1 ++ d1, d2, by simp, ⟨c1, d1, rfl, h1, h3⟩, h4⟩
end

/-- a slice value that reads as the list l -/
def Sl {α : Type} (R : Rep α) (w : World) (S : Nat → Prop) (v : Value) (l : List α) : Prop :=
  ∃ A cap, v = .slice A l.length cap ∧ l.length ≤ cap ∧ cap ≤ maxLen ∧
    ∃ cs, Run R w S cs l ∧ (l ≠ [] → ∃ g off, A = some ⟨g, off, none⟩ ∧ S g ∧ ∀ j, j < cs.length → w.cell? ⟨g, off + j, none⟩ = cs[j]?)

section
variable {α : Type} {R : Rep α} {w w' : World} {S S' : Nat → Prop} {v : Value} {l : List α}
theorem Sl.frame (hf : ∀ k, S k → w'.heap[k]? = w.heap[k]?) (h : Sl R w S v l) : Sl R w' S v l := by
  obtain ⟨A, cap, hv, h1, h2, cs, hr, hh⟩ := h
  refine ⟨A, cap, hv, h1, h2, cs, hr.frame hf, fun hn => ?_⟩
  obtain ⟨g, off, hA, hS, hc⟩ := hh hn
  exact ⟨g, off, hA, hS, fun j hj => (World.cell?_of_block (hf g hS)).trans (hc j hj)⟩
theorem Sl.mono (hf : ∀ k, S k → S' k) (h : Sl R w S v l) : Sl R w S' v l := by
  obtain ⟨A, cap, hv, h1, h2, cs, hr, hh⟩ := h
  refine ⟨A, cap, hv, h1, h2, cs, hr.mono hf, fun hn => ?_⟩
  obtain ⟨g, off, hA, hS, hc⟩ := hh hn
  exact ⟨g, off, hA, hf g hS, hc⟩
theorem Sl.lt (hR : 0 < R.n) (h : Sl R w S v l) : Sl R w (fun k => S k ∧ k < w.heap.size) v l := by
  obtain ⟨A, cap, hv, h1, h2, cs, hr, hh⟩ := h
  refine ⟨A, cap, hv, h1, h2, cs, hr.lt, fun hn => ?_⟩
  obtain ⟨g, off, hA, hS, hc⟩ := hh hn
  have hl := hr.length
  have hpos : 0 < cs.length := by rw [hl]; exact Nat.mul_pos (List.length_pos_iff.2 hn) hR
  refine ⟨g, off, hA, ⟨hS, ?_⟩, hc⟩
  exact World.block_lt_of_cell? w _ ((hc 0 hpos).trans (List.getElem?_eq_getElem hpos))
theorem Sl.below {B : Nat} (h : Sl R w (· < B) v l) (hb : Below B w w') : Sl R w' (· < B) v l := h.frame fun k hk => hb.block k hk
theorem Sl.chg {M : Nat → Prop} (h : Sl R w S v l) (hc : Chg M w w') (hlt : ∀ k, S k → k < w.heap.size) (hd : ∀ k, S k → ¬ M k) : Sl R w' S v l := h.frame fun k hk => hc.block k (hlt k hk) (hd k hk)
theorem Sl.nil (R : Rep α) (w : World) (S : Nat → Prop) : Sl R w S (.slice none 0 0) [] :=
  ⟨none, 0, rfl, Nat.le_refl _, Nat.zero_le _, [], rfl, fun h => absurd rfl h⟩
theorem Sl.length_le (h : Sl R w S v l) : l.length ≤ maxLen := by
  obtain ⟨A, cap, hv, h1, h2, _⟩ := h; omega
theorem Sl.one (h : Sl R w S v l) : v.oneCell' = true := by
  obtain ⟨A, cap, rfl, _⟩ := h; rfl
end
def Rep.slice {α : Type} (R : Rep α) (hR : 0 < R.n) : Rep (List α) where
  n := 1
  ok := fun w S cs l => ∃ v, cs = [v] ∧ Sl R w S v l
  len := by rintro _ _ _ _ ⟨v, rfl, h⟩; rfl
  one := by rintro _ _ _ _ ⟨v, rfl, h⟩ u hu; simp at hu; subst hu; exact h.one
  frame := by rintro _ _ _ _ _ hf ⟨v, rfl, h⟩; exact ⟨v, rfl, h.frame hf⟩
  mono := by rintro _ _ _ _ _ hf ⟨v, rfl, h⟩; exact ⟨v, rfl, h.mono hf⟩
  lt := by rintro _ _ _ _ ⟨v, rfl, h⟩; exact ⟨v, rfl, h.lt hR⟩


/-- kept where the old blocks of S are kept -/
theorem Sl.keep {α : Type} {R : Rep α} {w w' : World} {S S' : Nat → Prop} {v : Value} {l : List α} (hR : 0 < R.n) (h : Sl R w S v l) (hf : ∀ k, k < w.heap.size → S k → w'.heap[k]? = w.heap[k]?) (hS : ∀ k, k < w.heap.size → S k → S' k) : Sl R w' S' v l :=
  ((h.lt hR).frame fun k hk => hf k hk.2 hk.1).mono fun k hk => hS k hk.2 hk.1
theorem Rep.keep {α : Type} (R : Rep α) {w w' : World} {S S' : Nat → Prop} {cs : List Value} {x : α} (h : R.ok w S cs x) (hf : ∀ k, k < w.heap.size → S k → w'.heap[k]? = w.heap[k]?) (hS : ∀ k, k < w.heap.size → S k → S' k) : R.ok w' S' cs x :=
  R.mono (fun k hk => hS k hk.2 hk.1) (R.frame (fun k hk => hf k hk.2 hk.1) (R.lt h))
theorem Run.keep {α : Type} {R : Rep α} {w w' : World} {S S' : Nat → Prop} {cs : List Value} {l : List α} (h : Run R w S cs l) (hf : ∀ k, k < w.heap.size → S k → w'.heap[k]? = w.heap[k]?) (hS : ∀ k, k < w.heap.size → S k → S' k) : Run R w' S' cs l :=
  (h.lt.frame fun k hk => hf k hk.2 hk.1).mono fun k hk => hS k hk.2 hk.1

/-! ### owned rows -/
/-- what a slice type's element is in the table -/
def Elem (P : Program) (t e size bytes : Nat) : Prop :=
  P.underlying t = some (.slice e) ∧ 0 < size ∧ ∃ (i : TypeInfo) (z : Value), P.info? e = some i ∧ i.zero = some z ∧ i.size = size ∧ i.bytes = bytes ∧ z.cells.size = size
theorem Elem.mk {P : Program} {t e size bytes : Nat} {z : Value} (ht : P.underlying t = some (.slice e)) (h : (P.info? e).map (fun i => (i.zero, i.size, i.bytes)) = some (some z, size, bytes)) (hz : z.cells.size = size) (hs : 0 < size) : Elem P t e size bytes := by
  obtain ⟨i, hi, h1, h2, h3⟩ := info_parts h
  exact ⟨ht, hs, i, z, hi, h1, h2, h3, hz⟩

/-- the slice v owns (in a block of its own, from base on, not of S) the elements l, whose inner memory lies in S -/
structure Own {α : Type} (R : Rep α) (w : World) (base : Nat) (e : TypeId) (S : Nat → Prop) (v : Value) (l : List α) : Prop where
  ex : ∃ xs, w.ownsRow base e R.n v l.length xs ∧ Run R w S xs l
  apart : ∀ g, v.ownBlock = some g → ¬ S g
section
variable {α : Type} {R : Rep α} {w w' : World} {S S' : Nat → Prop} {v : Value} {l l' : List α} {base : Nat} {e : TypeId}
theorem Own.nil (R : Rep α) (w : World) (base : Nat) (e : TypeId) (S : Nat → Prop) : Own R w base e S (.slice none 0 0) [] :=
  ⟨⟨[], World.ownsRow_nil _ _ _ _, rfl⟩, fun g hg => by simp [Value.ownBlock] at hg⟩
theorem Own.made (R : Rep α) (w : World) (base : Nat) (e : TypeId) (S : Nat → Prop) (hb : base ≤ w.heap.size) (hS : ¬ S w.heap.size) :
    Own R (w.alloc (.cells #[] e)) base e S (.slice (some ⟨w.heap.size, 0, none⟩) 0 0) [] :=
  ⟨⟨[], World.ownsRow_made w #[] 0 hb (Nat.zero_le _) (by simp), rfl⟩, fun g hg => by simp [Value.ownBlock] at hg; subst hg; exact hS⟩
theorem Own.form (h : Own R w base e S v l) : ∃ A c, v = .slice A l.length c := by
  obtain ⟨xs, hx, _⟩ := h.ex
  rcases hx.2 with ⟨rfl, h0⟩ | ⟨g, cap, cur, hv, _⟩
  · exact ⟨none, 0, by rw [h0]⟩
  · exact ⟨_, cap, hv⟩
theorem Own.block (h : Own R w base e S v l) : ∀ g, v.ownBlock = some g → base ≤ g ∧ g < w.heap.size := by
  obtain ⟨xs, hx, _⟩ := h.ex
  exact hx.lt
/-- kept where neither its own row nor its elements' memory is touched -/
theorem Own.keep (h : Own R w base e S v l) (hf : ∀ k, (S k ∨ v.ownBlock = some k) → w'.heap[k]? = w.heap[k]?) : Own R w' base e S v l := by
  obtain ⟨⟨xs, hx, hr⟩, ha⟩ := h
  refine ⟨⟨xs, ⟨hx.1, ?_⟩, hr.frame fun k hk => hf k (.inl hk)⟩, ha⟩
  rcases hx.2 with h0 | ⟨g, cap, cur, hv, hb, hg, rest⟩
  · exact .inl h0
  · exact .inr ⟨g, cap, cur, hv, hb, by rw [hf g (.inr (by rw [hv]; rfl))]; exact hg, rest⟩
theorem Own.lower {base' : Nat} (h : Own R w base e S v l) (hb : base' ≤ base) : Own R w base' e S v l := by
  obtain ⟨⟨xs, hx, hr⟩, ha⟩ := h
  refine ⟨⟨xs, ⟨hx.1, ?_⟩, hr⟩, ha⟩
  rcases hx.2 with h0 | ⟨g, cap, cur, hv, hb', rest⟩
  · exact .inl h0
  · exact .inr ⟨g, cap, cur, hv, by omega, rest⟩
theorem Own.mono (h : Own R w base e S v l) (hs : ∀ k, S k → S' k) (ha : ∀ g, v.ownBlock = some g → ¬ S' g) : Own R w base e S' v l := by
  obtain ⟨⟨xs, hx, hr⟩, _⟩ := h
  exact ⟨⟨xs, hx, hr.mono hs⟩, ha⟩
theorem Own.lt (h : Own R w base e S v l) : Own R w base e (fun k => S k ∧ k < w.heap.size) v l := by
  obtain ⟨⟨xs, hx, hr⟩, ha⟩ := h
  exact ⟨⟨xs, hx, hr.lt⟩, fun g hg hh => ha g hg hh.1⟩
/-- kept where neither its own row nor its elements' memory is touched; only blocks that are there count -/
theorem Own.keep' (h : Own R w base e S v l) (hf : ∀ k, k < w.heap.size → (S k ∨ v.ownBlock = some k) → w'.heap[k]? = w.heap[k]?) (hS : ∀ k, k < w.heap.size → S k → S' k) (ha : ∀ g, v.ownBlock = some g → ¬ S' g) : Own R w' base e S' v l :=
  Own.mono (h.lt.keep fun k hk => by
    rcases hk with hk | hk
    · exact hf k hk.2 (.inl hk.1)
    · exact hf k (h.block k hk).2 (.inr hk)) (fun k hk => hS k hk.2 hk.1) ha
/-- as a slice that is read -/
theorem Own.sl (h : Own R w base e S v l) (hs : ∀ k, S k → S' k) (ho : ∀ g, v.ownBlock = some g → S' g) : Sl R w S' v l := by
  obtain ⟨⟨xs, hx, hr⟩, _⟩ := h
  rcases hx.2 with ⟨rfl, h0⟩ | ⟨g, cap, cur, rfl, hb, hg, h1, h2, h3, h4⟩
  · have : l = [] := List.eq_nil_of_length_eq_zero h0
    subst this
    exact Sl.nil _ _ _
  · refine ⟨_, cap, rfl, h1, h2, xs, hr.mono hs, fun _ => ⟨g, 0, rfl, ho g rfl, fun j hj => ?_⟩⟩
    have := hx.cells (g := g) rfl j xs[j] (by simp [hj])
    rw [show (⟨g, 0, none⟩ : Addr).add j = ⟨g, 0 + j, none⟩ from by unfold Addr.add; split <;> simp_all] at this
    rw [this]; simp [hj]
/-- element k's cells -/
theorem Own.at_ (h : Own R w base e S v l) (k : Nat) (hk : k < l.length) : ∃ g c ec, v = .slice (some ⟨g, 0, none⟩) l.length c ∧ base ≤ g ∧ g < w.heap.size ∧ R.ok w S ec l[k] ∧ ec.length = R.n ∧
    ∀ j, j < R.n → w.cell? ⟨g, k * R.n + j, none⟩ = ec[j]? := by
  obtain ⟨⟨xs, hx, hr⟩, _⟩ := h
  obtain ⟨ec, hok, hl, hget⟩ := hr.get k hk
  rcases hx.2 with ⟨_, h0⟩ | ⟨g, cap, cur, hv, hb, hg, h1, h2, h3, h4⟩
  · omega
  · refine ⟨g, cap, ec, hv, hb, (Array.getElem?_eq_some_iff.1 hg).1, hok, hl, fun j hj => ?_⟩
    have hlen := hr.length
    have hle : (k + 1) * R.n ≤ xs.length := by rw [hlen]; exact Nat.mul_le_mul_right _ hk
    have hlt : k * R.n + j < xs.length := by rw [Nat.add_mul] at hle; omega
    have := hx.cells (g := g) (by rw [hv]; rfl) (k * R.n + j) xs[k * R.n + j] (by simp [hlt])
    rw [show (⟨g, 0, none⟩ : Addr).add (k * R.n + j) = ⟨g, k * R.n + j, none⟩ from by unfold Addr.add; split <;> simp_all] at this
    rw [this, ← hget j hj, List.getElem?_eq_getElem hlt]
theorem Own.slOf (h : Own R w base e S v l) : Sl R w (fun k => S k ∨ v.ownBlock = some k) v l := h.sl (fun _ h => .inl h) (fun _ h => .inr h)
theorem Own.len_le (h : Own R w base e S v l) : l.length ≤ maxLen := by
  obtain ⟨xs, hx, _⟩ := h.ex
  rcases hx.2 with ⟨_, h0⟩ | ⟨g, cap, cur, _, _, _, h1, h2, _⟩
  · rw [h0]; exact Nat.zero_le _
  · omega
end

section
variable {P : Program} {α : Type} {R : Rep α} {w w' : World} {S S' : Nat → Prop} {v : Value} {l l' : List α} {base : Nat} {e : TypeId}
/-- what an append leaves -/
structure App {α : Type} (R : Rep α) (base : Nat) (e : TypeId) (S : Nat → Prop) (w : World) (v : Value) (l : List α) (v' : Value) (w' : World) : Prop where
  own : Own R w' base e S v' l
  grown : w.grownBy w' v.ownBlock
  at_ : ∀ g, v'.ownBlock = some g → v.ownBlock = some g ∨ w.heap.size ≤ g

theorem run_app {t ty bytes : Nat} (E : Elem P t e R.n bytes) (hown : Own R w base e S v l) (hSlt : ∀ k, S k → k < w.heap.size)
    {ad : Addr} {m c : Nat} {news : List Value} (hnews : Run R w S news l') (hm : m = l'.length) (hcell : ∀ j u, news[j]? = some u → w.cell? (ad.add j) = some u)
    (h63 : l.length + m ≤ maxLen) (hbytes : (l.length + m) * bytes ≤ 140737488355328) (hbase : base ≤ w.heap.size) :
    ∃ v' w', (Builtin.append_ #[t, t] ty #[v, .slice (some ad) m c]).run P w = .ok v' w' ∧ App R base e S w v (l ++ l') v' w' := by
  obtain ⟨ht, hs0, i, z, hi, hz, hsz, hby, hzs⟩ := E
  subst hm
  have hown' := hown
  obtain ⟨⟨xs, hx, hr⟩, ha⟩ := hown
  obtain ⟨v', w', hrun, h2, h3, _, h5⟩ := run_append_own_at (P := P) w base t ty e i z R.n bytes ht hi hz hsz hby hzs hs0 v l.length xs hx ad l'.length c news hnews.length hcell hnews.one h63 hbytes hbase
  refine ⟨v', w', hrun, ⟨⟨xs ++ news, by simpa using h2, (hr.append hnews).frame fun k hk => h3.block k (hSlt k hk) (fun e => ha k e.symm hk)⟩, fun g hg => ?_⟩, h3, fun g hg => ?_⟩
  rotate_left
  · rcases h5 with h5 | h5
    · exact .inl (h5 ▸ hg)
    · rw [h5] at hg
      injection hg with hg
      exact .inr (by omega)
  rcases h5 with h5 | h5
  · exact ha g (by rw [← h5]; exact hg)
  · intro hS
    have := hSlt g hS
    rw [h5] at hg
    injection hg with hg
    omega

theorem wp_app {o : Oper} {a : Act} {K : Act → World → Prop} {Q : Exit → Act → World → Prop} (s x : Operand) (t : TypeId) {bytes : Nat}
    (ho : o.op = .call { callee := .builtin .append, args := #[s, x], argTypes := #[t, t] })
    (E : Elem P t e R.n bytes) (hs : a.eval s = v) (hown : Own R w base e S v l) (hSlt : ∀ k, S k → k < w.heap.size)
    {ad : Addr} {m c : Nat} {news : List Value} (hx : a.eval x = .slice (some ad) m c) (hnews : Run R w S news l') (hm : m = l'.length) (hcell : ∀ j u, news[j]? = some u → w.cell? (ad.add j) = some u)
    (h63 : l.length + m ≤ maxLen) (hbytes : (l.length + m) * bytes ≤ 140737488355328) (hbase : base ≤ w.heap.size)
    (h : ∀ v' w', App R base e S w v (l ++ l') v' w' → K (a.put o.dst v') w') : o.wp P a w K Q := by
  obtain ⟨v', w', hr, h2⟩ := run_app (P := P) (ty := o.type) (c := c) E hown hSlt hnews hm hcell h63 hbytes hbase
  unfold Oper.wp execOp
  simp only [ho, resolve, invoke, builtin, Sem.run_bind, Sem.run_pure, Result.andThen_ok, List.map_toArray, List.map_cons, List.map_nil, hs, hx, hr]
  exact h v' w' h2
theorem wpList_app {ops : Array Oper} {rest : List Oper} {o : Oper} {a : Act} {Q : Exit → Act → World → Prop} (hgd : o.guard = none) (s x : Operand) (t : TypeId) {bytes : Nat}
    (ho : o.op = .call { callee := .builtin .append, args := #[s, x], argTypes := #[t, t] })
    (E : Elem P t e R.n bytes) (hs : a.eval s = v) (hown : Own R w base e S v l) (hSlt : ∀ k, S k → k < w.heap.size)
    {ad : Addr} {m c : Nat} {news : List Value} (hx : a.eval x = .slice (some ad) m c) (hnews : Run R w S news l') (hm : m = l'.length) (hcell : ∀ j u, news[j]? = some u → w.cell? (ad.add j) = some u)
    (h63 : l.length + m ≤ maxLen) (hbytes : (l.length + m) * bytes ≤ 140737488355328) (hbase : base ≤ w.heap.size)
    (h : ∀ v' w', App R base e S w v (l ++ l') v' w' → wpList P ops Q rest (a.put o.dst v') w') : wpList P ops Q (o :: rest) a w :=
  wpList_plain hgd fun _ hK => wp_app s x t ho E hs hown hSlt hx hnews hm hcell h63 hbytes hbase fun v' w' h2 => hK _ _ (h v' w' h2)
theorem step_app {ops : Array Oper} {o : Oper} {a : Act} {K : Act → World → Prop} {Q : Exit → Act → World → Prop} {Els : Prop} (hgd : o.guard = none) (s x : Operand) (t : TypeId) {bytes : Nat}
    (ho : o.op = .call { callee := .builtin .append, args := #[s, x], argTypes := #[t, t] })
    (E : Elem P t e R.n bytes) (hs : a.eval s = v) (hown : Own R w base e S v l) (hSlt : ∀ k, S k → k < w.heap.size)
    {ad : Addr} {m c : Nat} {news : List Value} (hx : a.eval x = .slice (some ad) m c) (hnews : Run R w S news l') (hm : m = l'.length) (hcell : ∀ j u, news[j]? = some u → w.cell? (ad.add j) = some u)
    (h63 : l.length + m ≤ maxLen) (hbytes : (l.length + m) * bytes ≤ 140737488355328) (hbase : base ≤ w.heap.size)
    (h : ∀ v' w', App R base e S w v (l ++ l') v' w' → K (a.put o.dst v') w') :
    if Region.wanted o (yielded ops a.tmps) = true then Oper.wp P o a w K Q else Els := by
  have hw : Region.wanted o (yielded ops a.tmps) = true := by simp [Region.wanted, hgd]
  rw [if_pos hw]
  exact wp_app s x t ho E hs hown hSlt hx hnews hm hcell h63 hbytes hbase h

/-- the source is a slice that reads as l' (nil, empty or not) -/
theorem run_apps {t ty bytes : Nat} (E : Elem P t e R.n bytes) (hown : Own R w base e S v l) (hSlt : ∀ k, S k → k < w.heap.size)
    {x : Value} {S2 : Nat → Prop} (hnews : Sl R w S2 x l') (hS2 : ∀ cs, Run R w S2 cs l' → Run R w S cs l')
    (h63 : l.length + l'.length ≤ maxLen) (hbytes : (l.length + l'.length) * bytes ≤ 140737488355328) (hbase : base ≤ w.heap.size) :
    ∃ v' w', (Builtin.append_ #[t, t] ty #[v, x]).run P w = .ok v' w' ∧ App R base e S w v (l ++ l') v' w' := by
  obtain ⟨A, cap, rfl, h1, h2, cs, hr, hh⟩ := hnews
  cases hA : A with
  | some ad =>
    refine run_app E hown hSlt (hS2 cs hr) rfl (fun j u hu => ?_) h63 hbytes hbase
    have hne : l' ≠ [] := by
      rintro rfl
      simp [Run] at hr; subst hr; simp at hu
    obtain ⟨g, off, hA', _, hc⟩ := hh hne
    rw [hA] at hA'
    injection hA' with hA'
    subst hA'
    have hj : j < cs.length := by
      rcases Nat.lt_or_ge j cs.length with h | h
      · exact h
      · rw [List.getElem?_eq_none h] at hu; cases hu
    rw [show (⟨g, off, none⟩ : Addr).add j = ⟨g, off + j, none⟩ from by unfold Addr.add; split <;> simp_all, hc j hj, hu]
  | none =>
    have hl : l' = [] := by
      by_cases hne : l' = []
      · exact hne
      · obtain ⟨g, off, hA', _⟩ := hh hne
        rw [hA] at hA'; cases hA'
    subst hl
    obtain ⟨ht, hs0, i, z, hi, hz, hsz, hby, hzs⟩ := E
    refine ⟨v, w, ?_, ⟨by simpa using hown, World.grownBy.refl w _, fun _ h => .inl h⟩⟩
    obtain ⟨xs, hx, _⟩ := hown.ex
    rcases hx.2 with ⟨rfl, _⟩ | ⟨g, cap, cur, rfl, _, _, hnc, _⟩
    · simp [Builtin.append_, run_underlying ht, sizeOf, typeInfo, hi, Builtin.lenOf, Builtin.firstCells]
    · simp [Builtin.append_, run_underlying ht, sizeOf, typeInfo, hi, Builtin.lenOf, Builtin.firstCells, hnc, storeCells]
theorem wp_apps {o : Oper} {a : Act} {K : Act → World → Prop} {Q : Exit → Act → World → Prop} (s x : Operand) (t : TypeId) {bytes : Nat}
    (ho : o.op = .call { callee := .builtin .append, args := #[s, x], argTypes := #[t, t] })
    (E : Elem P t e R.n bytes) (hs : a.eval s = v) (hown : Own R w base e S v l) (hSlt : ∀ k, S k → k < w.heap.size)
    {xv : Value} {S2 : Nat → Prop} (hx : a.eval x = xv) (hnews : Sl R w S2 xv l') (hS2 : ∀ cs, Run R w S2 cs l' → Run R w S cs l')
    (h63 : l.length + l'.length ≤ maxLen) (hbytes : (l.length + l'.length) * bytes ≤ 140737488355328) (hbase : base ≤ w.heap.size)
    (h : ∀ v' w', App R base e S w v (l ++ l') v' w' → K (a.put o.dst v') w') : o.wp P a w K Q := by
  obtain ⟨v', w', hr, h2⟩ := run_apps (P := P) (ty := o.type) E hown hSlt hnews hS2 h63 hbytes hbase
  unfold Oper.wp execOp
  simp only [ho, resolve, invoke, builtin, Sem.run_bind, Sem.run_pure, Result.andThen_ok, List.map_toArray, List.map_cons, List.map_nil, hs, hx, hr]
  exact h v' w' h2
theorem wpList_apps {ops : Array Oper} {rest : List Oper} {o : Oper} {a : Act} {Q : Exit → Act → World → Prop} (hgd : o.guard = none) (s x : Operand) (t : TypeId) {bytes : Nat}
    (ho : o.op = .call { callee := .builtin .append, args := #[s, x], argTypes := #[t, t] })
    (E : Elem P t e R.n bytes) (hs : a.eval s = v) (hown : Own R w base e S v l) (hSlt : ∀ k, S k → k < w.heap.size)
    {xv : Value} {S2 : Nat → Prop} (hx : a.eval x = xv) (hnews : Sl R w S2 xv l') (hS2 : ∀ cs, Run R w S2 cs l' → Run R w S cs l')
    (h63 : l.length + l'.length ≤ maxLen) (hbytes : (l.length + l'.length) * bytes ≤ 140737488355328) (hbase : base ≤ w.heap.size)
    (h : ∀ v' w', App R base e S w v (l ++ l') v' w' → wpList P ops Q rest (a.put o.dst v') w') : wpList P ops Q (o :: rest) a w :=
  wpList_plain hgd fun _ hK => wp_apps s x t ho E hs hown hSlt hx hnews hS2 h63 hbytes hbase fun v' w' h2 => hK _ _ (h v' w' h2)
theorem step_apps {ops : Array Oper} {o : Oper} {a : Act} {K : Act → World → Prop} {Q : Exit → Act → World → Prop} {Els : Prop} (hgd : o.guard = none) (s x : Operand) (t : TypeId) {bytes : Nat}
    (ho : o.op = .call { callee := .builtin .append, args := #[s, x], argTypes := #[t, t] })
    (E : Elem P t e R.n bytes) (hs : a.eval s = v) (hown : Own R w base e S v l) (hSlt : ∀ k, S k → k < w.heap.size)
    {xv : Value} {S2 : Nat → Prop} (hx : a.eval x = xv) (hnews : Sl R w S2 xv l') (hS2 : ∀ cs, Run R w S2 cs l' → Run R w S cs l')
    (h63 : l.length + l'.length ≤ maxLen) (hbytes : (l.length + l'.length) * bytes ≤ 140737488355328) (hbase : base ≤ w.heap.size)
    (h : ∀ v' w', App R base e S w v (l ++ l') v' w' → K (a.put o.dst v') w') :
    if Region.wanted o (yielded ops a.tmps) = true then Oper.wp P o a w K Q else Els := by
  have hw : Region.wanted o (yielded ops a.tmps) = true := by simp [Region.wanted, hgd]
  rw [if_pos hw]
  exact wp_apps s x t ho E hs hown hSlt hx hnews hS2 h63 hbytes hbase h

/-- another own slice is kept by an append -/
theorem App.keep_own {β : Type} {R' : Rep β} {b' : Nat} {e' : TypeId} {S2 : Nat → Prop} {u v' : Value} {l2 : List β} (h : App R base e S w v l v' w') (hu : Own R' w b' e' S2 u l2) (hS : ∀ k, S2 k → k < w.heap.size)
    (hne : ∀ g, v.ownBlock = some g → u.ownBlock ≠ some g ∧ ¬ S2 g) : Own R' w' b' e' S2 u l2 ∧ ∀ g, v'.ownBlock = some g → u.ownBlock ≠ some g ∧ ¬ S2 g := by
  refine ⟨hu.keep fun k hk => ?_, fun g hg => ?_⟩
  · rcases hk with hk | hk
    · exact h.grown.block k (hS k hk) (fun e => (hne k e.symm).2 hk)
    · exact h.grown.block k (hu.block k hk).2 (fun e => (hne k e.symm).1 hk)
  · rcases h.at_ g hg with h1 | h1
    · exact hne g h1
    · exact ⟨fun e => by have := (hu.block g e).2; omega, fun e => by have := hS g e; omega⟩
theorem App.below {B : Nat} {w0 : World} {v' : Value} (h : App R base e S w v l v' w') (hb : Below B w0 w) (hB : B ≤ w.heap.size) (hv : ∀ g, v.ownBlock = some g → B ≤ g) : Below B w0 w' :=
  hb.grown h.grown hB hv
theorem App.form1 {x0 : α} {v' : Value} (h : App R base e S w v (l ++ [x0]) v' w') : ∃ A c, v' = .slice A (l.length + 1) c := by
  obtain ⟨A, c, h⟩ := h.own.form
  exact ⟨A, c, by rw [h]; simp⟩
/-- append of one element that has just been laid into a block of its own: all is said of the world w ahead of that block -/
theorem wp_app1 {W : World} {x0 : α} {o : Oper} {a : Act} {K : Act → World → Prop} {Q : Exit → Act → World → Prop} (s x : Operand) (t : TypeId) {bytes : Nat}
    (ho : o.op = .call { callee := .builtin .append, args := #[s, x], argTypes := #[t, t] })
    (E : Elem P t e R.n bytes) (hs : a.eval s = v) (hown : Own R w base e S v l) (hSlt : ∀ k, S k → k < w.heap.size)
    {c : Nat} {cs : Array Value} {t' : TypeId} (hx : a.eval x = .slice (some ⟨w.heap.size, 0, none⟩) 1 c) (hok : R.ok w S cs.toList x0)
    (hW : W.heap = w.heap.push (.cells cs t')) (hWo : W.os = w.os ∧ W.tape = w.tape ∧ W.output = w.output)
    (hl : l.length < 2147483648) (hby : bytes ≤ 4096) (hbase : base ≤ w.heap.size)
    (h : ∀ v' w', App R base e S w v (l ++ [x0]) v' w' → K (a.put o.dst v') w') : o.wp P a W K Q := by
  have hz : W.heap.size = w.heap.size + 1 := by rw [hW]; simp
  have hk : ∀ k, k < w.heap.size → W.heap[k]? = w.heap[k]? := fun k hk => by rw [hW, Array.getElem?_push, if_neg (by omega)]
  have hb : W.heap[w.heap.size]? = some (.cells cs t' (0, 0)) := by rw [hW]; simp
  refine wp_app (w := W) (m := 1) (l' := [x0]) s x t ho E hs (hown.keep fun k hh => hk k ?_) (fun k hh => by have := hSlt k hh; omega) hx (Run.single (R.frame (fun k hh => hk k (hSlt k hh)) hok)) rfl (World.news_of_block hb) (by simp only [maxLen]; omega) ?_ (by omega) ?_
  · rcases hh with hh | hh
    · exact hSlt k hh
    · exact (hown.block k hh).2
  · have : (l.length + 1) * bytes ≤ 2147483648 * 4096 := Nat.mul_le_mul (by omega) hby
    omega
  · intro v' w' ha
    refine h v' w' ⟨ha.own, ⟨ha.grown.os.trans hWo.1, ha.grown.tape.trans hWo.2.1, ha.grown.output.trans hWo.2.2, by have := ha.grown.size; omega, fun k hkk hne => (ha.grown.block k (by omega) hne).trans (hk k hkk)⟩, fun g hg => ?_⟩
    rcases ha.at_ g hg with h1 | h1
    · exact .inl h1
    · exact .inr (by omega)
theorem wpList_app1 {W : World} {x0 : α} {ops : Array Oper} {rest : List Oper} {o : Oper} {a : Act} {Q : Exit → Act → World → Prop} (hgd : o.guard = none) (s x : Operand) (t : TypeId) {bytes : Nat}
    (ho : o.op = .call { callee := .builtin .append, args := #[s, x], argTypes := #[t, t] })
    (E : Elem P t e R.n bytes) (hs : a.eval s = v) (hown : Own R w base e S v l) (hSlt : ∀ k, S k → k < w.heap.size)
    {c : Nat} {cs : Array Value} {t' : TypeId} (hx : a.eval x = .slice (some ⟨w.heap.size, 0, none⟩) 1 c) (hok : R.ok w S cs.toList x0)
    (hW : W.heap = w.heap.push (.cells cs t')) (hWo : W.os = w.os ∧ W.tape = w.tape ∧ W.output = w.output)
    (hl : l.length < 2147483648) (hby : bytes ≤ 4096) (hbase : base ≤ w.heap.size)
    (h : ∀ v' w', App R base e S w v (l ++ [x0]) v' w' → wpList P ops Q rest (a.put o.dst v') w') : wpList P ops Q (o :: rest) a W :=
  wpList_plain hgd fun _ hK => wp_app1 s x t ho E hs hown hSlt hx hok hW hWo hl hby hbase fun v' w' h2 => hK _ _ (h v' w' h2)
theorem step_app1 {W : World} {x0 : α} {ops : Array Oper} {o : Oper} {a : Act} {K : Act → World → Prop} {Q : Exit → Act → World → Prop} {Els : Prop} (hgd : o.guard = none) (s x : Operand) (t : TypeId) {bytes : Nat}
    (ho : o.op = .call { callee := .builtin .append, args := #[s, x], argTypes := #[t, t] })
    (E : Elem P t e R.n bytes) (hs : a.eval s = v) (hown : Own R w base e S v l) (hSlt : ∀ k, S k → k < w.heap.size)
    {c : Nat} {cs : Array Value} {t' : TypeId} (hx : a.eval x = .slice (some ⟨w.heap.size, 0, none⟩) 1 c) (hok : R.ok w S cs.toList x0)
    (hW : W.heap = w.heap.push (.cells cs t')) (hWo : W.os = w.os ∧ W.tape = w.tape ∧ W.output = w.output)
    (hl : l.length < 2147483648) (hby : bytes ≤ 4096) (hbase : base ≤ w.heap.size)
    (h : ∀ v' w', App R base e S w v (l ++ [x0]) v' w' → K (a.put o.dst v') w') :
    if Region.wanted o (yielded ops a.tmps) = true then Oper.wp P o a W K Q else Els := by
  have hw : Region.wanted o (yielded ops a.tmps) = true := by simp [Region.wanted, hgd]
  rw [if_pos hw]
  exact wp_app1 s x t ho E hs hown hSlt hx hok hW hWo hl hby hbase h

end

/-! ### bits of bytes -/
theorem u8_andB (b m : UInt8) : bits .and .u8 (b.toNat : Int) (m.toNat : Int) = ((b &&& m).toNat : Int) := by
  rw [u8_and_nat _ _ b.toNat_lt m.toNat_lt, UInt8.toNat_and]

theorem u8_ofNat {k : Nat} (h : k < 256) : (UInt8.ofNat k).toNat = k := by
  rw [UInt8.toNat_ofNat']; omega

/-! ### bytes -/
def bv (b : UInt8) : Value := .int .u8 (b.toNat : Int)
theorem run_byte {w : World} {S : Nat → Prop} {l : List UInt8} : ∀ {cs}, Run Rep.byte w S cs l ↔ cs = l.map bv := by
  induction l with
  | nil => intro cs; simp [Run]
  | cons x l ih =>
    intro cs
    simp only [Run, List.map_cons]
    constructor
    · rintro ⟨c1, c2, rfl, rfl, h2⟩
      rw [ih.1 h2]; rfl
    · rintro rfl
      exact ⟨[bv x], l.map bv, rfl, rfl, ih.2 rfl⟩
theorem run_byte_any {w w' : World} {S S' : Nat → Prop} {l : List UInt8} {cs} (h : Run Rep.byte w S cs l) : Run Rep.byte w' S' cs l := run_byte.2 (run_byte.1 h)

abbrev SlB (w : World) (S : Nat → Prop) (v : Value) (l : List UInt8) : Prop := Sl Rep.byte w S v l
theorem SlB.form {w : World} {S : Nat → Prop} {v : Value} {l : List UInt8} (h : SlB w S v l) :
    ∃ A cap, v = .slice A l.length cap ∧ l.length ≤ cap ∧ cap ≤ maxLen ∧
      (l ≠ [] → ∃ g off, A = some ⟨g, off, none⟩ ∧ S g ∧ ∀ j (hj : j < l.length), w.cell? ⟨g, off + j, none⟩ = some (.int .u8 (l[j].toNat : Int))) := by
  obtain ⟨A, cap, hv, h1, h2, cs, hr, hh⟩ := h
  have := run_byte.1 hr
  subst this
  refine ⟨A, cap, hv, h1, h2, fun hn => ?_⟩
  obtain ⟨g, off, hA, hS, hc⟩ := hh hn
  exact ⟨g, off, hA, hS, fun j hj => by rw [hc j (by simpa using hj)]; simp [bv, hj]⟩
theorem SlB.mk {w : World} {S : Nat → Prop} {A : Option Addr} {n cap : Nat} {l : List UInt8} (hn : n = l.length) (h1 : l.length ≤ cap) (h2 : cap ≤ maxLen)
    (h : l ≠ [] → ∃ g off, A = some ⟨g, off, none⟩ ∧ S g ∧ ∀ j (hj : j < l.length), w.cell? ⟨g, off + j, none⟩ = some (.int .u8 (l[j].toNat : Int))) : SlB w S (.slice A n cap) l := by
  subst hn
  refine ⟨A, cap, rfl, h1, h2, l.map bv, run_byte.2 rfl, fun hn => ?_⟩
  obtain ⟨g, off, hA, hS, hc⟩ := h hn
  exact ⟨g, off, hA, hS, fun j hj => by rw [hc j (by simpa using hj)]; simp [bv, show j < l.length by simpa using hj]⟩
/-- string(b) -/
theorem run_str {P : Program} {w : World} {S : Nat → Prop} {v : Value} {l : List UInt8} (src dst e : TypeId) (hs : P.underlying src = some (.slice e)) (he : P.underlying e = some (.int .u8)) (hd : P.underlying dst = some .string) (h : SlB w S v l) :
    (convert src dst v).run P w = .ok (.string ⟨l.toArray⟩) w := by
  obtain ⟨A, cap, rfl, h1, h2, hh⟩ := h.form
  by_cases hn : l = []
  · subst hn
    cases A with
    | none => exact run_convert_bytes_nil w src e hs he _ _ dst hd
    | some a => exact run_convert_bytes_back w src dst e a cap [] hs he hd (fun j hj => by simp at hj)
  · obtain ⟨g, off, rfl, _, hc⟩ := hh hn
    exact run_convert_bytes_back w src dst e ⟨g, off, none⟩ cap l hs he hd (fun j hj => by
      rw [show (⟨g, off, none⟩ : Addr).add j = ⟨g, off + j, none⟩ from by unfold Addr.add; split <;> simp_all]; exact hc j hj)
/-- a new row of bytes, marked or not -/
theorem SlB.new {w W : World} {S : Nat → Prop} {cs : Array Value} {t : TypeId} {fr : Nat × Nat} (l : List UInt8) (hcs : cs = (l.map bv).toArray) (hW : W.heap[w.heap.size]? = some (.cells cs t fr)) (hS : S w.heap.size) (hl : l.length ≤ maxLen) :
    SlB W S (.slice (some ⟨w.heap.size, 0, none⟩) l.length l.length) l := by
  refine SlB.mk rfl (Nat.le_refl _) hl fun _ => ⟨w.heap.size, 0, rfl, hS, fun j hj => ?_⟩
  rw [cell_of_row W w.heap.size (0 + j) cs t fr hW, hcs]
  simp [bv, hj]
/-- a row of bytes at block g -/
theorem SlB.row {W : World} {S : Nat → Prop} {g : Nat} {cs : Array Value} {t : TypeId} {fr : Nat × Nat} (l : List UInt8) (hcs : cs = (l.map bv).toArray) (hW : W.heap[g]? = some (.cells cs t fr)) (hS : S g) (hl : l.length ≤ maxLen) :
    SlB W S (.slice (some ⟨g, 0, none⟩) l.length l.length) l := by
  refine SlB.mk rfl (Nat.le_refl _) hl fun _ => ⟨g, 0, rfl, hS, fun j hj => ?_⟩
  rw [cell_of_row W g (0 + j) cs t fr hW, hcs]
  simp [bv, hj]
/-- a literal's row -/
theorem Own.lit {α : Type} {R : Rep α} (w : World) (base : Nat) (e : TypeId) (S : Nat → Prop) (cs : Array Value) (l : List α) (hb : base ≤ w.heap.size) (hl : l.length ≤ maxLen) (hr : Run R (w.alloc (.cells cs e)) S cs.toList l) (hS : ¬ S w.heap.size) :
    Own R (w.alloc (.cells cs e)) base e S (.slice (some ⟨w.heap.size, 0, none⟩) l.length l.length) l :=
  ⟨⟨_, World.ownsRow_lit w cs l.length hb hl (by rw [← hr.length, Array.length_toList]), hr⟩, fun g hg => by simp [Value.ownBlock] at hg; subst hg; exact hS⟩
theorem Own.flat {w : World} {base : Nat} {e : TypeId} {S S' : Nat → Prop} {v : Value} {l : List UInt8} (h : Own Rep.byte w base e S v l) (ha : ∀ g, v.ownBlock = some g → ¬ S' g) : Own Rep.byte w base e S' v l := by
  obtain ⟨⟨xs, hx, hr⟩, _⟩ := h
  exact ⟨⟨xs, hx, run_byte_any hr⟩, ha⟩
end Go.Pl
end
/- From the form's own reading of an argument to this seat's words. -/
section
open Go.RowKit
namespace Go.Pl
def Opens {α : Type} (P : Program) (t : TypeId) (R : Rep α) : Prop :=
  ∀ (H : Type) (enc : TypeId × Value → H) (W : World) (spare : Nat → Bool) (held : Bool) (fuel : Nat) (cs : List Value) (y : DataW H × List MemPlace),
    DataW.trod enc P W 0 spare held fuel t cs = some y → ∃ x, R.ok W (· < W.heap.size) cs x
variable {P : Program} {t : TypeId}
theorem opens_i64 (ht : P.underlying t = some (.int .i64)) : Opens P t Rep.i64 := by
  intro H enc W spare held fuel cs y h
  obtain ⟨n, rfl, _, hw⟩ := DataW.trod_int ht h
  have hx : -9223372036854775808 ≤ n ∧ n ≤ 9223372036854775807 := by simpa [Lit.wf, IntKind.min, IntKind.max, IntKind.signed, IntKind.bits] using hw
  exact ⟨n, rfl, hx⟩
theorem opens_u64 (ht : P.underlying t = some (.int .u64)) : Opens P t Rep.u64 := by
  intro H enc W spare held fuel cs y h
  obtain ⟨n, rfl, _, hw⟩ := DataW.trod_int ht h
  have hx : 0 ≤ n ∧ n ≤ 18446744073709551615 := by simpa [Lit.wf, IntKind.min, IntKind.max, IntKind.signed, IntKind.bits] using hw
  refine ⟨n.toNat, ?_, by omega⟩
  rw [Int.toNat_of_nonneg hx.1]
theorem opens_byte (ht : P.underlying t = some (.int .u8)) : Opens P t Rep.byte := by
  intro H enc W spare held fuel cs y h
  obtain ⟨n, rfl, _, hw⟩ := DataW.trod_int ht h
  have hx : 0 ≤ n ∧ n ≤ 255 := by simpa [Lit.wf, IntKind.min, IntKind.max, IntKind.signed, IntKind.bits] using hw
  refine ⟨UInt8.ofNat n.toNat, ?_⟩
  show [Value.int .u8 n] = [.int .u8 ((UInt8.ofNat n.toNat).toNat : Int)]
  rw [u8_ofNat (by omega), Int.toNat_of_nonneg hx.1]
theorem opens_bool (ht : P.underlying t = some .bool) : Opens P t Rep.bool := by
  intro H enc W spare held fuel cs y h
  obtain ⟨n, rfl, _⟩ := DataW.trod_bool ht h
  exact ⟨n, rfl⟩
theorem opens_str (ht : P.underlying t = some .string) : Opens P t Rep.str := by
  intro H enc W spare held fuel cs y h
  obtain ⟨s, rfl, _, hs⟩ := DataW.trod_string ht h
  exact ⟨s.data.toList, rfl, by rw [Array.length_toList]; exact hs⟩
theorem opens_slice {α : Type} {R : Rep α} {e : TypeId} (hR : 0 < R.n) (ht : P.underlying t = some (.slice e)) (hc : P.cellsOf e = R.n) (he : Opens P e R) : Opens P t (Rep.slice R hR) := by
  intro H enc W spare held fuel cs y h
  rcases Go.Deep.open_slice ht h with ⟨rfl, _⟩ | ⟨a, len, cap, m, n, D, Pl, rfl, _, hl, hm, hmm, _, hi⟩
  · exact ⟨[], _, rfl, Sl.nil _ _ _⟩
  · rw [hc] at hi
    have hlm : len ≤ m := by rw [hmm]; split <;> omega
    have key : ∀ k, k ≤ len → ∃ (l : List α) (cs : List Value), l.length = k ∧ Run R W (· < W.heap.size) cs l ∧ ∀ j, j < cs.length → W.cell? (a.add j) = cs[j]? := by
      intro k
      induction k with
      | zero => intro _; exact ⟨[], [], rfl, rfl, fun j hj => by simp at hj⟩
      | succ k ih =>
        intro hk
        obtain ⟨l, cs, hll, hr, hcc⟩ := ih (by omega)
        obtain ⟨cs', hcs', ht'⟩ := hi k (by omega)
        obtain ⟨x, hx⟩ := he H enc W spare held n cs' _ ht'
        obtain ⟨_, hcl, hat⟩ := World.cells?_some hcs'
        refine ⟨l ++ [x], cs ++ cs', by simp [hll], hr.append (Run.single hx), fun j hj => ?_⟩
        have hlen := hr.length
        rw [hll] at hlen
        rcases Nat.lt_or_ge j cs.length with h1 | h1
        · rw [List.getElem?_append_left h1]; exact hcc j h1
        · rw [List.getElem?_append_right h1]
          have h2 : j - cs.length < R.n := by rw [List.length_append, hcl] at hj; omega
          have := hat (j - cs.length) h2
          rw [Go.Deep.add_add] at this
          rw [← this]
          congr 2
          omega
    obtain ⟨l, cs, hll, hr, hcc⟩ := key len (Nat.le_refl _)
    subst hll
    refine ⟨l, _, rfl, some a, cap, rfl, hl, hm, cs, hr, fun hne => ?_⟩
    have hlen := hr.length
    have hpos : 0 < cs.length := by rw [hlen]; exact Nat.mul_pos (List.length_pos_iff.2 hne) hR
    obtain ⟨b, off, spot⟩ := a
    have h0 := (hcc 0 hpos).trans (List.getElem?_eq_getElem hpos)
    have hspot : spot = none := by simpa [Addr.add] using World.cell?_spot h0
    subst hspot
    refine ⟨b, off, rfl, World.block_lt_of_cell? W _ (by simpa [Addr.add] using h0), fun j hj => ?_⟩
    rw [← hcc j hj]
    congr 1
    unfold Addr.add; split <;> simp_all

/-- structs: the fields one behind the other -/
theorem opens_prod {α β : Type} {R : Rep α} {R' : Rep β} {fs : Array Field} {f0 f1 : Field} (hs : P.underlying t = some (.struct fs)) (hfs : fs = #[f0, f1]) (hc : P.cellsOf t = R.n + R'.n)
    (h00 : f0.offset = 0) (h01 : f1.offset = R.n) (hc0 : P.cellsOf f0.type = R.n) (hc1 : P.cellsOf f1.type = R'.n) (h0 : Opens P f0.type R) (h1 : Opens P f1.type R') : Opens P t (R.prod R') := by
  intro H enc W spare held fuel cs y h
  obtain ⟨xs, n, _, _, hl, hxl, hg⟩ := DataW.trod_struct hs h
  subst hfs
  have e0 := hg 0 f0 rfl
  have e1 := hg 1 f1 rfl
  rw [h00, hc0, List.drop_zero] at e0
  rw [h01, hc1] at e1
  have hn : xs.length = 2 := hxl
  have hx0 : xs[0]? = some (xs[0]'(by omega)) := List.getElem?_eq_getElem (by omega)
  have hx1 : xs[1]? = some (xs[1]'(by omega)) := List.getElem?_eq_getElem (by omega)
  obtain ⟨x, hx⟩ := h0 H enc W spare held n _ _ (e0.trans hx0)
  obtain ⟨x', hx'⟩ := h1 H enc W spare held n _ _ (e1.trans hx1)
  refine ⟨(x, x'), cs.take R.n, (cs.drop R.n).take R'.n, ?_, hx, hx'⟩
  rw [List.take_of_length_le (i := R'.n) (by rw [List.length_drop]; omega)]
  exact (List.take_append_drop _ _).symm
theorem opens_prod3 {α β γ : Type} {R : Rep α} {R' : Rep β} {R2 : Rep γ} {fs : Array Field} {f0 f1 f2 : Field} (hs : P.underlying t = some (.struct fs)) (hfs : fs = #[f0, f1, f2]) (hc : P.cellsOf t = R.n + (R'.n + R2.n))
    (h00 : f0.offset = 0) (h01 : f1.offset = R.n) (h02 : f2.offset = R.n + R'.n) (hc0 : P.cellsOf f0.type = R.n) (hc1 : P.cellsOf f1.type = R'.n) (hc2 : P.cellsOf f2.type = R2.n) (h0 : Opens P f0.type R) (h1 : Opens P f1.type R') (h2 : Opens P f2.type R2) : Opens P t (R.prod (R'.prod R2)) := by
  intro H enc W spare held fuel cs y h
  obtain ⟨xs, n, _, _, hl, hxl, hg⟩ := DataW.trod_struct hs h
  subst hfs
  have e0 := hg 0 f0 rfl
  have e1 := hg 1 f1 rfl
  have e2 := hg 2 f2 rfl
  rw [h00, hc0, List.drop_zero] at e0
  rw [h01, hc1] at e1
  rw [h02, hc2] at e2
  have hn : xs.length = 3 := hxl
  have hx0 : xs[0]? = some (xs[0]'(by omega)) := List.getElem?_eq_getElem (by omega)
  have hx1 : xs[1]? = some (xs[1]'(by omega)) := List.getElem?_eq_getElem (by omega)
  have hx2 : xs[2]? = some (xs[2]'(by omega)) := List.getElem?_eq_getElem (by omega)
  obtain ⟨x, hx⟩ := h0 H enc W spare held n _ _ (e0.trans hx0)
  obtain ⟨x', hx'⟩ := h1 H enc W spare held n _ _ (e1.trans hx1)
  obtain ⟨x2, hx2⟩ := h2 H enc W spare held n _ _ (e2.trans hx2)
  refine ⟨(x, x', x2), cs.take R.n, (cs.drop R.n), (List.take_append_drop _ _).symm, hx, (cs.drop R.n).take R'.n, ((cs.drop R.n).drop R'.n), (List.take_append_drop _ _).symm, hx', ?_⟩
  rw [List.drop_drop]
  rw [List.take_of_length_le (i := R2.n) (by rw [List.length_drop]; omega)] at hx2
  exact hx2
/-- an argument: one value of one cell -/
theorem Opens.value {α : Type} {R : Rep α} (h : Opens P t R) {H : Type} {enc : TypeId × Value → H} {W : World} {spare : Nat → Bool} {held : Bool} {v : Value} {d : DataW H} {p : List MemPlace} (hv : DataW.Trod enc P W 0 spare held t v d p) :
    ∃ x, R.ok W (· < W.heap.size) v.cells.toList x := by
  obtain ⟨fuel, hf⟩ := hv
  exact h H enc W spare held fuel _ _ hf
end Go.Pl
end
/- Contracts of the library that are proved once, laid at this program: each body is held against the one that they were proved of. -/
section
namespace Go.Proofs.YtnihobjehelagaaDoor
open Go.Shelf
def lays283_ren : Go.Shelf.Ren := ⟨fun | 283 => 124 | n => n, fun | 3 => 3 | 9 => 9 | 4 => 4 | n => n, fun | n => n⟩
theorem lays283 : Go.Proofs.Lays.n283 Tryd.prog lays283_ren := {
  mixed := by kernel_rfl,
  f283 := Tryd.func124.trans (congrArg some (by kernel_rfl)),
  t3 := Tryd.underlying3,
  a3 := Tryd.isAgg3,
  z3 := Tryd.sizeOf3,
  v3 := Tryd.zeroValue3,
  t4 := Tryd.underlying4,
  a4 := Tryd.isAgg4,
  z4 := Tryd.sizeOf4,
  v4 := Tryd.zeroValue4,
  t9 := Tryd.underlying9,
  a9 := Tryd.isAgg9,
  z9 := Tryd.sizeOf9,
  v9 := Tryd.zeroValue9 }
def lays284_ren : Go.Shelf.Ren := ⟨fun | 284 => 125 | 129 => 136 | 317 => 135 | 318 => 137 | n => n, fun | 53 => 22 | 3 => 3 | 212 => 191 | 0 => 0 | 4 => 4 | 46 => 161 | 5 => 5 | 9 => 9 | n => n, fun | 17 => 2 | n => n⟩
theorem lays284 : Go.Proofs.LaysM.n284 Tryd.prog lays284_ren := {
  mixed := by kernel_rfl,
  f129 := Tryd.func136.trans (congrArg some (by kernel_rfl)),
  f284 := Tryd.func125.trans (congrArg some (by kernel_rfl)),
  f317 := Tryd.func135.trans (congrArg some (by kernel_rfl)),
  f318 := Tryd.func137.trans (congrArg some (by kernel_rfl)),
  t0 := Tryd.underlying0,
  a0 := Tryd.isAgg0,
  z0 := Tryd.sizeOf0,
  v0 := Tryd.zeroValue0,
  t3 := Tryd.underlying3,
  a3 := Tryd.isAgg3,
  z3 := Tryd.sizeOf3,
  v3 := Tryd.zeroValue3,
  t4 := Tryd.underlying4,
  a4 := Tryd.isAgg4,
  z4 := Tryd.sizeOf4,
  v4 := Tryd.zeroValue4,
  t5 := Tryd.underlying5,
  a5 := Tryd.isAgg5,
  z5 := Tryd.sizeOf5,
  v5 := Tryd.zeroValue5,
  t9 := Tryd.underlying9,
  a9 := Tryd.isAgg9,
  z9 := Tryd.sizeOf9,
  v9 := Tryd.zeroValue9,
  t46 := Tryd.underlying161,
  a46 := Tryd.isAgg161,
  z46 := Tryd.sizeOf161,
  v46 := Tryd.zeroValue161,
  t53 := Tryd.underlying22,
  a53 := Tryd.isAgg22,
  z53 := Tryd.sizeOf22,
  v53 := Tryd.zeroValue22,
  t212 := Tryd.underlying191,
  a212 := Tryd.isAgg191,
  z212 := Tryd.sizeOf191,
  v212 := Tryd.zeroValue191,
  g17 := by kernel_rfl,
  i0 := by kernel_rfl,
  i3 := by kernel_rfl,
  i4 := by kernel_rfl,
  i5 := by kernel_rfl,
  i9 := by kernel_rfl,
  i46 := by kernel_rfl,
  i53 := by kernel_rfl,
  i212 := by kernel_rfl,
  m17 := by kernel_rfl }
def lays285_ren : Go.Shelf.Ren := ⟨fun | 285 => 126 | n => n, fun | 37 => 23 | 53 => 22 | 3 => 3 | 4 => 4 | 51 => 192 | 9 => 9 | 5 => 5 | 0 => 0 | n => n, fun | n => n⟩
theorem lays285 : Go.Proofs.Lays.n285 Tryd.prog lays285_ren := {
  mixed := by kernel_rfl,
  f285 := Tryd.func126.trans (congrArg some (by kernel_rfl)),
  t0 := Tryd.underlying0,
  a0 := Tryd.isAgg0,
  z0 := Tryd.sizeOf0,
  v0 := Tryd.zeroValue0,
  t3 := Tryd.underlying3,
  a3 := Tryd.isAgg3,
  z3 := Tryd.sizeOf3,
  v3 := Tryd.zeroValue3,
  t4 := Tryd.underlying4,
  a4 := Tryd.isAgg4,
  z4 := Tryd.sizeOf4,
  v4 := Tryd.zeroValue4,
  t5 := Tryd.underlying5,
  a5 := Tryd.isAgg5,
  z5 := Tryd.sizeOf5,
  v5 := Tryd.zeroValue5,
  t9 := Tryd.underlying9,
  a9 := Tryd.isAgg9,
  z9 := Tryd.sizeOf9,
  v9 := Tryd.zeroValue9,
  t37 := Tryd.underlying23,
  a37 := Tryd.isAgg23,
  z37 := Tryd.sizeOf23,
  v37 := Tryd.zeroValue23,
  t51 := Tryd.underlying192,
  a51 := Tryd.isAgg192,
  z51 := Tryd.sizeOf192,
  v51 := Tryd.zeroValue192,
  t53 := Tryd.underlying22,
  a53 := Tryd.isAgg22,
  z53 := Tryd.sizeOf22,
  v53 := Tryd.zeroValue22 }
end Go.Proofs.YtnihobjehelagaaDoor
end
/- The package-level variables whose cells are known when a call begins: their numbers and cells; and those that hold an error: their numbers and its type. -/
section
namespace Go.Av
mutual
/-- the cells of a datum that is made of letters and numbers -/
def dcs : DataW Unit → List Value
  | .lit l => [l.value]
  | .agg l => dcsl l
  | _ => []
def dcsl : List (DataW Unit) → List Value
  | [] => []
  | d :: l => dcs d ++ dcsl l
end
def tabs : List (Nat × List Value) := [(1, dcs Go.Proofs.YtnihobjehelagaaDoor.Rows.laid_unicode_utf8_acceptRanges), (0, dcs Go.Proofs.YtnihobjehelagaaDoor.Rows.laid_unicode_utf8_first), (6, dcs Go.Proofs.YtnihobjehelagaaDoor.Rows.laid_math_bits_deBruijn32tab), (7, dcs Go.Proofs.YtnihobjehelagaaDoor.Rows.laid_math_bits_deBruijn64tab), (2, dcs Go.Proofs.YtnihobjehelagaaDoor.Rows.laid_internal_strconv_uint64pow10)]
def tabI : List (Nat × TypeId) := [(5, 213), (4, 213)]
/-- which of them are known -/
class Known where
  ks : List Nat
/-- which calls are deferred in a frame -/
class Dfr where
  l : List Deferred
instance dfr0 : Dfr := ⟨[]⟩
/-- the tables of unicode/utf8 are known -/
class KnownU8 [Known] : Prop where
  first : 0 ∈ Known.ks
  accept : 1 ∈ Known.ks
/-- what strconv names is known -/
class KnownSc [Known] : Prop where
  range : 5 ∈ Known.ks
  syn : 4 ∈ Known.ks
/-- the tables that numbers are written by are known -/
class KnownFm [Known] : Prop where
  pow : 2 ∈ Known.ks
  bru : 7 ∈ Known.ks
  bru32 : 6 ∈ Known.ks
end Go.Av
end
/- Abstract states: Go values that read as trees, variables in memory, slices that may grow; and what a function of the program does to them, said without addresses. -/
section
open Go.RowKit Go.Pl
namespace Go.Av
set_option linter.unusedVariables false
set_option linter.unusedSimpArgs false

/-! ### trees: what settled memory reads as -/
inductive E where
  | bool (b : Bool)
  | int (k : IntKind) (n : Int)
  | str (s : List UInt8)
  | sl (l : List E)
  | agg (l : List E)
  | nilp
  deriving Inhabited
def E.cells : E → List E
  | .agg l => l
  | e => [e]
def flat (l : List E) : List E := l.flatMap E.cells
@[simp] theorem flat_nil : flat [] = [] := rfl
@[simp] theorem flat_cons (e : E) (l : List E) : flat (e :: l) = e.cells ++ flat l := rfl
@[simp] theorem flat_append (l l' : List E) : flat (l ++ l') = flat l ++ flat l' := by simp [flat]
abbrev E.byte (b : UInt8) : E := .int .u8 (b.toNat : Int)

/-- a value reads as a tree, by cells that stay -/
inductive VE (w : World) (C : Nat → Nat → Prop) : E → Value → Prop
  | bool (b : Bool) : VE w C (.bool b) (.bool b)
  | int (k : IntKind) (n : Int) : VE w C (.int k n) (.int k n)
  | str (s : List UInt8) (h : s.length ≤ maxLen) : VE w C (.str s) (.string ⟨s.toArray⟩)
  | nilp : VE w C .nilp (.pointer none)
  | slE (A : Option Addr) (cap : Nat) (h : cap ≤ maxLen) : VE w C (.sl []) (.slice A 0 cap)
  | slC (l : List E) (g off cap : Nat) (us : Nat → Value) (h1 : l.length ≤ cap) (h2 : cap ≤ maxLen)
      (hc : ∀ j, j < (flat l).length → C g (off + j)) (hw : ∀ j, j < (flat l).length → w.cell? ⟨g, off + j, none⟩ = some (us j))
      (hv : ∀ (j : Nat) (e : E), (flat l)[j]? = some e → VE w C e (us j)) : VE w C (.sl l) (.slice (some ⟨g, off, none⟩) l.length cap)

theorem VE.mono {w w' : World} {C C' : Nat → Nat → Prop} {e : E} {v : Value} (h : VE w C e v) (hC : ∀ g o, C g o → C' g o)
    (hw : ∀ g o, C g o → w'.cell? ⟨g, o, none⟩ = w.cell? ⟨g, o, none⟩) : VE w' C' e v := by
  induction h with
  | bool b => exact .bool b
  | int k n => exact .int k n
  | str s h => exact .str s h
  | nilp => exact .nilp
  | slE A cap h => exact .slE A cap h
  | slC l g off cap us h1 h2 hc hw' _ ih => exact .slC l g off cap us h1 h2 (fun j hj => hC _ _ (hc j hj)) (fun j hj => (hw _ _ (hc j hj)).trans (hw' j hj)) ih
theorem VE.one {w : World} {C : Nat → Nat → Prop} {e : E} {v : Value} (h : VE w C e v) : v.oneCell' = true := by
  cases h <;> rfl
theorem VE.notAgg {w : World} {C : Nat → Nat → Prop} {l : List E} {v : Value} (h : VE w C (.agg l) v) : False := by cases h

/-! ### what slots and variables hold -/
/-- may a slice grow in place? 'own i': it is the row of token i, from its beginning -/
inductive Tok where
  | ext
  | nil
  | own (i : Nat)
  deriving Inhabited, DecidableEq
inductive D where
  | bool (b : Bool)
  | int (k : IntKind) (n : Int)
  | str (s : List UInt8)
  | sl (t : Tok) (l : List E)
  | nilp
  | ptr (b o : Nat)
  | eptr (cs : List E) (o : Nat)
  | gptr (k o : Nat)
  | bsl (b o n : Nat)
  | agg (l : List D)
  | tup (l : List D)
  | fn (f : FuncId) (cap : List D)
  | nilf
  | iface (t : TypeId) (d : D)
  | nili
  | junk
  deriving Inhabited
abbrev D.byte (b : UInt8) : D := .int .u8 (b.toNat : Int)

/-- a token: at how many elements it stands, how many cells an element has, of which type it is -/
structure Fr where
  n : Nat
  sz : Nat
  e : TypeId
  deriving Inhabited
/-- the ghost: which cells stay; each variable's block; each token's row -/
structure G where
  C : Nat → Nat → Prop
  ρ : List Nat
  τ : List (Nat × Nat)

/-- of a slice of l elements: its token's row is known, if the token stands at its end -/
def TokOk (g : G) (fr : List Fr) (t : Tok) (n : Nat) (v : Value) : Prop :=
  match t with
  | .ext => True
  | .nil => v = .slice none 0 0
  | .own i => ∃ f : Fr, fr[i]? = some f ∧ n ≤ f.n ∧ (f.n = n → ∃ blk cap, v = .slice (some ⟨blk, 0, none⟩) n cap ∧ g.τ[i]? = some (blk, cap))

inductive V (w : World) (g : G) (fr : List Fr) : D → Value → Prop
  | bool (b : Bool) : V w g fr (.bool b) (.bool b)
  | int (k : IntKind) (n : Int) : V w g fr (.int k n) (.int k n)
  | str (s : List UInt8) (h : s.length ≤ maxLen) : V w g fr (.str s) (.string ⟨s.toArray⟩)
  | sl (t : Tok) (l : List E) (v : Value) (h : VE w g.C (.sl l) v) (ht : TokOk g fr t l.length v) : V w g fr (.sl t l) v
  | nilp : V w g fr .nilp (.pointer none)
  | ptr (b o blk : Nat) (h : g.ρ[b]? = some blk) : V w g fr (.ptr b o) (.pointer (some ⟨blk, o, none⟩))
  | eptr (cs : List E) (o blk off : Nat) (us : Nat → Value) (hc : ∀ j, j < cs.length → g.C blk (off + j)) (hw : ∀ j, j < cs.length → w.cell? ⟨blk, off + j, none⟩ = some (us j))
      (hv : ∀ (j : Nat) (e : E), cs[j]? = some e → VE w g.C e (us j)) : V w g fr (.eptr cs o) (.pointer (some ⟨blk, off + o, none⟩))
  | gptr (k o : Nat) : V w g fr (.gptr k o) (.pointer (some ⟨k, o, none⟩))
  | bsl (b o n blk cap : Nat) (h : g.ρ[b]? = some blk) (h1 : n ≤ cap) (h2 : cap ≤ maxLen) : V w g fr (.bsl b o n) (.slice (some ⟨blk, o, none⟩) n cap)
  | agg (l : List D) (vs : List Value) (hl : vs.length = l.length) (h : ∀ (j : Nat) (d : D) (v : Value), l[j]? = some d → vs[j]? = some v → V w g fr d v) : V w g fr (.agg l) (.agg vs.toArray)
  | tup (l : List D) (vs : List Value) (hl : vs.length = l.length) (h : ∀ (j : Nat) (d : D) (v : Value), l[j]? = some d → vs[j]? = some v → V w g fr d v) : V w g fr (.tup l) (.tuple vs.toArray)
  | fn (f : FuncId) (l : List D) (vs : List Value) (hl : vs.length = l.length) (h : ∀ (j : Nat) (d : D) (v : Value), l[j]? = some d → vs[j]? = some v → V w g fr d v) : V w g fr (.fn f l) (.func (.func f) #[] vs.toArray)
  | nilf : V w g fr .nilf .nilFunc
  | iface (t : TypeId) (d : D) (v : Value) (h : V w g fr d v) : V w g fr (.iface t d) (.iface t v)
  | nili : V w g fr .nili .nilIface
  | junk (v : Value) : V w g fr .junk v

/-- a datum that is one cell of a tree -/
def D.ofE : E → D
  | .bool b => .bool b
  | .int k n => .int k n
  | .str s => .str s
  | .sl l => .sl .ext l
  | .agg l => .agg (l.map fun | .bool b => .bool b | .int k n => .int k n | .str s => .str s | .sl l => .sl .ext l | .agg _ => .junk | .nilp => .nilp)
  | .nilp => .nilp
theorem V.ofE {w : World} {g : G} {fr : List Fr} {e : E} {v : Value} (h : VE w g.C e v) : V w g fr (.ofE e) v := by
  cases h with
  | bool b => exact .bool b
  | int k n => exact .int k n
  | str s h => exact .str s h
  | nilp => exact .nilp
  | slE A cap h => exact .sl .ext [] _ (.slE A cap h) trivial
  | slC l g off cap us h1 h2 hc hw hv => exact .sl .ext l _ (.slC l g off cap us h1 h2 hc hw hv) trivial
/-- and back: what may lie in settled memory -/
def D.toE1 : D → Option E
  | .bool b => some (.bool b)
  | .int k n => some (.int k n)
  | .str s => some (.str s)
  | .sl _ l => some (.sl l)
  | .nilp => some .nilp
  | _ => none
theorem V.toE1 {w : World} {g : G} {fr : List Fr} {d : D} {e : E} {v : Value} (h : V w g fr d v) (he : d.toE1 = some e) : VE w g.C e v := by
  cases h <;> simp [D.toE1] at he <;> subst he
  · exact .bool _
  · exact .int _ _
  · exact .str _ ‹_›
  · assumption
  · exact .nilp
def D.toEs : List D → Option (List E)
  | [] => some []
  | d :: l => match d.toE1, D.toEs l with
    | some e, some l' => some (e :: l')
    | _, _ => none
def D.toE : D → Option E
  | .agg l => (D.toEs l).map .agg
  | d => d.toE1

/-- tokens go on -/
def TokOn (g : G) (fr : List Fr) (g' : G) (fr' : List Fr) : Prop := ∀ (i : Nat) (f : Fr), fr[i]? = some f → ∃ f' : Fr, fr'[i]? = some f' ∧ f.n ≤ f'.n ∧ (f'.n = f.n → g'.τ[i]? = g.τ[i]?)
theorem TokOn.refl (g : G) (fr : List Fr) : TokOn g fr g fr := fun _ f h => ⟨f, h, Nat.le_refl _, fun _ => rfl⟩
theorem TokOn.trans {g g1 g2 : G} {fr fr1 fr2 : List Fr} (h : TokOn g fr g1 fr1) (k : TokOn g1 fr1 g2 fr2) : TokOn g fr g2 fr2 := fun i f hf => by
  obtain ⟨f1, h1, h2, h3⟩ := h i f hf
  obtain ⟨f2, k1, k2, k3⟩ := k i f1 h1
  exact ⟨f2, k1, Nat.le_trans h2 k2, fun e => (k3 (by omega)).trans (h3 (by omega))⟩
theorem TokOk.mono {g g' : G} {fr fr' : List Fr} {t : Tok} {n : Nat} {v : Value} (h : TokOk g fr t n v) (ht : TokOn g fr g' fr') : TokOk g' fr' t n v := by
  cases t with
  | ext => trivial
  | nil => exact h
  | own i =>
    obtain ⟨f, h1, h2, h3⟩ := h
    obtain ⟨f', k1, k2, k3⟩ := ht i f h1
    refine ⟨f', k1, Nat.le_trans h2 k2, fun e => ?_⟩
    obtain ⟨blk, cap, e1, e2⟩ := h3 (by omega)
    exact ⟨blk, cap, e1, (k3 (by omega)).trans e2⟩

/-- V is kept where settled cells, variables' blocks and the tokens that stand where they stood are -/
theorem V.mono {w w' : World} {g g' : G} {fr fr' : List Fr} {d : D} {v : Value} (h : V w g fr d v) (hC : ∀ b o, g.C b o → g'.C b o)
    (hw : ∀ b o, g.C b o → w'.cell? ⟨b, o, none⟩ = w.cell? ⟨b, o, none⟩) (hρ : ∀ (i b : Nat), g.ρ[i]? = some b → g'.ρ[i]? = some b)
    (ht : TokOn g fr g' fr') : V w' g' fr' d v := by
  induction h with
  | bool b => exact .bool b
  | int k n => exact .int k n
  | str s h => exact .str s h
  | sl t l v h hk => exact .sl t l v (h.mono hC hw) (hk.mono ht)
  | nilp => exact .nilp
  | ptr b o blk h => exact .ptr b o blk (hρ _ _ h)
  | eptr cs o blk off us hc hw' hv => exact .eptr cs o blk off us (fun j hj => hC _ _ (hc j hj)) (fun j hj => (hw _ _ (hc j hj)).trans (hw' j hj)) (fun j e he => (hv j e he).mono hC hw)
  | gptr k o => exact .gptr k o
  | bsl b o n blk cap h h1 h2 => exact .bsl b o n blk cap (hρ _ _ h) h1 h2
  | agg l vs hl _ ih => exact .agg l vs hl ih
  | tup l vs hl _ ih => exact .tup l vs hl ih
  | fn f l vs hl _ ih => exact .fn f l vs hl ih
  | nilf => exact .nilf
  | iface t d v _ ih => exact .iface t d v ih
  | nili => exact .nili
  | junk v => exact .junk v

/-! ### memory -/
/-- the blocks that a call may write -/
def M (g : G) (k : Nat) : Prop := k ∈ g.ρ ∨ ∃ c, (k, c) ∈ g.τ
/-- what a token's row is -/
structure TokAt (w : World) (g : G) (blk cap : Nat) (f : Fr) : Prop where
  row : ∃ cur, w.heap[blk]? = some (.cells cur f.e (0, 0)) ∧ cur.size = cap * f.sz
  le : f.n ≤ cap
  max : cap ≤ maxLen
  pos : 0 < f.sz
  far : ∀ o, f.n * f.sz ≤ o → ¬ g.C blk o
/-- the package-level variables whose cells are known -/
def Gls [Known] (C : Nat → Nat → Prop) (w : World) : Prop := (∀ (k : Nat) (cs : List Value), k ∈ Known.ks ∧ (k, cs) ∈ tabs → ∀ (j : Nat) (v : Value), cs[j]? = some v → C k j ∧ w.cell? ⟨k, j, none⟩ = some v) ∧
  ∀ (k : Nat) (t : TypeId), k ∈ Known.ks ∧ (k, t) ∈ tabI → C k 0 ∧ ∃ v, w.cell? ⟨k, 0, none⟩ = some (.iface t v)
/-- variables and rows -/
structure Mem [Known] (g : G) (bx : List (List D)) (fr : List Fr) (w : World) : Prop where
  bl : g.ρ.length = bx.length
  bat : ∀ (i blk : Nat) (cs : List D), g.ρ[i]? = some blk → bx[i]? = some cs → ∃ vs ty, w.heap[blk]? = some (.cells vs ty (0, 0)) ∧ vs.size = cs.length ∧
    (∀ (j : Nat) (d : D) (v : Value), cs[j]? = some d → vs[j]? = some v → V w g fr d v)
  bC : ∀ blk o, blk ∈ g.ρ → ¬ g.C blk o
  bN : ∀ (i j b : Nat), g.ρ[i]? = some b → g.ρ[j]? = some b → i = j
  tl : g.τ.length = fr.length
  tat : ∀ (i blk cap : Nat) (f : Fr), g.τ[i]? = some (blk, cap) → fr[i]? = some f → TokAt w g blk cap f
  tN : ∀ (i j b c c' : Nat), g.τ[i]? = some (b, c) → g.τ[j]? = some (b, c') → i = j
  tρ : ∀ b c, (b, c) ∈ g.τ → b ∉ g.ρ
  Clt : ∀ b o, g.C b o → b < w.heap.size
  gl : Gls g.C w
/-- how ghost and world go on -/
structure Bs where
  g : G
  fr : List Fr
  w : World
structure Evo (b b' : Bs) : Prop where
  os : b'.w.os = b.w.os
  tape : b'.w.tape = b.w.tape
  output : b'.w.output = b.w.output
  size : b.w.heap.size ≤ b'.w.heap.size
  block : ∀ k, k < b.w.heap.size → ¬ M b.g k → b'.w.heap[k]? = b.w.heap[k]?
  C : ∀ k o, b.g.C k o → b'.g.C k o
  cell : ∀ k o, b.g.C k o → b'.w.cell? ⟨k, o, none⟩ = b.w.cell? ⟨k, o, none⟩
  newC : ∀ k o, b'.g.C k o → b.g.C k o ∨ b.w.heap.size ≤ k ∨ M b.g k
  ρp : ∀ (i k : Nat), b.g.ρ[i]? = some k → b'.g.ρ[i]? = some k
  ρn : ∀ k, k ∈ b'.g.ρ → k ∈ b.g.ρ ∨ b.w.heap.size ≤ k
  τn : ∀ k c, (k, c) ∈ b'.g.τ → (∃ c', (k, c') ∈ b.g.τ) ∨ b.w.heap.size ≤ k
  tok : TokOn b.g b.fr b'.g b'.fr
theorem Gls.evo [Known] {b b' : Bs} (h : Gls b.g.C b.w) (e : Evo b b') : Gls b'.g.C b'.w :=
  ⟨fun k cs hk j v hv => ⟨e.C _ _ (h.1 k cs hk j v hv).1, (e.cell _ _ (h.1 k cs hk j v hv).1).trans (h.1 k cs hk j v hv).2⟩,
   fun k t hk => ⟨e.C _ _ (h.2 k t hk).1, (h.2 k t hk).2.imp fun v hv => (e.cell _ _ (h.2 k t hk).1).trans hv⟩⟩
theorem Evo.own {b b' : Bs} (h : Evo b b') {k : Nat} (hk : M b'.g k) : M b.g k ∨ b.w.heap.size ≤ k := by
  rcases hk with hk | ⟨c, hk⟩
  · exact (h.ρn k hk).imp .inl id
  · exact (h.τn k c hk).imp .inr id
theorem Evo.refl (b : Bs) : Evo b b := ⟨rfl, rfl, rfl, Nat.le_refl _, fun _ _ _ => rfl, fun _ _ h => h, fun _ _ _ => rfl, fun _ _ h => .inl h, fun _ _ h => h, fun _ h => .inl h, fun _ c h => .inl ⟨c, h⟩, TokOn.refl _ _⟩
theorem Evo.trans {b b1 b2 : Bs} (h : Evo b b1) (k : Evo b1 b2) : Evo b b2 where
  os := k.os.trans h.os
  tape := k.tape.trans h.tape
  output := k.output.trans h.output
  size := Nat.le_trans h.size k.size
  block i hi hn := (k.block i (Nat.lt_of_lt_of_le hi h.size) (fun hh => (h.own hh).elim hn (fun h => by omega))).trans (h.block i hi hn)
  C b o hh := k.C b o (h.C b o hh)
  cell b o hh := (k.cell b o (h.C b o hh)).trans (h.cell b o hh)
  newC b o hh := by
    rcases k.newC b o hh with h1 | h1 | h1
    · exact h.newC b o h1
    · exact .inr (.inl (Nat.le_trans h.size h1))
    · exact (h.own h1).elim (fun h => .inr (.inr h)) (fun h => .inr (.inl h))
  ρp i b hh := k.ρp i b (h.ρp i b hh)
  ρn i hh := (k.ρn i hh).elim (h.ρn i) (fun h1 => .inr (Nat.le_trans h.size h1))
  τn i c hh := (k.τn i c hh).elim (fun ⟨c', h1⟩ => h.τn i c' h1) (fun h1 => .inr (Nat.le_trans h.size h1))
  tok := h.tok.trans k.tok
theorem V.evo {g g' : G} {fr fr' : List Fr} {w w' : World} {d : D} {v : Value} (h : V w g fr d v) (e : Evo ⟨g, fr, w⟩ ⟨g', fr', w'⟩) : V w' g' fr' d v := h.mono e.C e.cell e.ρp e.tok

/-! ### states -/
structure St where
  n : Nat
  tm : List (Nat × D)
  bx : List (List D)
  fr : List Fr
  e : Nat × Nat
def look : List (Nat × D) → Nat → D
  | [], _ => .junk
  | (k, d) :: l, t => match Nat.beq k t with
    | true => d
    | false => look l t
structure Inv [Known] [Dfr] (b : Bs) (S : St) (g : G) (a : Act) (w : World) : Prop where
  size : a.tmps.size = S.n
  defers : a.defers = Dfr.l
  mem : Mem g S.bx S.fr w
  tm : ∀ t, V w g S.fr (look S.tm t) (a.tmps.getD t undef)
  evo : Evo b ⟨g, S.fr, w⟩
  bd : b.g.ρ.length ≤ S.e.1 ∧ b.fr.length ≤ S.e.2
/-- how a piece of code is left -/
inductive X where
  | norm
  | exit (id : Nat)
  | goto (l : Nat)
  | ret
  | pan (d : D)
def conc [Known] [Dfr] (b0 : Bs) (Q : X → St → Prop) : Exit → Act → World → Prop
  | .normal, a, w => ∃ S g, Inv b0 S g a w ∧ Q .norm S
  | .exit id, a, w => ∃ S g, Inv b0 S g a w ∧ Q (.exit id) S
  | .goto l, a, w => ∃ S g, Inv b0 S g a w ∧ Q (.goto l) S
  | .ret, a, w => ∃ S g, Inv b0 S g a w ∧ Q .ret S
  | .panic chain, a, w => ∃ S g v d, Inv b0 S g a w ∧ chain = [{ v, recovered := false }] ∧ V w g S.fr d v ∧ Q (.pan d) S
  | .outgrown, _, _ => False
structure AW [Known] [Dfr] (P : Program) (c : Code) (S : St) (Q : X → St → Prop) : Prop where
  run : ∀ b0 g a w, Inv b0 S g a w → c.wp P (conc b0 Q) a w
structure AL [Known] [Dfr] (P : Program) (ops : Array Oper) (l : List Oper) (S : St) (Q : X → St → Prop) : Prop where
  run : ∀ b0 g a w, Inv b0 S g a w → wpList P ops (conc b0 Q) l a w
section
variable {P : Program} {Q : X → St → Prop} {S : St}
theorem AW_skip [Known] [Dfr] (h : Q .norm S) : AW P .skip S Q := ⟨fun _ g _ _ hi => wp_skip ⟨S, g, hi, h⟩⟩
theorem AW_label [Known] [Dfr] {l : Nat} (h : Q .norm S) : AW P (.label l) S Q := ⟨fun _ g _ _ hi => wp_label ⟨S, g, hi, h⟩⟩
theorem AW_exit [Known] [Dfr] {id : Nat} (h : Q (.exit id) S) : AW P (.exit id) S Q := ⟨fun _ g _ _ hi => wp_exit ⟨S, g, hi, h⟩⟩
theorem AW_goto [Known] [Dfr] {id : Nat} (h : Q (.goto id) S) : AW P (.goto id) S Q := ⟨fun _ g _ _ hi => wp_goto ⟨S, g, hi, h⟩⟩
theorem AW_ret [Known] [Dfr] (h : Q .ret S) : AW P .ret S Q := ⟨fun _ g _ _ hi => wp_ret ⟨S, g, hi, h⟩⟩
def X.then (K : St → Prop) (Q : X → St → Prop) : X → St → Prop
  | .norm, S => K S
  | x, S => Q x S
theorem AW_mono [Known] [Dfr] {c : Code} {Q' : X → St → Prop} (h : AW P c S Q) (hq : ∀ x S, Q x S → Q' x S) : AW P c S Q' := ⟨fun b0 g a w hi => wp_mono (h.run b0 g a w hi) fun e a w hc => by
  cases e <;> simp only [conc] at hc ⊢
  · obtain ⟨S, g, h1, h2⟩ := hc; exact ⟨S, g, h1, hq _ _ h2⟩
  · obtain ⟨S, g, h1, h2⟩ := hc; exact ⟨S, g, h1, hq _ _ h2⟩
  · obtain ⟨S, g, h1, h2⟩ := hc; exact ⟨S, g, h1, hq _ _ h2⟩
  · obtain ⟨S, g, h1, h2⟩ := hc; exact ⟨S, g, h1, hq _ _ h2⟩
  · obtain ⟨S, g, v, d, h1, h2, h3, h4⟩ := hc; exact ⟨S, g, v, d, h1, h2, h3, hq _ _ h4⟩⟩
theorem AW_seq [Known] [Dfr] {x y : Code} (h : ∀ K : St → Prop, (∀ S, AW P y S Q → K S) → AW P x S (X.then K Q)) : AW P (.seq x y) S Q := ⟨fun b0 g a w hi => wp_seq <| wp_mono ((h (fun S => AW P y S Q) (fun _ h => h)).run b0 g a w hi) fun e a w hc => by
  cases e <;> simp only [conc, X.then, Exit.then] at hc ⊢
  · obtain ⟨S, g, h1, h2⟩ := hc; exact h2.run b0 g a w h1
  all_goals exact hc⟩
theorem AW_cond [Known] [Dfr] {c : Operand} {x y : Code} {b : Bool} {t : Nat} (hc : c = .tmp t) (hd : look S.tm t = .bool b) (h1 : b = true → AW P x S Q) (h2 : b = false → AW P y S Q) : AW P (.cond c x y) S Q := ⟨fun b0 g a w hi => by
  subst hc
  have hv := hi.tm t
  rw [hd] at hv
  have : a.eval (.tmp t) = .bool b := by
    generalize he : a.tmps.getD t undef = u at hv
    show a.tmps.getD t undef = _
    rw [he]; cases hv; rfl
  cases b with
  | true => exact wp_cond_true this ((h1 rfl).run b0 g a w hi)
  | false => exact wp_cond_false this ((h2 rfl).run b0 g a w hi)⟩
def X.inBlock (id : Nat) (Q : X → St → Prop) : X → St → Prop
  | .exit i, S => if i = id then Q .norm S else Q (.exit i) S
  | x, S => Q x S
theorem AW_block [Known] [Dfr] {id : Nat} {c : Code} (h : AW P c S (X.inBlock id Q)) : AW P (.block id c) S Q := ⟨fun b0 g a w hi => wp_block <| wp_mono (h.run b0 g a w hi) fun e a w hc => by
  cases e <;> simp only [conc, X.inBlock, Exit.inBlock] at hc ⊢
  case exit i =>
    by_cases hid : i = id
    · simp only [hid, if_true] at hc ⊢; exact hc
    · simp only [hid, if_false] at hc ⊢; exact hc
  all_goals exact hc⟩
theorem AW_region [Known] [Dfr] {id : Nat} {l : List Oper} (h : AL P l.toArray l S Q) : AW P (.region id l.toArray false) S Q := ⟨fun b0 g a w hi => wp_region_lit (h.run b0 g a w hi)⟩
theorem AW_loop [Known] [Dfr] {c : Code} (I : Nat → St → Prop) (n : Nat) (h0 : I n S) (hr : ∀ n S, I n S → ∀ K : X → St → Prop, (∀ S' m, m < n → I m S' → K .norm S') → (∀ x S', (∀ h : x = .norm, False) → Q x S' → K x S') → AW P c S K) : AW P (.loop c) S Q := by
  refine ⟨fun b0 g a w hi => ?_⟩
  refine wp_loop_ghost (fun n a w => ∃ S g, Inv b0 S g a w ∧ I n S) n ⟨S, g, hi, h0⟩ fun n a w hI => ?_
  obtain ⟨S, g, hi, hI⟩ := hI
  refine wp_mono ((hr n S hI (X.then (fun S' => ∃ m, m < n ∧ I m S') Q) (fun S' m hm hI => ⟨m, hm, hI⟩) (fun x S' hx hq => by cases x <;> first | exact (hx rfl).elim | exact hq)).run b0 g a w hi) fun e a w hc => ?_
  cases e <;> simp only [conc, X.then, Exit.then] at hc ⊢
  · obtain ⟨S', g', hi', m, hm, hI'⟩ := hc
    exact ⟨m, hm, S', g', hi', hI'⟩
  all_goals exact hc
end
end Go.Av
end
/- The operations, each said of abstract states. -/
section
open Go.RowKit Go.Pl
namespace Go.Av
set_option linter.unusedSimpArgs false
set_option linter.unusedVariables false

def const1 : Value → D
  | .bool b => .bool b
  | .int k n => .int k n
  | .string s => if s.data.toList.length ≤ maxLen then .str s.data.toList else .junk
  | .pointer none => .nilp
  | .slice none 0 0 => .sl .nil []
  | .nilFunc => .nilf
  | .nilIface => .nili
  | _ => .junk
def constD : Value → D
  | .agg cs => .agg (cs.toList.map const1)
  | v => const1 v
theorem const1_ok (w : World) (g : G) (fr : List Fr) (v : Value) : V w g fr (const1 v) v := by
  unfold const1
  split
  · exact .bool _
  · exact .int _ _
  · split
    · exact .str _ ‹_›
    · exact .junk _
  · exact .nilp
  · exact .sl .nil [] _ (.slE _ _ (Nat.zero_le _)) rfl
  · exact .nilf
  · exact .nili
  · exact .junk _
theorem constD_ok (w : World) (g : G) (fr : List Fr) (v : Value) : V w g fr (constD v) v := by
  unfold constD
  split
  · rename_i cs
    have := V.agg (w := w) (g := g) (fr := fr) (cs.toList.map const1) cs.toList (by simp) fun j d v hd hv => by
      rw [List.getElem?_map, hv] at hd
      cases hd
      exact const1_ok w g fr v
    simpa using this
  · exact const1_ok w g fr _
/-! 'nf d = some d'': d laid open -/
mutual
def nf : D → Option D
  | .bool b => some (.bool b)
  | .int k n => some (.int k n)
  | .str s => some (.str s)
  | .sl t l => some (.sl t l)
  | .nilp => some .nilp
  | .ptr b o => some (.ptr b o)
  | .eptr l o => some (.eptr l o)
  | .gptr k o => some (.gptr k o)
  | .bsl b o n => some (.bsl b o n)
  | .agg l => match nfs l with | some l' => some (.agg l') | none => none
  | .tup l => match nfs l with | some l' => some (.tup l') | none => none
  | .fn f l => match nfs l with | some l' => some (.fn f l') | none => none
  | .nilf => some .nilf
  | .iface t d => match nf d with | some d' => some (.iface t d') | none => none
  | .nili => some .nili
  | .junk => some .junk
def nfs : List D → Option (List D)
  | [] => some []
  | d :: l => match nf d, nfs l with
    | some d', some l' => some (d' :: l')
    | _, _ => none
end
mutual
theorem nf_eq : ∀ {d d' : D}, nf d = some d' → d = d'
  | .bool b, d', h => by simpa [nf] using h
  | .int k n, d', h => by simpa [nf] using h
  | .str s, d', h => by simpa [nf] using h
  | .sl t l, d', h => by simpa [nf] using h
  | .nilp, d', h => by simpa [nf] using h
  | .ptr b o, d', h => by simpa [nf] using h
  | .eptr l o, d', h => by simpa [nf] using h
  | .gptr k o, d', h => by simpa [nf] using h
  | .bsl b o n, d', h => by simpa [nf] using h
  | .agg l, d', h => by
    cases hl : nfs l with
    | none => simp [nf, hl] at h
    | some l' => simp [nf, hl] at h; rw [← h, nfs_eq hl]
  | .tup l, d', h => by
    cases hl : nfs l with
    | none => simp [nf, hl] at h
    | some l' => simp [nf, hl] at h; rw [← h, nfs_eq hl]
  | .fn f l, d', h => by
    cases hl : nfs l with
    | none => simp [nf, hl] at h
    | some l' => simp [nf, hl] at h; rw [← h, nfs_eq hl]
  | .nilf, d', h => by simpa [nf] using h
  | .iface t d, d', h => by
    cases hl : nf d with
    | none => simp [nf, hl] at h
    | some l' => simp [nf, hl] at h; rw [← h, nf_eq hl]
  | .nili, d', h => by simpa [nf] using h
  | .junk, d', h => by simpa [nf] using h
theorem nfs_eq : ∀ {l l' : List D}, nfs l = some l' → l = l'
  | [], l', h => by simpa [nfs] using h
  | d :: l, l', h => by
    cases hd : nf d with
    | none => simp [nfs, hd] at h
    | some d' =>
      cases hl : nfs l with
      | none => simp [nfs, hd, hl] at h
      | some l'' => simp [nfs, hd, hl] at h; rw [← h, nf_eq hd, nfs_eq hl]
end
/-- a list's spine laid open -/
def nfl {α : Type} : List α → Option (List α)
  | [] => some []
  | x :: l => match nfl l with | some l' => some (x :: l') | none => none
theorem nfl_eq {α : Type} : ∀ {l l' : List α}, nfl l = some l' → l = l'
  | [], l', h => by simpa [nfl] using h
  | x :: l, l', h => by
    cases hl : nfl l with
    | none => simp [nfl, hl] at h
    | some l'' => simp [nfl, hl] at h; rw [← h, nfl_eq hl]
def ev (tm : List (Nat × D)) : Operand → D
  | .tmp t => look tm t
  | .const v => constD v
  | .func f => .fn f []
  | .global k => .gptr k 0
section
variable {P : Program} {Q : X → St → Prop} {S : St} {b0 : Bs} {g : G} {w : World} {a : Act}
theorem Inv.ev [Known] [Dfr] (h : Inv b0 S g a w) (x : Operand) : V w g S.fr (ev S.tm x) (a.eval x) := by
  cases x with
  | tmp t => exact h.tm t
  | const v => exact constD_ok _ _ _ v
  | func f => exact .fn f [] [] rfl (by simp)
  | global n => exact .gptr _ 0
def St.put (S : St) (t : Nat) (d : D) : St := ⟨S.n, (t, d) :: S.tm, S.bx, S.fr, S.e⟩
theorem Inv.put [Known] [Dfr] {t : Nat} {d : D} {v : Value} (h : Inv b0 S g a w) (ht : Nat.blt t S.n = true) (hv : V w g S.fr d v) : Inv b0 ⟨S.n, (t, d) :: S.tm, S.bx, S.fr, S.e⟩ g (a.put (some t) v) w := by
  refine ⟨by simp [Act.put, h.size], by simp [Act.put, h.defers], h.mem, fun t' => ?_, h.evo, h.bd⟩
  have hlt : t < a.tmps.size := by rw [h.size]; simpa [Nat.blt_eq] using ht
  by_cases e : t = t'
  · subst e
    simp only [look, Nat.beq_refl]
    have : (a.put (some t) v).tmps.getD t undef = v := by simp [Act.put, hlt]
    rw [this]; exact hv
  · have : (a.put (some t) v).tmps.getD t' undef = a.tmps.getD t' undef := by
      simp [Act.put, Array.getD_getElem?, Array.getElem?_setIfInBounds_ne e]
    rw [this]
    have hb : Nat.beq t t' = false := by
      cases hb : Nat.beq t t' with
      | false => rfl
      | true => exact absurd (Nat.eq_of_beq_eq_true hb) e
    simp only [look, hb]
    exact h.tm t'
theorem Inv.put0 [Known] [Dfr] {v : Value} (h : Inv b0 S g a w) : Inv b0 S g (a.put none v) w := h

theorem AL_nil [Known] [Dfr] {ops : Array Oper} (h : Q .norm S) : AL P ops [] S Q := ⟨fun _ g _ _ hi => wpList_nil ⟨S, g, hi, h⟩⟩
end
section
variable {P : Program} {Q : X → St → Prop} {n : Nat} {ee : Nat × Nat} {tm : List (Nat × D)} {bx : List (List D)} {fr : List Fr} {b0 : Bs} {g : G} {w : World} {a : Act}
/-- an operation that only computes -/
theorem AL_val [Known] [Dfr] {ops : Array Oper} {o : Op} {rest : List Oper} {t ty : Nat} {pos : String} {after : Array Edge} (d : D) (ht : Nat.blt t n = true)
    (h : ∀ g a w, Inv ⟨g, fr, w⟩ ⟨n, tm, bx, fr, (g.ρ.length, fr.length)⟩ g a w → ∃ v, (execOp a.eval ⟨some t, o, ty, pos, after, none⟩).run P w = .ok (.value v) w ∧ V w g fr d v)
    (k : AL P ops rest ⟨n, (t, d) :: tm, bx, fr, ee⟩ Q) : AL P ops (⟨some t, o, ty, pos, after, none⟩ :: rest) ⟨n, tm, bx, fr, ee⟩ Q := ⟨fun b0 g a w hi =>
  wpList_plain rfl fun K hK => by
    obtain ⟨v, hr, hv⟩ := h g a w ⟨hi.size, hi.defers, hi.mem, hi.tm, Evo.refl _, Nat.le_refl _, Nat.le_refl _⟩
    unfold Oper.wp
    rw [hr]
    exact hK _ _ (k.run b0 g _ w (hi.put ht hv))⟩
theorem AL_move [Known] [Dfr] {ops : Array Oper} {x : Operand} {rest : List Oper} {t ty : Nat} {pos : String} {after : Array Edge} {d : D} (hx : nf (ev tm x) = some d) (ht : Nat.blt t n = true)
    (k : AL P ops rest ⟨n, (t, d) :: tm, bx, fr, ee⟩ Q) : AL P ops (⟨some t, .move x, ty, pos, after, none⟩ :: rest) ⟨n, tm, bx, fr, ee⟩ Q :=
  AL_val d ht (fun g a w hi => ⟨_, by simp [execOp], (nf_eq hx) ▸ hi.ev x⟩) k
theorem AL_assign [Known] [Dfr] {ops : Array Oper} {x : Operand} {rest : List Oper} {t ty : Nat} {pos : String} {after : Array Edge} {d : D} (hx : nf (ev tm x) = some d) (ht : Nat.blt t n = true)
    (k : AL P ops rest ⟨n, (t, d) :: tm, bx, fr, ee⟩ Q) : AL P ops (⟨some t, .assign x, ty, pos, after, none⟩ :: rest) ⟨n, tm, bx, fr, ee⟩ Q :=
  AL_val d ht (fun g a w hi => ⟨_, by simp [execOp], (nf_eq hx) ▸ hi.ev x⟩) k

theorem V.int_inv {fr : List Fr} {k : IntKind} {n : Int} {v : Value} (h : V w g fr (.int k n) v) : v = .int k n := by cases h; rfl
theorem V.bool_inv {fr : List Fr} {b : Bool} {v : Value} (h : V w g fr (.bool b) v) : v = .bool b := by cases h; rfl
theorem V.str_inv {fr : List Fr} {s : List UInt8} {v : Value} (h : V w g fr (.str s) v) : v = .string ⟨s.toArray⟩ ∧ s.length ≤ maxLen := by cases h; exact ⟨rfl, ‹_›⟩

/-- whole numbers -/
def intBin (op : BinOp) (k : IntKind) (a b : Int) : D :=
  match op with
  | .add => .int k (k.wrap (a + b))
  | .sub => .int k (k.wrap (a - b))
  | .mul => .int k (k.wrap (a * b))
  | .and => .int k (bits .and k a b)
  | .or => .int k (bits .or k a b)
  | .xor => .int k (bits .xor k a b)
  | .andNot => .int k (bits .andNot k a b)
  | .eql => .bool (a == b)
  | .neq => .bool (a != b)
  | .lss => .bool (decide (a < b))
  | .leq => .bool (decide (a ≤ b))
  | .gtr => .bool (decide (a > b))
  | .geq => .bool (decide (a ≥ b))
  | _ => .junk
theorem AL_bin [Known] [Dfr] {ops : Array Oper} {op : BinOp} {x y : Operand} {rest : List Oper} {t ty xt yt : Nat} {pos : String} {after : Array Edge} {k : IntKind} {m q : Int} {d : D}
    (hx : ev tm x = .int k m) (hy : ev tm y = .int k q) (ho : (match op with | .quo | .rem | .shl | .shr => false | _ => true) = true) (hd : nf (intBin op k m q) = some d) (ht : Nat.blt t n = true)
    (kk : AL P ops rest ⟨n, (t, d) :: tm, bx, fr, ee⟩ Q) : AL P ops (⟨some t, .binOp op xt x y yt, ty, pos, after, none⟩ :: rest) ⟨n, tm, bx, fr, ee⟩ Q :=
  AL_val d ht (fun g a w hi => by
    have h1 : V w g fr (ev tm x) (a.eval x) := hi.ev x; rw [hx] at h1; have h1 := h1.int_inv
    have h2 : V w g fr (ev tm y) (a.eval y) := hi.ev y; rw [hy] at h2; have h2 := h2.int_inv
    have hd := nf_eq hd
    subst hd
    cases op <;> simp at ho <;> refine ⟨_, by simp [execOp, h1, h2, eqGuard, binOp, Op.intArith, Op.intCmp, Sem.run_bind]; rfl, ?_⟩ <;> first | exact .int _ _ | exact .bool _) kk
theorem AL_quo [Known] [Dfr] {ops : Array Oper} {x y : Operand} {rest : List Oper} {t ty xt yt : Nat} {pos : String} {after : Array Edge} {k : IntKind} {m q : Int}
    (hx : ev tm x = .int k m) (hy : ev tm y = .int k q) (hn : q ≠ 0) (ht : Nat.blt t n = true)
    (kk : AL P ops rest ⟨n, (t, .int k (k.wrap (m.tdiv q))) :: tm, bx, fr, ee⟩ Q) : AL P ops (⟨some t, .binOp .quo xt x y yt, ty, pos, after, none⟩ :: rest) ⟨n, tm, bx, fr, ee⟩ Q :=
  AL_val _ ht (fun g a w hi => by
    have h1 : V w g fr (ev tm x) (a.eval x) := hi.ev x; rw [hx] at h1; have h1 := h1.int_inv
    have h2 : V w g fr (ev tm y) (a.eval y) := hi.ev y; rw [hy] at h2; have h2 := h2.int_inv
    refine ⟨.int k (k.wrap (m.tdiv q)), by simp [execOp, h1, h2, eqGuard, binOp, Op.intDiv, Sem.run_bind, hn], .int _ _⟩) kk
theorem AL_rem [Known] [Dfr] {ops : Array Oper} {x y : Operand} {rest : List Oper} {t ty xt yt : Nat} {pos : String} {after : Array Edge} {k : IntKind} {m q : Int}
    (hx : ev tm x = .int k m) (hy : ev tm y = .int k q) (hn : q ≠ 0) (ht : Nat.blt t n = true)
    (kk : AL P ops rest ⟨n, (t, .int k (m.tmod q)) :: tm, bx, fr, ee⟩ Q) : AL P ops (⟨some t, .binOp .rem xt x y yt, ty, pos, after, none⟩ :: rest) ⟨n, tm, bx, fr, ee⟩ Q :=
  AL_val _ ht (fun g a w hi => by
    have h1 : V w g fr (ev tm x) (a.eval x) := hi.ev x; rw [hx] at h1; have h1 := h1.int_inv
    have h2 : V w g fr (ev tm y) (a.eval y) := hi.ev y; rw [hy] at h2; have h2 := h2.int_inv
    refine ⟨.int k (m.tmod q), by simp [execOp, h1, h2, eqGuard, binOp, Op.intDiv, Sem.run_bind, hn], .int _ _⟩) kk
theorem AL_shl [Known] [Dfr] {ops : Array Oper} {x y : Operand} {rest : List Oper} {t ty xt yt : Nat} {pos : String} {after : Array Edge} {k k' : IntKind} {m q : Int}
    (hx : ev tm x = .int k m) (hy : ev tm y = .int k' q) (hn : 0 ≤ q) (ht : Nat.blt t n = true)
    (kk : AL P ops rest ⟨n, (t, .int k (k.wrap (m * 2 ^ (min q.toNat k.bits)))) :: tm, bx, fr, ee⟩ Q) : AL P ops (⟨some t, .binOp .shl xt x y yt, ty, pos, after, none⟩ :: rest) ⟨n, tm, bx, fr, ee⟩ Q :=
  AL_val _ ht (fun g a w hi => by
    have h1 : V w g fr (ev tm x) (a.eval x) := hi.ev x; rw [hx] at h1; have h1 := h1.int_inv
    have h2 : V w g fr (ev tm y) (a.eval y) := hi.ev y; rw [hy] at h2; have h2 := h2.int_inv
    refine ⟨.int k (k.wrap (m * 2 ^ (min q.toNat k.bits))), by simp [execOp, h1, h2, eqGuard, binOp, Op.shift, Sem.run_bind, Int.not_lt.2 hn], .int _ _⟩) kk
theorem AL_shr [Known] [Dfr] {ops : Array Oper} {x y : Operand} {rest : List Oper} {t ty xt yt : Nat} {pos : String} {after : Array Edge} {k k' : IntKind} {m q : Int}
    (hx : ev tm x = .int k m) (hy : ev tm y = .int k' q) (hn : 0 ≤ q) (ht : Nat.blt t n = true)
    (kk : AL P ops rest ⟨n, (t, .int k (m.fdiv (2 ^ (min q.toNat k.bits)))) :: tm, bx, fr, ee⟩ Q) : AL P ops (⟨some t, .binOp .shr xt x y yt, ty, pos, after, none⟩ :: rest) ⟨n, tm, bx, fr, ee⟩ Q :=
  AL_val _ ht (fun g a w hi => by
    have h1 : V w g fr (ev tm x) (a.eval x) := hi.ev x; rw [hx] at h1; have h1 := h1.int_inv
    have h2 : V w g fr (ev tm y) (a.eval y) := hi.ev y; rw [hy] at h2; have h2 := h2.int_inv
    refine ⟨.int k (m.fdiv (2 ^ (min q.toNat k.bits))), by simp [execOp, h1, h2, eqGuard, binOp, Op.shift, Sem.run_bind, Int.not_lt.2 hn], .int _ _⟩) kk
theorem AL_not [Known] [Dfr] {ops : Array Oper} {x : Operand} {rest : List Oper} {t ty xt : Nat} {pos : String} {after : Array Edge} {b : Bool} (hx : ev tm x = .bool b) (ht : Nat.blt t n = true)
    (kk : AL P ops rest ⟨n, (t, .bool (!b)) :: tm, bx, fr, ee⟩ Q) : AL P ops (⟨some t, .unOp .not xt x, ty, pos, after, none⟩ :: rest) ⟨n, tm, bx, fr, ee⟩ Q :=
  AL_val _ ht (fun g a w hi => by
    have h1 : V w g fr (ev tm x) (a.eval x) := hi.ev x; rw [hx] at h1; have h1 := h1.bool_inv
    exact ⟨.bool !b, by simp [execOp, h1, Op.unary], .bool _⟩) kk
theorem AL_conv [Known] [Dfr] {ops : Array Oper} {x : Operand} {rest : List Oper} {t ty src dst : Nat} {pos : String} {after : Array Edge} {k k' : IntKind} {q : Int} (hx : ev tm x = .int k q)
    (hs : (match P.underlying src with | some _ => true | none => false) = true) (hd : (match P.underlying dst with | some (.int k) => some k | _ => none) = some k') (ht : Nat.blt t n = true)
    (kk : AL P ops rest ⟨n, (t, .int k' (k'.wrap q)) :: tm, bx, fr, ee⟩ Q) : AL P ops (⟨some t, .convert src dst x, ty, pos, after, none⟩ :: rest) ⟨n, tm, bx, fr, ee⟩ Q :=
  AL_val _ ht (fun g a w hi => by
    have h1 : V w g fr (ev tm x) (a.eval x) := hi.ev x; rw [hx] at h1; have h1 := h1.int_inv
    refine ⟨.int k' (k'.wrap q), ?_, .int _ _⟩
    cases hs' : P.underlying src with
    | none => simp [hs'] at hs
    | some d =>
      cases hd' : P.underlying dst with
      | none => simp [hd'] at hd
      | some d' =>
        cases d' <;> simp [hd'] at hd
        subst hd
        simp [execOp, h1, convert, Sem.run_bind, run_underlying hs', run_underlying hd', Conv.intToInt]) kk
end
end Go.Av
end
/- Contracts of functions over abstract states; calls. -/
section
open Go.RowKit Go.Pl
namespace Go.Av
set_option linter.unusedSimpArgs false
set_option linter.unusedVariables false

/-! ### names of variables and tokens changed -/
mutual
def D.ren (f h : Nat → Option Nat) : D → D
  | .bool b => .bool b
  | .int k n => .int k n
  | .str s => .str s
  | .sl t l => .sl (match t with | .own i => (match h i with | some j => .own j | none => .ext) | t => t) l
  | .nilp => .nilp
  | .ptr b o => match f b with | some b' => .ptr b' o | none => .junk
  | .eptr cs o => .eptr cs o
  | .gptr k o => .gptr k o
  | .bsl b o n => match f b with | some b' => .bsl b' o n | none => .junk
  | .agg l => .agg (D.rens f h l)
  | .tup l => .tup (D.rens f h l)
  | .fn i l => .fn i (D.rens f h l)
  | .nilf => .nilf
  | .iface t d => .iface t (D.ren f h d)
  | .nili => .nili
  | .junk => .junk
def D.rens (f h : Nat → Option Nat) : List D → List D
  | [] => []
  | d :: l => D.ren f h d :: D.rens f h l
end
theorem rens_map (f h : Nat → Option Nat) (l : List D) : D.rens f h l = l.map (D.ren f h) := by
  induction l with
  | nil => rfl
  | cons d l ih => simp [D.rens, ih]
theorem V.ren {w : World} {g g' : G} {fr fr' : List Fr} {d : D} {v : Value} (f h : Nat → Option Nat) (hV : V w g fr d v) (hC : ∀ b o, g.C b o → g'.C b o)
    (hρ : ∀ (b b' blk : Nat), f b = some b' → g.ρ[b]? = some blk → g'.ρ[b']? = some blk)
    (hτ : ∀ (i j : Nat) (f0 : Fr), h i = some j → fr[i]? = some f0 → (∃ f', fr'[j]? = some f' ∧ f'.n = f0.n) ∧ g'.τ[j]? = g.τ[i]?) : V w g' fr' (d.ren f h) v := by
  have hE : ∀ {e v}, VE w g.C e v → VE w g'.C e v := fun hv => hv.mono hC fun _ _ _ => rfl
  induction hV with
  | bool b => exact .bool b
  | int k n => exact .int k n
  | str s h => exact .str s h
  | sl t l v hv hk =>
    refine .sl _ l v (hE hv) ?_
    cases t with
    | ext => trivial
    | nil => exact hk
    | own i =>
      dsimp only
      cases hi : h i with
      | none => trivial
      | some j =>
        obtain ⟨f0, k1, k2, k3⟩ := hk
        obtain ⟨⟨f', h1, h2⟩, h3⟩ := hτ i j f0 hi k1
        refine ⟨f', h1, by omega, fun e => ?_⟩
        obtain ⟨blk, cap, e1, e2⟩ := k3 (by omega)
        exact ⟨blk, cap, e1, h3.trans e2⟩
  | nilp => exact .nilp
  | ptr b o blk hb =>
    show V w g' fr' (match f b with | some b' => .ptr b' o | none => .junk) _
    cases hf : f b with
    | none => exact .junk _
    | some b' => exact .ptr b' o blk (hρ b b' blk hf hb)
  | eptr cs o blk off us hc hw' hv => exact .eptr cs o blk off us (fun j hj => hC _ _ (hc j hj)) hw' (fun j e he => hE (hv j e he))
  | gptr k o => exact .gptr k o
  | bsl b o n blk cap hb h1 h2 =>
    show V w g' fr' (match f b with | some b' => .bsl b' o n | none => .junk) _
    cases hf : f b with
    | none => exact .junk _
    | some b' => exact .bsl b' o n blk cap (hρ b b' blk hf hb) h1 h2
  | agg l vs hl _ ih =>
    refine .agg _ vs (by rw [rens_map]; simpa using hl) fun j d v hd hv => ?_
    rw [rens_map, List.getElem?_map] at hd
    cases hj : l[j]? with
    | none => simp [hj] at hd
    | some d0 => simp [hj] at hd; subst hd; exact ih j d0 v hj hv
  | tup l vs hl _ ih =>
    refine .tup _ vs (by rw [rens_map]; simpa using hl) fun j d v hd hv => ?_
    rw [rens_map, List.getElem?_map] at hd
    cases hj : l[j]? with
    | none => simp [hj] at hd
    | some d0 => simp [hj] at hd; subst hd; exact ih j d0 v hj hv
  | fn i l vs hl _ ih =>
    refine .fn i _ vs (by rw [rens_map]; simpa using hl) fun j d v hd hv => ?_
    rw [rens_map, List.getElem?_map] at hd
    cases hj : l[j]? with
    | none => simp [hj] at hd
    | some d0 => simp [hj] at hd; subst hd; exact ih j d0 v hj hv
  | nilf => exact .nilf
  | iface t d v _ ih => exact .iface t _ v ih
  | nili => exact .nili
  | junk v => exact .junk v

/-! ### a part of the variables and tokens -/
def idx : List Nat → Nat → Option Nat
  | [], _ => none
  | b :: l, t => match Nat.beq b t with
    | true => some 0
    | false => match idx l t with
      | some i => some (i + 1)
      | none => none
theorem idx_get : ∀ {l : List Nat} {t i : Nat}, idx l t = some i → l[i]? = some t
  | [], t, i, h => by simp [idx] at h
  | b :: l, t, i, h => by
    simp only [idx] at h
    cases hb : Nat.beq b t with
    | true =>
      simp [hb] at h; subst h
      have := Nat.eq_of_beq_eq_true hb
      simp [this]
    | false =>
      simp only [hb] at h
      cases hi : idx l t with
      | none => simp [hi] at h
      | some i' => simp [hi] at h; subst h; simpa using idx_get hi
def G.sel (g : G) (bs ts : List Nat) : G := ⟨g.C, bs.map fun i => g.ρ.getD i 0, ts.map fun i => g.τ.getD i (0, 0)⟩
def selB (bs ts : List Nat) (bx : List (List D)) : List (List D) := bs.map fun i => D.rens (idx bs) (idx ts) (bx.getD i [])
def selF (ts : List Nat) (fr : List Fr) : List Fr := ts.map fun i => fr.getD i default
/-- no name twice, all there -/
def okSel (l : List Nat) (n : Nat) : Prop := (∀ (i j b : Nat), l[i]? = some b → l[j]? = some b → i = j) ∧ ∀ b, b ∈ l → b < n
theorem okSel_nil (n : Nat) : okSel [] n := ⟨fun i j b h => by simp at h, fun b h => by simp at h⟩
theorem okSel_one {b n : Nat} (h : b < n) : okSel [b] n := by
  refine ⟨fun i j c hi hj => ?_, fun c hc => by simp at hc; omega⟩
  cases i <;> cases j <;> simp_all
theorem okSel_range {k n : Nat} (h : k ≤ n) : okSel (List.range k) n := by
  refine ⟨fun i j b hi hj => ?_, fun b hb => by simp at hb; omega⟩
  rw [List.getElem?_eq_some_iff] at hi hj
  obtain ⟨h1, h2⟩ := hi
  obtain ⟨h3, h4⟩ := hj
  simp at h2 h4
  omega
section
variable {w : World} {g : G} {bx : List (List D)} {fr : List Fr} {bs ts : List Nat}
theorem getD_some {α : Type} {l : List α} {i : Nat} {d : α} (h : i < l.length) : l[i]? = some (l.getD i d) := by
  simp [List.getD, h]
theorem V.sel [Known] (hm : Mem g bx fr w) (hb : okSel bs bx.length) (ht : okSel ts fr.length) {d : D} {v : Value} (h : V w g fr d v) : V w (g.sel bs ts) (selF ts fr) (d.ren (idx bs) (idx ts)) v := by
  refine h.ren _ _ (fun _ _ h => h) (fun b b' blk hb' hblk => ?_) (fun i j f0 hi hf0 => ?_)
  · have h1 := idx_get hb'
    simp [G.sel, h1, List.getD, hblk]
  · have h1 := idx_get hi
    have h2 : i < fr.length := ht.2 i (List.mem_of_getElem? h1)
    refine ⟨⟨f0, by simp [selF, List.getElem?_map, h1, List.getD, hf0], rfl⟩, ?_⟩
    have h3 : i < g.τ.length := by rw [hm.tl]; exact h2
    simp only [G.sel, List.getElem?_map, h1, Option.map_some]
    exact (getD_some h3).symm
theorem M_sel [Known] (hm : Mem g bx fr w) (hb : okSel bs bx.length) (ht : okSel ts fr.length) {k : Nat} (h : M (g.sel bs ts) k) : M g k := by
  rcases h with h | ⟨c, h⟩
  · simp only [G.sel, List.mem_map] at h
    obtain ⟨i, hi, rfl⟩ := h
    have h3 : i < g.ρ.length := by rw [hm.bl]; exact hb.2 i hi
    exact .inl (List.mem_of_getElem? (getD_some h3))
  · simp only [G.sel, List.mem_map] at h
    obtain ⟨i, hi, h⟩ := h
    have h3 : i < g.τ.length := by rw [hm.tl]; exact ht.2 i hi
    exact .inr ⟨c, h ▸ List.mem_of_getElem? (getD_some h3)⟩
theorem sel_ρ [Known] (hm : Mem g bx fr w) (hb : okSel bs bx.length) {i blk : Nat} (h : (g.sel bs ts).ρ[i]? = some blk) : ∃ b, bs[i]? = some b ∧ g.ρ[b]? = some blk := by
  simp only [G.sel, List.getElem?_map] at h
  cases hi : bs[i]? with
  | none => simp [hi] at h
  | some b =>
    simp only [hi, Option.map_some, Option.some.injEq] at h
    have h3 : b < g.ρ.length := by rw [hm.bl]; exact hb.2 b (List.mem_of_getElem? hi)
    exact ⟨b, rfl, by rw [getD_some (d := 0) h3, h]⟩
theorem sel_τ [Known] (hm : Mem g bx fr w) (ht : okSel ts fr.length) {i : Nat} {p : Nat × Nat} (h : (g.sel bs ts).τ[i]? = some p) : ∃ b, ts[i]? = some b ∧ g.τ[b]? = some p := by
  simp only [G.sel, List.getElem?_map] at h
  cases hi : ts[i]? with
  | none => simp [hi] at h
  | some b =>
    simp only [hi, Option.map_some, Option.some.injEq] at h
    have h3 : b < g.τ.length := by rw [hm.tl]; exact ht.2 b (List.mem_of_getElem? hi)
    exact ⟨b, rfl, by rw [getD_some (d := (0, 0)) h3, h]⟩
theorem TokAt.same {g g' : G} {blk cap : Nat} {f : Fr} (h : TokAt w g blk cap f) (hC : ∀ o, g'.C blk o → g.C blk o) : TokAt w g' blk cap f :=
  ⟨h.row, h.le, h.max, h.pos, fun o ho hc => h.far o ho (hC o hc)⟩
theorem Mem.sel [Known] (hm : Mem g bx fr w) (hb : okSel bs bx.length) (ht : okSel ts fr.length) : Mem (g.sel bs ts) (selB bs ts bx) (selF ts fr) w where
  bl := by simp [G.sel, selB]
  bat i blk cs h1 h2 := by
    obtain ⟨b, hi, hρ⟩ := sel_ρ hm hb h1
    simp only [selB, List.getElem?_map, hi, Option.map_some, Option.some.injEq] at h2
    have hlt : b < bx.length := hb.2 b (List.mem_of_getElem? hi)
    obtain ⟨vs, ty, h3, h4, h5⟩ := hm.bat b blk _ hρ (getD_some (d := []) hlt)
    refine ⟨vs, ty, h3, by rw [h4, ← h2, rens_map, List.length_map], fun j d v hd hv => ?_⟩
    rw [← h2, rens_map, List.getElem?_map] at hd
    cases hj : (bx.getD b [])[j]? with
    | none => simp only [hj, Option.map_none] at hd; cases hd
    | some d0 =>
      simp only [hj, Option.map_some, Option.some.injEq] at hd
      subst hd
      exact V.sel hm hb ht (h5 j d0 v hj hv)
  bC blk o h := by
    obtain ⟨i, hi⟩ := List.getElem?_of_mem h
    obtain ⟨b, _, hρ⟩ := sel_ρ hm hb hi
    exact hm.bC blk o (List.mem_of_getElem? hρ)
  bN i j b h1 h2 := by
    obtain ⟨x, hx, h3⟩ := sel_ρ hm hb h1
    obtain ⟨y, hy, h4⟩ := sel_ρ hm hb h2
    have := hm.bN x y b h3 h4
    subst this
    exact hb.1 i j x hx hy
  tl := by simp [G.sel, selF]
  tat i blk cap f h1 h2 := by
    obtain ⟨b, hi, hτ⟩ := sel_τ hm ht h1
    simp only [selF, List.getElem?_map, hi, Option.map_some, Option.some.injEq] at h2
    have hlt : b < fr.length := ht.2 b (List.mem_of_getElem? hi)
    exact (hm.tat b blk cap f hτ (by rw [← h2]; exact getD_some hlt)).same fun _ h => h
  tN i j b c c' h1 h2 := by
    obtain ⟨x, hx, h3⟩ := sel_τ hm ht h1
    obtain ⟨y, hy, h4⟩ := sel_τ hm ht h2
    have := hm.tN x y b c c' h3 h4
    subst this
    exact ht.1 i j x hx hy
  tρ b c h hr := by
    obtain ⟨i, hi⟩ := List.getElem?_of_mem h
    obtain ⟨x, _, h3⟩ := sel_τ hm ht hi
    obtain ⟨j, hj⟩ := List.getElem?_of_mem hr
    obtain ⟨y, _, h4⟩ := sel_ρ hm hb hj
    exact hm.tρ b c (List.mem_of_getElem? h3) (List.mem_of_getElem? h4)
  Clt := hm.Clt
  gl := hm.gl
end

/-! ### contracts -/
inductive R where
  | ret (d : D)
  | pan (d : D)
def R.ren (f h : Nat → Option Nat) : R → R
  | .ret d => .ret (d.ren f h)
  | .pan d => .pan (d.ren f h)
def R.is (w : World) (g : G) (fr : List Fr) (e : Ending) : R → Prop
  | .ret d => ∃ v, e = .returned v ∧ V w g fr d v
  | .pan d => ∃ v, e = .panicked [{ v, recovered := false }] ∧ V w g fr d v
structure AC [Known] (P : Program) (f : FuncId) (args : List D) (bx : List (List D)) (fr : List Fr) (post : R → List (List D) → List Fr → Prop) : Prop where
  run : ∀ (g : G) (w : World) (vs : List Value), Mem g bx fr w → vs.length = args.length → (∀ (j : Nat) (d : D) (v : Value), args[j]? = some d → vs[j]? = some v → V w g fr d v) →
    Calls P f vs.toArray w fun e w' => ∃ g' bx' fr' r, Evo ⟨g, fr, w⟩ ⟨g', fr', w'⟩ ∧ Mem g' bx' fr' w' ∧ r.is w' g' fr' e ∧ post r bx' fr'
theorem AC.mono [Known] {P : Program} {f : FuncId} {args : List D} {bx : List (List D)} {fr : List Fr} {post post' : R → List (List D) → List Fr → Prop} (h : AC P f args bx fr post) (hp : ∀ r bx' fr', post r bx' fr' → post' r bx' fr') : AC P f args bx fr post' :=
  ⟨fun g w vs hm hl hv => (h.run g w vs hm hl hv).mono fun e w' ⟨g', bx', fr', r, h1, h2, h3, h4⟩ => ⟨g', bx', fr', r, h1, h2, h3, hp _ _ _ h4⟩⟩
end Go.Av
end
/- A function's contract out of its body; a call of a function that has a contract. -/
section
open Go.RowKit Go.Pl
namespace Go.Av
set_option linter.unusedSimpArgs false
set_option linter.unusedVariables false

/-! ### loads -/
def tAgg (P : Program) (t : TypeId) : Option Bool :=
  match P.underlying t with
  | some (.struct _) => some true
  | some (.array _ _) => some true
  | some _ => some false
  | none => none
def tSize (P : Program) (t : TypeId) : Option Nat := (P.info? t).map (·.size)
theorem run_isAgg {P : Program} {t : TypeId} {b : Bool} (h : tAgg P t = some b) (w : World) : (isAgg t).run P w = .ok b w := by
  unfold tAgg at h
  cases hu : P.underlying t with
  | none => simp [hu] at h
  | some d =>
    unfold isAgg
    rw [Sem.run_bind, run_underlying hu w]
    cases d <;> simp_all
theorem run_sizeOf {P : Program} {t : TypeId} {n : Nat} (h : tSize P t = some n) (w : World) : (sizeOf t).run P w = .ok n w := by
  unfold tSize at h
  cases hi : P.info? t with
  | none => simp [hi] at h
  | some i =>
    simp [hi] at h
    simp [sizeOf, typeInfo, Sem.run_bind, hi, h]
theorem run_load1 {P : Program} {t : TypeId} (h : tAgg P t = some false) {w : World} {b o : Nat} {v : Value} (hc : w.cell? ⟨b, o, none⟩ = some v) :
    (loadVar t ⟨b, o, none⟩).run P w = .ok v w := by
  simp [loadVar, Sem.run_bind, run_isAgg h, hc]
theorem run_loadn {P : Program} {t : TypeId} (h : tAgg P t = some true) {w : World} {b o : Nat} (vs : List Value) (hs : tSize P t = some vs.length) (hc : ∀ j v, vs[j]? = some v → w.cell? ⟨b, o + j, none⟩ = some v) :
    (loadVar t ⟨b, o, none⟩).run P w = .ok (.agg vs.toArray) w := by
  have hl : (loadCells ⟨b, o, none⟩ vs.length).run P w = .ok vs.toArray w :=
    run_loadCells_list (P := P) w ⟨b, o, none⟩ vs (fun j v hv => by rw [Addr.add_mid]; exact hc j v hv)
  simp [loadVar, Sem.run_bind, run_isAgg h, run_sizeOf hs, hl]
section
variable {P : Program} {w : World} {g : G} {bx : List (List D)} {fr : List Fr}
/-- a variable's cell -/
theorem Mem.cell [Known] (hm : Mem g bx fr w) {b blk : Nat} {cs : List D} (hb : g.ρ[b]? = some blk) (hx : bx[b]? = some cs) {o : Nat} {d : D} (hd : cs[o]? = some d) : ∃ v, w.cell? ⟨blk, o, none⟩ = some v ∧ V w g fr d v := by
  obtain ⟨vs, ty, h1, h2, h3⟩ := hm.bat b blk cs hb hx
  have ho : o < cs.length := (List.getElem?_eq_some_iff.1 hd).1
  have hv : vs[o]? = some (vs[o]'(by omega)) := by simp [h2, ho]
  exact ⟨_, (cell_of_row w blk o vs ty (0, 0) h1).trans hv, h3 o d _ hd hv⟩
theorem ptr_inv {v : Value} {b o : Nat} (h : V w g fr (.ptr b o) v) : ∃ blk, g.ρ[b]? = some blk ∧ v = .pointer (some ⟨blk, o, none⟩) := by cases h; exact ⟨_, ‹_›, rfl⟩
theorem load_ptr1 [Known] (hm : Mem g bx fr w) {t : TypeId} (h : tAgg P t = some false) {b o : Nat} {cs : List D} {d : D} {v : Value} (hv : V w g fr (.ptr b o) v) (hx : bx[b]? = some cs) (hd : cs[o]? = some d) :
    ∃ u, (Instr.loadAt t v).run P w = .ok u w ∧ V w g fr d u := by
  cases hv with
  | ptr _ _ blk hb =>
    obtain ⟨u, h1, h2⟩ := hm.cell hb hx hd
    exact ⟨u, by simp [Instr.loadAt, Instr.sureAddr, Sem.run_bind, run_load1 h h1], h2⟩
theorem load_ptrn [Known] (hm : Mem g bx fr w) {t : TypeId} (h : tAgg P t = some true) {b o n : Nat} {cs : List D} {v : Value} (hs : tSize P t = some n) (hv : V w g fr (.ptr b o) v) (hx : bx[b]? = some cs) (ho : o + n ≤ cs.length) :
    ∃ u, (Instr.loadAt t v).run P w = .ok u w ∧ V w g fr (.agg ((cs.drop o).take n)) u := by
  cases hv with
  | ptr _ _ blk hb =>
    obtain ⟨vs, ty, h1, h2, h3⟩ := hm.bat b blk cs hb hx
    refine ⟨.agg ((vs.toList.drop o).take n).toArray, ?_, ?_⟩
    · have := run_loadn (P := P) (w := w) (b := blk) (o := o) h ((vs.toList.drop o).take n) (by rw [hs]; simp [h2]; omega) fun j u hu => by
        rw [cell_of_row w blk (o + j) vs ty (0, 0) h1]
        have hu' : j < n ∧ vs[o + j]? = some u := by simpa [List.getElem?_take] using hu
        exact hu'.2
      simp [Instr.loadAt, Instr.sureAddr, Sem.run_bind, this]
    · refine .agg _ _ (by simp [h2]) fun j d u hd hu => ?_
      have hu' : j < n ∧ vs[o + j]? = some u := by simpa [List.getElem?_take] using hu
      have hd' : j < n ∧ cs[o + j]? = some d := by simpa [List.getElem?_take] using hd
      exact h3 _ d u hd'.2 hu'.2
theorem load_eptr1 {t : TypeId} (h : tAgg P t = some false) {cs : List E} {o : Nat} {e : E} {v : Value} (hv : V w g fr (.eptr cs o) v) (hd : cs[o]? = some e) :
    ∃ u, (Instr.loadAt t v).run P w = .ok u w ∧ V w g fr (.ofE e) u := by
  cases hv with
  | eptr _ _ blk off us hc hw he =>
    have ho := (List.getElem?_eq_some_iff.1 hd).1
    exact ⟨us o, by simp [Instr.loadAt, Instr.sureAddr, Sem.run_bind, run_load1 h (hw o ho)], V.ofE (he o e hd)⟩
theorem load_eptrn {t : TypeId} (h : tAgg P t = some true) {cs : List E} {o n : Nat} {v : Value} (hs : tSize P t = some n) (hv : V w g fr (.eptr cs o) v) (ho : o + n ≤ cs.length) :
    ∃ u, (Instr.loadAt t v).run P w = .ok u w ∧ V w g fr (.agg (((cs.drop o).take n).map .ofE)) u := by
  cases hv with
  | eptr _ _ blk off us hc hw he =>
    refine ⟨.agg ((List.range n).map fun j => us (o + j)).toArray, ?_, ?_⟩
    · have := run_loadn (P := P) (w := w) (b := blk) (o := off + o) h ((List.range n).map fun j => us (o + j)) (by simp [hs]) fun j u hu => by
        rw [List.getElem?_map] at hu
        cases hj : (List.range n)[j]? with
        | none => simp [hj] at hu
        | some j' =>
          obtain ⟨hlt, hj'⟩ := List.getElem?_eq_some_iff.1 hj
          simp at hlt hj'
          subst hj'
          simp [hj] at hu
          subst hu
          rw [Nat.add_assoc]
          exact hw (o + j) (by omega)
      simp [Instr.loadAt, Instr.sureAddr, Sem.run_bind, this]
    · refine .agg _ _ (by simp; omega) fun j d u hd hu => ?_
      rw [List.getElem?_map] at hd hu
      cases hj : (List.range n)[j]? with
      | none => simp [hj] at hu
      | some j' =>
        obtain ⟨hlt, hj'⟩ := List.getElem?_eq_some_iff.1 hj
        simp at hlt hj'
        subst hj'
        simp only [hj, Option.map_some, Option.some.injEq] at hu
        subst hu
        rw [List.getElem?_take, if_pos hlt, List.getElem?_drop] at hd
        cases hj2 : cs[o + j]? with
        | none => simp [hj2] at hd
        | some e => simp [hj2] at hd; subst hd; exact V.ofE (he _ e hj2)
end

/-! ### a function's body -/
def number : Nat → List D → List (Nat × D)
  | _, [] => []
  | k, d :: l => (k, d) :: number (k + 1) l
theorem look_number (l : List D) : ∀ (k t : Nat), look (number k l) t = if k ≤ t then (l[t - k]?).getD .junk else .junk := by
  induction l with
  | nil => intro k t; simp [number, look]
  | cons d l ih =>
    intro k t
    simp only [number, look]
    cases hb : Nat.beq k t with
    | true =>
      have := Nat.eq_of_beq_eq_true hb
      subst this; simp
    | false =>
      have hne : k ≠ t := fun e => by subst e; simp at hb
      dsimp only
      rw [ih]
      by_cases h : k ≤ t
      · rw [if_pos h, if_pos (by omega), show t - k = (t - (k + 1)) + 1 from by omega, List.getElem?_cons_succ]
      · rw [if_neg h, if_neg (by omega)]
/-- what a function hands back -/
inductive ResOk (P : Program) (S : St) : ResultVar → D → Prop
  | tmp (t : Nat) (d : D) (h : look S.tm t = d) : ResOk P S (.tmp t) d
  | cell1 (a t b o : Nat) (cs : List D) (d : D) (h : look S.tm a = .ptr b o) (ht : tAgg P t = some false) (hx : S.bx[b]? = some cs) (hd : cs[o]? = some d) : ResOk P S (.cell a t) d
  | celln (a t b o n : Nat) (cs : List D) (d : D) (h : look S.tm a = .ptr b o) (ht : tAgg P t = some true) (hs : tSize P t = some n) (hx : S.bx[b]? = some cs) (ho : Nat.ble (o + n) cs.length = true) (hd : .agg ((cs.drop o).take n) = d) : ResOk P S (.cell a t) d
inductive ResL (P : Program) (S : St) : List ResultVar → List D → Prop
  | nil : ResL P S [] []
  | cons (r : ResultVar) (d : D) (rs : List ResultVar) (ds : List D) (h : ResOk P S r d) (t : ResL P S rs ds) : ResL P S (r :: rs) (d :: ds)
def ret1 : List D → D
  | [d] => d
  | l => .tup l
def resV (tmps : Array Value) : ResultVar → Sem Value
  | .tmp t => pure (tmps.getD t undef)
  | .cell a t => do loadVar t (← asAddr (tmps.getD a undef))
theorem results_eq (fn : Func) (tmps : Array Value) : results fn tmps = (fn.results.mapM (resV tmps) >>= fun vs => pure (if h : vs.size = 1 then vs[0] else .tuple vs)) := rfl
theorem run_mapM_list {P : Program} {α : Type} {w : World} (f : α → Sem Value) : ∀ (l : List α) (vs : List Value), l.length = vs.length → (∀ (j : Nat) (x : α) (v : Value), l[j]? = some x → vs[j]? = some v → (f x).run P w = .ok v w) → (l.mapM f).run P w = .ok vs w
  | [], [], _, _ => rfl
  | x :: l, v :: vs, hl, h => by
    have ih := run_mapM_list f l vs (by simpa using hl) fun j x v hx hv => h (j + 1) x v (by simpa using hx) (by simpa using hv)
    have h0 := h 0 x v rfl rfl
    simp only [List.mapM_cons, Sem.run_bind, h0, Result.andThen_ok, ih]
    rfl
  | [], _ :: _, hl, _ => by simp at hl
  | _ :: _, [], hl, _ => by simp at hl
theorem ResL.runs [Known] [Dfr] {P : Program} {S : St} {b0 : Bs} {g : G} {a : Act} {w : World} (hi : Inv b0 S g a w) {rs : List ResultVar} {ds : List D} (h : ResL P S rs ds) :
    ∃ vs : List Value, rs.length = vs.length ∧ vs.length = ds.length ∧ (∀ (j : Nat) (r : ResultVar) (v : Value), rs[j]? = some r → vs[j]? = some v → (resV a.tmps r).run P w = .ok v w) ∧ ∀ (j : Nat) (d : D) (v : Value), ds[j]? = some d → vs[j]? = some v → V w g S.fr d v := by
  induction h with
  | nil => exact ⟨[], rfl, rfl, by simp, by simp⟩
  | cons r d rs ds h t ih =>
    obtain ⟨vs, h0, h1, h2, h3⟩ := ih
    have : ∃ v, (resV a.tmps r).run P w = .ok v w ∧ V w g S.fr d v := by
      cases h with
      | tmp t d h => exact ⟨_, rfl, h ▸ hi.tm t⟩
      | cell1 a' t b o cs d h ht hx hd =>
        have hv := hi.tm a'
        rw [h] at hv
        obtain ⟨p, hp⟩ : ∃ p, p = a.tmps.getD a' undef := ⟨_, rfl⟩
        rw [← hp] at hv
        obtain ⟨u, h1, h2⟩ := load_ptr1 (P := P) hi.mem ht hv hx hd
        refine ⟨u, ?_, h2⟩
        show (do let x ← asAddr (a.tmps.getD a' undef); loadVar t x : Sem Value).run P w = _
        rw [← hp]
        cases hv with
        | ptr _ _ blk hb => simpa [asAddr, Instr.loadAt, Instr.sureAddr, Sem.run_bind] using h1
      | celln a' t b o n cs d h ht hs hx ho hd =>
        have hv := hi.tm a'
        rw [h] at hv
        obtain ⟨p, hp⟩ : ∃ p, p = a.tmps.getD a' undef := ⟨_, rfl⟩
        rw [← hp] at hv
        obtain ⟨u, h1, h2⟩ := load_ptrn (P := P) hi.mem ht hs hv hx (Nat.le_of_ble_eq_true ho)
        refine ⟨u, ?_, hd ▸ h2⟩
        show (do let x ← asAddr (a.tmps.getD a' undef); loadVar t x : Sem Value).run P w = _
        rw [← hp]
        cases hv with
        | ptr _ _ blk hb => simpa [asAddr, Instr.loadAt, Instr.sureAddr, Sem.run_bind] using h1
    obtain ⟨v, k1, k2⟩ := this
    refine ⟨v :: vs, by simp [h0], by simp [h1], fun j r' v' hr hv => ?_, fun j d v hd hv => ?_⟩
    · cases j with
      | zero => simp at hr hv; subst hr hv; exact k1
      | succ j => simp at hr hv; exact h2 j r' v' hr hv
    · cases j with
      | zero => simp at hd hv; subst hd hv; exact k2
      | succ j => simp at hd hv; exact h3 j d v hd hv
theorem results_run [Known] [Dfr] {P : Program} {S : St} {b0 : Bs} {g : G} {a : Act} {w : World} (hi : Inv b0 S g a w) {fn : Func} {rs : List ResultVar} (hr : fn.results = rs.toArray) {ds : List D} (h : ResL P S rs ds) :
    ∃ v, (results fn a.tmps).run P w = .ok v w ∧ V w g S.fr (ret1 ds) v := by
  obtain ⟨vs, h0, h1, h2, h3⟩ := h.runs hi
  have hm := run_mapM_list (resV a.tmps) rs vs h0 h2
  rw [results_eq, hr]
  have hm2 : (rs.toArray.mapM (resV a.tmps)).run P w = .ok vs.toArray w := by
    rw [List.mapM_toArray]
    rw [show (List.toArray <$> rs.mapM (resV a.tmps)) = (rs.mapM (resV a.tmps) >>= fun l => pure l.toArray) from rfl]
    rw [Sem.run_bind, hm]
    rfl
  refine ⟨_, by rw [Sem.run_bind, hm2]; rfl, ?_⟩
  match vs, ds, h1 with
  | [], [], _ => exact .tup [] [] rfl (by simp)
  | [v], [d], _ => exact h3 0 d v rfl rfl
  | v :: v' :: vs, d :: d' :: ds, h1 =>
    have := V.tup (d :: d' :: ds) (v :: v' :: vs) h1 h3
    simpa [ret1] using this
end Go.Av
end
/- A function's contract out of its body; a call of a function that has a contract. -/
section
open Go.RowKit Go.Pl
namespace Go.Av
set_option linter.unusedSimpArgs false
set_option linter.unusedVariables false

/-- what must be so where a function is left: bs, ts: the variables and tokens that are handed on, those that came in ahead -/
def FnEnd (P : Program) (rs : List ResultVar) (k : Nat) (n : Nat) (post : R → List (List D) → List Fr → Prop) (S : St) : Prop :=
  ∃ ds bs ts, ResL P S rs ds ∧ okSel bs S.bx.length ∧ okSel ts S.fr.length ∧ (∀ i, i < k → bs[i]? = some i) ∧ (∀ i, i < n → ts[i]? = some i) ∧ post (.ret ((ret1 ds).ren (idx bs) (idx ts))) (selB bs ts S.bx) (selF ts S.fr)
def fnPost (P : Program) (rs : List ResultVar) (k : Nat) (n : Nat) (post : R → List (List D) → List Fr → Prop) : X → St → Prop
  | .norm, S => FnEnd P rs k n post S
  | .ret, S => FnEnd P rs k n post S
  | .pan d, S => ∃ bs ts, okSel bs S.bx.length ∧ okSel ts S.fr.length ∧ (∀ i, i < k → bs[i]? = some i) ∧ (∀ i, i < n → ts[i]? = some i) ∧ post (.pan (d.ren (idx bs) (idx ts))) (selB bs ts S.bx) (selF ts S.fr)
  | _, _ => False
theorem Evo.sel [Known] {b : Bs} {g : G} {bx : List (List D)} {fr : List Fr} {w : World} (h : Evo b ⟨g, fr, w⟩) (hm : Mem g bx fr w) {bs ts : List Nat} (hb : okSel bs bx.length) (ht : okSel ts fr.length)
    (h1 : ∀ i, i < b.g.ρ.length → bs[i]? = some i) (h2 : ∀ i, i < b.fr.length → ts[i]? = some i) : Evo b ⟨g.sel bs ts, selF ts fr, w⟩ where
  os := h.os
  tape := h.tape
  output := h.output
  size := h.size
  block := h.block
  C := h.C
  cell := h.cell
  newC := h.newC
  ρp i k hk := by
    have hlt : i < b.g.ρ.length := (List.getElem?_eq_some_iff.1 hk).1
    have := h.ρp i k hk
    simp [G.sel, h1 i hlt, List.getD, this]
  ρn k hk := by
    obtain ⟨i, hi⟩ := List.getElem?_of_mem hk
    obtain ⟨x, _, hx⟩ := sel_ρ hm hb hi
    exact h.ρn k (List.mem_of_getElem? hx)
  τn k c hk := by
    obtain ⟨i, hi⟩ := List.getElem?_of_mem hk
    obtain ⟨x, _, hx⟩ := sel_τ hm ht hi
    exact h.τn k c (List.mem_of_getElem? hx)
  tok i f hf := by
    have hlt : i < b.fr.length := (List.getElem?_eq_some_iff.1 hf).1
    obtain ⟨f', k1, k2, k3⟩ := h.tok i f hf
    have hlt2 : i < g.τ.length := by rw [hm.tl]; exact (List.getElem?_eq_some_iff.1 k1).1
    refine ⟨f', by simp [selF, h2 i hlt, List.getD, k1], k2, fun e => ?_⟩
    rw [← k3 e]
    simp only [G.sel, List.getElem?_map, h2 i hlt, Option.map_some]
    exact (getD_some hlt2).symm
theorem AC_of [Known] {P : Program} {f : FuncId} {fn : Func} {c : Code} {args : List D} {bx : List (List D)} {fr : List Fr} {post : R → List (List D) → List Fr → Prop} {n : Nat} {rs : List ResultVar} (hf : P.funcs[f]? = some fn) (hb : fn.body = some c) (hn : fn.ntmps = n) (hr : fn.results = rs.toArray)
    (hl : Nat.ble args.length n = true) (h : AW P c ⟨n, number 0 args, bx, fr, (bx.length, fr.length)⟩ (fnPost P rs bx.length fr.length post)) : AC P f args bx fr post := by
  refine ⟨fun g w vs hm hlen hv => ?_⟩
  have hle := Nat.le_of_ble_eq_true hl
  refine calls_of_wp hf hb ?_
  have hi : Inv ⟨g, fr, w⟩ ⟨n, number 0 args, bx, fr, (bx.length, fr.length)⟩ g { tmps := vs.toArray ++ Array.replicate (fn.ntmps - vs.toArray.size) undef, defers := [] } w := by
    refine ⟨by simp [hn]; omega, rfl, hm, fun t => ?_, Evo.refl _, by rw [hm.bl]; exact Nat.le_refl _, Nat.le_refl _⟩
    rw [look_number]
    simp only [Nat.zero_le, if_true, Nat.sub_zero]
    cases ht : args[t]? with
    | none => exact .junk _
    | some d =>
      have hlt : t < args.length := (List.getElem?_eq_some_iff.1 ht).1
      refine hv t d _ ht ?_
      have hlt2 : t < vs.length := by omega
      simp [Array.getD_getElem?, Array.getElem?_append, hlt2]
  refine wp_mono (h.run ⟨g, fr, w⟩ g _ w hi) fun e a' w' hc => ?_
  have fin : ∀ S g', Inv ⟨g, fr, w⟩ S g' a' w' → FnEnd P rs bx.length fr.length post S → a'.defers = [] ∧ ∃ v, (results fn a'.tmps).run P w' = .ok v w' ∧ ∃ g'' bx' fr' r, Evo ⟨g, fr, w⟩ ⟨g'', fr', w'⟩ ∧ Mem g'' bx' fr' w' ∧ r.is w' g'' fr' (.returned v) ∧ post r bx' fr' := by
    intro S g' hi' hq
    obtain ⟨ds, bs, ts, hrs, k1, k2, k3, k4, hp⟩ := hq
    obtain ⟨v, hrun, hv⟩ := results_run hi' hr hrs
    refine ⟨hi'.defers, v, hrun, _, _, _, .ret _, hi'.evo.sel hi'.mem k1 k2 (by rw [hm.bl]; exact k3) k4, hi'.mem.sel k1 k2, ⟨v, rfl, hv.sel hi'.mem k1 k2⟩, hp⟩
  cases e with
  | normal =>
    obtain ⟨S, g', hi', hq⟩ := hc
    exact fin S g' hi' hq
  | ret =>
    obtain ⟨S, g', hi', hq⟩ := hc
    exact fin S g' hi' hq
  | panic chain =>
    obtain ⟨S, g', v, d, hi', rfl, hd, bs, ts, k1, k2, k3, k4, hp⟩ := hc
    exact ⟨hi'.defers, _, _, _, .pan _, hi'.evo.sel hi'.mem k1 k2 (by rw [hm.bl]; exact k3) k4, hi'.mem.sel k1 k2, ⟨v, rfl, hd.sel hi'.mem k1 k2⟩, hp⟩
  | exit id => obtain ⟨S, g', hi', hq⟩ := hc; exact hq.elim
  | goto l => obtain ⟨S, g', hi', hq⟩ := hc; exact hq.elim
  | outgrown => exact hc.elim

/-! ### calls -/
def upN (bs : List Nat) (n : Nat) (i : Nat) : Option Nat := match bs[i]? with
  | some b => some b
  | none => some (n + (i - bs.length))
/-- the named entries replaced -/
def putAt {α : Type} (l : List α) : List Nat → List α → List α
  | b :: bs, x :: xs => (putAt l bs xs).set b x
  | _, _ => l
theorem putAt_length {α : Type} (l : List α) : ∀ (bs : List Nat) (xs : List α), (putAt l bs xs).length = l.length
  | [], _ => by simp [putAt]
  | _ :: _, [] => by simp [putAt]
  | b :: bs, x :: xs => by simp [putAt, putAt_length l bs xs]
theorem putAt_far {α : Type} (l : List α) {i : Nat} : ∀ (bs : List Nat) (xs : List α), i ∉ bs → (putAt l bs xs)[i]? = l[i]?
  | [], _, _ => by simp [putAt]
  | _ :: _, [], _ => by simp [putAt]
  | b :: bs, x :: xs, h => by
    simp only [List.mem_cons, not_or] at h
    simp only [putAt]
    rw [List.getElem?_set_ne (fun e => h.1 e.symm), putAt_far l bs xs h.2]
theorem putAt_at {α : Type} (l : List α) {j b : Nat} : ∀ (bs : List Nat) (xs : List α), (∀ (i j b : Nat), bs[i]? = some b → bs[j]? = some b → i = j) → bs[j]? = some b → b < l.length → j < xs.length → (putAt l bs xs)[b]? = xs[j]?
  | [], _, _, h, _, _ => by simp at h
  | _ :: _, [], _, _, _, h => by simp at h
  | c :: bs, x :: xs, hN, hj, hb, hx => by
    simp only [putAt]
    cases j with
    | zero =>
      simp at hj; subst hj
      rw [List.getElem?_set_self (by rw [putAt_length]; exact hb)]
      rfl
    | succ j =>
      simp at hj
      have hne : c ≠ b := fun e => by
        subst e
        have := hN 0 (j + 1) c rfl (by simpa using hj)
        omega
      rw [List.getElem?_set_ne hne]
      simpa using putAt_at l bs xs (fun i j b h1 h2 => by have := hN (i + 1) (j + 1) b (by simpa using h1) (by simpa using h2); omega) hj hb (by simpa using hx)
/-- the caller's memory behind a call -/
def aftB (bs ts : List Nat) (bx : List (List D)) (nf : Nat) (bx' : List (List D)) : List (List D) :=
  putAt bx bs (bx'.map (D.rens (upN bs bx.length) (upN ts nf))) ++ (bx'.drop bs.length).map (D.rens (upN bs bx.length) (upN ts nf))
def aftF (ts : List Nat) (fr : List Fr) (fr' : List Fr) : List Fr := putAt fr ts fr' ++ fr'.drop ts.length
def aftG (bs ts : List Nat) (g g' : G) : G := ⟨g'.C, g.ρ ++ g'.ρ.drop bs.length, putAt g.τ ts g'.τ ++ g'.τ.drop ts.length⟩
section
variable {g g' : G} {bx bx' : List (List D)} {fr fr' : List Fr} {w w' : World} {bs ts : List Nat}
/-- what a call leaves of the caller's memory -/
theorem aft [Known] (hm : Mem g bx fr w) (hb : okSel bs bx.length) (ht : okSel ts fr.length) (he : Evo ⟨g.sel bs ts, selF ts fr, w⟩ ⟨g', fr', w'⟩) (hm' : Mem g' bx' fr' w') (hle : bs.length ≤ bx'.length) :
    Mem (aftG bs ts g g') (aftB bs ts bx fr.length bx') (aftF ts fr fr') w' ∧ Evo ⟨g, fr, w⟩ ⟨aftG bs ts g g', aftF ts fr fr', w'⟩ ∧
      ∀ d v, V w' g' fr' d v → V w' (aftG bs ts g g') (aftF ts fr fr') (d.ren (upN bs bx.length) (upN ts fr.length)) v := by
  have hle' : bs.length ≤ g'.ρ.length := by rw [hm'.bl]; exact hle
  -- tokens of the callee: at least those that came in
  have htl : ts.length ≤ fr'.length := by
    rcases Nat.lt_or_ge fr'.length ts.length with h | h
    · exfalso
      have h1 : (selF ts fr)[fr'.length]? = some ((selF ts fr)[fr'.length]'(by simp [selF]; exact h)) := List.getElem?_eq_getElem _
      obtain ⟨f', h2, _⟩ := he.tok fr'.length _ h1
      simp at h2
    · exact h
  have htl' : ts.length ≤ g'.τ.length := by rw [hm'.tl]; exact htl
  -- blocks that the callee may write, of old
  have hMlt : ∀ k, M g k → k < w.heap.size := by
    rintro k (hk | ⟨c, hk⟩)
    · obtain ⟨i, hi⟩ := List.getElem?_of_mem hk
      have hlt : i < bx.length := by rw [← hm.bl]; exact (List.getElem?_eq_some_iff.1 hi).1
      obtain ⟨vs, ty, h1, _⟩ := hm.bat i k _ hi (List.getElem?_eq_getElem hlt)
      exact (Array.getElem?_eq_some_iff.1 h1).1
    · obtain ⟨i, hi⟩ := List.getElem?_of_mem hk
      have hlt : i < fr.length := by rw [← hm.tl]; exact (List.getElem?_eq_some_iff.1 hi).1
      obtain ⟨cur, h1, _⟩ := (hm.tat i k c _ hi (List.getElem?_eq_getElem hlt)).row
      exact (Array.getElem?_eq_some_iff.1 h1).1
  -- a variable that is not handed on is not the callee's
  have farB : ∀ (i k : Nat), g.ρ[i]? = some k → i ∉ bs → ¬ M (g.sel bs ts) k := by
    rintro i k hi hn (hk | ⟨c, hk⟩)
    · obtain ⟨j, hj⟩ := List.getElem?_of_mem hk
      obtain ⟨b, h1, h2⟩ := sel_ρ hm hb hj
      have := hm.bN i b k hi h2
      subst this
      exact hn (List.mem_of_getElem? h1)
    · obtain ⟨j, hj⟩ := List.getElem?_of_mem hk
      obtain ⟨b, h1, h2⟩ := sel_τ hm ht hj
      exact hm.tρ k c (List.mem_of_getElem? h2) (List.mem_of_getElem? hi)
  have farT : ∀ (i k c : Nat), g.τ[i]? = some (k, c) → i ∉ ts → ¬ M (g.sel bs ts) k := by
    rintro i k c hi hn (hk | ⟨c', hk⟩)
    · obtain ⟨j, hj⟩ := List.getElem?_of_mem hk
      obtain ⟨b, h1, h2⟩ := sel_ρ hm hb hj
      exact hm.tρ k c (List.mem_of_getElem? hi) (List.mem_of_getElem? h2)
    · obtain ⟨j, hj⟩ := List.getElem?_of_mem hk
      obtain ⟨b, h1, h2⟩ := sel_τ hm ht hj
      have := hm.tN i b k c c' hi h2
      subst this
      exact hn (List.mem_of_getElem? h1)
  -- the new ghost's variables
  have ρold : ∀ (i k : Nat), g.ρ[i]? = some k → (aftG bs ts g g').ρ[i]? = some k := fun i k hi => by
    have hlt := (List.getElem?_eq_some_iff.1 hi).1
    simp [aftG, List.getElem?_append_left hlt, hi]
  have ρget : ∀ (i k : Nat), (aftG bs ts g g').ρ[i]? = some k → g.ρ[i]? = some k ∨ (g.ρ.length ≤ i ∧ g'.ρ[bs.length + (i - g.ρ.length)]? = some k) := fun i k hi => by
    simp only [aftG] at hi
    rcases Nat.lt_or_ge i g.ρ.length with h | h
    · rw [List.getElem?_append_left h] at hi; exact .inl hi
    · rw [List.getElem?_append_right h, List.getElem?_drop] at hi
      exact .inr ⟨h, hi⟩
  have ρsel : ∀ (j b k : Nat), bs[j]? = some b → g.ρ[b]? = some k → g'.ρ[j]? = some k := fun j b k hj hk => he.ρp j k (by simp [G.sel, hj, List.getD, hk])
  have τget : ∀ (i : Nat) (p : Nat × Nat), (aftG bs ts g g').τ[i]? = some p → (i ∉ ts ∧ g.τ[i]? = some p) ∨ (∃ j, ts[j]? = some i ∧ g'.τ[j]? = some p) ∨ (g.τ.length ≤ i ∧ g'.τ[ts.length + (i - g.τ.length)]? = some p) := fun i p hi => by
    simp only [aftG] at hi
    rcases Nat.lt_or_ge i g.τ.length with h | h
    · rw [List.getElem?_append_left (by rw [putAt_length]; exact h)] at hi
      by_cases hn : i ∈ ts
      · obtain ⟨j, hj⟩ := List.getElem?_of_mem hn
        have hjl : j < ts.length := (List.getElem?_eq_some_iff.1 hj).1
        rw [putAt_at g.τ ts g'.τ ht.1 hj h (by omega)] at hi
        exact .inr (.inl ⟨j, hj, hi⟩)
      · rw [putAt_far g.τ ts g'.τ hn] at hi
        exact .inl ⟨hn, hi⟩
    · rw [List.getElem?_append_right (by rw [putAt_length]; exact h), putAt_length, List.getElem?_drop] at hi
      exact .inr (.inr ⟨h, hi⟩)
  have frput : ∀ (i : Nat), (aftF ts fr fr')[i]? = if i < fr.length then (putAt fr ts fr')[i]? else fr'[ts.length + (i - fr.length)]? := fun i => by
    simp only [aftF]
    split
    · rw [List.getElem?_append_left (by rw [putAt_length]; assumption)]
    · rw [List.getElem?_append_right (by rw [putAt_length]; omega), putAt_length, List.getElem?_drop]
  have hup : ∀ d v, V w' g' fr' d v → V w' (aftG bs ts g g') (aftF ts fr fr') (d.ren (upN bs bx.length) (upN ts fr.length)) v := by
    intro d v h
    refine h.ren _ _ (fun _ _ h => h) (fun b b' blk hf hblk => ?_) (fun i j f0 hf hf0 => ?_)
    · unfold upN at hf
      cases hbb : bs[b]? with
      | some x =>
        simp only [hbb, Option.some.injEq] at hf
        subst hf
        have hx : x < g.ρ.length := by rw [hm.bl]; exact hb.2 x (List.mem_of_getElem? hbb)
        have h1 := getD_some (d := 0) hx
        have h2 := ρsel b x _ hbb h1
        rw [hblk] at h2
        injection h2 with h2
        exact ρold x blk (by rw [h1, h2])
      | none =>
        simp only [hbb, Option.some.injEq] at hf
        subst hf
        have hge : bs.length ≤ b := by rcases Nat.lt_or_ge b bs.length with h | h; (· simp [h] at hbb); (· exact h)
        simp only [aftG]
        rw [List.getElem?_append_right (by rw [hm.bl]; omega), List.getElem?_drop, hm.bl, show bs.length + (bx.length + (b - bs.length) - bx.length) = b from by omega]
        exact hblk
    · unfold upN at hf
      cases htt : ts[i]? with
      | some x =>
        simp only [htt, Option.some.injEq] at hf
        subst hf
        have hx : x < fr.length := ht.2 x (List.mem_of_getElem? htt)
        have hi : i < ts.length := (List.getElem?_eq_some_iff.1 htt).1
        refine ⟨⟨f0, ?_, rfl⟩, ?_⟩
        · rw [frput, if_pos hx, putAt_at fr ts fr' ht.1 htt hx (by omega)]; exact hf0
        · simp only [aftG]
          rw [List.getElem?_append_left (by rw [putAt_length, hm.tl]; exact hx), putAt_at g.τ ts g'.τ ht.1 htt (by rw [hm.tl]; exact hx) (by omega)]
      | none =>
        simp only [htt, Option.some.injEq] at hf
        subst hf
        have hge : ts.length ≤ i := by rcases Nat.lt_or_ge i ts.length with h | h; (· simp [h] at htt); (· exact h)
        refine ⟨⟨f0, ?_, rfl⟩, ?_⟩
        · rw [frput, if_neg (by omega), show ts.length + (fr.length + (i - ts.length) - fr.length) = i from by omega]; exact hf0
        · simp only [aftG]
          rw [List.getElem?_append_right (by rw [putAt_length, hm.tl]; omega), putAt_length, List.getElem?_drop, hm.tl, show ts.length + (fr.length + (i - ts.length) - fr.length) = i from by omega]
  have hevo : Evo ⟨g, fr, w⟩ ⟨aftG bs ts g g', aftF ts fr fr', w'⟩ := by
    refine ⟨he.os, he.tape, he.output, he.size, fun k hk hn => he.block k hk fun h => hn (M_sel hm hb ht h), he.C, he.cell, fun k o h => ?_, ρold, fun k hk => ?_, fun k c hk => ?_, fun i f hf => ?_⟩
    · rcases he.newC k o h with h1 | h1 | h1
      · exact .inl h1
      · exact .inr (.inl h1)
      · exact .inr (.inr (M_sel hm hb ht h1))
    · obtain ⟨i, hi⟩ := List.getElem?_of_mem hk
      rcases ρget i k hi with h1 | ⟨_, h1⟩
      · exact .inl (List.mem_of_getElem? h1)
      · rcases he.ρn k (List.mem_of_getElem? h1) with h2 | h2
        · obtain ⟨j, hj⟩ := List.getElem?_of_mem h2
          obtain ⟨b, _, h3⟩ := sel_ρ hm hb hj
          exact .inl (List.mem_of_getElem? h3)
        · exact .inr h2
    · obtain ⟨i, hi⟩ := List.getElem?_of_mem hk
      have key : ∀ c, (k, c) ∈ g'.τ → (∃ c', (k, c') ∈ g.τ) ∨ w.heap.size ≤ k := fun c hc => by
        rcases he.τn k c hc with ⟨c', h2⟩ | h2
        · obtain ⟨j, hj⟩ := List.getElem?_of_mem h2
          obtain ⟨b, _, h3⟩ := sel_τ hm ht hj
          exact .inl ⟨c', List.mem_of_getElem? h3⟩
        · exact .inr h2
      rcases τget i _ hi with ⟨_, h1⟩ | ⟨j, _, h1⟩ | ⟨_, h1⟩
      · exact .inl ⟨c, List.mem_of_getElem? h1⟩
      · exact key c (List.mem_of_getElem? h1)
      · exact key c (List.mem_of_getElem? h1)
    · have hlt : i < fr.length := (List.getElem?_eq_some_iff.1 hf).1
      by_cases hn : i ∈ ts
      · obtain ⟨j, hj⟩ := List.getElem?_of_mem hn
        have hjl : j < ts.length := (List.getElem?_eq_some_iff.1 hj).1
        obtain ⟨f', k1, k2, k3⟩ := he.tok j f (by simp [selF, hj, List.getD, hf])
        refine ⟨f', by rw [frput, if_pos hlt, putAt_at fr ts fr' ht.1 hj hlt (by omega)]; exact k1, k2, fun e => ?_⟩
        have := k3 e
        simp only [aftG]
        rw [List.getElem?_append_left (by rw [putAt_length, hm.tl]; exact hlt), putAt_at g.τ ts g'.τ ht.1 hj (by rw [hm.tl]; exact hlt) (by omega), this]
        simp only [G.sel, List.getElem?_map, hj, Option.map_some]
        exact (getD_some (by rw [hm.tl]; exact hlt)).symm
      · refine ⟨f, by rw [frput, if_pos hlt, putAt_far fr ts fr' hn]; exact hf, Nat.le_refl _, fun _ => ?_⟩
        simp only [aftG]
        rw [List.getElem?_append_left (by rw [putAt_length, hm.tl]; exact hlt), putAt_far g.τ ts g'.τ hn]
  -- a block of the callee's end is of those handed on, or new
  have cρ : ∀ (j k : Nat), g'.ρ[j]? = some k → bs.length ≤ j → (w.heap.size ≤ k ∨ False) := fun j k hj hge => by
    rcases he.ρn k (List.mem_of_getElem? hj) with h2 | h2
    · obtain ⟨i, hi⟩ := List.getElem?_of_mem h2
      have h3 := he.ρp i k hi
      have h4 := hm'.bN i j k h3 hj
      have h5 : i < bs.length := by have := (List.getElem?_eq_some_iff.1 hi).1; simpa [G.sel] using this
      omega
    · exact .inl h2
  refine ⟨?_, hevo, hup⟩
  constructor
  · simp [aftG, aftB, putAt_length, hm.bl, hm'.bl]
  · intro i k cs h1 h2
    have hB : ∀ (j : Nat) (cs0 : List D), g'.ρ[j]? = some k → bx'[j]? = some cs0 → cs = D.rens (upN bs bx.length) (upN ts fr.length) cs0 → ∃ vs ty, w'.heap[k]? = some (.cells vs ty (0, 0)) ∧ vs.size = cs.length ∧
        (∀ (j : Nat) (d : D) (v : Value), cs[j]? = some d → vs[j]? = some v → V w' (aftG bs ts g g') (aftF ts fr fr') d v) := by
      rintro j cs0 hj hc rfl
      obtain ⟨vs, ty, k1, k2, k3⟩ := hm'.bat j k cs0 hj hc
      refine ⟨vs, ty, k1, by rw [rens_map, List.length_map]; exact k2, fun x d v hd hv => ?_⟩
      rw [rens_map, List.getElem?_map] at hd
      cases hx : cs0[x]? with
      | none => simp [hx] at hd
      | some d0 => simp [hx] at hd; subst hd; exact hup d0 v (k3 x d0 v hx hv)
    rcases ρget i k h1 with h3 | ⟨hge, h3⟩
    · have hlt : i < bx.length := by rw [← hm.bl]; exact (List.getElem?_eq_some_iff.1 h3).1
      simp only [aftB] at h2
      rw [List.getElem?_append_left (by rw [putAt_length]; exact hlt)] at h2
      by_cases hn : i ∈ bs
      · obtain ⟨j, hj⟩ := List.getElem?_of_mem hn
        have hjl : j < bs.length := (List.getElem?_eq_some_iff.1 hj).1
        rw [putAt_at bx bs _ hb.1 hj hlt (by rw [List.length_map]; omega), List.getElem?_map] at h2
        cases hc : bx'[j]? with
        | none => simp [hc] at h2
        | some cs0 =>
          simp [hc] at h2
          exact hB j cs0 (ρsel j i k hj h3) hc h2.symm
      · rw [putAt_far bx bs _ hn] at h2
        obtain ⟨vs, ty, k1, k2, k3⟩ := hm.bat i k cs h3 h2
        exact ⟨vs, ty, (he.block k (Array.getElem?_eq_some_iff.1 k1).1 (farB i k h3 hn)).trans k1, k2, fun j d v hd hv => (k3 j d v hd hv).evo hevo⟩
    · simp only [aftB] at h2
      rw [List.getElem?_append_right (by rw [putAt_length, ← hm.bl]; exact hge), putAt_length, List.getElem?_map, List.getElem?_drop, ← hm.bl] at h2
      cases hc : bx'[bs.length + (i - g.ρ.length)]? with
      | none => simp [hc] at h2
      | some cs0 =>
        rw [hc] at h2
        simp only [Option.map_some, Option.some.injEq] at h2
        exact hB _ cs0 h3 hc (by rw [← hm.bl]; exact h2.symm)
  · intro k o hk hC
    obtain ⟨i, hi⟩ := List.getElem?_of_mem hk
    rcases ρget i k hi with h3 | ⟨_, h3⟩
    · by_cases hn : i ∈ bs
      · obtain ⟨j, hj⟩ := List.getElem?_of_mem hn
        exact hm'.bC k o (List.mem_of_getElem? (ρsel j i k hj h3)) hC
      · rcases he.newC k o hC with h4 | h4 | h4
        · exact hm.bC k o (List.mem_of_getElem? h3) h4
        · have := hMlt k (.inl (List.mem_of_getElem? h3))
          have h4 : w.heap.size ≤ k := h4
          omega
        · exact farB i k h3 hn h4
    · exact hm'.bC k o (List.mem_of_getElem? h3) hC
  · intro i j k h1 h2
    have cross : ∀ (i j : Nat), g.ρ[i]? = some k → g.ρ.length ≤ j → g'.ρ[bs.length + (j - g.ρ.length)]? = some k → False := fun i j h1 h2 h3 => by
      rcases cρ _ k h3 (by omega) with h4 | h4
      · have := hMlt k (.inl (List.mem_of_getElem? h1))
        omega
      · exact h4
    rcases ρget i k h1 with h3 | ⟨g3, h3⟩ <;> rcases ρget j k h2 with h4 | ⟨g4, h4⟩
    · exact hm.bN i j k h3 h4
    · exact (cross i j h3 g4 h4).elim
    · exact (cross j i h4 g3 h3).elim
    · have := hm'.bN _ _ k h3 h4
      omega
  · simp [aftG, aftF, putAt_length, hm.tl, hm'.tl]
  · intro i k c f h1 h2
    rw [frput] at h2
    rcases τget i _ h1 with ⟨hn, h3⟩ | ⟨j, hj, h3⟩ | ⟨hge, h3⟩
    · have hlt : i < fr.length := by rw [← hm.tl]; exact (List.getElem?_eq_some_iff.1 h3).1
      rw [if_pos hlt, putAt_far fr ts fr' hn] at h2
      have hT := hm.tat i k c f h3 h2
      obtain ⟨cur, r1, r2⟩ := hT.row
      refine ⟨⟨cur, (he.block k (Array.getElem?_eq_some_iff.1 r1).1 (farT i k c h3 hn)).trans r1, r2⟩, hT.le, hT.max, hT.pos, fun o ho hC => ?_⟩
      rcases he.newC k o hC with h4 | h4 | h4
      · exact hT.far o ho h4
      · have := hMlt k (.inr ⟨c, List.mem_of_getElem? h3⟩)
        have h4 : w.heap.size ≤ k := h4
        omega
      · exact farT i k c h3 hn h4
    · have hlt : i < fr.length := ht.2 i (List.mem_of_getElem? hj)
      have hjl : j < ts.length := (List.getElem?_eq_some_iff.1 hj).1
      rw [if_pos hlt, putAt_at fr ts fr' ht.1 hj hlt (by omega)] at h2
      exact (hm'.tat j k c f h3 h2).same fun _ h => h
    · rw [if_neg (by rw [← hm.tl]; omega), ← hm.tl] at h2
      exact (hm'.tat _ k c f h3 h2).same fun _ h => h
  · intro i j k c c' h1 h2
    -- where a callee's token's row lies
    have cτ : ∀ (j c : Nat), g'.τ[j]? = some (k, c) → (M (g.sel bs ts) k) ∨ w.heap.size ≤ k := fun j c hj => by
      rcases he.τn k c (List.mem_of_getElem? hj) with ⟨c', h⟩ | h
      · exact .inl (.inr ⟨c', h⟩)
      · exact .inr h
    have cross : ∀ (i j c c' : Nat), i ∉ ts → g.τ[i]? = some (k, c) → g'.τ[j]? = some (k, c') → False := fun i j c c' hn h1 h2 => by
      rcases cτ j c' h2 with h | h
      · exact farT i k c h1 hn h
      · have := hMlt k (.inr ⟨c, List.mem_of_getElem? h1⟩)
        omega
    rcases τget i _ h1 with ⟨hn, h3⟩ | ⟨x, hx, h3⟩ | ⟨g3, h3⟩ <;> rcases τget j _ h2 with ⟨hn', h4⟩ | ⟨y, hy, h4⟩ | ⟨g4, h4⟩
    · exact hm.tN i j k c c' h3 h4
    · exact (cross _ _ _ _ hn h3 h4).elim
    · exact (cross _ _ _ _ hn h3 h4).elim
    · exact (cross _ _ _ _ hn' h4 h3).elim
    · have := hm'.tN x y k c c' h3 h4
      subst this
      rw [hx] at hy; injection hy
    · have := hm'.tN x _ k c c' h3 h4
      have := (List.getElem?_eq_some_iff.1 hx).1
      omega
    · exact (cross _ _ _ _ hn' h4 h3).elim
    · have := hm'.tN _ y k c c' h3 h4
      have := (List.getElem?_eq_some_iff.1 hy).1
      omega
    · have := hm'.tN _ _ k c c' h3 h4
      omega
  · intro k c hk hr
    obtain ⟨i, hi⟩ := List.getElem?_of_mem hk
    obtain ⟨j, hj⟩ := List.getElem?_of_mem hr
    have callee : ∀ x, g'.τ[x]? = some (k, c) → False := fun x hx => by
      rcases ρget j k hj with h4 | ⟨g4, h4⟩
      · by_cases hn : j ∈ bs
        · obtain ⟨y, hy⟩ := List.getElem?_of_mem hn
          exact hm'.tρ k c (List.mem_of_getElem? hx) (List.mem_of_getElem? (ρsel y j k hy h4))
        · rcases he.τn k c (List.mem_of_getElem? hx) with ⟨c', h⟩ | h
          · exact farB j k h4 hn (.inr ⟨c', h⟩)
          · have := hMlt k (.inl (List.mem_of_getElem? h4))
            have h : w.heap.size ≤ k := h
            omega
      · exact hm'.tρ k c (List.mem_of_getElem? hx) (List.mem_of_getElem? h4)
    rcases τget i _ hi with ⟨hn, h3⟩ | ⟨x, _, h3⟩ | ⟨_, h3⟩
    · rcases ρget j k hj with h4 | ⟨g4, h4⟩
      · exact hm.tρ k c (List.mem_of_getElem? h3) (List.mem_of_getElem? h4)
      · rcases cρ _ k h4 (by omega) with h5 | h5
        · have := hMlt k (.inr ⟨c, List.mem_of_getElem? h3⟩)
          omega
        · exact h5
    · exact callee _ h3
    · exact callee _ h3
  · exact hm'.Clt
  · exact hm'.gl
end
/-- a function with a body -/
def isFn (P : Program) (f : FuncId) : Bool := match P.funcs[f]? with
  | some fn => fn.name != "runtime.NumGoroutine" && fn.body.isSome
  | none => false
theorem run_callFunc' {P : Program} {f : FuncId} (h : isFn P f = true) (args : Array Value) (w : World) : (callFunc f args).run P w = .ok (.enter f args) w := by
  unfold isFn at h
  cases hf : P.funcs[f]? with
  | none => simp [hf] at h
  | some fn =>
    simp only [hf, Bool.and_eq_true, bne_iff_ne, ne_eq] at h
    have hb : fn.body.isNone = false := by cases hb : fn.body <;> simp_all
    unfold callFunc
    cases hbb : fn.body with
    | none => simp [hbb] at hb
    | some c => simp [Sem.run_bind, program, Sem.run, hf, h.1, hbb]
theorem evs [Known] [Dfr] {S : St} {b0 : Bs} {g : G} {a : Act} {w : World} (hi : Inv b0 S g a w) (ars : Array Operand) : ∀ (j : Nat) (d : D) (v : Value), (ars.toList.map (ev S.tm))[j]? = some d → (ars.toList.map a.eval)[j]? = some v → V w g S.fr d v := fun j d v hd hv => by
  rw [List.getElem?_map] at hd hv
  cases hj : ars.toList[j]? with
  | none => simp [hj] at hd
  | some x => simp [hj] at hd hv; subst hd hv; exact hi.ev x
/-- the state behind a call -/
def St.aft (S : St) (bs ts : List Nat) (bx' : List (List D)) (fr' : List Fr) (t : Option Nat) (d : D) : St :=
  ⟨S.n, match t with | some t => (t, d.ren (upN bs S.bx.length) (upN ts S.fr.length)) :: S.tm | none => S.tm, aftB bs ts S.bx S.fr.length bx', aftF ts S.fr fr', S.e⟩
theorem AL_call [Known] [Dfr] {P : Program} {Q : X → St → Prop} {S : St} {ops : Array Oper} {rest : List Oper} {t : Option Nat} {ty : Nat} {pos : String} {after : Array Edge} {f : FuncId} {ars : Array Operand} {ats : Array TypeId} (bs ts : List Nat)
    {cds : List D} {bxs : List (List D)} {frs : List Fr} {post : R → List (List D) → List Fr → Prop} (hf : isFn P f = true) (hAC : AC P f cds bxs frs post)
    (hc : (ars.toList.map (ev S.tm)).map (D.ren (idx bs) (idx ts)) = cds) (hb : okSel bs S.bx.length) (ht : okSel ts S.fr.length) (hbx : selB bs ts S.bx = bxs) (hfr : selF ts S.fr = frs) (htd : (match t with | some t => Nat.blt t S.n | none => true) = true)
    (hp : ∀ d bx' fr', post (.pan d) bx' fr' → bs.length ≤ bx'.length ∧ Q (.pan (d.ren (upN bs S.bx.length) (upN ts S.fr.length))) ⟨S.n, S.tm, aftB bs ts S.bx S.fr.length bx', aftF ts S.fr fr', S.e⟩)
    (k : ∀ d bx' fr', post (.ret d) bx' fr' → bs.length ≤ bx'.length ∧ AL P ops rest (S.aft bs ts bx' fr' t d) Q) : AL P ops (⟨t, .call { callee := .value (.func f), args := ars, argTypes := ats }, ty, pos, after, none⟩ :: rest) S Q := by
  refine ⟨fun b0 g a w hi => ?_⟩
  refine wpList_plain rfl fun K hK => ?_
  have hrun : (execOp a.eval ⟨t, .call { callee := .value (.func f), args := ars, argTypes := ats }, ty, pos, after, none⟩).run P w = .ok (.enter f (ars.toList.map a.eval).toArray) w := by
    have e : ars.map a.eval = (ars.toList.map a.eval).toArray := by rw [← Array.toList_map, Array.toArray_toList]
    have hz := run_callFunc' hf (ars.toList.map a.eval).toArray w
    rw [← e] at hz ⊢
    simpa [execOp, resolve, Act.eval, Deferred.ofValue, invoke, Sem.run_bind] using hz
  unfold Oper.wp
  rw [hrun]
  have hm := hi.mem
  have hcall := hAC.run (g.sel bs ts) w (ars.toList.map a.eval) (by rw [← hbx, ← hfr]; exact hm.sel hb ht) (by rw [← hc]; simp) (fun j d v hd hv => by
    rw [← hc, List.getElem?_map] at hd
    cases hj : (ars.toList.map (ev S.tm))[j]? with
    | none => simp only [hj, Option.map_none] at hd; cases hd
    | some d0 =>
      simp only [hj, Option.map_some, Option.some.injEq] at hd
      subst hd
      rw [← hfr]
      exact (evs hi ars j d0 v hj hv).sel hm hb ht)
  refine hcall.mono fun e w' ⟨g', bx', fr', r, he, hm', hr, hpost⟩ => ?_
  rw [← hfr] at he
  have common : bs.length ≤ bx'.length → Inv b0 ⟨S.n, S.tm, aftB bs ts S.bx S.fr.length bx', aftF ts S.fr fr', S.e⟩ (aftG bs ts g g') a w' ∧ ∀ d v, V w' g' fr' d v → V w' (aftG bs ts g g') (aftF ts S.fr fr') (d.ren (upN bs S.bx.length) (upN ts S.fr.length)) v := fun hle => by
    obtain ⟨q1, q2, q3⟩ := Go.Av.aft hm hb ht he hm' hle
    exact ⟨⟨hi.size, hi.defers, q1, fun t => (hi.tm t).evo q2, hi.evo.trans q2, hi.bd⟩, q3⟩
  cases r with
  | ret d =>
    obtain ⟨v, rfl, hv⟩ := hr
    obtain ⟨hle, hk⟩ := k d bx' fr' hpost
    obtain ⟨hi2, hup⟩ := common hle
    refine hK _ _ (hk.run b0 (aftG bs ts g g') _ w' ?_)
    cases t with
    | none => exact hi2
    | some t => exact hi2.put htd (hup d v hv)
  | pan d =>
    obtain ⟨v, rfl, hv⟩ := hr
    obtain ⟨hle, hq⟩ := hp d bx' fr' hpost
    obtain ⟨hi2, hup⟩ := common hle
    exact ⟨_, _, v, _, hi2, rfl, hup d v hv, hq⟩
end Go.Av
end
/- Words for the walk over abstract states. -/
section
open Go.RowKit Go.Pl
namespace Go.Av
set_option linter.unusedSimpArgs false
set_option linter.unusedVariables false
section
variable {P : Program} {Q : X → St → Prop} {S : St}
theorem AW_seq' [Known] [Dfr] {x y : Code} (h : AW P x S (X.then (fun S => AW P y S Q) Q)) : AW P (.seq x y) S Q := AW_seq fun K hK => AW_mono h fun x S h => by
  cases x <;> simp only [X.then] at h ⊢
  · exact hK _ h
  all_goals exact h
theorem then_norm {K : St → Prop} (h : K S) : X.then K Q .norm S := h
theorem then_exit {K : St → Prop} {i : Nat} (h : Q (.exit i) S) : X.then K Q (.exit i) S := h
theorem then_goto {K : St → Prop} {i : Nat} (h : Q (.goto i) S) : X.then K Q (.goto i) S := h
theorem then_ret {K : St → Prop} (h : Q .ret S) : X.then K Q .ret S := h
theorem then_pan {K : St → Prop} {d : D} (h : Q (.pan d) S) : X.then K Q (.pan d) S := h
theorem blk_norm {id : Nat} (h : Q .norm S) : X.inBlock id Q .norm S := h
theorem blk_exit {id : Nat} (h : Q .norm S) : X.inBlock id Q (.exit id) S := by simpa [X.inBlock] using h
theorem blk_far {id i : Nat} (hne : Nat.beq i id = false) (h : Q (.exit i) S) : X.inBlock id Q (.exit i) S := by
  have : i ≠ id := fun e => by subst e; simp at hne
  simpa [X.inBlock, this] using h
theorem blk_goto {id i : Nat} (h : Q (.goto i) S) : X.inBlock id Q (.goto i) S := h
theorem blk_ret {id : Nat} (h : Q .ret S) : X.inBlock id Q .ret S := h
theorem blk_pan {id : Nat} {d : D} (h : Q (.pan d) S) : X.inBlock id Q (.pan d) S := h
theorem AW_cond' [Known] [Dfr] {n : Nat} {ee : Nat × Nat} {tm : List (Nat × D)} {bx : List (List D)} {fr : List Fr} {x y : Code} {b : Bool} {t : Nat} (hd : look tm t = .bool b) (h1 : b = true → AW P x ⟨n, tm, bx, fr, ee⟩ Q) (h2 : b = false → AW P y ⟨n, tm, bx, fr, ee⟩ Q) : AW P (.cond (.tmp t) x y) ⟨n, tm, bx, fr, ee⟩ Q := AW_cond rfl hd h1 h2
theorem AW_condT [Known] [Dfr] {n : Nat} {ee : Nat × Nat} {tm : List (Nat × D)} {bx : List (List D)} {fr : List Fr} {x y : Code} {t : Nat} (hd : look tm t = .bool true) (h1 : AW P x ⟨n, tm, bx, fr, ee⟩ Q) : AW P (.cond (.tmp t) x y) ⟨n, tm, bx, fr, ee⟩ Q := AW_cond rfl hd (fun _ => h1) (fun h => by cases h)
theorem AW_condF [Known] [Dfr] {n : Nat} {ee : Nat × Nat} {tm : List (Nat × D)} {bx : List (List D)} {fr : List Fr} {x y : Code} {t : Nat} (hd : look tm t = .bool false) (h1 : AW P y ⟨n, tm, bx, fr, ee⟩ Q) : AW P (.cond (.tmp t) x y) ⟨n, tm, bx, fr, ee⟩ Q := AW_cond rfl hd (fun h => by cases h) (fun _ => h1)
end
/-- a function that only computes -/
def AP [Known] (P : Program) (f : FuncId) (args : List D) (d : D) (frs : List Fr) : Prop := AC P f args [] [] fun r bx fr => r = .ret d ∧ bx = [] ∧ fr = frs
theorem end0 {P : Program} {rs : List ResultVar} {S : St} {d d' : D} {frs : List Fr} {ts : List Nat} {ds : List D} (h : ResL P S rs ds) (ht : okSel ts S.fr.length) (hn : nf ((ret1 ds).ren (idx []) (idx ts)) = some d') (hd : d' = d) (hf : selF ts S.fr = frs) :
    fnPost P rs 0 0 (fun r bx fr => r = .ret d ∧ bx = [] ∧ fr = frs) .ret S :=
  ⟨ds, [], ts, h, okSel_nil _, ht, fun i h => by omega, fun i h => by omega, by rw [nf_eq hn, hd], rfl, hf⟩
theorem AL_callP [Known] [Dfr] {P : Program} {Q : X → St → Prop} {n : Nat} {ee : Nat × Nat} {tm : List (Nat × D)} {bx : List (List D)} {fr : List Fr} {ops : Array Oper} {rest : List Oper} {t : Nat} {ty : Nat} {pos : String} {after : Array Edge} {f : FuncId} {ars : Array Operand} {ats : Array TypeId}
    {cds : List D} {d d' : D} {frs fr' : List Fr} (hAC : AP P f cds d frs) (hf : isFn P f = true)
    (hc : (ars.toList.map (ev tm)).map (D.ren (idx []) (idx [])) = cds) (htd : Nat.blt t n = true) (hd : nf (d.ren (upN [] bx.length) (upN [] fr.length)) = some d') (hfr : nfl (fr ++ frs) = some fr')
    (k : AL P ops rest ⟨n, (t, d') :: tm, bx, fr', ee⟩ Q) : AL P ops (⟨some t, .call { callee := .value (.func f), args := ars, argTypes := ats }, ty, pos, after, none⟩ :: rest) ⟨n, tm, bx, fr, ee⟩ Q := by
  refine AL_call [] [] hf hAC hc (okSel_nil _) (okSel_nil _) rfl rfl htd (fun _ _ _ h => by cases h.1) fun d0 bx' fr' h => ?_
  obtain ⟨h1, rfl, rfl⟩ := h
  injection h1 with h1
  subst h1
  refine ⟨Nat.le_refl _, ?_⟩
  have e1 := nf_eq hd
  have e2 := nfl_eq hfr
  subst e1 e2
  simpa [St.aft, aftB, aftF, putAt] using k
end Go.Av
end
