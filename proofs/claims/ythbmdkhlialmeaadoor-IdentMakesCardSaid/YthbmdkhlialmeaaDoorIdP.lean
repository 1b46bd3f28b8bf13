/- Which number is ahead: an order. -/
import Derived.Test.YthbmdkhlialmeaaDoorIdC
import Derived.Sort.Walk0
open Go.RowKit Go.Pl Go.Av
namespace Go.Proofs.YthbmdkhlialmeaaDoor
set_option linter.unusedVariables false
set_option linter.unusedSimpArgs false
/-! texts -/
theorem bl_irr : ∀ x : List UInt8, Op.bytesLess x x = false
  | [] => rfl
  | a :: x => by simp [Op.bytesLess, bl_irr x]
theorem bl_tri : ∀ x y : List UInt8, x ≠ y → (Op.bytesLess x y = true ∧ Op.bytesLess y x = false) ∨ (Op.bytesLess x y = false ∧ Op.bytesLess y x = true)
  | [], [], h => (h rfl).elim
  | [], b :: y, _ => .inl ⟨rfl, rfl⟩
  | a :: x, [], _ => .inr ⟨rfl, rfl⟩
  | a :: x, b :: y, h => by
    simp only [Op.bytesLess]
    by_cases hab : a = b
    · subst hab
      have := bl_tri x y (fun e => h (by rw [e]))
      simpa using this
    · have h1 : (a == b) = false := by simpa using hab
      have h2 : (b == a) = false := by simpa using fun e : b = a => hab e.symm
      simp only [h1, h2, Bool.false_and, Bool.or_false]
      by_cases hlt : a < b
      · exact .inl ⟨by simpa using hlt, by simpa using UInt8.le_of_lt hlt⟩
      · exact .inr ⟨by simpa using hlt, by
          rw [UInt8.not_lt] at hlt
          simpa using UInt8.lt_of_le_of_ne hlt (fun e => hab e.symm)⟩
theorem bl_trans : ∀ x y z : List UInt8, Op.bytesLess x y = true → Op.bytesLess y z = true → Op.bytesLess x z = true
  | _, [], _, h, _ => by simp [Op.bytesLess] at h
  | _, _ :: _, [], _, h => by simp [Op.bytesLess] at h
  | [], _ :: _, _ :: _, _, _ => rfl
  | a :: x, b :: y, c :: z, h1, h2 => by
    simp only [Op.bytesLess, Bool.or_eq_true, Bool.and_eq_true, decide_eq_true_eq, beq_iff_eq] at h1 h2 ⊢
    rcases h1 with h1 | ⟨rfl, h1⟩
    · rcases h2 with h2 | ⟨rfl, h2⟩
      · exact .inl (UInt8.lt_trans h1 h2)
      · exact .inl h1
    · rcases h2 with h2 | ⟨rfl, h2⟩
      · exact .inl h2
      · exact .inr ⟨rfl, bl_trans x y z h1 h2⟩
/-- a strict order on keys -/
structure Key where
  t : Nat
  q : Nat
  c : Int
  n : Nat
  s : Nat
  h : List UInt8
  d : List UInt8
def keyOf (x : EidV) (t q : Nat) : Key := ⟨t, q, classN x, x.n, x.s, x.h, x.d⟩
/-- less, said plainly -/
def KLt (a b : Key) : Prop :=
  a.t < b.t ∨ (a.t = b.t ∧ (a.q < b.q ∨ (a.q = b.q ∧ (a.c < b.c ∨ (a.c = b.c ∧ (a.n < b.n ∨ (a.n = b.n ∧ (a.s < b.s ∨ (a.s = b.s ∧ ((a.h ≠ b.h ∧ Op.bytesLess a.h b.h = true) ∨ (a.h = b.h ∧ Op.bytesLess a.d b.d = true)))))))))))
theorem ahead_iff (a : EidV) (t q : Nat) (b : EidV) (t' q' : Nat) : aheadI a t q b t' q' = true ↔ KLt (keyOf a t q) (keyOf b t' q') := by
  unfold aheadI KLt keyOf lessE
  dsimp only
  by_cases h1 : t = t'
  · by_cases h2 : q = q'
    · by_cases h3 : classN a = classN b
      · by_cases h4 : a.n = b.n
        · by_cases h5 : a.s = b.s
          · by_cases h6 : a.h = b.h
            · simp [h1, h2, h3, h4, h5, h6]
            · simp [h1, h2, h3, h4, h5, h6]
          · have : ¬ (a.s : Int) = b.s := by omega
            simp [h1, h2, h3, h4, h5, this]
        · have : ¬ (a.n : Int) = b.n := by omega
          simp [h1, h2, h3, h4, this]
      · simp [h1, h2, h3]
    · have : ¬ (q : Int) = q' := by omega
      simp [h1, h2, this]
  · have : ¬ (t : Int) = t' := by omega
    simp [h1, this]
theorem klt_irr (a : Key) : ¬ KLt a a := by
  unfold KLt
  simp [bl_irr]
theorem klt_asym {a b : Key} (h : KLt a b) : ¬ KLt b a := by
  unfold KLt at h ⊢
  intro k
  rcases h with h | ⟨h1, h | ⟨h2, h | ⟨h3, h | ⟨h4, h | ⟨h5, ⟨h6, h⟩ | ⟨h6, h⟩⟩⟩⟩⟩⟩
  · omega
  · omega
  · omega
  · omega
  · omega
  · rcases bl_tri _ _ h6 with ⟨_, e⟩ | ⟨e, _⟩
    · simp only [h1, h2, h3, h4, h5] at k
      simp only [Nat.lt_irrefl, Int.lt_irrefl, false_or, true_and] at k
      rcases k with ⟨_, k⟩ | ⟨k, _⟩
      · rw [e] at k; cases k
      · exact h6 k.symm
    · rw [e] at h; cases h
  · have hd : a.d ≠ b.d := fun e => by rw [e, bl_irr] at h; cases h
    simp only [h1, h2, h3, h4, h5, h6] at k
    simp only [Nat.lt_irrefl, Int.lt_irrefl, false_or, true_and, ne_eq, not_true_eq_false, false_and] at k
    rcases bl_tri _ _ hd with ⟨_, e⟩ | ⟨e, _⟩
    · rw [e] at k; cases k
    · rw [e] at h; cases h
theorem klt_tri (a b : Key) (h : a ≠ b) : KLt a b ∨ KLt b a := by
  unfold KLt
  by_cases h1 : a.t = b.t
  · by_cases h2 : a.q = b.q
    · by_cases h3 : a.c = b.c
      · by_cases h4 : a.n = b.n
        · by_cases h5 : a.s = b.s
          · by_cases h6 : a.h = b.h
            · have hd : a.d ≠ b.d := fun h7 => h (by cases a; cases b; simp_all)
              rcases bl_tri _ _ hd with ⟨e, _⟩ | ⟨_, e⟩ <;> simp [h1, h2, h3, h4, h5, h6, e]
            · have h6' : ¬ b.h = a.h := fun e => h6 e.symm
              rcases bl_tri _ _ h6 with ⟨e, _⟩ | ⟨_, e⟩ <;> simp [h1, h2, h3, h4, h5, h6, h6', e]
          · omega
        · omega
      · omega
    · omega
  · omega
theorem klt_trans {a b c : Key} (h : KLt a b) (k : KLt b c) : KLt a c := by
  unfold KLt at *
  rcases h with h | ⟨h1, h | ⟨h2, h | ⟨h3, h | ⟨h4, h | ⟨h5, ⟨h6, h⟩ | ⟨h6, h⟩⟩⟩⟩⟩⟩
  · omega
  · omega
  · omega
  · omega
  · omega
  · rcases k with k | ⟨k1, k | ⟨k2, k | ⟨k3, k | ⟨k4, k | ⟨k5, ⟨k6, k⟩ | ⟨k6, k⟩⟩⟩⟩⟩⟩
    · omega
    · omega
    · omega
    · omega
    · omega
    · have e := bl_trans _ _ _ h k
      have hne : a.h ≠ c.h := fun e2 => by rw [e2, bl_irr] at e; cases e
      exact .inr ⟨h1.trans k1, .inr ⟨h2.trans k2, .inr ⟨h3.trans k3, .inr ⟨h4.trans k4, .inr ⟨h5.trans k5, .inl ⟨hne, e⟩⟩⟩⟩⟩⟩
    · exact .inr ⟨h1.trans k1, .inr ⟨h2.trans k2, .inr ⟨h3.trans k3, .inr ⟨h4.trans k4, .inr ⟨h5.trans k5, .inl (by rw [← k6]; exact ⟨h6, h⟩)⟩⟩⟩⟩⟩
  · rcases k with k | ⟨k1, k | ⟨k2, k | ⟨k3, k | ⟨k4, k | ⟨k5, ⟨k6, k⟩ | ⟨k6, k⟩⟩⟩⟩⟩⟩
    · omega
    · omega
    · omega
    · omega
    · omega
    · exact .inr ⟨h1.trans k1, .inr ⟨h2.trans k2, .inr ⟨h3.trans k3, .inr ⟨h4.trans k4, .inr ⟨h5.trans k5, .inl (by rw [h6]; exact ⟨k6, k⟩)⟩⟩⟩⟩⟩
    · exact .inr ⟨h1.trans k1, .inr ⟨h2.trans k2, .inr ⟨h3.trans k3, .inr ⟨h4.trans k4, .inr ⟨h5.trans k5, .inr ⟨h6.trans k6, bl_trans _ _ _ h k⟩⟩⟩⟩⟩⟩
/-- the cells are the key's -/
theorem key_inj {a b : EidV} {t q t' q' : Nat} (h : keyOf a t q = keyOf b t' q') : a = b ∧ t = t' ∧ q = q' := by
  obtain ⟨i, n, s, hh, d⟩ := a
  obtain ⟨i', n', s', hh', d'⟩ := b
  simp only [keyOf, Key.mk.injEq] at h
  obtain ⟨h1, h2, h3, rfl, rfl, rfl, rfl⟩ := h
  refine ⟨?_, h1, h2⟩
  have : i = i' := by
    cases i <;> cases i' <;> simp [classN, isZ] at h3 ⊢
    · split at h3 <;> cases h3
    · split at h3 <;> cases h3
  rw [this]
end Go.Proofs.YthbmdkhlialmeaaDoor
