/- What a decoder of frames takes of bytes, in plain words. -/
import Derived.Test.YthbmdkhlialmeaaBase
namespace Go.Proofs.Ythbmdkhlialmeaa
set_option linter.unusedVariables false
set_option linter.unusedSimpArgs false
/-- the number ahead of a frame -/
def lenH (b : List UInt8) : Nat := 256 * (b.getD 0 0).toNat + (b.getD 1 0).toNat
/-- the frames at the beginning of bytes; what is left; why it is broken (0: it is not) -/
def takeF (b : List UInt8) : List (List UInt8) × List UInt8 × Nat :=
  if b.length < 2 then ([], b, 0)
  else if lenH b = 0 then ([], [], 3)
  else if lenH b > 1000 then ([], [], 2)
  else if h : b.length < lenH b + 2 then ([], b, 0)
  else
    let r := takeF (b.drop (2 + lenH b))
    ((b.take (2 + lenH b)).drop 2 :: r.1, r.2)
termination_by b.length
decreasing_by simp; omega
theorem takeF_short {b : List UInt8} (h : b.length < 2) : takeF b = ([], b, 0) := by rw [takeF, if_pos h]
theorem takeF_form {b : List UInt8} (h : ¬ b.length < 2) (h0 : lenH b = 0) : takeF b = ([], [], 3) := by rw [takeF, if_neg h, if_pos h0]
theorem takeF_long {b : List UInt8} (h : ¬ b.length < 2) (h0 : lenH b > 1000) : takeF b = ([], [], 2) := by rw [takeF, if_neg h, if_neg (by omega), if_pos h0]
theorem takeF_wait {b : List UInt8} (h : ¬ b.length < 2) (h0 : lenH b ≠ 0) (h1 : ¬ lenH b > 1000) (h2 : b.length < lenH b + 2) : takeF b = ([], b, 0) := by rw [takeF, if_neg h, if_neg h0, if_neg h1, dif_pos h2]
theorem takeF_one {b : List UInt8} (h : ¬ b.length < 2) (h0 : lenH b ≠ 0) (h1 : ¬ lenH b > 1000) (h2 : ¬ b.length < lenH b + 2) :
    takeF b = ((b.take (2 + lenH b)).drop 2 :: (takeF (b.drop (2 + lenH b))).1, (takeF (b.drop (2 + lenH b))).2) := by rw [takeF, if_neg h, if_neg h0, if_neg h1, dif_neg h2]
/-- a decoder: what is left, why it is broken -/
abbrev Dec := List UInt8 × Nat
def feedD (d : Dec) (b : List UInt8) : List (List UInt8) × Dec := if d.2 = 0 then takeF (d.1 ++ b) else ([], d)
def writeF (b : List UInt8) : List UInt8 := UInt8.ofNat (b.length / 256) :: UInt8.ofNat (b.length % 256) :: b
theorem takeF_err (b : List UInt8) : (takeF b).2.2 = 0 ∨ ((takeF b).2.1 = [] ∧ ((takeF b).2.2 = 2 ∨ (takeF b).2.2 = 3)) := by
  fun_induction takeF b with
  | case1 b h => simp
  | case2 b h h0 => simp
  | case3 b h h0 h1 => simp
  | case4 b h h0 h1 h2 => simp
  | case5 b h h0 h1 h2 r ih => exact ih
theorem takeF_left (b : List UInt8) : (takeF b).2.1.length ≤ b.length := by
  fun_induction takeF b with
  | case1 b h => simp
  | case2 b h h0 => simp
  | case3 b h h0 h1 => simp
  | case4 b h h0 h1 h2 => simp
  | case5 b h h0 h1 h2 r ih => simp only [List.length_drop] at ih; show (takeF (b.drop (2 + lenH b))).2.1.length ≤ _; omega
theorem takeF_count (b : List UInt8) : (takeF b).1.length ≤ b.length := by
  fun_induction takeF b with
  | case1 b h => simp
  | case2 b h h0 => simp
  | case3 b h h0 h1 => simp
  | case4 b h h0 h1 h2 => simp
  | case5 b h h0 h1 h2 r ih => simp only [List.length_drop] at ih; show (_ :: (takeF (b.drop (2 + lenH b))).1).length ≤ _; rw [List.length_cons]; omega
theorem lenH_append {x : List UInt8} (y : List UInt8) (h : ¬ x.length < 2) : lenH (x ++ y) = lenH x := by
  match x, h with
  | a :: b :: r, _ => rfl
  | [_], h => simp at h
  | [], h => simp at h
/-- bytes taken in two parts -/
theorem takeF_append (x y : List UInt8) : takeF (x ++ y) = ((takeF x).1 ++ (feedD (takeF x).2 y).1, (feedD (takeF x).2 y).2) := by
  fun_induction takeF x with
  | case1 x h => simp [feedD]
  | case2 x h h0 =>
    rw [takeF_form (by simp; omega) (by rw [lenH_append y h]; exact h0)]
    simp [feedD]
  | case3 x h h0 h1 =>
    rw [takeF_long (by simp; omega) (by rw [lenH_append y h]; exact h1)]
    simp [feedD]
  | case4 x h h0 h1 h2 => simp [feedD]
  | case5 x h h0 h1 h2 r ih =>
    have hl := lenH_append y h
    rw [takeF_one (by simp; omega) (by rw [hl]; exact h0) (by rw [hl]; exact h1) (by rw [hl]; simp; omega), hl]
    rw [List.take_append_of_le_length (by omega), List.drop_append_of_le_length (by omega), ih]
    rfl
theorem feedD_append (d : Dec) (x y : List UInt8) : feedD d (x ++ y) = ((feedD d x).1 ++ (feedD (feedD d x).2 y).1, (feedD (feedD d x).2 y).2) := by
  unfold feedD
  by_cases h : d.2 = 0
  · simp only [h, if_true]
    rw [← List.append_assoc, takeF_append]
    rfl
  · simp [h]
theorem feedD_count (d : Dec) (b : List UInt8) : (feedD d b).1.length ≤ d.1.length + b.length := by
  unfold feedD
  split
  · have := takeF_count (d.1 ++ b); rwa [List.length_append] at this
  · simp
theorem feedD_left (d : Dec) (b : List UInt8) : (feedD d b).2.1.length ≤ d.1.length + b.length := by
  unfold feedD
  split
  · have := takeF_left (d.1 ++ b); rwa [List.length_append] at this
  · simp
end Go.Proofs.Ythbmdkhlialmeaa
