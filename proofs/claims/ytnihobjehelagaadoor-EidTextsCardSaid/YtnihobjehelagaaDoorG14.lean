/- Names read out of texts: plain laws, no program in sight. -/
import Derived.Test.YtnihobjehelagaaDoorG12
import Derived.Test.YtnihobjehelagaaDoorG13
section
open Go.RowKit Go.Pl Go.Av
namespace Go.Proofs.YtnihobjehelagaaDoor
set_option linter.unusedVariables false
set_option linter.unusedSimpArgs false
/-- a text cut at a byte -/
def cutV (c : UInt8) : List UInt8 → List UInt8 × List UInt8 × Bool
  | [] => ([], [], false)
  | x :: s => if x = c then ([], s, true) else (x :: (cutV c s).1, (cutV c s).2.1, (cutV c s).2.2)
theorem cutV_no {c : UInt8} : ∀ {s : List UInt8}, c ∉ s → cutV c s = (s, [], false)
  | [], _ => rfl
  | x :: s, h => by
    have h1 : ¬ x = c := fun e => h (by rw [e]; exact List.mem_cons_self ..)
    have h2 := cutV_no (c := c) (s := s) fun hm => h (List.mem_cons_of_mem _ hm)
    rw [cutV, if_neg h1, h2]
theorem cutV_yes {c : UInt8} : ∀ {a b : List UInt8}, c ∉ a → cutV c (a ++ c :: b) = (a, b, true)
  | [], b, _ => by rw [List.nil_append, cutV, if_pos rfl]
  | x :: a, b, h => by
    have h1 : ¬ x = c := fun e => h (by rw [e]; exact List.mem_cons_self ..)
    have h2 := cutV_yes (c := c) (a := a) (b := b) fun hm => h (List.mem_cons_of_mem _ hm)
    rw [List.cons_append, cutV, if_neg h1, h2]
theorem cutV_back {c : UInt8} : ∀ {s : List UInt8}, (cutV c s).2.2 = true → s = (cutV c s).1 ++ c :: (cutV c s).2.1
  | [], h => by rw [cutV] at h; cases h
  | x :: s, h => by
    rw [cutV] at h ⊢
    by_cases e : x = c
    · rw [if_pos e]; rw [e]; rfl
    · rw [if_neg e] at h ⊢
      have := cutV_back (c := c) (s := s) h
      dsimp only
      rw [List.cons_append, ← this]
/-- a prefix cut off -/
def preV (p s : List UInt8) : List UInt8 × Bool := if s.take p.length == p then (s.drop p.length, true) else (s, false)
theorem preV_app (p r : List UInt8) : preV p (p ++ r) = (r, true) := by
  unfold preV
  rw [List.take_left, beq_self_eq_true, if_pos rfl, List.drop_left]
theorem preV_no {p s : List UInt8} (h : (s.take p.length == p) = false) : preV p s = (s, false) := by
  unfold preV; rw [h]; rfl
theorem preV_back {p s : List UInt8} (h : (preV p s).2 = true) : s = p ++ (preV p s).1 := by
  unfold preV at h ⊢
  split at h
  · rename_i hp
    rw [if_pos hp]
    have := beq_iff_eq.1 hp
    conv => lhs; rw [← List.take_append_drop p.length s, this]
  · cases h
def puN (s : List UInt8) : Nat := match Lib.parseUintB 32 s with
  | .ok u => u
  | .range => 4294967295
  | _ => 0
def puB (s : List UInt8) : Bool := match Lib.parseUintB 32 s with
  | .ok _ => true
  | _ => false
theorem puN_le (s : List UInt8) : puN s ≤ 4294967295 := by
  unfold puN
  cases h : Lib.parseUintB 32 s with
  | ok u => exact Lib.parseUintB_le h
  | range => exact Nat.le_refl _
  | _ => exact Nat.zero_le _
theorem puD_eq (s : List UInt8) : puD s = .tup [.int .u64 (puN s : Int), if puB s then .nili else .iface 199 .junk] := by
  unfold puD puN puB
  cases h : Lib.parseUintB 32 s <;> rfl
theorem puM_app {M : Nat} : ∀ {l r : List UInt8} {acc v : Nat}, Lib.parseUintM M acc l = .ok v → Lib.parseUintM M acc (l ++ r) = Lib.parseUintM M v r
  | [], r, acc, v, h => by
    rw [Lib.parseUintM] at h
    injection h with h
    rw [List.nil_append, h]
  | c :: l, r, acc, v, h => by
    rw [Lib.parseUintM] at h
    rw [List.cons_append, Lib.parseUintM]
    split at h
    · rename_i h1
      rw [if_pos h1]
      split at h
      · cases h
      · rename_i h2
        rw [if_neg h2]
        split at h
        · cases h
        · rename_i h3
          rw [if_neg h3]
          exact puM_app h
    · cases h
theorem dig_nat {k : Nat} (h : k < 10) : (UInt8.ofNat (48 + k)).toNat = 48 + k := by
  rw [UInt8.toNat_ofNat']; omega
theorem puM_dec : ∀ (u : Nat), u ≤ 4294967295 → Lib.parseUintM 4294967295 0 (Lib.decDigits u) = .ok u := by
  intro u
  induction u using Nat.strongRecOn with
  | _ u ih =>
    intro hu
    rw [Lib.decDigits]
    by_cases h : u < 10
    · rw [dif_pos h, Lib.parseUintM, dig_nat h, if_pos (by omega), if_neg (by omega), if_neg (by omega), Lib.parseUintM]
      congr 1; omega
    · rw [dif_neg h, puM_app (ih (u / 10) (by omega) (by omega)), Lib.parseUintM, dig_nat (by omega), if_pos (by omega), if_neg (by omega), if_neg (by omega), Lib.parseUintM]
      congr 1; omega
theorem dec_ne (u : Nat) : Lib.decDigits u ≠ [] := by
  intro h
  have := congrArg List.length h
  rw [Lib.decDigits_length] at this
  have := Lib.nDigits_pos u
  simp at *; omega
theorem pu_dec {u : Nat} (h : u ≤ 4294967295) : puN (Lib.decDigits u) = u ∧ puB (Lib.decDigits u) = true := by
  have e : Lib.parseUintB 32 (Lib.decDigits u) = .ok u := by
    unfold Lib.parseUintB
    rw [if_neg (dec_ne u)]
    exact puM_dec u h
  unfold puN puB
  rw [e]
  exact ⟨rfl, rfl⟩
theorem dec_digit : ∀ (u : Nat) (c : UInt8), c ∈ Lib.decDigits u → 48 ≤ c.toNat ∧ c.toNat ≤ 57 := by
  intro u
  induction u using Nat.strongRecOn with
  | _ u ih =>
    intro c hc
    rw [Lib.decDigits] at hc
    by_cases h : u < 10
    · rw [dif_pos h] at hc
      rw [List.mem_singleton] at hc
      subst hc
      have := dig_nat h
      rw [this]; omega
    · rw [dif_neg h] at hc
      rcases List.mem_append.1 hc with hc | hc
      · exact ih (u / 10) (by omega) c hc
      · rw [List.mem_singleton] at hc
        subst hc
        have := dig_nat (k := u % 10) (by omega)
        rw [this]; omega
/-- the name of two numbers -/
def pnV (s : List UInt8) : EidV × Bool :=
  (⟨true, puN (cutV 46 s).1, puN (cutV 46 s).2.1, [], []⟩, (cutV 46 s).2.2 && (puB (cutV 46 s).1 && (puB (cutV 46 s).2.1 && (eRight ⟨true, puN (cutV 46 s).1, puN (cutV 46 s).2.1, [], []⟩ && (Lib.decDigits (puN (cutV 46 s).1) == (cutV 46 s).1 && Lib.decDigits (puN (cutV 46 s).2.1) == (cutV 46 s).2.1)))))
/-- the name of a path -/
def ppV (s : List UInt8) : EidV × Bool :=
  (⟨false, 0, 0, (cutV 47 (preV [47, 47] s).1).1, (cutV 47 (preV [47, 47] s).1).2.1⟩, (preV [47, 47] s).2 && ((cutV 47 (preV [47, 47] s).1).2.2 && ((cutV 47 (preV [47, 47] s).1).1 != [] && eRight ⟨false, 0, 0, (cutV 47 (preV [47, 47] s).1).1, (cutV 47 (preV [47, 47] s).1).2.1⟩)))
def noneT : List UInt8 := [100, 116, 110, 58, 110, 111, 110, 101]
def ipnT : List UInt8 := [105, 112, 110, 58]
def dtnT : List UInt8 := [100, 116, 110, 58]
/-- the name of a text -/
def parseE (s : List UInt8) : EidV × Bool :=
  if s == noneT then (eidZ, true)
  else if (preV ipnT s).2 then pnV (preV ipnT s).1
  else if (preV dtnT s).2 then ppV (preV dtnT s).1
  else (eidZ, false)
theorem isZ_iff {x : EidV} : isZ x = true ↔ x = eidZ := by
  obtain ⟨i, n, s, h, d⟩ := x
  simp only [isZ, eidZ, Bool.and_eq_true, beq_iff_eq, EidV.mk.injEq]
  constructor
  · rintro ⟨h1, h2, h3, h4, h5, _⟩
    exact ⟨h1, by omega, by omega, h4, h5⟩
  · rintro ⟨h1, h2, h3, h4, h5⟩
    exact ⟨h1, by omega, by omega, h4, h5, trivial⟩
/-- what is read may be, and its text is what was read -/
theorem parse_text {s : List UInt8} (h : (parseE s).2 = true) : eRight (parseE s).1 = true ∧ textE (parseE s).1 = s := by
  unfold parseE at h ⊢
  by_cases h0 : (s == noneT) = true
  · rw [if_pos h0]
    refine ⟨by decide, ?_⟩
    rw [beq_iff_eq.1 h0]; decide
  rw [if_neg h0] at h ⊢
  by_cases h1 : (preV ipnT s).2 = true
  · rw [if_pos h1] at h ⊢
    have e1 := preV_back h1
    generalize (preV ipnT s).1 = r at *
    unfold pnV at h ⊢
    dsimp only at h ⊢
    simp only [Bool.and_eq_true, beq_iff_eq] at h
    obtain ⟨h2, h3, h4, h5, h6, h7⟩ := h
    refine ⟨h5, ?_⟩
    unfold textE
    rw [if_neg (by simp [isZ]), if_pos rfl, h6, h7, e1]
    have := cutV_back h2
    conv => rhs; rw [this]
    simp [ipnT]
  rw [if_neg h1] at h ⊢
  by_cases h2 : (preV dtnT s).2 = true
  · rw [if_pos h2] at h ⊢
    have e1 := preV_back h2
    generalize (preV dtnT s).1 = r at *
    unfold ppV at h ⊢
    dsimp only at h ⊢
    simp only [Bool.and_eq_true, bne_iff_ne] at h
    obtain ⟨h3, h4, h5, h6⟩ := h
    have e2 := preV_back h3
    generalize (preV [47, 47] r).1 = q at *
    refine ⟨h6, ?_⟩
    unfold textE
    rw [if_neg (by rw [isZ_iff]; intro e; exact h5 (congrArg EidV.h e)), if_neg (by simp), e1, e2]
    have := cutV_back h4
    conv => rhs; rw [this]
    simp [pathE, dtnT]
  · rw [if_neg h2] at h; cases h
theorem not_mem_dec {c : UInt8} (h : c.toNat < 48 ∨ 57 < c.toNat) (u : Nat) : c ∉ Lib.decDigits u := fun hm => by
  have := dec_digit u c hm
  omega
theorem not_mem_ok {m : Nat} {c : UInt8} {l : List UInt8} (hl : l.all (okB m) = true) (h : okB m c = false) : c ∉ l := fun hm => by
  have := List.all_eq_true.1 hl c hm
  rw [h] at this; cases this
/-- the text of a name that may be is read as this name -/
theorem text_parse {x : EidV} (h : eRight x = true) : parseE (textE x) = (x, true) := by
  unfold textE
  cases hz : isZ x with
  | true =>
    rw [if_pos rfl]
    rw [isZ_iff.1 hz]
    decide
  | false =>
    rw [if_neg (by simp)]
    cases hi : x.i with
    | true =>
      obtain ⟨b1, b2, b3, b4, b5⟩ := eRight_num h hz hi
      rw [if_pos rfl]
      have e1 : [105, 112, 110, 58] ++ Lib.decDigits x.n ++ [46] ++ Lib.decDigits x.s = ipnT ++ (Lib.decDigits x.n ++ 46 :: Lib.decDigits x.s) := by simp [ipnT]
      rw [e1]
      unfold parseE
      have e2 : (ipnT ++ (Lib.decDigits x.n ++ 46 :: Lib.decDigits x.s) == noneT) = false := by simp [ipnT, noneT]
      rw [e2, preV_app, if_neg (by simp), if_pos rfl]
      unfold pnV
      dsimp only
      rw [cutV_yes (not_mem_dec (by decide) x.n)]
      dsimp only
      rw [(pu_dec b1).1, (pu_dec b1).2, (pu_dec b2).1, (pu_dec b2).2]
      have ex : (⟨true, x.n, x.s, [], []⟩ : EidV) = x := by
        obtain ⟨i, n, s, hh, d⟩ := x
        simp only at hi b3 b4
        rw [hi, b3, b4]
      rw [ex, h]
      simp
    | false =>
      obtain ⟨b1, b2, b3, b4, b5, b6, b7⟩ := eRight_txt h hz hi
      rw [if_neg (by simp)]
      have e1 : [100, 116, 110, 58] ++ pathE x = dtnT ++ ([47, 47] ++ (x.h ++ 47 :: x.d)) := by simp [pathE, dtnT]
      rw [e1]
      unfold parseE
      have e2 : (dtnT ++ ([47, 47] ++ (x.h ++ 47 :: x.d)) == noneT) = false := by simp [dtnT, noneT]
      have e3 : preV ipnT (dtnT ++ ([47, 47] ++ (x.h ++ 47 :: x.d))) = (dtnT ++ ([47, 47] ++ (x.h ++ 47 :: x.d)), false) := preV_no (by simp [dtnT, ipnT])
      rw [e2, e3, preV_app, if_neg (by simp), if_neg (by simp), if_pos rfl]
      unfold ppV
      rw [preV_app]
      dsimp only
      rw [cutV_yes (not_mem_ok b6 (by decide))]
      dsimp only
      have ex : (⟨false, 0, 0, x.h, x.d⟩ : EidV) = x := by
        obtain ⟨i, n, s, hh, d⟩ := x
        simp only at hi b1 b2
        rw [hi, b1, b2]
      rw [ex, h]
      have : (x.h != []) = true := by
        rw [bne_iff_ne]
        intro e
        rw [e] at b3
        simp at b3
      rw [this]
      rfl
theorem text_inj {x y : EidV} (hx : eRight x = true) (hy : eRight y = true) (h : textE x = textE y) : x = y := by
  have h1 := text_parse hx
  have h2 := text_parse hy
  rw [h, h2] at h1
  exact (congrArg Prod.fst h1).symm
theorem text_no32 {x : EidV} (h : eRight x = true) : (32 : UInt8) ∉ textE x := by
  unfold textE
  cases hz : isZ x with
  | true => rw [if_pos rfl]; decide
  | false =>
    rw [if_neg (by simp)]
    cases hi : x.i with
    | true =>
      rw [if_pos rfl]
      intro hm
      simp only [List.mem_append] at hm
      rcases hm with ((hm | hm) | hm) | hm
      · revert hm; decide
      · exact not_mem_dec (by decide) _ hm
      · revert hm; decide
      · exact not_mem_dec (by decide) _ hm
    | false =>
      obtain ⟨b1, b2, b3, b4, b5, b6, b7⟩ := eRight_txt h hz hi
      rw [if_neg (by simp)]
      unfold pathE
      intro hm
      simp only [List.mem_append] at hm
      rcases hm with hm | ((hm | hm) | hm) | hm
      · revert hm; decide
      · revert hm; decide
      · exact not_mem_ok b6 (by decide) hm
      · revert hm; decide
      · exact not_mem_ok b7 (by decide) hm
theorem parse_32 (s : List UInt8) : (parseE (s ++ [32])).2 = false := by
  cases h : (parseE (s ++ [32])).2 with
  | false => rfl
  | true =>
    obtain ⟨h1, h2⟩ := parse_text h
    exfalso
    apply text_no32 h1
    rw [h2]
    simp
end Go.Proofs.YtnihobjehelagaaDoor
end
