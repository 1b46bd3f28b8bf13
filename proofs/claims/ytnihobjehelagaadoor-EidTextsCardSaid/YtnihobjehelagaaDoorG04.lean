/- Laws of items: what is written is read back, what is read may be and is written no longer, what is cut is too short. -/
import Derived.Test.YtnihobjehelagaaDoorG03
section
open Go.RowKit Go.Pl
namespace Go.Proofs.YtnihobjehelagaaDoor
set_option linter.unusedVariables false
set_option linter.unusedSimpArgs false
theorem rdS_suffix {s r : List UInt8} {h : Hd} (e : rdS s = .ok (h, r)) : ∃ pre, s = pre ++ r ∧ 0 < pre.length := by
  cases s with
  | nil => simp [rdS] at e
  | cons c t =>
    simp only [rdS] at e
    split at e
    · injection e with e; injection e with e1 e2; subst e2; exact ⟨[c], rfl, by simp⟩
    split at e
    · injection e with e; injection e with e1 e2; subst e2; exact ⟨[c], rfl, by simp⟩
    split at e
    · cases e
    split at e
    · cases e
    · injection e with e; injection e with e1 e2; subst e2
      exact ⟨c :: t.take (2 ^ (c.toNat % 32 - 24)), by simp, by simp⟩
theorem readN_rdS (b : List UInt8) (p : Nat) (hp : p ≤ b.length) : readN b p = match rdS (b.drop p) with
    | .error e => ((0, 0, false), 0, e)
    | .ok (h, r) => (h, b.length - r.length, 0) := by
  unfold readN
  have hl : (b.drop p).length = b.length - p := List.length_drop ..
  cases hs : b.drop p with
  | nil => simp [rdS]
  | cons c r =>
    rw [hs] at hl
    simp at hl
    simp only [rdS]
    by_cases h1 : c.toNat % 32 < 24
    · simp [h1]; omega
    by_cases h2 : c.toNat % 32 = 31 ∧ mayB (c.toNat / 32 : Nat) = true
    · rw [if_neg h1, if_pos h2, if_neg h1, if_pos h2]
      simp; omega
    by_cases h3 : 27 < c.toNat % 32
    · rw [if_neg h1, if_neg h2, if_pos h3, if_neg h1, if_neg h2, if_pos h3]
    by_cases h4 : r.length < 2 ^ (c.toNat % 32 - 24)
    · rw [if_neg h1, if_neg h2, if_neg h3, if_pos h4, if_neg h1, if_neg h2, if_neg h3, if_pos h4]
    · rw [if_neg h1, if_neg h2, if_neg h3, if_neg h4, if_neg h1, if_neg h2, if_neg h3, if_neg h4]
      generalize 2 ^ (c.toNat % 32 - 24) = k at h4 ⊢
      simp; omega
theorem rdS_write (h : Hd) (hr : rightB h = true) (hn : h.2.1 < 18446744073709551616) (s : List UInt8) : rdS (writeL h ++ s) = .ok (h, s) := by
  have e := read_write h hr hn [] s
  simp only [List.nil_append, List.length_nil, Nat.zero_add] at e
  rw [readN_rdS _ 0 (Nat.zero_le _), List.drop_zero] at e
  cases hx : rdS (writeL h ++ s) with
  | error c => rw [hx] at e; simp at e; have := e.2.1; have := writeL_length h hr; have : 0 < sizeN h := by unfold sizeN; rw [if_pos hr]; split <;> omega
               omega
  | ok y =>
    obtain ⟨h', r⟩ := y
    rw [hx] at e
    simp only [Prod.mk.injEq, and_true] at e
    obtain ⟨e1, e2⟩ := e
    obtain ⟨pre, hp, _⟩ := rdS_suffix hx
    have hl := congrArg List.length hp
    simp at hl e2
    have : pre.length = (writeL h).length := by omega
    have := List.append_inj hp this.symm
    rw [← this.2, e1]
theorem rdS_ok {s r : List UInt8} {h : Hd} (e : rdS s = .ok (h, r)) : rightB h = true ∧ h.2.1 < 18446744073709551616 ∧ ∃ pre, s = pre ++ r ∧ (writeL h).length ≤ pre.length ∧ 0 < pre.length := by
  have e0 := readN_rdS s 0 (Nat.zero_le _)
  rw [List.drop_zero, e] at e0
  dsimp only at e0
  have w := write_read s 0 (by rw [e0])
  have bd := readN_bd s 0
  rw [e0] at w bd
  obtain ⟨pre, hp, h0⟩ := rdS_suffix e
  have hl := congrArg List.length hp
  simp at hl
  exact ⟨w.1, bd.2.1, pre, hp, by have := w.2.1; dsimp only at this; omega, h0⟩
theorem rdS_cut (h : Hd) (hr : rightB h = true) (hn : h.2.1 < 18446744073709551616) (c : Nat) (hc : c < (writeL h).length) : rdS ((writeL h).take c) = .error 8 := by
  cases c with
  | zero => rfl
  | succ c =>
    obtain ⟨m, n, o⟩ := h
    obtain ⟨hm0, hm7⟩ := right_major hr
    cases o with
    | true => simp [writeL] at hc
    | false =>
      have hw : writeL (m, n, false) = firstB m.toNat (infoN n) :: beN n (followN n) := rfl
      rw [hw] at hc ⊢
      simp only [List.length_cons, beN_length] at hc
      dsimp only at hm0 hm7 hn
      rw [List.take_succ_cons]
      have hi := infoN_le n
      have ht : (firstB m.toNat (infoN n)).toNat = 32 * m.toNat + infoN n := firstB_toNat _ _ (by omega) (by omega)
      rcases follow_cases n hn with ⟨_, hf, _⟩ | ⟨_, hf, h24, h27, _⟩
      · omega
      · simp only [rdS, ht]
        have e : (32 * m.toNat + infoN n) % 32 = infoN n := by omega
        rw [e, if_neg (by omega), if_neg (by omega), if_neg (by omega), if_pos]
        rw [List.length_take, beN_length, ← hf]
        omega
/-! ### what is written is read back -/
theorem ownI_k {k : Int} {n : Nat} {b : List UInt8} {l : List It} (h : ownI k n b l = true) : (k = 0 ∧ b = [] ∧ l = []) ∨ (k = 2 ∧ n = 0 ∧ l = []) ∨ (k = 3 ∧ n = 0 ∧ l = [] ∧ validU b = true) ∨ (k = 4 ∧ n = 0 ∧ b = []) := by
  unfold ownI at h
  by_cases h0 : k = 0
  · simp [h0] at h; exact .inl ⟨h0, h⟩
  by_cases h2 : k = 2
  · simp [h2] at h; exact .inr (.inl ⟨h2, h⟩)
  by_cases h3 : k = 3
  · simp [h3] at h; exact .inr (.inr (.inl ⟨h3, h⟩))
  by_cases h4 : k = 4
  · simp [h4] at h; exact .inr (.inr (.inr ⟨h4, h⟩))
  · simp [h0, h2, h3, h4] at h
theorem putI_pos {x : It} (h : 0 ≤ x.k ∧ x.k ≤ 7) : 0 < (putI x).length := by
  obtain ⟨k, n, b, l⟩ := x
  simp only [It.k] at h
  have hr : rightB (k, (It.mk k n b l).hn, false) = true := by simp [rightB]; exact h
  rw [putI, if_pos hr, List.length_append, writeL_length _ hr]
  unfold sizeN; rw [if_pos hr]; simp; omega
theorem walkI_own {k : Int} {n : Nat} {b : List UInt8} {l : List It} {d m m' : Nat} (h : walkI (.mk k n b l) d m = some m') : d ≤ 6 ∧ 1 ≤ m ∧ ownI k n b l = true ∧ walks l (d + 1) (m - 1) = some m' := by
  rw [walkI] at h
  split at h
  · cases h
  split at h
  · cases h
  split at h
  · cases h
  · rename_i h3; exact ⟨by omega, by omega, h3, h⟩
theorem own_k07 {k : Int} {n : Nat} {b : List UInt8} {l : List It} (h : ownI k n b l = true) : 0 ≤ k ∧ k ≤ 7 := by
  rcases ownI_k h with ⟨h, _⟩ | ⟨h, _⟩ | ⟨h, _⟩ | ⟨h, _⟩ <;> omega
theorem walks_cons {x : It} {l : List It} {d m m' : Nat} (h : walks (x :: l) d m = some m') : ∃ m1, walkI x d m = some m1 ∧ walks l d m1 = some m' := by
  rw [walks] at h
  split at h
  · cases h
  · rename_i m1 h1; exact ⟨m1, h1, h⟩
theorem puts_len : ∀ {l : List It} {d m m' : Nat}, walks l d m = some m' → l.length ≤ (puts l).length
  | [], _, _, _, _ => by simp
  | x :: l, d, m, m', h => by
    obtain ⟨m1, h1, h2⟩ := walks_cons h
    have := puts_len h2
    obtain ⟨k, n, b, lx⟩ := x
    have := putI_pos (x := .mk k n b lx) (own_k07 (walkI_own h1).2.2.1)
    rw [puts]; simp; omega
theorem okK_own {k : Int} {n : Nat} {b : List UInt8} {l : List It} (h : ownI k n b l = true) : okK k = true := by
  rcases ownI_k h with ⟨h, _⟩ | ⟨h, _⟩ | ⟨h, _⟩ | ⟨h, _⟩ <;> subst h <;> rfl
/-- an item's head -/
theorem head_put {k : Int} {n : Nat} {b : List UInt8} {l : List It} (h : ownI k n b l = true) (hw : wfI (.mk k n b l)) : rightB (k, (It.mk k n b l).hn, false) = true ∧ (It.mk k n b l).hn < 18446744073709551616 := by
  refine ⟨by simp [rightB]; exact own_k07 h, ?_⟩
  obtain ⟨h1, h2, h3, _⟩ := hw
  rcases ownI_k h with ⟨h, _⟩ | ⟨h, _⟩ | ⟨h, _⟩ | ⟨h, _⟩ <;> subst h <;> simp [It.hn] <;> omega
mutual
theorem item_put : ∀ (x : It) (d m m' : Nat) (r : List UInt8), wfI x → d ≤ 6 → walkI x (7 - d) m = some m' → itemS d m (putI x ++ r) = .ok (x, r, m')
  | .mk k n b l, d, m, m', r, hw, hd, h => by
    obtain ⟨h1, h2, h3, h4⟩ := walkI_own h
    obtain ⟨hr, hn⟩ := head_put h3 hw
    obtain ⟨d, rfl⟩ : ∃ e, d = e + 1 := ⟨d - 1, by omega⟩
    have e7 : 7 - (d + 1) + 1 = 7 - d := by omega
    rw [e7] at h4
    rw [putI, if_pos hr, List.append_assoc, itemS, rdS_write _ hr hn]
    dsimp only
    rw [okK_own h3, if_neg (by simp), if_neg (by omega)]
    obtain ⟨w1, w2, w3, w4⟩ := hw
    rcases ownI_k h3 with ⟨rfl, rfl, rfl⟩ | ⟨rfl, rfl, rfl⟩ | ⟨rfl, rfl, rfl, hv⟩ | ⟨rfl, rfl, rfl⟩
    · simp only [walks, Option.some.injEq] at h4
      simp [bodyS, puts, It.hn, h4]
    · simp only [walks, Option.some.injEq] at h4
      simp [bodyS, puts, It.hn, txtS, pieceS, h4]
    · simp only [walks, Option.some.injEq] at h4
      simp [bodyS, puts, It.hn, txtS, pieceS, h4, hv]
    · have hl := puts_len h4
      have hq := list_put l d (m - 1) m' [] r w4 (by omega) h4
      show bodyS (itemS d) (4, l.length, false) (m - 1) ([] ++ puts l ++ r) = _
      rw [bodyS, if_neg (by simp), if_pos rfl]
      simp only [lisS, List.nil_append]
      rw [if_pos (by rw [List.length_append]; omega), hq]
      rfl
theorem list_put : ∀ (l : List It) (d m m' : Nat) (acc : List It) (r : List UInt8), wfs l → d ≤ 6 → walks l (7 - d) m = some m' → lstN (itemS d) l.length acc m (puts l ++ r) = .ok (acc ++ l, r, m')
  | [], d, m, m', acc, r, _, _, h => by
    simp only [walks, Option.some.injEq] at h
    simp [lstN, puts, h]
  | x :: l, d, m, m', acc, r, hw, hd, h => by
    obtain ⟨m1, h1, h2⟩ := walks_cons h
    rw [puts, List.append_assoc, List.length_cons, lstN, item_put x d m m1 _ hw.1 hd h1]
    dsimp only
    rw [list_put l d m1 m' (acc ++ [x]) r hw.2 hd h2]
    simp
end
/-! ### what is cut is too short -/
mutual
theorem item_cut : ∀ (x : It) (d m m' c : Nat), wfI x → d ≤ 6 → walkI x (7 - d) m = some m' → c < (putI x).length → itemS d m ((putI x).take c) = .error 8
  | .mk k n b l, d, m, m', c, hw, hd, h, hc => by
    obtain ⟨h1, h2, h3, h4⟩ := walkI_own h
    obtain ⟨hr, hn⟩ := head_put h3 hw
    obtain ⟨d, rfl⟩ : ∃ e, d = e + 1 := ⟨d - 1, by omega⟩
    have e7 : 7 - (d + 1) + 1 = 7 - d := by omega
    rw [e7] at h4
    rw [putI, if_pos hr] at hc ⊢
    rw [itemS]
    rcases Nat.lt_or_ge c (writeL (k, (It.mk k n b l).hn, false)).length with hlt | hge
    · rw [List.take_append_of_le_length (by omega), rdS_cut _ hr hn _ hlt]
    · rw [List.take_append, List.take_of_length_le hge, rdS_write _ hr hn]
      dsimp only
      rw [okK_own h3, if_neg (by simp), if_neg (by omega)]
      obtain ⟨w1, w2, w3, w4⟩ := hw
      generalize hc' : c - (writeL (k, (It.mk k n b l).hn, false)).length = c'
      have hlt : c' < (b ++ puts l).length := by rw [List.length_append] at hc; omega
      rcases ownI_k h3 with ⟨rfl, rfl, rfl⟩ | ⟨rfl, rfl, rfl⟩ | ⟨rfl, rfl, rfl, hv⟩ | ⟨rfl, rfl, rfl⟩
      · simp [puts] at hlt
      · simp [puts] at hlt
        show bodyS (itemS d) (2, b.length, false) (m - 1) ((b ++ []).take c') = _
        have hx : ¬ b.length ≤ min c' b.length := by omega
        simp [bodyS, txtS, pieceS, List.length_take, hx]
      · simp [puts] at hlt
        show bodyS (itemS d) (3, b.length, false) (m - 1) ((b ++ []).take c') = _
        have hx : ¬ b.length ≤ min c' b.length := by omega
        simp [bodyS, txtS, pieceS, List.length_take, hx]
      · simp only [List.nil_append] at hlt
        have hq := list_cut l d (m - 1) m' c' [] w4 (by omega) h4 hlt
        show bodyS (itemS d) (4, l.length, false) (m - 1) (([] ++ puts l).take c') = _
        rw [bodyS, if_neg (by simp), if_pos rfl]
        simp only [lisS, List.nil_append]
        by_cases hx : l.length ≤ ((puts l).take c').length
        · rw [if_pos hx, hq]
        · rw [if_neg hx]
theorem list_cut : ∀ (l : List It) (d m m' c : Nat) (acc : List It), wfs l → d ≤ 6 → walks l (7 - d) m = some m' → c < (puts l).length → lstN (itemS d) l.length acc m ((puts l).take c) = .error 8
  | [], d, m, m', c, acc, _, _, h, hc => by simp [puts] at hc
  | x :: l, d, m, m', c, acc, hw, hd, h, hc => by
    obtain ⟨m1, h1, h2⟩ := walks_cons h
    rw [puts] at hc ⊢
    rw [List.length_cons, lstN]
    rcases Nat.lt_or_ge c (putI x).length with hlt | hge
    · rw [List.take_append_of_le_length (by omega), item_cut x d m m1 c hw.1 hd h1 hlt]
    · rw [List.take_append, List.take_of_length_le hge, item_put x d m m1 _ hw.1 hd h1]
      dsimp only
      exact list_cut l d m1 m' _ _ hw.2 hd h2 (by rw [List.length_append] at hc; omega)
end
/-! ### what is read may be -/
theorem pieceS_ok {h : Hd} {s c r : List UInt8} (e : pieceS h s = .ok (c, r)) : s = c ++ r ∧ c.length = h.2.1 ∧ (h.1 = 3 → validU c = true) := by
  unfold pieceS at e
  split at e
  · split at e
    · cases e
    · rename_i h1 h2
      injection e with e; injection e with e1 e2
      subst e1 e2
      refine ⟨by simp, by simp; omega, fun h3 => ?_⟩
      simpa [h3] using h2
  · cases e
theorem fol_add (a b : Nat) (h : a + b < 4294967296) : followN (a + b) ≤ followN a + followN b + 2 := by
  unfold followN
  repeat' split
  all_goals omega
/-- the head of pieces put together is not longer than the pieces' heads, and one byte more -/
theorem strS_ok {m : Int} : ∀ (f : Nat) (acc s c r : List UInt8), strS m f acc s = .ok (c, r) → (m = 3 → validU acc = true) → ∃ (pre d : List UInt8) (q : Nat), s = pre ++ r ∧ c = acc ++ d ∧ (m = 3 → validU c = true) ∧ pre.length = 1 + d.length + q ∧
    (s.length < 4294967296 → followN d.length ≤ 1 + q ∧ (d = [] ∨ followN d.length + 1 ≤ q ∨ 2 ≤ q))
  | 0, _, _, _, _, h, _ => by simp [strS] at h
  | f + 1, acc, s, c, r, h, ha => by
    rw [strS] at h
    cases he : endB s with
    | true =>
      rw [he] at h
      injection h with h; injection h with h1 h2; subst h1 h2
      obtain ⟨x, t, rfl⟩ : ∃ x t, s = x :: t := by cases s with | nil => simp [endB] at he | cons x t => exact ⟨x, t, rfl⟩
      exact ⟨[x], [], 0, rfl, by simp, ha, by simp, fun _ => ⟨by simp [followN], .inl rfl⟩⟩
    | false =>
      rw [he] at h
      dsimp only at h
      cases hr : rdS s with
      | error e => rw [hr] at h; cases h
      | ok y =>
        obtain ⟨p, t⟩ := y
        rw [hr] at h
        dsimp only at h
        obtain ⟨k1, k2, pre, k3, k4, k5⟩ := rdS_ok hr
        by_cases hp : p.1 = m ∧ p.2.2 = false
        · rw [if_pos hp] at h
          cases hc : pieceS p t with
          | error e => rw [hc] at h; cases h
          | ok y =>
            obtain ⟨c1, r2⟩ := y
            rw [hc] at h
            dsimp only at h
            obtain ⟨q1, q2, q3⟩ := pieceS_ok hc
            have hv : m = 3 → validU (acc ++ c1) = true := fun h3 => by
              rw [validU_append _ _ _ (Nat.le_refl _) (ha h3)]
              exact q3 (hp.1.trans h3)
            obtain ⟨pre2, d2, q, e1, e2, e3, e4, e5⟩ := strS_ok f _ _ _ _ h hv
            have hw : (writeL p).length = 1 + followN c1.length := by
              rw [writeL_length p k1]; unfold sizeN; rw [if_pos k1, hp.2, ← q2]; simp
            refine ⟨pre ++ (c1 ++ pre2), c1 ++ d2, pre.length + q, by rw [k3, q1, e1]; simp, by rw [e2]; simp, e3, by simp; omega, fun hl => ?_⟩
            have hlen := congrArg List.length k3
            have hlen2 := congrArg List.length q1
            have hlen3 := congrArg List.length e1
            simp only [List.length_append] at hlen hlen2 hlen3 ⊢
            obtain ⟨f1, f2⟩ := e5 (by omega)
            have hadd := fol_add c1.length d2.length (by omega)
            have h4 : followN (c1.length + d2.length) ≤ 4 := by
              unfold followN
              repeat' split
              all_goals omega
            have hz : d2 = [] → followN (c1.length + d2.length) = followN c1.length := fun e => by rw [e]; rfl
            rcases f2 with e | f2 | f2
            · rw [hz e]; omega
            · omega
            · omega
        · rw [if_neg hp] at h; cases h
theorem tail_length (s : List UInt8) (h : endB s = true) : ∃ x, s = x :: s.tail := by
  cases s with
  | nil => simp [endB] at h
  | cons x t => exact ⟨x, rfl⟩
/-- what reads items as it should -/
def Reads (it : Nat → List UInt8 → Res (It × List UInt8 × Nat)) (D : Nat) : Prop := ∀ (m : Nat) (s : List UInt8) (x : It) (r : List UInt8) (m' : Nat), it m s = .ok (x, r, m') → s.length ≤ 1099511627776 → walkI x D m = some m' ∧ wfI x ∧ ∃ pre, s = pre ++ r ∧ 0 < pre.length ∧ (m ≤ 256 ∧ s.length < 4294967296 → (putI x).length ≤ pre.length)
mutual
theorem walkI_lt : ∀ {x : It} {d m m' : Nat}, walkI x d m = some m' → m' + 1 ≤ m
  | .mk k n b l, d, m, m', h => by
    obtain ⟨_, h2, _, h4⟩ := walkI_own h
    have := walks_lt h4
    omega
theorem walks_lt : ∀ {l : List It} {d m m' : Nat}, walks l d m = some m' → m' + l.length ≤ m
  | [], d, m, m', h => by simp only [walks, Option.some.injEq] at h; simp [h]
  | x :: l, d, m, m', h => by
    obtain ⟨m1, h1, h2⟩ := walks_cons h
    have := walkI_lt h1
    have := walks_lt h2
    simp; omega
end
theorem walks_snoc : ∀ {l : List It} {x : It} {D m m1 m2 : Nat}, walks l D m = some m1 → walkI x D m1 = some m2 → walks (l ++ [x]) D m = some m2
  | [], x, D, m, m1, m2, h1, h2 => by
    simp only [walks, Option.some.injEq] at h1
    subst h1
    simp [walks, h2]
  | y :: l, x, D, m, m1, m2, h1, h2 => by
    obtain ⟨m3, h3, h4⟩ := walks_cons h1
    rw [List.cons_append, walks, h3]
    exact walks_snoc h4 h2
theorem wfs_snoc : ∀ {l : List It} {x : It}, wfs l → wfI x → wfs (l ++ [x])
  | [], x, _, h => ⟨h, trivial⟩
  | y :: l, x, ⟨h1, h2⟩, h => ⟨h1, wfs_snoc h2 h⟩
theorem puts_app : ∀ (l l' : List It), puts (l ++ l') = puts l ++ puts l'
  | [], l' => rfl
  | x :: l, l' => by rw [List.cons_append, puts, puts, puts_app l l', List.append_assoc]
theorem lstN_ok {it : Nat → List UInt8 → Res (It × List UInt8 × Nat)} {D : Nat} (hit : Reads it D) : ∀ (f : Nat) (acc : List It) (m0 m : Nat) (s : List UInt8) (l : List It) (r : List UInt8) (m' : Nat), lstN it f acc m s = .ok (l, r, m') → s.length ≤ 1099511627776 → walks acc D m0 = some m → wfs acc →
    walks l D m0 = some m' ∧ wfs l ∧ l.length = acc.length + f ∧ ∃ pre, s = pre ++ r ∧ (m ≤ 256 ∧ s.length < 4294967296 → (puts l).length ≤ (puts acc).length + pre.length)
  | 0, acc, m0, m, s, l, r, m', h, hs, ha, hw => by
    rw [lstN] at h
    injection h with h; injection h with h1 h2; injection h2 with h2 h3
    subst h1 h2 h3
    exact ⟨ha, hw, rfl, [], rfl, fun _ => by simp⟩
  | f + 1, acc, m0, m, s, l, r, m', h, hs, ha, hw => by
    rw [lstN] at h
    cases hx : it m s with
    | error e => rw [hx] at h; cases h
    | ok y =>
      obtain ⟨x, r1, m1⟩ := y
      rw [hx] at h
      dsimp only at h
      obtain ⟨k1, k2, pre, k3, k4, k5⟩ := hit _ _ _ _ _ hx hs
      have hl := congrArg List.length k3
      rw [List.length_append] at hl
      obtain ⟨q1, q2, q3, pre2, q4, q5⟩ := lstN_ok hit f _ m0 _ _ _ _ _ h (by omega) (walks_snoc ha k1) (wfs_snoc hw k2)
      refine ⟨q1, q2, by rw [q3]; simp; omega, pre ++ pre2, by rw [k3, q4]; simp, fun h4 => ?_⟩
      have := walkI_lt k1
      have := q5 (by omega)
      have := k5 h4
      rw [puts_app] at *
      simp [puts] at *
      omega
theorem lstO_ok {it : Nat → List UInt8 → Res (It × List UInt8 × Nat)} {D : Nat} (hit : Reads it D) : ∀ (f : Nat) (acc : List It) (m0 m : Nat) (s : List UInt8) (l : List It) (r : List UInt8) (m' : Nat), lstO it f acc m s = .ok (l, r, m') → s.length ≤ 1099511627776 → walks acc D m0 = some m → wfs acc →
    walks l D m0 = some m' ∧ wfs l ∧ acc.length ≤ l.length ∧ ∃ pre, s = pre ++ r ∧ l.length + 1 ≤ acc.length + pre.length ∧ (m ≤ 256 ∧ s.length < 4294967296 → (puts l).length + 1 ≤ (puts acc).length + pre.length)
  | 0, acc, m0, m, s, l, r, m', h, hs, ha, hw => by rw [lstO] at h; cases h
  | f + 1, acc, m0, m, s, l, r, m', h, hs, ha, hw => by
    rw [lstO] at h
    cases he : endB s with
    | true =>
      rw [he] at h
      injection h with h; injection h with h1 h2; injection h2 with h2 h3
      subst h1 h2 h3
      obtain ⟨x, hx⟩ := tail_length s he
      exact ⟨ha, hw, Nat.le_refl _, [x], hx, by simp, fun _ => by simp⟩
    | false =>
      rw [he] at h
      dsimp only at h
      cases hx : it m s with
      | error e => rw [hx] at h; cases h
      | ok y =>
        obtain ⟨x, r1, m1⟩ := y
        rw [hx] at h
        dsimp only at h
        obtain ⟨k1, k2, pre, k3, k4, k5⟩ := hit _ _ _ _ _ hx hs
        have hl := congrArg List.length k3
        rw [List.length_append] at hl
        obtain ⟨q1, q2, q3, pre2, q4, q5, q6⟩ := lstO_ok hit f _ m0 _ _ _ _ _ h (by omega) (walks_snoc ha k1) (wfs_snoc hw k2)
        refine ⟨q1, q2, by simp at q3; omega, pre ++ pre2, by rw [k3, q4]; simp, by simp at q5 ⊢; omega, fun h4 => ?_⟩
        have := walkI_lt k1
        have := q6 (by omega)
        have := k5 h4
        rw [puts_app] at *
        simp [puts] at *
        omega
theorem putI_len {k : Int} {n : Nat} {b : List UInt8} {l : List It} (hr : rightB (k, (It.mk k n b l).hn, false) = true) : (putI (.mk k n b l)).length = 1 + followN (It.mk k n b l).hn + (b.length + (puts l).length) := by
  rw [putI, if_pos hr]
  simp only [List.length_append]
  rw [writeL_length _ hr]
  unfold sizeN; rw [if_pos hr]; simp
theorem fol_mono {a b : Nat} (h : a ≤ b) : followN a ≤ followN b := by
  unfold followN
  repeat' split
  all_goals omega
theorem writeL_le {h : Hd} (hr : rightB h = true) (ho : h.2.2 = false) : (writeL h).length = 1 + followN h.2.1 := by
  rw [writeL_length h hr]; unfold sizeN; rw [if_pos hr, ho]; rfl
theorem okK_cases {k : Int} (h : okK k = true) : k = 0 ∨ k = 2 ∨ k = 3 ∨ k = 4 := by
  simpa [okK] using h
theorem item_ok : ∀ (d : Nat), d ≤ 6 → Reads (itemS d) (7 - d)
  | 0, _ => fun m s x r m' h hs => by
    rw [itemS] at h
    cases hr : rdS s with
    | error e => rw [hr] at h; cases h
    | ok y => obtain ⟨hd, t⟩ := y; rw [hr] at h; dsimp only at h; split at h <;> cases h
  | d + 1, hd => fun m s x r m' h hs => by
    rw [itemS] at h
    cases hr : rdS s with
    | error e => rw [hr] at h; cases h
    | ok y =>
      obtain ⟨⟨k, n, o⟩, t⟩ := y
      rw [hr] at h
      dsimp only at h
      obtain ⟨k1, k2, pre, k3, k4, k5⟩ := rdS_ok hr
      dsimp only at k2
      have hlen := congrArg List.length k3
      rw [List.length_append] at hlen
      cases hk : okK k with
      | false => rw [hk, if_pos rfl] at h; cases h
      | true =>
        rw [hk, if_neg (by simp)] at h
        by_cases hm : m = 0
        · rw [if_pos hm] at h; cases h
        · rw [if_neg hm] at h
          have hwk : ∀ (k : Int) (n : Nat) (b : List UInt8) (l : List It), ownI k n b l = true → walks l (7 - d) (m - 1) = some m' → walkI (.mk k n b l) (7 - (d + 1)) m = some m' := fun k n b l ho hl => by
            rw [walkI, if_neg (by omega), if_neg (by omega), ho, show 7 - (d + 1) + 1 = 7 - d by omega]
            exact hl
          have hr0 : ∀ (k : Int) (n : Nat) (b : List UInt8) (l : List It), ownI k n b l = true → rightB (k, (It.mk k n b l).hn, false) = true := fun k n b l ho => by
            have := own_k07 ho
            simp [rightB]; exact this
          unfold bodyS at h
          dsimp only at h
          by_cases h0 : k = 0
          · subst h0
            rw [if_pos rfl] at h
            injection h with h; injection h with h1 h2; injection h2 with h2 h3
            subst h1 h2 h3
            have ho : ownI 0 n [] [] = true := rfl
            refine ⟨hwk _ _ _ _ ho (by simp [walks]), ⟨k2, by simp, by simp, trivial⟩, pre, k3, k5, fun _ => ?_⟩
            rw [putI_len (hr0 _ _ _ _ ho)]
            have hof : o = false := by cases o with
              | false => rfl
              | true => have := (mayB_of_open k1).2; simp [mayB] at this
            subst hof
            have := writeL_le k1 rfl
            simp [It.hn, puts] at this ⊢
            omega
          rw [if_neg h0] at h
          by_cases h4 : k = 4
          · subst h4
            rw [if_pos rfl] at h
            cases hl : lisS (itemS d) (4, n, o) (m - 1) t with
            | error e => rw [hl] at h; cases h
            | ok y =>
              obtain ⟨l, r2, m2⟩ := y
              rw [hl] at h
              dsimp only at h
              injection h with h; injection h with h1 h2; injection h2 with h2 h3
              subst h1 h2 h3
              have ho : ownI 4 0 [] l = true := rfl
              have hR := item_ok d (by omega)
              unfold lisS at hl
              dsimp only at hl
              cases o with
              | true =>
                dsimp only at hl
                obtain ⟨q1, q2, q3, pre2, q4, q5, q6⟩ := lstO_ok hR _ _ (m - 1) _ _ _ _ _ hl (by omega) rfl trivial
                have hl2 := congrArg List.length q4
                rw [List.length_append] at hl2
                simp at q5
                refine ⟨hwk _ _ _ _ ho q1, ⟨by omega, by simp, by omega, q2⟩, pre ++ pre2, by rw [k3, q4]; simp, by simp; omega, fun h4 => ?_⟩
                have := q6 (by omega)
                rw [putI_len (hr0 _ _ _ _ ho)]
                have hc := walks_lt q1
                have hf : followN l.length ≤ 1 := by
                  unfold followN
                  repeat' split
                  all_goals omega
                simp [It.hn, puts] at this ⊢
                omega
              | false =>
                dsimp only at hl
                split at hl
                · obtain ⟨q1, q2, q3, pre2, q4, q5⟩ := lstN_ok hR _ _ (m - 1) _ _ _ _ _ hl (by omega) rfl trivial
                  have hl2 := congrArg List.length q4
                  rw [List.length_append] at hl2
                  simp at q3
                  refine ⟨hwk _ _ _ _ ho q1, ⟨by omega, by simp, by omega, q2⟩, pre ++ pre2, by rw [k3, q4]; simp, by simp; omega, fun h4 => ?_⟩
                  have := q5 (by omega)
                  rw [putI_len (hr0 _ _ _ _ ho)]
                  have := writeL_le k1 rfl
                  simp [It.hn, puts, q3] at this ⊢
                  simp [puts] at *
                  omega
                · cases hl
          · rw [if_neg h4] at h
            cases hl : txtS (k, n, o) t with
            | error e => rw [hl] at h; cases h
            | ok y =>
              obtain ⟨c, r2⟩ := y
              rw [hl] at h
              dsimp only at h
              injection h with h; injection h with h1 h2; injection h2 with h2 h3
              subst h1 h2 h3
              have hk' : k = 2 ∨ k = 3 := by rcases okK_cases hk with h | h | h | h <;> simp_all
              have hhn : (It.mk k 0 c []).hn = c.length := by rcases hk' with rfl | rfl <;> rfl
              have ho : (k = 3 → validU c = true) → ownI k 0 c [] = true := fun hv => by
                rcases hk' with rfl | rfl
                · rfl
                · simp [ownI, hv]
              unfold txtS at hl
              dsimp only at hl
              cases o with
              | true =>
                dsimp only at hl
                obtain ⟨pre2, d2, q, e1, e2, e3, e4, e5⟩ := strS_ok _ _ _ _ _ hl (fun _ => rfl)
                simp only [List.nil_append] at e2
                subst e2
                have hl2 := congrArg List.length e1
                rw [List.length_append] at hl2
                refine ⟨hwk _ _ _ _ (ho e3) rfl, ⟨by omega, by omega, by simp, trivial⟩, pre ++ pre2, by rw [k3, e1]; simp, by simp; omega, fun h4 => ?_⟩
                have := e5 (by omega)
                rw [putI_len (hr0 _ _ _ _ (ho e3)), hhn]
                simp [puts]
                omega
              | false =>
                dsimp only at hl
                obtain ⟨q1, q2, q3⟩ := pieceS_ok hl
                dsimp only at q2 q3
                have hl2 := congrArg List.length q1
                rw [List.length_append] at hl2
                refine ⟨hwk _ _ _ _ (ho q3) rfl, ⟨by omega, by omega, by simp, trivial⟩, pre ++ c, by rw [k3, q1]; simp, by simp; omega, fun h4 => ?_⟩
                rw [putI_len (hr0 _ _ _ _ (ho q3)), hhn]
                have := writeL_le k1 rfl
                dsimp only at this
                have e : followN c.length = followN n := by rw [q2]
                simp [puts]
                omega
end Go.Proofs.YtnihobjehelagaaDoor
end
/- Items over abstract states: what is put together. -/
section
open Go.RowKit Go.Pl Go.Av
namespace Go.Proofs.YtnihobjehelagaaDoor
set_option linter.unusedVariables false
set_option linter.unusedSimpArgs false
set_option maxHeartbeats 4000000
theorem It.ind {P : It → Prop} (h : ∀ k n b l, (∀ y ∈ l, P y) → P (.mk k n b l)) : ∀ x, P x := by
  intro x
  refine It.rec (motive_1 := P) (motive_2 := fun l => ∀ y ∈ l, P y) (fun k n b l ih => h k n b l ih) (by simp) (fun x l hx hl y hy => ?_) x
  rcases List.mem_cons.1 hy with rfl | hy
  · exact hx
  · exact hl y hy
mutual
def itE : It → E
  | .mk k n b l => .agg [.int .i64 k, .int .u64 (n : Int), .sl (b.map E.byte), .sl (itEs l)]
def itEs : List It → List E
  | [] => []
  | x :: l => itE x :: itEs l
end
theorem itEs_map : ∀ l : List It, itEs l = l.map itE
  | [] => rfl
  | x :: l => by rw [itEs, List.map_cons, itEs_map l]
theorem itEs_app (a b : List It) : itEs (a ++ b) = itEs a ++ itEs b := by rw [itEs_map, itEs_map, itEs_map, List.map_append]
theorem itEs_len (l : List It) : (itEs l).length = l.length := by rw [itEs_map, List.length_map]
/-- what an item's cells hold -/
abbrev itC (k : Int) (n : Nat) (b : List UInt8) (l : List It) : List D := [.int .i64 k, .int .u64 (n : Int), byE b, .sl .ext (itEs l)]
def itD : It → D
  | .mk k n b l => .agg (itC k n b l)
theorem itE_cells (x : It) : (itE x).cells.length = 4 := by obtain ⟨k, n, b, l⟩ := x; rfl
theorem itE_ofE (x : It) : D.ofE (itE x) = itD x := by obtain ⟨k, n, b, l⟩ := x; rfl
theorem uniI (l : List It) : Uni 4 (itEs l) := by rw [itEs_map]; exact Uni.map itE_cells l
theorem wfs_mem : ∀ {l : List It}, wfs l → ∀ y ∈ l, wfI y
  | x :: l, ⟨h1, h2⟩, y, hy => by
    rcases List.mem_cons.1 hy with rfl | hy
    · exact h1
    · exact wfs_mem h2 y hy
theorem av_cloneB [Known] (b : List UInt8) (hb : b.length ≤ 1099511627776) : AP Tryd.prog 56 [byE b] (byE b) [] := by
  have hU := uniB1 b
  cases b with
  | nil =>
    refine AP.ofA ?_
    refine AC_of Tryd.func56 rfl Tryd.ntmps56 rfl rfl ?_
    repeat' (first | (apply AL_snil ttok; (iterate 5 exact rfl); intro b hbn) | (apply AL_move; exact rfl; exact rfl) | (apply AL_assign; exact rfl; exact rfl) | refine AL_nil ?_ | refine AW_region ?_ | refine AW_seq' ?_ | (apply AW_cond'; exact rfl; all_goals intro hb) | refine then_norm ?_ | refine AW_ret ?_ | refine then_ret ?_ | (apply AL_bs ttok; (iterate 12 exact rfl)) | refine AW_skip ?_ | (apply AL_append_none ttok; (iterate 6 exact rfl)))
    all_goals (apply endQ []; (repeat (first | exact ResL.nil | (apply ResL.cons; first | exact .tmp _ _ rfl | (apply res_n ttok; (iterate 6 exact rfl)) | (apply res_1 ttok; (iterate 5 exact rfl))))); (iterate 4 exact rfl))
    all_goals rfl
  | cons c b =>
    refine AP.ofA ?_
    refine AC_of Tryd.func56 rfl Tryd.ntmps56 rfl rfl ?_
    repeat' (first | (apply AL_snil ttok; (iterate 5 exact rfl); intro b hbn; (have hbn2 := hbn (List.cons_ne_nil _ _)); subst hbn2; clear hbn) | (apply AL_move; exact rfl; exact rfl) | (apply AL_assign; exact rfl; exact rfl) | refine AL_nil ?_ | refine AW_region ?_ | refine AW_seq' ?_ | (apply AW_condB; exact rfl; (first | with_reducible assumption | (guard_target =ₛ true = true; rfl) | (guard_target =ₛ false = false; rfl) | (guard_target =ₛ (!true) = false; rfl) | (guard_target =ₛ (!false) = true; rfl))) | refine then_norm ?_ | refine AW_ret ?_ | (apply AL_bs ttok; (iterate 12 exact rfl)) | refine AW_skip ?_ | (apply AL_append ttok; (iterate 6 exact rfl); (first | with_reducible assumption | exact rfl | rotate_left); exact rfl; exact rfl; (first | exact uniB_ok rfl | with_reducible assumption | rotate_left); (first | exact uniB_ok rfl | with_reducible assumption | rotate_left); (first | exact List.cons_ne_nil _ _ | with_reducible assumption | rotate_left); (first | with_reducible assumption | rotate_left); (first | with_reducible assumption | rotate_left); exact rfl; exact rfl))
    all_goals first | (apply endQ []; (repeat (first | exact ResL.nil | (apply ResL.cons; first | exact .tmp _ _ rfl | (apply res_n ttok; (iterate 6 exact rfl)) | (apply res_1 ttok; (iterate 5 exact rfl))))); (iterate 4 exact rfl)) | skip
    all_goals first | rfl | (simp at hb ⊢; (try unfold maxLen); omega)
/-- an item whose cells hold so, that shares nothing -/
theorem av_copied [Known] : ∀ (x : It), wfI x → AP Tryd.prog 57 [itD x] (itD x) [] := by
  refine It.ind fun k n b l ih hw => ?_
  obtain ⟨hn, hb, hl, hws⟩ := hw
  have ih' : ∀ y ∈ l, AP Tryd.prog 57 [itD y] (itD y) [] := fun y hy => ih y hy (wfs_mem hws y hy)
  clear ih
  have hlen := itEs_len l
  refine AP.ofA ?_
  refine AC_of Tryd.func57 rfl Tryd.ntmps57 rfl rfl ?_
  repeat' (first | (apply AL_callPw (av_cloneB b hb); kernel_rfl; (iterate 4 exact rfl)) | (apply AL_move; exact rfl; exact rfl) | (apply AL_assign; exact rfl; exact rfl) | (apply AL_load1 ttok; (iterate 6 exact rfl)) | (apply AL_fieldAddr ttok; (iterate 7 exact rfl)) | (apply AL_boxZ; (iterate 5 exact rfl)) | (apply AL_store ttok; (iterate 8 exact rfl)) | refine AL_nil ?_ | refine AW_region ?_ | refine AW_seq' ?_ | refine then_norm ?_ | refine AW_block ?_ | (apply AL_len ttok; (iterate 4 exact rfl)) | (apply AL_allocZ ttok; (iterate 4 exact rfl)))
  refine AW_loopJ (fun k' tm bx fr => ∃ (i c : Nat) (L : List E), k' + i = l.length ∧ c = L.length ∧ L = itEs (l.take i) ∧ tm = [(1, .ptr 0 0), (2, .ptr 1 0), (13, .sl .ext (itEs l)), (14, .int .i64 ((itEs l).length : Int)), (15, .int .i64 (i : Int))] ∧
    ((i = 0 ∧ bx = [[.int .i64 k, .int .u64 (n : Int), byE b, .sl .nil []], [.int .i64 0, .int .u64 0, .sl .nil [], .sl .nil []]] ∧ fr = []) ∨
    (bx = [[.int .i64 k, .int .u64 (n : Int), byE b, .sl (.own 0) L], [.int .i64 0, .int .u64 0, .sl .nil [], .sl .nil []]] ∧ fr = [⟨c, 4, 26⟩]))) (l.length + 1) (Lands.mk' (m := l.length) (Nat.lt_succ_self _) ⟨0, 0, [], rfl, rfl, rfl, rfl, .inl ⟨rfl, rfl, rfl⟩⟩ ?_ rfl rfl rfl rfl rfl rfl) ?_
  · exact .cons rfl (.cons rfl (.cons rfl (.cons rfl (.cons rfl .nil))))
  rintro k' tm bx fr ⟨i, c, L, hi, hc, hL, rfl, ⟨rfl, rfl, rfl⟩ | ⟨rfl, rfl⟩⟩
  · cases l with
    | nil =>
      repeat' (first | (apply AL_bin; (iterate 5 exact rfl)) | (apply AL_loadn ttok; (iterate 7 exact rfl)) | (apply AL_store ttok; (iterate 8 exact rfl)) | refine AL_nil ?_ | refine AW_region ?_ | refine AW_seq' ?_ | (apply AW_condB; exact rfl; (first | with_reducible assumption | decide +kernel)) | refine then_norm ?_ | refine AW_exit ?_ | refine AW_ret ?_)
      all_goals (apply endQ []; (repeat (first | exact ResL.nil | (apply ResL.cons; first | exact .tmp _ _ rfl | (apply res_n ttok; (iterate 6 exact rfl)) | (apply res_1 ttok; (iterate 5 exact rfl))))); (iterate 4 exact rfl))
      all_goals rfl
    | cons y l =>
      have hc := ih' y (List.mem_cons_self ..)
      have hU := uniI (y :: l)
      have hd : decide (((0 : Nat) : Int) < ((itEs (y :: l)).length : Int)) = true := decide_eq_true (by rw [itEs]; simp)
      obtain ⟨k1, n1, b1, l1⟩ := y
      repeat' (first | (apply AL_callPw (hc); kernel_rfl; (iterate 4 exact rfl)) | (apply AL_append_nilZ ttok; (iterate 6 exact rfl); exact uniB_ok rfl; exact List.cons_ne_nil _ _; exact rfl; decide +kernel; decide +kernel; (iterate 3 exact rfl)) | (apply AL_move; exact rfl; exact rfl) | (apply AL_bin; (iterate 5 exact rfl)) | (apply AL_load1 ttok; (iterate 6 exact rfl)) | (apply AL_loadn ttok; (iterate 7 exact rfl)) | (apply AL_fieldAddr ttok; (iterate 7 exact rfl)) | (apply AL_store ttok; (iterate 8 exact rfl)) | refine AL_nil ?_ | refine AW_region ?_ | refine AW_seq' ?_ | (apply AW_condA; exact rfl; (first | with_reducible assumption | decide +kernel)) | refine then_norm ?_ | refine AW_block ?_ | (apply AL_eloadn ttok; (iterate 6 exact rfl)) | (apply AL_allocZ ttok; (iterate 4 exact rfl)) | (apply AL_bsZ ttok; (iterate 12 exact rfl)) | (apply AW_drawE 5 hmix; (decide +kernel); (kernel_rfl); (kernel_rfl); (kernel_rfl); exact rfl; exact rfl) | (apply AE_consZ; (iterate 4 exact rfl)) | exact AE.nil _ _ _ _ | (apply AEk_puT; exact rfl) | (apply AOt_mk; exact rfl; exact rfl; (decide +kernel); exact rfl) | (apply AO_puT; exact rfl) | exact AO.nil _ _ _ | (apply AOs_skip; (decide +kernel)) | exact AOs.nil | exact qY_ok rfl rfl | exact qY_wk rfl rfl rfl rfl rfl | refine AW_skip ?_ | (apply AL_idx ttok; (iterate 6 exact rfl); (first | with_reducible assumption | decide +kernel | exact Int.natCast_nonneg _ | (guard_target = (0:Int) ≤ (OfNat.ofNat _ : Int); decide) | rotate_left); (first | with_reducible assumption | decide +kernel | exact rfl); (first | exact uniB_ok rfl | with_reducible assumption | decide +kernel | rotate_left)))
      refine Lands.mk' (m := k' - 1) (by simp at hi; omega) ⟨1, 1, itEs [It.mk k1 n1 b1 l1], by simp at hi ⊢; omega, rfl, rfl, rfl, .inr ⟨rfl, rfl⟩⟩ ?_ rfl rfl rfl rfl rfl rfl
      exact .cons rfl (.cons rfl (.cons rfl (.cons rfl (.cons rfl .nil))))
  · have hU := uniI l
    have hU2 : Uni 4 L := hL ▸ uniI (l.take i)
    have el := itEs_len (l.take i)
    rw [← hL] at el
    subst hc
    rcases Nat.lt_or_ge i l.length with hlt | hge
    · have hd : decide ((i : Int) < ((itEs l).length : Int)) = true := decide_eq_true (by omega)
      obtain ⟨⟨k1, n1, b1, l1⟩, hy⟩ : ∃ y, l[i]? = some y := ⟨_, List.getElem?_eq_getElem hlt⟩
      have hv : (itEs l)[((i : Nat) : Int).toNat]? = some (.agg [.int .i64 k1, .int .u64 (n1 : Int), .sl (b1.map E.byte), .sl (itEs l1)]) := by
        rw [Int.toNat_natCast, itEs_map, List.getElem?_map, hy]; rfl
      have hc := ih' _ (List.mem_of_getElem? hy)
      have ei : IntKind.i64.wrap ((i : Int) + 1) = ((i + 1 : Nat) : Int) := by rw [IntWalk.i64_in _ (by omega)]; omega
      have hs : L ++ [E.agg [.int .i64 k1, .int .u64 (n1 : Int), .sl (b1.map E.byte), .sl (itEs l1)]] = itEs (l.take (i + 1)) := by
        rw [hL, List.take_add_one, hy]; exact (itEs_app _ [It.mk k1 n1 b1 l1]).symm
      rw [List.length_take] at el
      repeat' (first | (apply AL_callPw (hc); kernel_rfl; (iterate 4 exact rfl)) | rw [ei] | (apply AL_move; exact rfl; exact rfl) | (apply AL_bin; (iterate 5 exact rfl)) | (apply AL_load1 ttok; (iterate 6 exact rfl)) | (apply AL_loadn ttok; (iterate 7 exact rfl)) | (apply AL_fieldAddr ttok; (iterate 7 exact rfl)) | (apply AL_store ttok; (iterate 8 exact rfl)) | refine AL_nil ?_ | refine AW_region ?_ | refine AW_seq' ?_ | (apply AW_condA; exact rfl; (first | with_reducible assumption | decide +kernel)) | refine then_norm ?_ | refine AW_block ?_ | (apply AL_eloadn ttok; (iterate 6 exact rfl)) | (apply AL_allocZ ttok; (iterate 4 exact rfl)) | (apply AL_bsZ ttok; (iterate 12 exact rfl)) | (apply AW_drawE 5 hmix; (decide +kernel); (kernel_rfl); (kernel_rfl); (kernel_rfl); exact rfl; exact rfl) | (apply AE_consZ; (iterate 4 exact rfl)) | exact AE.nil _ _ _ _ | (apply AEk_puT; exact rfl) | (apply AOt_mk; exact rfl; exact rfl; (decide +kernel); exact rfl) | (apply AO_puT; exact rfl) | exact AO.nil _ _ _ | (apply AOs_skip; (decide +kernel)) | exact AOs.nil | exact qY_ok rfl rfl | exact qY_wk rfl rfl rfl rfl rfl | refine AW_skip ?_ | (apply AL_append ttok; (iterate 6 exact rfl); (first | with_reducible assumption | decide +kernel | exact rfl | rotate_left); exact rfl; exact rfl; (first | exact uniB_ok rfl | with_reducible assumption | decide +kernel | rotate_left); (first | exact uniB_ok rfl | with_reducible assumption | decide +kernel | rotate_left); (first | exact List.cons_ne_nil _ _ | with_reducible assumption | decide +kernel | rotate_left); (first | with_reducible assumption | decide +kernel | rotate_left); (first | with_reducible assumption | decide +kernel | rotate_left); exact rfl; exact rfl) | (apply AL_idx ttok; (iterate 6 exact rfl); (first | with_reducible assumption | decide +kernel | exact Int.natCast_nonneg _ | (guard_target = (0:Int) ≤ (OfNat.ofNat _ : Int); decide) | rotate_left); (first | with_reducible assumption | decide +kernel | exact rfl); (first | exact uniB_ok rfl | with_reducible assumption | decide +kernel | rotate_left)))
      · refine Lands.mk' (m := k' - 1) (by omega) ⟨i + 1, L.length + 1, _, by omega, by rw [List.length_append]; rfl, hs, rfl, .inr ⟨rfl, rfl⟩⟩ ?_ rfl rfl rfl rfl rfl rfl
        exact .cons rfl (.cons rfl (.cons rfl (.cons rfl (.cons rfl .nil))))
      all_goals (first | rfl | (simp only [List.length_append, List.length_cons, List.length_nil, List.length_map, itEs_len]; done) | (simp only [List.length_append, List.length_cons, List.length_nil, List.length_map, itEs_len] at *; (try unfold maxLen); (try simp only [Nat.add_mul]); omega))
    · have hd : decide ((i : Int) < ((itEs l).length : Int)) = false := decide_eq_false (by omega)
      rw [List.take_of_length_le hge] at hL
      subst hL
      repeat' (first | (apply AL_bin; (iterate 5 exact rfl)) | (apply AL_loadn ttok; (iterate 7 exact rfl)) | (apply AL_store ttok; (iterate 8 exact rfl)) | refine AL_nil ?_ | refine AW_region ?_ | refine AW_seq' ?_ | (apply AW_condB; exact rfl; (first | with_reducible assumption | decide +kernel)) | refine then_norm ?_ | refine AW_exit ?_ | refine AW_ret ?_)
      all_goals (apply endQ []; (repeat (first | exact ResL.nil | (apply ResL.cons; first | exact .tmp _ _ rfl | (apply res_n ttok; (iterate 6 exact rfl)) | (apply res_1 ttok; (iterate 5 exact rfl))))); (iterate 4 exact rfl))
      all_goals rfl
theorem av_num [Known] (n : Nat) : AP Tryd.prog 24 [.int .u64 (n : Int)] (itD (.mk 0 n [] [])) [] := by
  refine AP.ofA ?_
  refine AC_of Tryd.func24 rfl Tryd.ntmps24 rfl rfl ?_
  repeat' (first | (apply AL_move; exact rfl; exact rfl) | (apply AL_store ttok; (iterate 8 exact rfl)) | refine AL_nil ?_ | refine AW_region ?_ | refine AW_seq' ?_ | refine then_norm ?_ | refine AW_ret ?_ | (apply AL_build ttok; (iterate 6 exact rfl)) | (apply AL_allocZ ttok; (iterate 4 exact rfl)))
  all_goals (apply endQ []; (repeat (first | exact ResL.nil | (apply ResL.cons; first | exact .tmp _ _ rfl | (apply res_n ttok; (iterate 6 exact rfl)) | (apply res_1 ttok; (iterate 5 exact rfl))))); (iterate 4 exact rfl))
  all_goals rfl
theorem av_text [Known] (b : List UInt8) : AP Tryd.prog 25 [.str b] (itD (.mk 3 0 b [])) [] := by
  refine AP.ofA ?_
  refine AC_of Tryd.func25 rfl Tryd.ntmps25 rfl rfl ?_
  repeat' (first | (apply AL_s2b ttok; (iterate 8 exact rfl)) | (apply AL_move; exact rfl; exact rfl) | (apply AL_store ttok; (iterate 8 exact rfl)) | refine AL_nil ?_ | refine AW_region ?_ | refine AW_seq' ?_ | refine then_norm ?_ | refine AW_ret ?_ | (apply AL_build ttok; (iterate 6 exact rfl)) | (apply AL_allocZ ttok; (iterate 4 exact rfl)))
  all_goals (apply endQ []; (repeat (first | exact ResL.nil | (apply ResL.cons; first | exact .tmp _ _ rfl | (apply res_n ttok; (iterate 6 exact rfl)) | (apply res_1 ttok; (iterate 5 exact rfl))))); (iterate 4 exact rfl))
  all_goals rfl
theorem av_bytes [Known] (b : List UInt8) (hb : b.length ≤ 1099511627776) : AP Tryd.prog 22 [byE b] (itD (.mk 2 0 b [])) [] := by
  refine AP.ofA ?_
  refine AC_of Tryd.func22 rfl Tryd.ntmps22 rfl rfl ?_
  repeat' (first | (apply AL_callPw (av_cloneB b hb); kernel_rfl; (iterate 4 exact rfl)) | (apply AL_move; exact rfl; exact rfl) | (apply AL_store ttok; (iterate 8 exact rfl)) | refine AL_nil ?_ | refine AW_region ?_ | refine AW_seq' ?_ | refine then_norm ?_ | refine AW_ret ?_ | (apply AL_build ttok; (iterate 6 exact rfl)) | (apply AL_allocZ ttok; (iterate 4 exact rfl)))
  all_goals (apply endQ []; (repeat (first | exact ResL.nil | (apply ResL.cons; first | exact .tmp _ _ rfl | (apply res_n ttok; (iterate 6 exact rfl)) | (apply res_1 ttok; (iterate 5 exact rfl))))); (iterate 4 exact rfl))
  all_goals rfl
theorem av_list [Known] (l : List It) (hl : l.length ≤ 1099511627776) (hws : wfs l) : AP Tryd.prog 23 [.sl .ext (itEs l)] (itD (.mk 4 0 [] l)) [] := by
  have ih' : ∀ y ∈ l, AP Tryd.prog 57 [itD y] (itD y) [] := fun y hy => av_copied y (wfs_mem hws y hy)
  have hlen := itEs_len l
  refine AP.ofA ?_
  refine AC_of Tryd.func23 rfl Tryd.ntmps23 rfl rfl ?_
  repeat' (first | (apply AL_move; exact rfl; exact rfl) | (apply AL_store ttok; (iterate 8 exact rfl)) | refine AL_nil ?_ | refine AW_region ?_ | refine AW_seq' ?_ | refine then_norm ?_ | refine AW_block ?_ | (apply AL_len ttok; (iterate 4 exact rfl)) | (apply AL_build ttok; (iterate 6 exact rfl)) | (apply AL_allocZ ttok; (iterate 4 exact rfl)))
  refine AW_loopJ (fun k' tm bx fr => ∃ (i c : Nat) (L : List E), k' + i = l.length ∧ c = L.length ∧ L = itEs (l.take i) ∧ tm = [(3, .ptr 1 0), (2, .ptr 0 0), (7, .sl .ext (itEs l)), (8, .int .i64 ((itEs l).length : Int)), (9, .int .i64 (i : Int))] ∧
    ((i = 0 ∧ bx = [[.int .i64 0, .int .u64 0, .sl .nil [], .sl .nil []], [.int .i64 4, .int .u64 0, .sl .nil [], .sl .nil []]] ∧ fr = []) ∨
    (bx = [[.int .i64 0, .int .u64 0, .sl .nil [], .sl .nil []], [.int .i64 4, .int .u64 0, .sl .nil [], .sl (.own 0) L]] ∧ fr = [⟨c, 4, 26⟩]))) (l.length + 1) (Lands.mk' (m := l.length) (Nat.lt_succ_self _) ⟨0, 0, [], rfl, rfl, rfl, rfl, .inl ⟨rfl, rfl, rfl⟩⟩ ?_ rfl rfl rfl rfl rfl rfl) ?_
  · exact .cons rfl (.cons rfl (.cons rfl (.cons rfl (.cons rfl .nil))))
  rintro k' tm bx fr ⟨i, c, L, hi, hc, hL, rfl, ⟨rfl, rfl, rfl⟩ | ⟨rfl, rfl⟩⟩
  · cases l with
    | nil =>
      repeat' (first | (apply AL_bin; (iterate 5 exact rfl)) | (apply AL_loadn ttok; (iterate 7 exact rfl)) | (apply AL_store ttok; (iterate 8 exact rfl)) | refine AL_nil ?_ | refine AW_region ?_ | refine AW_seq' ?_ | (apply AW_condB; exact rfl; (first | with_reducible assumption | decide +kernel)) | refine then_norm ?_ | refine AW_exit ?_ | refine AW_ret ?_)
      all_goals (apply endQ []; (repeat (first | exact ResL.nil | (apply ResL.cons; first | exact .tmp _ _ rfl | (apply res_n ttok; (iterate 6 exact rfl)) | (apply res_1 ttok; (iterate 5 exact rfl))))); (iterate 4 exact rfl))
      all_goals rfl
    | cons y l =>
      have hc := ih' y (List.mem_cons_self ..)
      have hU := uniI (y :: l)
      have hd : decide (((0 : Nat) : Int) < ((itEs (y :: l)).length : Int)) = true := decide_eq_true (by rw [itEs]; simp)
      obtain ⟨k1, n1, b1, l1⟩ := y
      repeat' (first | (apply AL_callPw (hc); kernel_rfl; (iterate 4 exact rfl)) | (apply AL_append_nilZ ttok; (iterate 6 exact rfl); exact uniB_ok rfl; exact List.cons_ne_nil _ _; exact rfl; decide +kernel; decide +kernel; (iterate 3 exact rfl)) | (apply AL_move; exact rfl; exact rfl) | (apply AL_bin; (iterate 5 exact rfl)) | (apply AL_load1 ttok; (iterate 6 exact rfl)) | (apply AL_loadn ttok; (iterate 7 exact rfl)) | (apply AL_fieldAddr ttok; (iterate 7 exact rfl)) | (apply AL_store ttok; (iterate 8 exact rfl)) | refine AL_nil ?_ | refine AW_region ?_ | refine AW_seq' ?_ | (apply AW_condA; exact rfl; (first | with_reducible assumption | decide +kernel)) | refine then_norm ?_ | refine AW_block ?_ | (apply AL_eloadn ttok; (iterate 6 exact rfl)) | (apply AL_allocZ ttok; (iterate 4 exact rfl)) | (apply AL_bsZ ttok; (iterate 12 exact rfl)) | (apply AW_drawE 5 hmix; (decide +kernel); (kernel_rfl); (kernel_rfl); (kernel_rfl); exact rfl; exact rfl) | (apply AE_consZ; (iterate 4 exact rfl)) | exact AE.nil _ _ _ _ | (apply AEk_puT; exact rfl) | (apply AOt_mk; exact rfl; exact rfl; (decide +kernel); exact rfl) | (apply AO_puT; exact rfl) | exact AO.nil _ _ _ | (apply AOs_skip; (decide +kernel)) | exact AOs.nil | exact qY_ok rfl rfl | exact qY_wk rfl rfl rfl rfl rfl | refine AW_skip ?_ | (apply AL_idx ttok; (iterate 6 exact rfl); (first | with_reducible assumption | decide +kernel | exact Int.natCast_nonneg _ | (guard_target = (0:Int) ≤ (OfNat.ofNat _ : Int); decide) | rotate_left); (first | with_reducible assumption | decide +kernel | exact rfl); (first | exact uniB_ok rfl | with_reducible assumption | decide +kernel | rotate_left)))
      refine Lands.mk' (m := k' - 1) (by simp at hi; omega) ⟨1, 1, itEs [It.mk k1 n1 b1 l1], by simp at hi ⊢; omega, rfl, rfl, rfl, .inr ⟨rfl, rfl⟩⟩ ?_ rfl rfl rfl rfl rfl rfl
      exact .cons rfl (.cons rfl (.cons rfl (.cons rfl (.cons rfl .nil))))
  · have hU := uniI l
    have hU2 : Uni 4 L := hL ▸ uniI (l.take i)
    have el := itEs_len (l.take i)
    rw [← hL] at el
    subst hc
    rcases Nat.lt_or_ge i l.length with hlt | hge
    · have hd : decide ((i : Int) < ((itEs l).length : Int)) = true := decide_eq_true (by omega)
      obtain ⟨⟨k1, n1, b1, l1⟩, hy⟩ : ∃ y, l[i]? = some y := ⟨_, List.getElem?_eq_getElem hlt⟩
      have hv : (itEs l)[((i : Nat) : Int).toNat]? = some (.agg [.int .i64 k1, .int .u64 (n1 : Int), .sl (b1.map E.byte), .sl (itEs l1)]) := by
        rw [Int.toNat_natCast, itEs_map, List.getElem?_map, hy]; rfl
      have hc := ih' _ (List.mem_of_getElem? hy)
      have ei : IntKind.i64.wrap ((i : Int) + 1) = ((i + 1 : Nat) : Int) := by rw [IntWalk.i64_in _ (by omega)]; omega
      have hs : L ++ [E.agg [.int .i64 k1, .int .u64 (n1 : Int), .sl (b1.map E.byte), .sl (itEs l1)]] = itEs (l.take (i + 1)) := by
        rw [hL, List.take_add_one, hy]; exact (itEs_app _ [It.mk k1 n1 b1 l1]).symm
      rw [List.length_take] at el
      repeat' (first | (apply AL_callPw (hc); kernel_rfl; (iterate 4 exact rfl)) | rw [ei] | (apply AL_move; exact rfl; exact rfl) | (apply AL_bin; (iterate 5 exact rfl)) | (apply AL_load1 ttok; (iterate 6 exact rfl)) | (apply AL_loadn ttok; (iterate 7 exact rfl)) | (apply AL_fieldAddr ttok; (iterate 7 exact rfl)) | (apply AL_store ttok; (iterate 8 exact rfl)) | refine AL_nil ?_ | refine AW_region ?_ | refine AW_seq' ?_ | (apply AW_condA; exact rfl; (first | with_reducible assumption | decide +kernel)) | refine then_norm ?_ | refine AW_block ?_ | (apply AL_eloadn ttok; (iterate 6 exact rfl)) | (apply AL_allocZ ttok; (iterate 4 exact rfl)) | (apply AL_bsZ ttok; (iterate 12 exact rfl)) | (apply AW_drawE 5 hmix; (decide +kernel); (kernel_rfl); (kernel_rfl); (kernel_rfl); exact rfl; exact rfl) | (apply AE_consZ; (iterate 4 exact rfl)) | exact AE.nil _ _ _ _ | (apply AEk_puT; exact rfl) | (apply AOt_mk; exact rfl; exact rfl; (decide +kernel); exact rfl) | (apply AO_puT; exact rfl) | exact AO.nil _ _ _ | (apply AOs_skip; (decide +kernel)) | exact AOs.nil | exact qY_ok rfl rfl | exact qY_wk rfl rfl rfl rfl rfl | refine AW_skip ?_ | (apply AL_append ttok; (iterate 6 exact rfl); (first | with_reducible assumption | decide +kernel | exact rfl | rotate_left); exact rfl; exact rfl; (first | exact uniB_ok rfl | with_reducible assumption | decide +kernel | rotate_left); (first | exact uniB_ok rfl | with_reducible assumption | decide +kernel | rotate_left); (first | exact List.cons_ne_nil _ _ | with_reducible assumption | decide +kernel | rotate_left); (first | with_reducible assumption | decide +kernel | rotate_left); (first | with_reducible assumption | decide +kernel | rotate_left); exact rfl; exact rfl) | (apply AL_idx ttok; (iterate 6 exact rfl); (first | with_reducible assumption | decide +kernel | exact Int.natCast_nonneg _ | (guard_target = (0:Int) ≤ (OfNat.ofNat _ : Int); decide) | rotate_left); (first | with_reducible assumption | decide +kernel | exact rfl); (first | exact uniB_ok rfl | with_reducible assumption | decide +kernel | rotate_left)))
      · refine Lands.mk' (m := k' - 1) (by omega) ⟨i + 1, L.length + 1, _, by omega, by rw [List.length_append]; rfl, hs, rfl, .inr ⟨rfl, rfl⟩⟩ ?_ rfl rfl rfl rfl rfl rfl
        exact .cons rfl (.cons rfl (.cons rfl (.cons rfl (.cons rfl .nil))))
      all_goals (first | rfl | (simp only [List.length_append, List.length_cons, List.length_nil, List.length_map, itEs_len]; done) | (simp only [List.length_append, List.length_cons, List.length_nil, List.length_map, itEs_len] at *; (try unfold maxLen); (try simp only [Nat.add_mul]); omega))
    · have hd : decide ((i : Int) < ((itEs l).length : Int)) = false := decide_eq_false (by omega)
      rw [List.take_of_length_le hge] at hL
      subst hL
      repeat' (first | (apply AL_bin; (iterate 5 exact rfl)) | (apply AL_loadn ttok; (iterate 7 exact rfl)) | (apply AL_store ttok; (iterate 8 exact rfl)) | refine AL_nil ?_ | refine AW_region ?_ | refine AW_seq' ?_ | (apply AW_condB; exact rfl; (first | with_reducible assumption | decide +kernel)) | refine then_norm ?_ | refine AW_exit ?_ | refine AW_ret ?_)
      all_goals (apply endQ []; (repeat (first | exact ResL.nil | (apply ResL.cons; first | exact .tmp _ _ rfl | (apply res_n ttok; (iterate 6 exact rfl)) | (apply res_1 ttok; (iterate 5 exact rfl))))); (iterate 4 exact rfl))
      all_goals rfl
end Go.Proofs.YtnihobjehelagaaDoor
end
/- unicode/utf8.Valid: are bytes a text? -/
section
open Go.RowKit Go.Pl Go.Av
namespace Go.Proofs.YtnihobjehelagaaDoor
set_option linter.unusedVariables false
set_option linter.unusedSimpArgs false
set_option maxHeartbeats 4000000
/-! ### eight bytes at once -/
def w8N : List UInt8 → Nat
  | c0 :: c1 :: c2 :: c3 :: c4 :: c5 :: c6 :: c7 :: _ => c0.toNat + 256 * c1.toNat + 65536 * c2.toNat + 16777216 * c3.toNat + 4294967296 * c4.toNat + 1099511627776 * c5.toNat + 281474976710656 * c6.toNat + 72057594037927936 * c7.toNat
  | _ => 0
theorem eight {l : List UInt8} (h : 8 ≤ l.length) : ∃ c0 c1 c2 c3 c4 c5 c6 c7 r, l = c0 :: c1 :: c2 :: c3 :: c4 :: c5 :: c6 :: c7 :: r := by
  match l, h with
  | c0 :: c1 :: c2 :: c3 :: c4 :: c5 :: c6 :: c7 :: r, _ => exact ⟨c0, c1, c2, c3, c4, c5, c6, c7, r, rfl⟩
abbrev hi8 : Nat := 9259542123273814144
theorem w8N_lt (l : List UInt8) : w8N l < 18446744073709551616 := by
  unfold w8N
  split
  · rename_i c0 c1 c2 c3 c4 c5 c6 c7 r
    have := c0.toNat_lt; have := c1.toNat_lt; have := c2.toNat_lt; have := c3.toNat_lt
    have := c4.toNat_lt; have := c5.toNat_lt; have := c6.toNat_lt; have := c7.toNat_lt
    omega
  · omega
theorem bit_and {w k : Nat} (h : w &&& hi8 = 0) (hk : hi8.testBit k = true) : w.testBit k = false := by
  have := congrArg (fun x => x.testBit k) h
  simp only [Nat.testBit_and, hk, Bool.and_true, Nat.zero_testBit] at this
  exact this
theorem w8N_asc {l : List UInt8} (hl : 8 ≤ l.length) (h : w8N l &&& hi8 = 0) : ∀ c ∈ l.take 8, c.toNat < 128 := by
  obtain ⟨c0, c1, c2, c3, c4, c5, c6, c7, r, rfl⟩ := eight hl
  have b0 := bit_and (k := 7) h (by decide)
  have b1 := bit_and (k := 15) h (by decide)
  have b2 := bit_and (k := 23) h (by decide)
  have b3 := bit_and (k := 31) h (by decide)
  have b4 := bit_and (k := 39) h (by decide)
  have b5 := bit_and (k := 47) h (by decide)
  have b6 := bit_and (k := 55) h (by decide)
  have b7 := bit_and (k := 63) h (by decide)
  have := c0.toNat_lt; have := c1.toNat_lt; have := c2.toNat_lt; have := c3.toNat_lt
  have := c4.toNat_lt; have := c5.toNat_lt; have := c6.toNat_lt; have := c7.toNat_lt
  simp only [Nat.testBit_eq_decide_div_mod_eq, decide_eq_false_iff_not, w8N] at b0 b1 b2 b3 b4 b5 b6 b7
  intro c hc
  simp only [List.take_succ_cons, List.take_zero, List.mem_cons, List.not_mem_nil, or_false] at hc
  rcases hc with rfl | rfl | rfl | rfl | rfl | rfl | rfl | rfl
  all_goals omega
theorem or_join (a x k : Nat) (ha : a < 2 ^ k) : a ||| x * 2 ^ k = a + x * 2 ^ k := by
  rw [Nat.or_comm, Nat.mul_comm, ← Nat.two_pow_add_eq_or_of_lt ha x]; omega
theorem sh_eq (c : UInt8) (k : Nat) (hk : k ≤ 56) : IntKind.u64.wrap (IntKind.u64.wrap (c.toNat : Int) * 2 ^ min (Int.toNat (k : Int)) IntKind.u64.bits) = ((c.toNat * 2 ^ k : Nat) : Int) := by
  have hc := c.toNat_lt
  rw [Int.toNat_natCast, show min k IntKind.u64.bits = k from Nat.min_eq_left (by show k ≤ 64; omega)]
  have e1 : IntKind.u64.wrap (c.toNat : Int) = (c.toNat : Int) := by rw [IntKind.wrap_u64]; omega
  have e2 : ((c.toNat : Int) * 2 ^ k) = ((c.toNat * 2 ^ k : Nat) : Int) := by simp
  rw [e1, e2, IntKind.wrap_u64]
  have : c.toNat * 2 ^ k < 18446744073709551616 := by
    have h1 : c.toNat * 2 ^ k < 256 * 2 ^ k := Nat.mul_lt_mul_of_pos_right hc (Nat.two_pow_pos k)
    have h2 : 256 * 2 ^ k ≤ 256 * 2 ^ 56 := Nat.mul_le_mul_left _ (Nat.pow_le_pow_right (by decide) hk)
    omega
  omega
theorem or_eq {a : Nat} (c : UInt8) (k : Nat) (ha : a < 2 ^ k) (hk : k ≤ 56) : bits .or .u64 (a : Int) (IntKind.u64.wrap (IntKind.u64.wrap (c.toNat : Int) * 2 ^ min (Int.toNat (k : Int)) IntKind.u64.bits)) = ((a + c.toNat * 2 ^ k : Nat) : Int) := by
  have hc := c.toNat_lt
  have h56 : 2 ^ k ≤ 2 ^ 56 := Nat.pow_le_pow_right (by decide) hk
  have h1 : c.toNat * 2 ^ k < 256 * 2 ^ k := Nat.mul_lt_mul_of_pos_right hc (Nat.two_pow_pos k)
  rw [sh_eq c k hk, u64_or_nat _ _ (by omega) (by omega), or_join _ _ _ ha]
theorem av_word [Known] (l : List UInt8) (hl : 8 ≤ l.length) : AP Tryd.prog 133 [byE l] (.int .u64 (w8N l : Int)) [] := by
  have hU := uniB1 l
  obtain ⟨c0, c1, c2, c3, c4, c5, c6, c7, r, rfl⟩ := eight hl
  refine AP.ofA ?_
  refine AC_of Tryd.func133 rfl Tryd.ntmps133 rfl rfl ?_
  repeat' (first | (apply AL_move; exact rfl; exact rfl) | (apply AL_assign; exact rfl; exact rfl) | (apply AL_bin; (iterate 5 exact rfl)) | (apply AL_convT ttok; (iterate 5 exact rfl)) | refine AL_nil ?_ | refine AW_region ?_ | refine AW_condCF ?_ | refine AW_seq' ?_ | refine then_norm ?_ | refine AW_ret ?_ | (apply AL_eload1 ttok; (iterate 6 exact rfl)) | (apply AW_drawM 45 hmix; (decide +kernel); (kernel_rfl); (kernel_rfl); exact rfl; exact rfl) | (apply AD_cons; (iterate 3 exact rfl)) | refine AD.nil _ | exact qp_ok rfl | refine AW_skip ?_ | (apply AL_idx ttok; (iterate 6 exact rfl); (first | with_reducible assumption | exact Int.natCast_nonneg _ | (guard_target = (0:Int) ≤ (OfNat.ofNat _ : Int); decide) | rotate_left); (first | with_reducible assumption | exact rfl); (first | exact uniB_ok rfl | with_reducible assumption | rotate_left)) | (apply AL_shl; exact rfl; exact rfl; (first | with_reducible assumption | exact Int.natCast_nonneg _ | (exact (by decide)) | rotate_left); exact rfl))
  all_goals (apply endQ []; (repeat (first | exact ResL.nil | (apply ResL.cons; first | exact .tmp _ _ rfl | (apply res_n ttok; (iterate 6 exact rfl)) | (apply res_1 ttok; (iterate 5 exact rfl))))); (iterate 4 exact rfl))
  all_goals first | rfl | skip
  have := c0.toNat_lt; have := c1.toNat_lt; have := c2.toNat_lt; have := c3.toNat_lt
  have := c4.toNat_lt; have := c5.toNat_lt; have := c6.toNat_lt; have := c7.toNat_lt
  congr 1
  have e0 : IntKind.u64.wrap (c0.toNat : Int) = ((c0.toNat : Nat) : Int) := by rw [IntKind.wrap_u64]; omega
  have q1 := or_eq (a := c0.toNat) c1 8 (by omega) (by omega)
  have q2 := or_eq (a := c0.toNat + c1.toNat * 2 ^ 8) c2 16 (by omega) (by omega)
  have q3 := or_eq (a := c0.toNat + c1.toNat * 2 ^ 8 + c2.toNat * 2 ^ 16) c3 24 (by omega) (by omega)
  have q4 := or_eq (a := c0.toNat + c1.toNat * 2 ^ 8 + c2.toNat * 2 ^ 16 + c3.toNat * 2 ^ 24) c4 32 (by omega) (by omega)
  have q5 := or_eq (a := c0.toNat + c1.toNat * 2 ^ 8 + c2.toNat * 2 ^ 16 + c3.toNat * 2 ^ 24 + c4.toNat * 2 ^ 32) c5 40 (by omega) (by omega)
  have q6 := or_eq (a := c0.toNat + c1.toNat * 2 ^ 8 + c2.toNat * 2 ^ 16 + c3.toNat * 2 ^ 24 + c4.toNat * 2 ^ 32 + c5.toNat * 2 ^ 40) c6 48 (by omega) (by omega)
  have q7 := or_eq (a := c0.toNat + c1.toNat * 2 ^ 8 + c2.toNat * 2 ^ 16 + c3.toNat * 2 ^ 24 + c4.toNat * 2 ^ 32 + c5.toNat * 2 ^ 40 + c6.toNat * 2 ^ 48) c7 56 (by omega) (by omega)
  rw [e0] at *
  have fin : (w8N (c0 :: c1 :: c2 :: c3 :: c4 :: c5 :: c6 :: c7 :: r) : Int) = ((c0.toNat + c1.toNat * 2 ^ 8 + c2.toNat * 2 ^ 16 + c3.toNat * 2 ^ 24 + c4.toNat * 2 ^ 32 + c5.toNat * 2 ^ 40 + c6.toNat * 2 ^ 48 + c7.toNat * 2 ^ 56 : Nat) : Int) := by
    simp only [w8N]; omega
  rw [fin, ← q7, ← q6, ← q5, ← q4, ← q3, ← q2, ← q1]
  rfl
theorem and_or0 {a b : Nat} (h : (a ||| b) &&& hi8 = 0) : a &&& hi8 = 0 ∧ b &&& hi8 = 0 := by
  rw [Nat.and_or_distrib_right] at h
  exact Nat.or_eq_zero_iff.1 h
theorem validU_asc : ∀ (k : Nat) (l : List UInt8), k ≤ l.length → (∀ c ∈ l.take k, c.toNat < 128) → validU l = validU (l.drop k)
  | 0, l, _, _ => rfl
  | k + 1, [], h, _ => by simp at h
  | k + 1, c :: r, h, ha => by
    have hc : c.toNat < 128 := ha c (by simp)
    rw [validU_cons]
    have : pt (c :: r) = 1 := by simp [pt, ptN, hc]
    rw [this]
    simp only [List.drop_zero, List.drop_succ_cons]
    exact validU_asc k r (by simpa using h) fun c' h' => ha c' (by simp [h'])
/-! ### the tables -/
def fT (c : Nat) : Nat := if c < 128 then 240 else if c < 194 then 241 else if c < 224 then 2 else if c < 225 then 19 else if c < 237 then 3 else if c < 238 then 35 else if c < 240 then 3 else if c < 241 then 52 else if c < 244 then 4 else if c < 245 then 68 else 241
theorem tab_first : (0, (List.range 256).map fun c => Value.int .u8 (fT c : Int)) ∈ tabs := by
  have e : (List.range 256).map (fun c => Value.int .u8 (fT c : Int)) = dcs Rows.laid_unicode_utf8_first := by kernel_rfl
  rw [e]
  unfold tabs
  simp
def aT (i : Nat) : List Value := if i = 0 then [.int .u8 128, .int .u8 191] else if i = 1 then [.int .u8 160, .int .u8 191] else if i = 2 then [.int .u8 128, .int .u8 159] else if i = 3 then [.int .u8 144, .int .u8 191] else if i = 4 then [.int .u8 128, .int .u8 143] else [.int .u8 0, .int .u8 0]
theorem tab_accept : (1, (List.range 16).flatMap aT) ∈ tabs := by
  have e : (List.range 16).flatMap aT = dcs Rows.laid_unicode_utf8_acceptRanges := by kernel_rfl
  rw [e]
  unfold tabs
  simp
theorem first_at (c : UInt8) : ((List.range 256).map fun c => Value.int .u8 (fT c : Int))[0 + ((c.toNat : Nat) : Int).toNat * 1]? = some (.int .u8 (fT c.toNat : Int)) := by
  have := c.toNat_lt
  rw [Int.toNat_natCast, Nat.zero_add, Nat.mul_one, List.getElem?_map, List.getElem?_range (by omega)]
  rfl
end Go.Proofs.YtnihobjehelagaaDoor
end
/- unicode/utf8.Valid: the walk. -/
section
open Go.RowKit Go.Pl Go.Av
namespace Go.Proofs.YtnihobjehelagaaDoor
set_option linter.unusedVariables false
set_option linter.unusedSimpArgs false
set_option maxHeartbeats 4000000
/-- what the tables say of a first byte that is no ASCII -/
theorem cls (c : UInt8) (h : 128 ≤ c.toNat) : ∃ (sz i : Nat) (lo hi : Nat), bits .and .u8 (fT c.toNat : Int) 7 = (sz : Int) ∧ ((fT c.toNat : Nat) : Int).fdiv (2 ^ min (Int.toNat 4) IntKind.u8.bits) = (i : Int) ∧ i < 16 ∧
    (((List.range 16).flatMap aT).drop (0 + ((i : Nat) : Int).toNat * 2)).take 2 = [.int .u8 (lo : Int), .int .u8 (hi : Int)] ∧
    ((sz = 1 ∧ ptN c.toNat = 0) ∨ ((sz = 2 ∨ sz = 3 ∨ sz = 4) ∧ ptN c.toNat = sz ∧ lo = ptLo c.toNat ∧ hi = ptHi c.toNat)) := by
  have hc := c.toNat_lt
  generalize c.toNat = n at h hc ⊢
  by_cases h1 : n < 194
  · exact ⟨1, 15, 0, 0, by simp [fT, show ¬ n < 128 by omega, h1]; rfl, by simp [fT, show ¬ n < 128 by omega, h1]; rfl, by omega, rfl, .inl ⟨rfl, by (simp only [ptN, ptLo, ptHi, inB, Bool.and_eq_true, decide_eq_true_eq]; (repeat' split) <;> omega)⟩⟩
  by_cases h2 : n < 224
  · exact ⟨2, 0, 128, 191, by simp [fT, show ¬ n < 128 by omega, h1, h2]; rfl, by simp [fT, show ¬ n < 128 by omega, h1, h2]; rfl, by omega, rfl, .inr ⟨.inl rfl, by (simp only [ptN, ptLo, ptHi, inB, Bool.and_eq_true, decide_eq_true_eq]; (repeat' split) <;> omega), by (simp only [ptN, ptLo, ptHi, inB, Bool.and_eq_true, decide_eq_true_eq]; (repeat' split) <;> omega), by (simp only [ptN, ptLo, ptHi, inB, Bool.and_eq_true, decide_eq_true_eq]; (repeat' split) <;> omega)⟩⟩
  by_cases h3 : n = 224
  · subst h3; exact ⟨3, 1, 160, 191, rfl, rfl, by omega, rfl, .inr ⟨.inr (.inl rfl), rfl, rfl, rfl⟩⟩
  by_cases h4 : n < 237
  · exact ⟨3, 0, 128, 191, by simp [fT, show ¬ n < 128 by omega, h1, h2, show ¬ n < 225 by omega, h4]; rfl, by simp [fT, show ¬ n < 128 by omega, h1, h2, show ¬ n < 225 by omega, h4]; rfl, by omega, rfl, .inr ⟨.inr (.inl rfl), by (simp only [ptN, ptLo, ptHi, inB, Bool.and_eq_true, decide_eq_true_eq]; (repeat' split) <;> omega), by (simp only [ptN, ptLo, ptHi, inB, Bool.and_eq_true, decide_eq_true_eq]; (repeat' split) <;> omega), by (simp only [ptN, ptLo, ptHi, inB, Bool.and_eq_true, decide_eq_true_eq]; (repeat' split) <;> omega)⟩⟩
  by_cases h5 : n = 237
  · subst h5; exact ⟨3, 2, 128, 159, rfl, rfl, by omega, rfl, .inr ⟨.inr (.inl rfl), rfl, rfl, rfl⟩⟩
  by_cases h6 : n < 240
  · exact ⟨3, 0, 128, 191, by simp [fT, show ¬ n < 128 by omega, h1, h2, show ¬ n < 225 by omega, h4, show ¬ n < 238 by omega, h6]; rfl, by simp [fT, show ¬ n < 128 by omega, h1, h2, show ¬ n < 225 by omega, h4, show ¬ n < 238 by omega, h6]; rfl, by omega, rfl, .inr ⟨.inr (.inl rfl), by (simp only [ptN, ptLo, ptHi, inB, Bool.and_eq_true, decide_eq_true_eq]; (repeat' split) <;> omega), by (simp only [ptN, ptLo, ptHi, inB, Bool.and_eq_true, decide_eq_true_eq]; (repeat' split) <;> omega), by (simp only [ptN, ptLo, ptHi, inB, Bool.and_eq_true, decide_eq_true_eq]; (repeat' split) <;> omega)⟩⟩
  by_cases h7 : n = 240
  · subst h7; exact ⟨4, 3, 144, 191, rfl, rfl, by omega, rfl, .inr ⟨.inr (.inr rfl), rfl, rfl, rfl⟩⟩
  by_cases h8 : n < 244
  · exact ⟨4, 0, 128, 191, by simp [fT, show ¬ n < 128 by omega, h1, h2, show ¬ n < 225 by omega, h4, show ¬ n < 238 by omega, h6, show ¬ n < 241 by omega, h8]; rfl, by simp [fT, show ¬ n < 128 by omega, h1, h2, show ¬ n < 225 by omega, h4, show ¬ n < 238 by omega, h6, show ¬ n < 241 by omega, h8]; rfl, by omega, rfl, .inr ⟨.inr (.inr rfl), by (simp only [ptN, ptLo, ptHi, inB, Bool.and_eq_true, decide_eq_true_eq]; (repeat' split) <;> omega), by (simp only [ptN, ptLo, ptHi, inB, Bool.and_eq_true, decide_eq_true_eq]; (repeat' split) <;> omega), by (simp only [ptN, ptLo, ptHi, inB, Bool.and_eq_true, decide_eq_true_eq]; (repeat' split) <;> omega)⟩⟩
  by_cases h9 : n = 244
  · subst h9; exact ⟨4, 4, 128, 143, rfl, rfl, by omega, rfl, .inr ⟨.inr (.inr rfl), rfl, rfl, rfl⟩⟩
  · exact ⟨1, 15, 0, 0, by simp [fT, show ¬ n < 128 by omega, h1, h2, show ¬ n < 225 by omega, h4, show ¬ n < 238 by omega, h6, show ¬ n < 241 by omega, h8, show ¬ n < 245 by omega]; rfl, by simp [fT, show ¬ n < 128 by omega, h1, h2, show ¬ n < 225 by omega, h4, show ¬ n < 238 by omega, h6, show ¬ n < 241 by omega, h8, show ¬ n < 245 by omega]; rfl, by omega, rfl, .inl ⟨rfl, by (simp only [ptN, ptLo, ptHi, inB, Bool.and_eq_true, decide_eq_true_eq]; (repeat' split) <;> omega)⟩⟩
theorem v0 {c : UInt8} (h : ptN c.toNat = 0) (r : List UInt8) : validU (c :: r) = false := by rw [validU_cons]; simp [pt, h]
theorem v2s {c : UInt8} (h : ptN c.toNat = 2) : validU [c] = false := by rw [validU_cons]; simp [pt, h]
theorem v2 {c : UInt8} (h : ptN c.toNat = 2) (c1 : UInt8) (r : List UInt8) : validU (c :: c1 :: r) = (inB c1.toNat (ptLo c.toNat) (ptHi c.toNat) && validU r) := by
  rw [validU_cons]; simp only [pt, h]
  cases inB c1.toNat (ptLo c.toNat) (ptHi c.toNat) <;> simp
theorem v3s {c : UInt8} (h : ptN c.toNat = 3) (r : List UInt8) (hr : r.length < 2) : validU (c :: r) = false := by
  rw [validU_cons]
  match r, hr with
  | [], _ => simp [pt, h]
  | [c1], _ => simp [pt, h]
theorem v3 {c : UInt8} (h : ptN c.toNat = 3) (c1 c2 : UInt8) (r : List UInt8) : validU (c :: c1 :: c2 :: r) = (inB c1.toNat (ptLo c.toNat) (ptHi c.toNat) && (inB c2.toNat 128 191 && validU r)) := by
  rw [validU_cons]; simp only [pt, h]
  cases inB c1.toNat (ptLo c.toNat) (ptHi c.toNat) <;> cases inB c2.toNat 128 191 <;> simp
theorem v4s {c : UInt8} (h : ptN c.toNat = 4) (r : List UInt8) (hr : r.length < 3) : validU (c :: r) = false := by
  rw [validU_cons]
  match r, hr with
  | [], _ => simp [pt, h]
  | [c1], _ => simp [pt, h]
  | [c1, c2], _ => simp [pt, h]
theorem v4 {c : UInt8} (h : ptN c.toNat = 4) (c1 c2 c3 : UInt8) (r : List UInt8) : validU (c :: c1 :: c2 :: c3 :: r) = (inB c1.toNat (ptLo c.toNat) (ptHi c.toNat) && (inB c2.toNat 128 191 && (inB c3.toNat 128 191 && validU r))) := by
  rw [validU_cons]; simp only [pt, h]
  cases inB c1.toNat (ptLo c.toNat) (ptHi c.toNat) <;> cases inB c2.toNat 128 191 <;> cases inB c3.toNat 128 191 <;> simp
theorem and_hi {a : Nat} (ha : a < 18446744073709551616) : (bits .and .u64 (a : Int) 9259542123273814144 == 0) = decide (a &&& hi8 = 0) := by
  have h := u64_and_nat a hi8 ha (by decide)
  rw [show ((hi8 : Nat) : Int) = 9259542123273814144 from rfl] at h
  rw [h]
  by_cases e : a &&& hi8 = 0
  · rw [e]; rfl
  · rw [decide_eq_false e]
    rw [beq_eq_false_iff_ne]
    omega
theorem or_w (a b : List UInt8) : bits .or .u64 (w8N a : Int) (w8N b : Int) = ((w8N a ||| w8N b : Nat) : Int) := u64_or_nat _ _ (w8N_lt a) (w8N_lt b)
/-- the first loop of a piece of code: what is in it -/
def hasLoop : Code → Bool
  | .loop _ => true
  | .seq a b => hasLoop a || hasLoop b
  | .block _ c => hasLoop c
  | _ => false
def loopBody : Code → Code
  | .loop c => c
  | .seq a b => match hasLoop a with
    | true => loopBody a
    | false => loopBody b
  | .block _ c => loopBody c
  | c => c
/-- the round of a first byte that is ASCII, or not, leaves -/
def vJ (b : List UInt8) : Nat → List (Nat × D) → List (List D) → List Fr → Prop := fun k tm bx fr => ∃ l : List UInt8, k = l.length ∧ validU l = validU b ∧ tm = [(0, byE l), (2, .bool false)] ∧ bx = [] ∧ fr = []
/-- where a round ends -/
abbrev vQ (b : List UInt8) (v : Bool) (k : Nat) (K : St → Prop) : X → St → Prop := X.then (Lands (vJ b) 188 (([] : List (List D)).length, ([] : List Fr).length) k) (X.inBlock 0 (X.then K (fnPost Tryd.prog [ResultVar.tmp 2] ([] : List (List D)).length ([] : List Fr).length fun r bx fr => ∃ d0, r = R.ret d0 ∧ d0.wk = .bool v ∧ bx.map D.wks = [] ∧ fr = [])))
abbrev vS (l : List UInt8) : St := ⟨188, [(0, byE l), (2, .bool false)], [], [], (([] : List (List D)).length, ([] : List Fr).length)⟩
set_option maxRecDepth 10000 in
theorem v_asc [Known] (b : List UInt8) (hb : b.length ≤ 1099511627776) (K : St → Prop) (k : Nat) (c : UInt8) (r : List UInt8) (hk : k = r.length + 1) (hv : validU (c :: r) = validU b) (hc : c.toNat < 128) : AW Tryd.prog (loopBody (Tryd.f122.body.getD .skip)) (vS (c :: r)) (vQ b (validU b) k K) := by
  conv => enter [3]; whnf
  have hU := uniB1 (c :: r)
  have hlen : decide ((((c :: r).map E.byte).length : Int) > 0) = true := by simp
  have dc : decide ((c.toNat : Int) < 128) = true := by simp; omega
  have hv1 : validU r = validU b := by rw [← hv, validU_cons]; simp [pt, ptN, hc]
  have x1 : (c :: r).drop (Int.toNat 1) = r := rfl
  rcases Nat.lt_or_ge 8 r.length with h8 | h8
  · have d8 : decide (((r.map E.byte).length : Int) > 8) = true := by simp; omega
    have w1 := av_word r (by omega)
    have a1 := and_hi (w8N_lt r)
    have l8 : Int.toNat 8 ≤ r.length := by show 8 ≤ r.length; omega
    by_cases t1 : w8N r &&& hi8 = 0
    · rw [decide_eq_true t1] at a1
      have hv2 : validU (r.drop 8) = validU b := by rw [← hv1]; exact (validU_asc 8 r (by omega) (w8N_asc (by omega) t1)).symm
      generalize hp : r.drop 8 = p at hv2
      have x8 : r.drop (Int.toNat 8) = p := hp
      have hpl : p.length = r.length - 8 := by rw [← hp, List.length_drop]
      rcases Nat.lt_or_ge 16 p.length with h16 | h16
      · have d16 : decide (((p.map E.byte).length : Int) > 16) = true := by simp; omega
        have w2 := av_word p (by omega)
        generalize hq : p.drop 8 = q
        have x8' : p.drop (Int.toNat 8) = q := hq
        have hql : q.length = p.length - 8 := by rw [← hq, List.length_drop]
        have w3 := av_word q (by omega)
        have o1 := or_w p q
        have a2 := and_hi (a := w8N p ||| w8N q) (Nat.or_lt_two_pow (n := 64) (w8N_lt p) (w8N_lt q))
        have l8' : Int.toNat 8 ≤ p.length := by show 8 ≤ p.length; omega
        have l16 : Int.toNat 16 ≤ p.length := by show 16 ≤ p.length; omega
        by_cases t2 : (w8N p ||| w8N q) &&& hi8 = 0
        · rw [decide_eq_true t2] at a2
          have hv3 : validU (p.drop 16) = validU b := by
            have e1 := validU_asc 8 p (by omega) (w8N_asc (by omega) (and_or0 t2).1)
            have e2 := validU_asc 8 q (by omega) (w8N_asc (by omega) (and_or0 t2).2)
            rw [hq] at e1
            rw [← hq, List.drop_drop] at e2
            rw [← hv2, e1, ← hq, e2]
          generalize hs : p.drop 16 = s at hv3
          have x16 : p.drop (Int.toNat 16) = s := hs
          have hsl : s.length = p.length - 16 := by rw [← hs, List.length_drop]
          repeat' (first | rw [o1] | rw [a1] | rw [a2] | (apply AL_callPw (w1); kernel_rfl; (iterate 4 exact rfl)) | (apply AL_callPw (w2); kernel_rfl; (iterate 4 exact rfl)) | (apply AL_callPw (w3); kernel_rfl; (iterate 4 exact rfl)) | (apply AL_from ttok; (iterate 8 exact rfl); (first | with_reducible assumption | exact Int.natCast_nonneg _ | exact (by decide)); (first | with_reducible assumption | decide | (simp only [List.length_cons, List.length_drop, List.length_take, List.length_append, Int.toNat_natCast] at *; omega)); (first | with_reducible assumption | exact rfl)) | (apply AL_move; exact rfl; exact rfl) | (apply AL_assign; exact rfl; exact rfl) | (apply AL_bin; (iterate 5 exact rfl)) | refine AL_nil ?_ | (apply AL_guardT; (iterate 3 exact rfl); (first | with_reducible assumption | decide +kernel)) | (apply AL_pickT; exact rfl; (first | with_reducible assumption | decide +kernel); exact rfl; exact rfl) | refine AW_region ?_ | refine AW_seq' ?_ | (apply AW_condA; exact rfl; (first | with_reducible assumption | decide +kernel)) | refine then_norm ?_ | refine AW_block ?_ | (apply AL_len ttok; (iterate 4 exact rfl)) | (apply AL_eload1 ttok; (iterate 6 exact rfl)) | (apply AW_drawM 8 hmix; (decide +kernel); (kernel_rfl); (kernel_rfl); exact rfl; exact rfl) | (apply AD_cons; (iterate 3 exact rfl)) | refine AD.nil _ | exact qp_ok rfl | refine AW_skip ?_ | (apply AL_idx ttok; (iterate 6 exact rfl); (first | with_reducible assumption | decide +kernel | exact Int.natCast_nonneg _ | (guard_target = (0:Int) ≤ (OfNat.ofNat _ : Int); decide) | rotate_left); (first | with_reducible assumption | decide +kernel | exact rfl); (first | exact uniB_ok rfl | with_reducible assumption | decide +kernel | rotate_left)))
          refine AW_loopJ (fun k' tm bx fr => ∃ l' : List UInt8, k' = l'.length ∧ l'.length ≤ r.length ∧ validU l' = validU b ∧ tm = [(0, byE l'), (2, .bool false)] ∧ bx = [] ∧ fr = []) (s.length + 1) (Lands.mk' (m := s.length) (Nat.lt_succ_self _) ⟨s, rfl, by omega, hv3, rfl, rfl, rfl⟩ ?_ rfl rfl rfl rfl rfl rfl) ?_
          · exact .cons rfl (.cons rfl .nil)
          rintro k' tm bx fr ⟨l', hk', hl', hv', rfl, rfl, rfl⟩
          rcases Nat.lt_or_ge 32 l'.length with h32 | h32
          · have d32 : decide (((l'.map E.byte).length : Int) > 32) = true := by simp; omega
            generalize hp1 : l'.drop 8 = p1
            generalize hp2 : l'.drop 16 = p2
            generalize hp3 : l'.drop 24 = p3
            generalize hp4 : l'.drop 32 = p4
            have y1 : l'.drop (Int.toNat 8) = p1 := hp1
            have y2 : l'.drop (Int.toNat 16) = p2 := hp2
            have y3 : l'.drop (Int.toNat 24) = p3 := hp3
            have y4 : l'.drop (Int.toNat 32) = p4 := hp4
            have z1 : p1.length = l'.length - 8 := by rw [← hp1, List.length_drop]
            have z2 : p2.length = l'.length - 16 := by rw [← hp2, List.length_drop]
            have z3 : p3.length = l'.length - 24 := by rw [← hp3, List.length_drop]
            have z4 : p4.length = l'.length - 32 := by rw [← hp4, List.length_drop]
            have u0 := av_word l' (by omega)
            have u1 := av_word p1 (by omega)
            have u2 := av_word p2 (by omega)
            have u3 := av_word p3 (by omega)
            have r1 := or_w l' p1
            have r2 := or_w p2 p3
            have r3 := u64_or_nat (w8N l' ||| w8N p1) (w8N p2 ||| w8N p3) (Nat.or_lt_two_pow (n := 64) (w8N_lt l') (w8N_lt p1)) (Nat.or_lt_two_pow (n := 64) (w8N_lt p2) (w8N_lt p3))
            have a4 := and_hi (a := (w8N l' ||| w8N p1) ||| (w8N p2 ||| w8N p3)) (Nat.or_lt_two_pow (n := 64) (Nat.or_lt_two_pow (n := 64) (w8N_lt l') (w8N_lt p1)) (Nat.or_lt_two_pow (n := 64) (w8N_lt p2) (w8N_lt p3)))
            have m8 : Int.toNat 8 ≤ l'.length := by show 8 ≤ l'.length; omega
            have m16 : Int.toNat 16 ≤ l'.length := by show 16 ≤ l'.length; omega
            have m24 : Int.toNat 24 ≤ l'.length := by show 24 ≤ l'.length; omega
            have m32 : Int.toNat 32 ≤ l'.length := by show 32 ≤ l'.length; omega
            by_cases t4 : ((w8N l' ||| w8N p1) ||| (w8N p2 ||| w8N p3)) &&& hi8 = 0
            · rw [decide_eq_true t4] at a4
              have hv4 : validU p4 = validU b := by
                have q1 := and_or0 t4
                have e1 := validU_asc 8 l' (by omega) (w8N_asc (by omega) (and_or0 q1.1).1)
                have e2 := validU_asc 8 p1 (by omega) (w8N_asc (by omega) (and_or0 q1.1).2)
                have e3 := validU_asc 8 p2 (by omega) (w8N_asc (by omega) (and_or0 q1.2).1)
                have e4 := validU_asc 8 p3 (by omega) (w8N_asc (by omega) (and_or0 q1.2).2)
                rw [hp1] at e1
                rw [← hp1, List.drop_drop, hp1, hp2] at e2
                rw [← hp2, List.drop_drop, hp2, hp3] at e3
                rw [← hp3, List.drop_drop, hp3, hp4] at e4
                rw [← hv', e1, e2, e3, e4]
              repeat' (first | rw [r1] | rw [r2] | rw [r3] | rw [a4] | (apply AL_callPw (u0); kernel_rfl; (iterate 4 exact rfl)) | (apply AL_callPw (u1); kernel_rfl; (iterate 4 exact rfl)) | (apply AL_callPw (u2); kernel_rfl; (iterate 4 exact rfl)) | (apply AL_callPw (u3); kernel_rfl; (iterate 4 exact rfl)) | (apply AL_from ttok; (iterate 8 exact rfl); (first | with_reducible assumption | exact Int.natCast_nonneg _ | exact (by decide)); (first | with_reducible assumption | decide | (simp only [List.length_cons, List.length_drop, List.length_take, List.length_append, Int.toNat_natCast] at *; omega)); (first | with_reducible assumption | exact rfl)) | (apply AL_move; exact rfl; exact rfl) | (apply AL_assign; exact rfl; exact rfl) | (apply AL_bin; (iterate 5 exact rfl)) | refine AL_nil ?_ | (apply AL_guardT; (iterate 3 exact rfl); (first | with_reducible assumption | decide +kernel)) | (apply AL_pickT; exact rfl; (first | with_reducible assumption | decide +kernel); exact rfl; exact rfl) | refine AW_region ?_ | refine AW_seq' ?_ | (apply AW_condA; exact rfl; (first | with_reducible assumption | decide +kernel)) | refine then_norm ?_ | refine blk_norm ?_ | refine AW_block ?_ | (apply AL_len ttok; (iterate 4 exact rfl)) | (apply AW_drawM 17 hmix; (decide +kernel); (kernel_rfl); (kernel_rfl); exact rfl; exact rfl) | (apply AD_cons; (iterate 3 exact rfl)) | refine AD.nil _ | exact qp_ok rfl | refine AW_skip ?_)
              refine Lands.mk' (m := p4.length) (by omega) ⟨p4, rfl, by omega, hv4, rfl, rfl, rfl⟩ ?_ rfl rfl rfl rfl rfl rfl
              exact .cons rfl (.cons rfl .nil)
            · rw [decide_eq_false t4] at a4
              repeat' (first | rw [r1] | rw [r2] | rw [r3] | rw [a4] | (apply AL_callPw (u0); kernel_rfl; (iterate 4 exact rfl)) | (apply AL_callPw (u1); kernel_rfl; (iterate 4 exact rfl)) | (apply AL_callPw (u2); kernel_rfl; (iterate 4 exact rfl)) | (apply AL_callPw (u3); kernel_rfl; (iterate 4 exact rfl)) | (apply AL_from ttok; (iterate 8 exact rfl); (first | with_reducible assumption | exact Int.natCast_nonneg _ | exact (by decide)); (first | with_reducible assumption | decide | (simp only [List.length_cons, List.length_drop, List.length_take, List.length_append, Int.toNat_natCast] at *; omega)); (first | with_reducible assumption | exact rfl)) | (apply AL_move; exact rfl; exact rfl) | (apply AL_bin; (iterate 5 exact rfl)) | refine AL_nil ?_ | (apply AL_guardT; (iterate 3 exact rfl); (first | with_reducible assumption | decide +kernel)) | (apply AL_pickT; exact rfl; (first | with_reducible assumption | decide +kernel); exact rfl; exact rfl) | refine AW_seq' ?_ | (apply AW_condB; exact rfl; (first | with_reducible assumption | decide +kernel)) | refine then_norm ?_ | refine AW_exit ?_ | refine then_exit ?_ | refine blk_exit ?_ | (apply AL_len ttok; (iterate 4 exact rfl)) | (apply AW_drawM 17 hmix; (decide +kernel); (kernel_rfl); (kernel_rfl); exact rfl; exact rfl) | (apply AD_cons; (iterate 3 exact rfl)) | refine AD.nil _ | exact qp_ok rfl)
              refine Lands.mk' (m := l'.length) (by omega) ⟨l', rfl, hv', rfl, rfl, rfl⟩ ?_ rfl rfl rfl rfl rfl rfl
              exact .cons rfl (.cons rfl .nil)
          · have d32 : decide (((l'.map E.byte).length : Int) > 32) = false := by simp; omega
            repeat' (first | (apply AL_move; exact rfl; exact rfl) | (apply AL_bin; (iterate 5 exact rfl)) | refine AL_nil ?_ | (apply AL_guardFt; (iterate 3 exact rfl); (first | with_reducible assumption | decide +kernel)) | (apply AL_pickF; exact rfl; (first | with_reducible assumption | decide +kernel); exact rfl; exact rfl) | refine AW_seq' ?_ | (apply AW_condB; exact rfl; (first | with_reducible assumption | decide +kernel)) | refine then_norm ?_ | refine AW_exit ?_ | refine then_exit ?_ | refine blk_exit ?_ | (apply AL_len ttok; (iterate 4 exact rfl)) | (apply AW_drawM 17 hmix; (decide +kernel); (kernel_rfl); (kernel_rfl); exact rfl; exact rfl) | (apply AD_cons; (iterate 3 exact rfl)) | refine AD.nil _ | exact qp_ok rfl)
            refine Lands.mk' (m := l'.length) (by omega) ⟨l', rfl, hv', rfl, rfl, rfl⟩ ?_ rfl rfl rfl rfl rfl rfl
            exact .cons rfl (.cons rfl .nil)
        · rw [decide_eq_false t2] at a2
          repeat' (first | rw [o1] | rw [a1] | rw [a2] | (apply AL_callPw (w1); kernel_rfl; (iterate 4 exact rfl)) | (apply AL_callPw (w2); kernel_rfl; (iterate 4 exact rfl)) | (apply AL_callPw (w3); kernel_rfl; (iterate 4 exact rfl)) | (apply AL_from ttok; (iterate 8 exact rfl); (first | with_reducible assumption | exact Int.natCast_nonneg _ | exact (by decide)); (first | with_reducible assumption | decide | (simp only [List.length_cons, List.length_drop, List.length_take, List.length_append, Int.toNat_natCast] at *; omega)); (first | with_reducible assumption | exact rfl)) | (apply AL_move; exact rfl; exact rfl) | (apply AL_assign; exact rfl; exact rfl) | (apply AL_bin; (iterate 5 exact rfl)) | refine AL_nil ?_ | (apply AL_guardT; (iterate 3 exact rfl); (first | with_reducible assumption | decide +kernel)) | (apply AL_pickT; exact rfl; (first | with_reducible assumption | decide +kernel); exact rfl; exact rfl) | refine AW_region ?_ | refine AW_seq' ?_ | (apply AW_condA; exact rfl; (first | with_reducible assumption | decide +kernel)) | (apply AW_condB; exact rfl; (first | with_reducible assumption | decide +kernel)) | refine then_norm ?_ | refine AW_block ?_ | refine AW_exit ?_ | refine then_exit ?_ | refine blk_exit ?_ | (apply AL_len ttok; (iterate 4 exact rfl)) | (apply AL_eload1 ttok; (iterate 6 exact rfl)) | (apply AW_drawM 8 hmix; (decide +kernel); (kernel_rfl); (kernel_rfl); exact rfl; exact rfl) | (apply AD_cons; (iterate 3 exact rfl)) | refine AD.nil _ | exact qp_ok rfl | refine AW_skip ?_ | (apply AL_idx ttok; (iterate 6 exact rfl); (first | with_reducible assumption | decide +kernel | exact Int.natCast_nonneg _ | (guard_target = (0:Int) ≤ (OfNat.ofNat _ : Int); decide) | rotate_left); (first | with_reducible assumption | decide +kernel | exact rfl); (first | exact uniB_ok rfl | with_reducible assumption | decide +kernel | rotate_left)))
          refine Lands.mk' (m := p.length) (by omega) ⟨p, rfl, hv2, rfl, rfl, rfl⟩ ?_ rfl rfl rfl rfl rfl rfl
          exact .cons rfl (.cons rfl .nil)
      · have d16 : decide (((p.map E.byte).length : Int) > 16) = false := by simp; omega
        repeat' (first | rw [a1] | (apply AL_callPw (w1); kernel_rfl; (iterate 4 exact rfl)) | (apply AL_from ttok; (iterate 8 exact rfl); (first | with_reducible assumption | exact Int.natCast_nonneg _ | exact (by decide)); (first | with_reducible assumption | decide | (simp only [List.length_cons, List.length_drop, List.length_take, List.length_append, Int.toNat_natCast] at *; omega)); (first | with_reducible assumption | exact rfl)) | (apply AL_move; exact rfl; exact rfl) | (apply AL_assign; exact rfl; exact rfl) | (apply AL_bin; (iterate 5 exact rfl)) | refine AL_nil ?_ | (apply AL_guardT; (iterate 3 exact rfl); (first | with_reducible assumption | decide +kernel)) | (apply AL_guardFt; (iterate 3 exact rfl); (first | with_reducible assumption | decide +kernel)) | (apply AL_pickT; exact rfl; (first | with_reducible assumption | decide +kernel); exact rfl; exact rfl) | (apply AL_pickF; exact rfl; (first | with_reducible assumption | decide +kernel); exact rfl; exact rfl) | refine AW_region ?_ | refine AW_seq' ?_ | (apply AW_condA; exact rfl; (first | with_reducible assumption | decide +kernel)) | (apply AW_condB; exact rfl; (first | with_reducible assumption | decide +kernel)) | refine then_norm ?_ | refine AW_block ?_ | refine AW_exit ?_ | refine then_exit ?_ | refine blk_exit ?_ | (apply AL_len ttok; (iterate 4 exact rfl)) | (apply AL_eload1 ttok; (iterate 6 exact rfl)) | (apply AW_drawM 8 hmix; (decide +kernel); (kernel_rfl); (kernel_rfl); exact rfl; exact rfl) | (apply AD_cons; (iterate 3 exact rfl)) | refine AD.nil _ | exact qp_ok rfl | refine AW_skip ?_ | (apply AL_idx ttok; (iterate 6 exact rfl); (first | with_reducible assumption | decide +kernel | exact Int.natCast_nonneg _ | (guard_target = (0:Int) ≤ (OfNat.ofNat _ : Int); decide) | rotate_left); (first | with_reducible assumption | decide +kernel | exact rfl); (first | exact uniB_ok rfl | with_reducible assumption | decide +kernel | rotate_left)))
        refine Lands.mk' (m := p.length) (by omega) ⟨p, rfl, hv2, rfl, rfl, rfl⟩ ?_ rfl rfl rfl rfl rfl rfl
        exact .cons rfl (.cons rfl .nil)
    · rw [decide_eq_false t1] at a1
      repeat' (first | rw [a1] | (apply AL_callPw (w1); kernel_rfl; (iterate 4 exact rfl)) | (apply AL_from ttok; (iterate 8 exact rfl); (first | with_reducible assumption | exact Int.natCast_nonneg _ | exact (by decide)); (first | with_reducible assumption | decide | (simp only [List.length_cons, List.length_drop, List.length_take, List.length_append, Int.toNat_natCast] at *; omega)); (first | with_reducible assumption | exact rfl)) | (apply AL_move; exact rfl; exact rfl) | (apply AL_assign; exact rfl; exact rfl) | (apply AL_bin; (iterate 5 exact rfl)) | refine AL_nil ?_ | (apply AL_guardT; (iterate 3 exact rfl); (first | with_reducible assumption | decide +kernel)) | (apply AL_pickT; exact rfl; (first | with_reducible assumption | decide +kernel); exact rfl; exact rfl) | refine AW_region ?_ | refine AW_seq' ?_ | (apply AW_condA; exact rfl; (first | with_reducible assumption | decide +kernel)) | (apply AW_condB; exact rfl; (first | with_reducible assumption | decide +kernel)) | refine then_norm ?_ | refine AW_block ?_ | refine AW_exit ?_ | refine then_exit ?_ | refine blk_exit ?_ | (apply AL_len ttok; (iterate 4 exact rfl)) | (apply AL_eload1 ttok; (iterate 6 exact rfl)) | refine AW_skip ?_ | (apply AL_idx ttok; (iterate 6 exact rfl); (first | with_reducible assumption | decide +kernel | exact Int.natCast_nonneg _ | (guard_target = (0:Int) ≤ (OfNat.ofNat _ : Int); decide) | rotate_left); (first | with_reducible assumption | decide +kernel | exact rfl); (first | exact uniB_ok rfl | with_reducible assumption | decide +kernel | rotate_left)))
      refine Lands.mk' (m := r.length) (by omega) ⟨r, rfl, hv1, rfl, rfl, rfl⟩ ?_ rfl rfl rfl rfl rfl rfl
      exact .cons rfl (.cons rfl .nil)
  · have d8 : decide (((r.map E.byte).length : Int) > 8) = false := by simp; omega
    repeat' (first | (apply AL_from ttok; (iterate 8 exact rfl); (first | with_reducible assumption | exact Int.natCast_nonneg _ | exact (by decide)); (first | with_reducible assumption | decide | (simp only [List.length_cons, List.length_drop, List.length_take, List.length_append, Int.toNat_natCast] at *; omega)); (first | with_reducible assumption | exact rfl)) | (apply AL_move; exact rfl; exact rfl) | (apply AL_assign; exact rfl; exact rfl) | (apply AL_bin; (iterate 5 exact rfl)) | refine AL_nil ?_ | (apply AL_guardFt; (iterate 3 exact rfl); (first | with_reducible assumption | decide +kernel)) | (apply AL_pickF; exact rfl; (first | with_reducible assumption | decide +kernel); exact rfl; exact rfl) | refine AW_region ?_ | refine AW_seq' ?_ | (apply AW_condA; exact rfl; (first | with_reducible assumption | decide +kernel)) | (apply AW_condB; exact rfl; (first | with_reducible assumption | decide +kernel)) | refine then_norm ?_ | refine AW_block ?_ | refine AW_exit ?_ | refine then_exit ?_ | refine blk_exit ?_ | (apply AL_len ttok; (iterate 4 exact rfl)) | (apply AL_eload1 ttok; (iterate 6 exact rfl)) | refine AW_skip ?_ | (apply AL_idx ttok; (iterate 6 exact rfl); (first | with_reducible assumption | decide +kernel | exact Int.natCast_nonneg _ | (guard_target = (0:Int) ≤ (OfNat.ofNat _ : Int); decide) | rotate_left); (first | with_reducible assumption | decide +kernel | exact rfl); (first | exact uniB_ok rfl | with_reducible assumption | decide +kernel | rotate_left)))
    refine Lands.mk' (m := r.length) (by omega) ⟨r, rfl, hv1, rfl, rfl, rfl⟩ ?_ rfl rfl rfl rfl rfl rfl
    exact .cons rfl (.cons rfl .nil)
end Go.Proofs.YtnihobjehelagaaDoor
end
/- unicode/utf8.Valid: the rounds. -/
section
open Go.RowKit Go.Pl Go.Av
namespace Go.Proofs.YtnihobjehelagaaDoor
set_option linter.unusedVariables false
set_option linter.unusedSimpArgs false
set_option maxHeartbeats 4000000
set_option maxRecDepth 10000 in
theorem v_r1 [Known] [KnownU8] (b : List UInt8) (hb : b.length ≤ 1099511627776) (K : St → Prop) (k : Nat) (c : UInt8) (r : List UInt8) (hk : k = r.length + 1) (hv : validU (c :: r) = validU b) (hc : ¬ c.toNat < 128) (i lo hi : Nat) (e7 : bits .and .u8 (fT c.toNat : Int) 7 = ((1 : Nat) : Int)) (e4 : ((fT c.toNat : Nat) : Int).fdiv (2 ^ min (Int.toNat 4) IntKind.u8.bits) = (i : Int)) (hi16 : i < 16)
    (hvs : (((List.range 16).flatMap aT).drop (0 + ((i : Nat) : Int).toNat * 2)).take 2 = [.int .u8 (lo : Int), .int .u8 (hi : Int)]) (hp : ptN c.toNat = 0) : AW Tryd.prog (loopBody (Tryd.f122.body.getD .skip)) (vS (c :: r)) (vQ b (validU b) k K) := by
  conv => enter [3]; whnf
  have hU := uniB1 (c :: r)
  have hlen : decide ((((c :: r).map E.byte).length : Int) > 0) = true := by simp
  have dc : decide ((c.toNat : Int) < 128) = false := by simp; omega
  have hlt : ((c.toNat : Nat) : Int).toNat < 256 := by rw [Int.toNat_natCast]; exact c.toNat_lt
  have hlt2 : ((i : Nat) : Int).toNat < 16 := by rw [Int.toNat_natCast]; exact hi16
  have hfa := first_at c
  have hks := KnownU8.first
  have hka := KnownU8.accept
  have htf := tab_first
  have hta := tab_accept
  rw [← hv, v0 hp]
  repeat' (first | rw [e7] | rw [e4] | (apply AL_gidx ttok; (iterate 6 exact rfl); exact Int.natCast_nonneg _; assumption) | (apply AL_gload1 ttok; (iterate 3 exact rfl); assumption; assumption; assumption; exact rfl; exact rfl) | (apply AL_gloadn ttok; (iterate 3 exact rfl); assumption; assumption; assumption; (iterate 3 exact rfl)) | (apply AL_move; exact rfl; exact rfl) | (apply AL_assign; exact rfl; exact rfl) | (apply AL_bin; (iterate 5 exact rfl)) | (apply AL_store ttok; (iterate 8 exact rfl)) | (apply AL_convT ttok; (iterate 5 exact rfl)) | refine AL_nil ?_ | refine AW_region ?_ | refine AW_seq' ?_ | (apply AW_condA; exact rfl; (first | with_reducible assumption | decide +kernel)) | (apply AW_condB; exact rfl; (first | with_reducible assumption | decide +kernel)) | refine then_norm ?_ | refine AW_block ?_ | refine AW_ret ?_ | refine then_ret ?_ | refine blk_ret ?_ | (apply AL_len ttok; (iterate 4 exact rfl)) | (apply AL_eload1 ttok; (iterate 6 exact rfl)) | (apply AL_alloc ttok; (iterate 4 exact rfl)) | refine AW_skip ?_ | (apply AL_idx ttok; (iterate 6 exact rfl); (first | with_reducible assumption | decide +kernel | exact Int.natCast_nonneg _ | (guard_target = (0:Int) ≤ (OfNat.ofNat _ : Int); decide) | rotate_left); (first | with_reducible assumption | decide +kernel | exact rfl); (first | exact uniB_ok rfl | with_reducible assumption | decide +kernel | rotate_left)) | (apply AL_shr; exact rfl; exact rfl; (first | with_reducible assumption | decide +kernel | exact Int.natCast_nonneg _ | (exact (by decide)) | rotate_left); exact rfl))
  all_goals (apply endQ []; (repeat (first | exact ResL.nil | (apply ResL.cons; first | exact .tmp _ _ rfl | (apply res_n ttok; (iterate 6 exact rfl)) | (apply res_1 ttok; (iterate 5 exact rfl))))); (iterate 4 exact rfl))
  all_goals rfl
set_option maxRecDepth 10000 in
theorem v_r2 [Known] [KnownU8] (b : List UInt8) (hb : b.length ≤ 1099511627776) (K : St → Prop) (k : Nat) (c : UInt8) (r : List UInt8) (hk : k = r.length + 1) (hv : validU (c :: r) = validU b) (hc : ¬ c.toNat < 128) (i lo hi : Nat) (e7 : bits .and .u8 (fT c.toNat : Int) 7 = ((2 : Nat) : Int)) (e4 : ((fT c.toNat : Nat) : Int).fdiv (2 ^ min (Int.toNat 4) IntKind.u8.bits) = (i : Int)) (hi16 : i < 16)
    (hvs : (((List.range 16).flatMap aT).drop (0 + ((i : Nat) : Int).toNat * 2)).take 2 = [.int .u8 (lo : Int), .int .u8 (hi : Int)]) (hp : ptN c.toNat = 2) (hlo : lo = ptLo c.toNat) (hhi : hi = ptHi c.toNat) : AW Tryd.prog (loopBody (Tryd.f122.body.getD .skip)) (vS (c :: r)) (vQ b (validU b) k K) := by
  conv => enter [3]; whnf
  subst hlo hhi
  have hU := uniB1 (c :: r)
  have hlen : decide ((((c :: r).map E.byte).length : Int) > 0) = true := by simp
  have dc : decide ((c.toNat : Int) < 128) = false := by simp; omega
  have hlt : ((c.toNat : Nat) : Int).toNat < 256 := by rw [Int.toNat_natCast]; exact c.toNat_lt
  have hlt2 : ((i : Nat) : Int).toNat < 16 := by rw [Int.toNat_natCast]; exact hi16
  have hfa := first_at c
  have hks := KnownU8.first
  have hka := KnownU8.accept
  have htf := tab_first
  have hta := tab_accept
  cases r with
  | nil =>
    have hl : decide (((([c] : List UInt8).map E.byte).length : Int) < 2) = true := rfl
    rw [← hv, v2s hp]
    repeat' (first | rw [e7] | rw [e4] | (apply AL_gidx ttok; (iterate 6 exact rfl); exact Int.natCast_nonneg _; assumption) | (apply AL_gload1 ttok; (iterate 3 exact rfl); assumption; assumption; assumption; exact rfl; exact rfl) | (apply AL_gloadn ttok; (iterate 3 exact rfl); assumption; assumption; assumption; (iterate 3 exact rfl)) | (apply AL_move; exact rfl; exact rfl) | (apply AL_assign; exact rfl; exact rfl) | (apply AL_bin; (iterate 5 exact rfl)) | (apply AL_store ttok; (iterate 8 exact rfl)) | (apply AL_convT ttok; (iterate 5 exact rfl)) | refine AL_nil ?_ | (apply AL_guardFf; (iterate 3 exact rfl); (first | with_reducible assumption | decide +kernel)) | (apply AL_pickT; exact rfl; (first | with_reducible assumption | decide +kernel); exact rfl; exact rfl) | refine AW_region ?_ | refine AW_seq' ?_ | (apply AW_condA; exact rfl; (first | with_reducible assumption | decide +kernel)) | (apply AW_condB; exact rfl; (first | with_reducible assumption | decide +kernel)) | refine then_norm ?_ | refine AW_block ?_ | refine AW_ret ?_ | refine then_ret ?_ | refine blk_ret ?_ | (apply AL_len ttok; (iterate 4 exact rfl)) | (apply AL_eload1 ttok; (iterate 6 exact rfl)) | (apply AL_alloc ttok; (iterate 4 exact rfl)) | (apply AW_drawM 17 hmix; (decide +kernel); (kernel_rfl); (kernel_rfl); exact rfl; exact rfl) | (apply AD_cons; (iterate 3 exact rfl)) | refine AD.nil _ | exact qp_ok rfl | refine AW_skip ?_ | (apply AL_idx ttok; (iterate 6 exact rfl); (first | with_reducible assumption | decide +kernel | exact Int.natCast_nonneg _ | (guard_target = (0:Int) ≤ (OfNat.ofNat _ : Int); decide) | rotate_left); (first | with_reducible assumption | decide +kernel | exact rfl); (first | exact uniB_ok rfl | with_reducible assumption | decide +kernel | rotate_left)) | (apply AL_shr; exact rfl; exact rfl; (first | with_reducible assumption | decide +kernel | exact Int.natCast_nonneg _ | (exact (by decide)) | rotate_left); exact rfl))
    all_goals (apply endQ []; (repeat (first | exact ResL.nil | (apply ResL.cons; first | exact .tmp _ _ rfl | (apply res_n ttok; (iterate 6 exact rfl)) | (apply res_1 ttok; (iterate 5 exact rfl))))); (iterate 4 exact rfl))
    all_goals rfl
  | cons c1 r =>
    have hl : decide ((((c :: c1 :: r).map E.byte).length : Int) < 2) = false := by simp; omega
    have xd : (c :: c1 :: r).drop (Int.toNat 2) = r := rfl
    rw [v2 hp] at hv
    cases b1 : decide ((c1.toNat : Int) < (ptLo c.toNat : Int)) with
    | true =>
      have hf : validU b = false := by
        rw [← hv]
        have := of_decide_eq_true b1
        have q : inB c1.toNat (ptLo c.toNat) (ptHi c.toNat) = false := by simp [inB]; omega
        rw [q]; simp
      rw [hf]
      repeat' (first | rw [e7] | rw [e4] | (apply AL_gidx ttok; (iterate 6 exact rfl); exact Int.natCast_nonneg _; assumption) | (apply AL_gload1 ttok; (iterate 3 exact rfl); assumption; assumption; assumption; exact rfl; exact rfl) | (apply AL_gloadn ttok; (iterate 3 exact rfl); assumption; assumption; assumption; (iterate 3 exact rfl)) | (apply AL_move; exact rfl; exact rfl) | (apply AL_assign; exact rfl; exact rfl) | (apply AL_bin; (iterate 5 exact rfl)) | (apply AL_load1 ttok; (iterate 6 exact rfl)) | (apply AL_fieldAddr ttok; (iterate 7 exact rfl)) | (apply AL_store ttok; (iterate 8 exact rfl)) | (apply AL_convT ttok; (iterate 5 exact rfl)) | refine AL_nil ?_ | (apply AL_guardT; (iterate 3 exact rfl); (first | with_reducible assumption | decide +kernel)) | (apply AL_guardFf; (iterate 3 exact rfl); (first | with_reducible assumption | decide +kernel)) | (apply AL_pickT; exact rfl; (first | with_reducible assumption | decide +kernel); exact rfl; exact rfl) | (apply AL_pickF; exact rfl; (first | with_reducible assumption | decide +kernel); exact rfl; exact rfl) | refine AW_region ?_ | refine AW_seq' ?_ | (apply AW_condA; exact rfl; (first | with_reducible assumption | decide +kernel)) | (apply AW_condB; exact rfl; (first | with_reducible assumption | decide +kernel)) | refine then_norm ?_ | refine AW_block ?_ | refine AW_ret ?_ | refine then_ret ?_ | refine blk_ret ?_ | (apply AL_len ttok; (iterate 4 exact rfl)) | (apply AL_eload1 ttok; (iterate 6 exact rfl)) | (apply AL_alloc ttok; (iterate 4 exact rfl)) | (apply AW_drawM 17 hmix; (decide +kernel); (kernel_rfl); (kernel_rfl); exact rfl; exact rfl) | (apply AD_cons; (iterate 3 exact rfl)) | refine AD.nil _ | exact qp_ok rfl | refine AW_skip ?_ | (apply AL_idx ttok; (iterate 6 exact rfl); (first | with_reducible assumption | decide +kernel | exact Int.natCast_nonneg _ | (guard_target = (0:Int) ≤ (OfNat.ofNat _ : Int); decide) | rotate_left); (first | with_reducible assumption | decide +kernel | exact rfl); (first | exact uniB_ok rfl | with_reducible assumption | decide +kernel | rotate_left)) | (apply AL_shr; exact rfl; exact rfl; (first | with_reducible assumption | decide +kernel | exact Int.natCast_nonneg _ | (exact (by decide)) | rotate_left); exact rfl))
      all_goals (apply endQ []; (repeat (first | exact ResL.nil | (apply ResL.cons; first | exact .tmp _ _ rfl | (apply res_n ttok; (iterate 6 exact rfl)) | (apply res_1 ttok; (iterate 5 exact rfl))))); (iterate 4 exact rfl))
      all_goals rfl
    | false =>
      cases b2 : decide ((ptHi c.toNat : Int) < (c1.toNat : Int)) with
      | true =>
        have hf : validU b = false := by
          rw [← hv]
          have := of_decide_eq_true b2
          have q : inB c1.toNat (ptLo c.toNat) (ptHi c.toNat) = false := by simp [inB]; omega
          rw [q]; simp
        rw [hf]
        repeat' (first | rw [e7] | rw [e4] | (apply AL_gidx ttok; (iterate 6 exact rfl); exact Int.natCast_nonneg _; assumption) | (apply AL_gload1 ttok; (iterate 3 exact rfl); assumption; assumption; assumption; exact rfl; exact rfl) | (apply AL_gloadn ttok; (iterate 3 exact rfl); assumption; assumption; assumption; (iterate 3 exact rfl)) | (apply AL_move; exact rfl; exact rfl) | (apply AL_assign; exact rfl; exact rfl) | (apply AL_bin; (iterate 5 exact rfl)) | (apply AL_load1 ttok; (iterate 6 exact rfl)) | (apply AL_fieldAddr ttok; (iterate 7 exact rfl)) | (apply AL_store ttok; (iterate 8 exact rfl)) | (apply AL_convT ttok; (iterate 5 exact rfl)) | refine AL_nil ?_ | (apply AL_guardT; (iterate 3 exact rfl); (first | with_reducible assumption | decide +kernel)) | (apply AL_pickF; exact rfl; (first | with_reducible assumption | decide +kernel); exact rfl; exact rfl) | refine AW_region ?_ | refine AW_seq' ?_ | (apply AW_condA; exact rfl; (first | with_reducible assumption | decide +kernel)) | (apply AW_condB; exact rfl; (first | with_reducible assumption | decide +kernel)) | refine then_norm ?_ | refine AW_block ?_ | refine AW_ret ?_ | refine then_ret ?_ | refine blk_ret ?_ | (apply AL_len ttok; (iterate 4 exact rfl)) | (apply AL_eload1 ttok; (iterate 6 exact rfl)) | (apply AL_alloc ttok; (iterate 4 exact rfl)) | (apply AW_drawM 17 hmix; (decide +kernel); (kernel_rfl); (kernel_rfl); exact rfl; exact rfl) | (apply AD_cons; (iterate 3 exact rfl)) | refine AD.nil _ | exact qp_ok rfl | refine AW_skip ?_ | (apply AL_idx ttok; (iterate 6 exact rfl); (first | with_reducible assumption | decide +kernel | exact Int.natCast_nonneg _ | (guard_target = (0:Int) ≤ (OfNat.ofNat _ : Int); decide) | rotate_left); (first | with_reducible assumption | decide +kernel | exact rfl); (first | exact uniB_ok rfl | with_reducible assumption | decide +kernel | rotate_left)) | (apply AL_shr; exact rfl; exact rfl; (first | with_reducible assumption | decide +kernel | exact Int.natCast_nonneg _ | (exact (by decide)) | rotate_left); exact rfl))
        all_goals (apply endQ []; (repeat (first | exact ResL.nil | (apply ResL.cons; first | exact .tmp _ _ rfl | (apply res_n ttok; (iterate 6 exact rfl)) | (apply res_1 ttok; (iterate 5 exact rfl))))); (iterate 4 exact rfl))
        all_goals rfl
      | false =>
        have hv2 : validU r = validU b := by
          rw [← hv]
          have := of_decide_eq_false b1
          have := of_decide_eq_false b2
          have q1 : inB c1.toNat (ptLo c.toNat) (ptHi c.toNat) = true := by simp [inB]; omega
          rw [q1]; rfl
        repeat' (first | rw [e7] | rw [e4] | (apply AL_gidx ttok; (iterate 6 exact rfl); exact Int.natCast_nonneg _; assumption) | (apply AL_gload1 ttok; (iterate 3 exact rfl); assumption; assumption; assumption; exact rfl; exact rfl) | (apply AL_gloadn ttok; (iterate 3 exact rfl); assumption; assumption; assumption; (iterate 3 exact rfl)) | (apply AL_from ttok; (iterate 8 exact rfl); (first | with_reducible assumption | exact Int.natCast_nonneg _ | exact (by decide)); (first | with_reducible assumption | decide | (simp only [List.length_cons, List.length_drop, List.length_take, List.length_append, Int.toNat_natCast] at *; omega)); (first | with_reducible assumption | exact rfl)) | (apply AL_move; exact rfl; exact rfl) | (apply AL_assign; exact rfl; exact rfl) | (apply AL_bin; (iterate 5 exact rfl)) | (apply AL_load1 ttok; (iterate 6 exact rfl)) | (apply AL_fieldAddr ttok; (iterate 7 exact rfl)) | (apply AL_store ttok; (iterate 8 exact rfl)) | (apply AL_convT ttok; (iterate 5 exact rfl)) | refine AL_nil ?_ | (apply AL_guardT; (iterate 3 exact rfl); (first | with_reducible assumption | decide +kernel)) | (apply AL_pickF; exact rfl; (first | with_reducible assumption | decide +kernel); exact rfl; exact rfl) | refine AW_region ?_ | refine AW_seq' ?_ | (apply AW_condA; exact rfl; (first | with_reducible assumption | decide +kernel)) | (apply AW_condB; exact rfl; (first | with_reducible assumption | decide +kernel)) | refine then_norm ?_ | refine blk_norm ?_ | refine AW_block ?_ | (apply AL_len ttok; (iterate 4 exact rfl)) | (apply AL_eload1 ttok; (iterate 6 exact rfl)) | (apply AL_alloc ttok; (iterate 4 exact rfl)) | (apply AW_drawM 17 hmix; (decide +kernel); (kernel_rfl); (kernel_rfl); exact rfl; exact rfl) | (apply AD_cons; (iterate 3 exact rfl)) | refine AD.nil _ | exact qp_ok rfl | refine AW_skip ?_ | (apply AL_idx ttok; (iterate 6 exact rfl); (first | with_reducible assumption | decide +kernel | exact Int.natCast_nonneg _ | (guard_target = (0:Int) ≤ (OfNat.ofNat _ : Int); decide) | rotate_left); (first | with_reducible assumption | decide +kernel | exact rfl); (first | exact uniB_ok rfl | with_reducible assumption | decide +kernel | rotate_left)) | (apply AL_shr; exact rfl; exact rfl; (first | with_reducible assumption | decide +kernel | exact Int.natCast_nonneg _ | (exact (by decide)) | rotate_left); exact rfl))
        refine Lands.mk' (m := r.length) (by simp only [List.length_cons] at hk; omega) ⟨r, rfl, hv2, rfl, rfl, rfl⟩ ?_ rfl rfl rfl rfl rfl rfl
        exact .cons rfl (.cons rfl .nil)
set_option maxRecDepth 10000 in
theorem v_r3 [Known] [KnownU8] (b : List UInt8) (hb : b.length ≤ 1099511627776) (K : St → Prop) (k : Nat) (c : UInt8) (r : List UInt8) (hk : k = r.length + 1) (hv : validU (c :: r) = validU b) (hc : ¬ c.toNat < 128) (i lo hi : Nat) (e7 : bits .and .u8 (fT c.toNat : Int) 7 = ((3 : Nat) : Int)) (e4 : ((fT c.toNat : Nat) : Int).fdiv (2 ^ min (Int.toNat 4) IntKind.u8.bits) = (i : Int)) (hi16 : i < 16)
    (hvs : (((List.range 16).flatMap aT).drop (0 + ((i : Nat) : Int).toNat * 2)).take 2 = [.int .u8 (lo : Int), .int .u8 (hi : Int)]) (hp : ptN c.toNat = 3) (hlo : lo = ptLo c.toNat) (hhi : hi = ptHi c.toNat) : AW Tryd.prog (loopBody (Tryd.f122.body.getD .skip)) (vS (c :: r)) (vQ b (validU b) k K) := by
  conv => enter [3]; whnf
  subst hlo hhi
  have hU := uniB1 (c :: r)
  have hlen : decide ((((c :: r).map E.byte).length : Int) > 0) = true := by simp
  have dc : decide ((c.toNat : Int) < 128) = false := by simp; omega
  have hlt : ((c.toNat : Nat) : Int).toNat < 256 := by rw [Int.toNat_natCast]; exact c.toNat_lt
  have hlt2 : ((i : Nat) : Int).toNat < 16 := by rw [Int.toNat_natCast]; exact hi16
  have hfa := first_at c
  have hks := KnownU8.first
  have hka := KnownU8.accept
  have htf := tab_first
  have hta := tab_accept
  cases r with
  | nil =>
    have hl : decide (((([c] : List UInt8).map E.byte).length : Int) < 3) = true := rfl
    rw [← hv, v3s hp [] (by simp)]
    repeat' (first | rw [e7] | rw [e4] | (apply AL_gidx ttok; (iterate 6 exact rfl); exact Int.natCast_nonneg _; assumption) | (apply AL_gload1 ttok; (iterate 3 exact rfl); assumption; assumption; assumption; exact rfl; exact rfl) | (apply AL_gloadn ttok; (iterate 3 exact rfl); assumption; assumption; assumption; (iterate 3 exact rfl)) | (apply AL_move; exact rfl; exact rfl) | (apply AL_assign; exact rfl; exact rfl) | (apply AL_bin; (iterate 5 exact rfl)) | (apply AL_store ttok; (iterate 8 exact rfl)) | (apply AL_convT ttok; (iterate 5 exact rfl)) | refine AL_nil ?_ | (apply AL_guardFf; (iterate 3 exact rfl); (first | with_reducible assumption | decide +kernel)) | (apply AL_pickT; exact rfl; (first | with_reducible assumption | decide +kernel); exact rfl; exact rfl) | refine AW_region ?_ | refine AW_seq' ?_ | (apply AW_condA; exact rfl; (first | with_reducible assumption | decide +kernel)) | (apply AW_condB; exact rfl; (first | with_reducible assumption | decide +kernel)) | refine then_norm ?_ | refine AW_block ?_ | refine AW_ret ?_ | refine then_ret ?_ | refine blk_ret ?_ | (apply AL_len ttok; (iterate 4 exact rfl)) | (apply AL_eload1 ttok; (iterate 6 exact rfl)) | (apply AL_alloc ttok; (iterate 4 exact rfl)) | (apply AW_drawM 17 hmix; (decide +kernel); (kernel_rfl); (kernel_rfl); exact rfl; exact rfl) | (apply AD_cons; (iterate 3 exact rfl)) | refine AD.nil _ | exact qp_ok rfl | refine AW_skip ?_ | (apply AL_idx ttok; (iterate 6 exact rfl); (first | with_reducible assumption | decide +kernel | exact Int.natCast_nonneg _ | (guard_target = (0:Int) ≤ (OfNat.ofNat _ : Int); decide) | rotate_left); (first | with_reducible assumption | decide +kernel | exact rfl); (first | exact uniB_ok rfl | with_reducible assumption | decide +kernel | rotate_left)) | (apply AL_shr; exact rfl; exact rfl; (first | with_reducible assumption | decide +kernel | exact Int.natCast_nonneg _ | (exact (by decide)) | rotate_left); exact rfl))
    all_goals (apply endQ []; (repeat (first | exact ResL.nil | (apply ResL.cons; first | exact .tmp _ _ rfl | (apply res_n ttok; (iterate 6 exact rfl)) | (apply res_1 ttok; (iterate 5 exact rfl))))); (iterate 4 exact rfl))
    all_goals rfl
  | cons c1 r =>
    cases r with
    | nil =>
      have hl : decide (((([c, c1] : List UInt8).map E.byte).length : Int) < 3) = true := rfl
      rw [← hv, v3s hp [c1] (by simp)]
      repeat' (first | rw [e7] | rw [e4] | (apply AL_gidx ttok; (iterate 6 exact rfl); exact Int.natCast_nonneg _; assumption) | (apply AL_gload1 ttok; (iterate 3 exact rfl); assumption; assumption; assumption; exact rfl; exact rfl) | (apply AL_gloadn ttok; (iterate 3 exact rfl); assumption; assumption; assumption; (iterate 3 exact rfl)) | (apply AL_move; exact rfl; exact rfl) | (apply AL_assign; exact rfl; exact rfl) | (apply AL_bin; (iterate 5 exact rfl)) | (apply AL_store ttok; (iterate 8 exact rfl)) | (apply AL_convT ttok; (iterate 5 exact rfl)) | refine AL_nil ?_ | (apply AL_guardFf; (iterate 3 exact rfl); (first | with_reducible assumption | decide +kernel)) | (apply AL_pickT; exact rfl; (first | with_reducible assumption | decide +kernel); exact rfl; exact rfl) | refine AW_region ?_ | refine AW_seq' ?_ | (apply AW_condA; exact rfl; (first | with_reducible assumption | decide +kernel)) | (apply AW_condB; exact rfl; (first | with_reducible assumption | decide +kernel)) | refine then_norm ?_ | refine AW_block ?_ | refine AW_ret ?_ | refine then_ret ?_ | refine blk_ret ?_ | (apply AL_len ttok; (iterate 4 exact rfl)) | (apply AL_eload1 ttok; (iterate 6 exact rfl)) | (apply AL_alloc ttok; (iterate 4 exact rfl)) | (apply AW_drawM 17 hmix; (decide +kernel); (kernel_rfl); (kernel_rfl); exact rfl; exact rfl) | (apply AD_cons; (iterate 3 exact rfl)) | refine AD.nil _ | exact qp_ok rfl | refine AW_skip ?_ | (apply AL_idx ttok; (iterate 6 exact rfl); (first | with_reducible assumption | decide +kernel | exact Int.natCast_nonneg _ | (guard_target = (0:Int) ≤ (OfNat.ofNat _ : Int); decide) | rotate_left); (first | with_reducible assumption | decide +kernel | exact rfl); (first | exact uniB_ok rfl | with_reducible assumption | decide +kernel | rotate_left)) | (apply AL_shr; exact rfl; exact rfl; (first | with_reducible assumption | decide +kernel | exact Int.natCast_nonneg _ | (exact (by decide)) | rotate_left); exact rfl))
      all_goals (apply endQ []; (repeat (first | exact ResL.nil | (apply ResL.cons; first | exact .tmp _ _ rfl | (apply res_n ttok; (iterate 6 exact rfl)) | (apply res_1 ttok; (iterate 5 exact rfl))))); (iterate 4 exact rfl))
      all_goals rfl
    | cons c2 r =>
      have hl : decide ((((c :: c1 :: c2 :: r).map E.byte).length : Int) < 3) = false := by simp; omega
      have xd : (c :: c1 :: c2 :: r).drop (Int.toNat 3) = r := rfl
      rw [v3 hp] at hv
      cases b1 : decide ((c1.toNat : Int) < (ptLo c.toNat : Int)) with
      | true =>
        have hf : validU b = false := by
          rw [← hv]
          have := of_decide_eq_true b1
          have q : inB c1.toNat (ptLo c.toNat) (ptHi c.toNat) = false := by simp [inB]; omega
          rw [q]; simp
        rw [hf]
        repeat' (first | rw [e7] | rw [e4] | (apply AL_gidx ttok; (iterate 6 exact rfl); exact Int.natCast_nonneg _; assumption) | (apply AL_gload1 ttok; (iterate 3 exact rfl); assumption; assumption; assumption; exact rfl; exact rfl) | (apply AL_gloadn ttok; (iterate 3 exact rfl); assumption; assumption; assumption; (iterate 3 exact rfl)) | (apply AL_move; exact rfl; exact rfl) | (apply AL_assign; exact rfl; exact rfl) | (apply AL_bin; (iterate 5 exact rfl)) | (apply AL_load1 ttok; (iterate 6 exact rfl)) | (apply AL_fieldAddr ttok; (iterate 7 exact rfl)) | (apply AL_store ttok; (iterate 8 exact rfl)) | (apply AL_convT ttok; (iterate 5 exact rfl)) | refine AL_nil ?_ | (apply AL_guardT; (iterate 3 exact rfl); (first | with_reducible assumption | decide +kernel)) | (apply AL_guardFf; (iterate 3 exact rfl); (first | with_reducible assumption | decide +kernel)) | (apply AL_pickT; exact rfl; (first | with_reducible assumption | decide +kernel); exact rfl; exact rfl) | (apply AL_pickF; exact rfl; (first | with_reducible assumption | decide +kernel); exact rfl; exact rfl) | refine AW_region ?_ | refine AW_seq' ?_ | (apply AW_condA; exact rfl; (first | with_reducible assumption | decide +kernel)) | (apply AW_condB; exact rfl; (first | with_reducible assumption | decide +kernel)) | refine then_norm ?_ | refine AW_block ?_ | refine AW_ret ?_ | refine then_ret ?_ | refine blk_ret ?_ | (apply AL_len ttok; (iterate 4 exact rfl)) | (apply AL_eload1 ttok; (iterate 6 exact rfl)) | (apply AL_alloc ttok; (iterate 4 exact rfl)) | (apply AW_drawM 17 hmix; (decide +kernel); (kernel_rfl); (kernel_rfl); exact rfl; exact rfl) | (apply AD_cons; (iterate 3 exact rfl)) | refine AD.nil _ | exact qp_ok rfl | refine AW_skip ?_ | (apply AL_idx ttok; (iterate 6 exact rfl); (first | with_reducible assumption | decide +kernel | exact Int.natCast_nonneg _ | (guard_target = (0:Int) ≤ (OfNat.ofNat _ : Int); decide) | rotate_left); (first | with_reducible assumption | decide +kernel | exact rfl); (first | exact uniB_ok rfl | with_reducible assumption | decide +kernel | rotate_left)) | (apply AL_shr; exact rfl; exact rfl; (first | with_reducible assumption | decide +kernel | exact Int.natCast_nonneg _ | (exact (by decide)) | rotate_left); exact rfl))
        all_goals (apply endQ []; (repeat (first | exact ResL.nil | (apply ResL.cons; first | exact .tmp _ _ rfl | (apply res_n ttok; (iterate 6 exact rfl)) | (apply res_1 ttok; (iterate 5 exact rfl))))); (iterate 4 exact rfl))
        all_goals rfl
      | false =>
        cases b2 : decide ((ptHi c.toNat : Int) < (c1.toNat : Int)) with
        | true =>
          have hf : validU b = false := by
            rw [← hv]
            have := of_decide_eq_true b2
            have q : inB c1.toNat (ptLo c.toNat) (ptHi c.toNat) = false := by simp [inB]; omega
            rw [q]; simp
          rw [hf]
          repeat' (first | rw [e7] | rw [e4] | (apply AL_gidx ttok; (iterate 6 exact rfl); exact Int.natCast_nonneg _; assumption) | (apply AL_gload1 ttok; (iterate 3 exact rfl); assumption; assumption; assumption; exact rfl; exact rfl) | (apply AL_gloadn ttok; (iterate 3 exact rfl); assumption; assumption; assumption; (iterate 3 exact rfl)) | (apply AL_move; exact rfl; exact rfl) | (apply AL_assign; exact rfl; exact rfl) | (apply AL_bin; (iterate 5 exact rfl)) | (apply AL_load1 ttok; (iterate 6 exact rfl)) | (apply AL_fieldAddr ttok; (iterate 7 exact rfl)) | (apply AL_store ttok; (iterate 8 exact rfl)) | (apply AL_convT ttok; (iterate 5 exact rfl)) | refine AL_nil ?_ | (apply AL_guardT; (iterate 3 exact rfl); (first | with_reducible assumption | decide +kernel)) | (apply AL_guardFf; (iterate 3 exact rfl); (first | with_reducible assumption | decide +kernel)) | (apply AL_pickT; exact rfl; (first | with_reducible assumption | decide +kernel); exact rfl; exact rfl) | (apply AL_pickF; exact rfl; (first | with_reducible assumption | decide +kernel); exact rfl; exact rfl) | refine AW_region ?_ | refine AW_seq' ?_ | (apply AW_condA; exact rfl; (first | with_reducible assumption | decide +kernel)) | (apply AW_condB; exact rfl; (first | with_reducible assumption | decide +kernel)) | refine then_norm ?_ | refine AW_block ?_ | refine AW_ret ?_ | refine then_ret ?_ | refine blk_ret ?_ | (apply AL_len ttok; (iterate 4 exact rfl)) | (apply AL_eload1 ttok; (iterate 6 exact rfl)) | (apply AL_alloc ttok; (iterate 4 exact rfl)) | (apply AW_drawM 17 hmix; (decide +kernel); (kernel_rfl); (kernel_rfl); exact rfl; exact rfl) | (apply AD_cons; (iterate 3 exact rfl)) | refine AD.nil _ | exact qp_ok rfl | refine AW_skip ?_ | (apply AL_idx ttok; (iterate 6 exact rfl); (first | with_reducible assumption | decide +kernel | exact Int.natCast_nonneg _ | (guard_target = (0:Int) ≤ (OfNat.ofNat _ : Int); decide) | rotate_left); (first | with_reducible assumption | decide +kernel | exact rfl); (first | exact uniB_ok rfl | with_reducible assumption | decide +kernel | rotate_left)) | (apply AL_shr; exact rfl; exact rfl; (first | with_reducible assumption | decide +kernel | exact Int.natCast_nonneg _ | (exact (by decide)) | rotate_left); exact rfl))
          all_goals (apply endQ []; (repeat (first | exact ResL.nil | (apply ResL.cons; first | exact .tmp _ _ rfl | (apply res_n ttok; (iterate 6 exact rfl)) | (apply res_1 ttok; (iterate 5 exact rfl))))); (iterate 4 exact rfl))
          all_goals rfl
        | false =>
          cases b3 : decide ((c2.toNat : Int) < 128) with
          | true =>
            have hf : validU b = false := by
              rw [← hv]
              have := of_decide_eq_true b3
              have q : inB c2.toNat 128 191 = false := by simp [inB]; omega
              rw [q]; simp
            rw [hf]
            repeat' (first | rw [e7] | rw [e4] | (apply AL_gidx ttok; (iterate 6 exact rfl); exact Int.natCast_nonneg _; assumption) | (apply AL_gload1 ttok; (iterate 3 exact rfl); assumption; assumption; assumption; exact rfl; exact rfl) | (apply AL_gloadn ttok; (iterate 3 exact rfl); assumption; assumption; assumption; (iterate 3 exact rfl)) | (apply AL_move; exact rfl; exact rfl) | (apply AL_assign; exact rfl; exact rfl) | (apply AL_bin; (iterate 5 exact rfl)) | (apply AL_load1 ttok; (iterate 6 exact rfl)) | (apply AL_fieldAddr ttok; (iterate 7 exact rfl)) | (apply AL_store ttok; (iterate 8 exact rfl)) | (apply AL_convT ttok; (iterate 5 exact rfl)) | refine AL_nil ?_ | (apply AL_guardT; (iterate 3 exact rfl); (first | with_reducible assumption | decide +kernel)) | (apply AL_guardFf; (iterate 3 exact rfl); (first | with_reducible assumption | decide +kernel)) | (apply AL_pickT; exact rfl; (first | with_reducible assumption | decide +kernel); exact rfl; exact rfl) | (apply AL_pickF; exact rfl; (first | with_reducible assumption | decide +kernel); exact rfl; exact rfl) | refine AW_region ?_ | refine AW_seq' ?_ | (apply AW_condA; exact rfl; (first | with_reducible assumption | decide +kernel)) | (apply AW_condB; exact rfl; (first | with_reducible assumption | decide +kernel)) | refine then_norm ?_ | refine AW_block ?_ | refine AW_ret ?_ | refine then_ret ?_ | refine blk_ret ?_ | (apply AL_len ttok; (iterate 4 exact rfl)) | (apply AL_eload1 ttok; (iterate 6 exact rfl)) | (apply AL_alloc ttok; (iterate 4 exact rfl)) | (apply AW_drawM 17 hmix; (decide +kernel); (kernel_rfl); (kernel_rfl); exact rfl; exact rfl) | (apply AD_cons; (iterate 3 exact rfl)) | refine AD.nil _ | exact qp_ok rfl | refine AW_skip ?_ | (apply AL_idx ttok; (iterate 6 exact rfl); (first | with_reducible assumption | decide +kernel | exact Int.natCast_nonneg _ | (guard_target = (0:Int) ≤ (OfNat.ofNat _ : Int); decide) | rotate_left); (first | with_reducible assumption | decide +kernel | exact rfl); (first | exact uniB_ok rfl | with_reducible assumption | decide +kernel | rotate_left)) | (apply AL_shr; exact rfl; exact rfl; (first | with_reducible assumption | decide +kernel | exact Int.natCast_nonneg _ | (exact (by decide)) | rotate_left); exact rfl))
            all_goals (apply endQ []; (repeat (first | exact ResL.nil | (apply ResL.cons; first | exact .tmp _ _ rfl | (apply res_n ttok; (iterate 6 exact rfl)) | (apply res_1 ttok; (iterate 5 exact rfl))))); (iterate 4 exact rfl))
            all_goals rfl
          | false =>
            cases b4 : decide ((191 : Int) < (c2.toNat : Int)) with
            | true =>
              have hf : validU b = false := by
                rw [← hv]
                have := of_decide_eq_true b4
                have q : inB c2.toNat 128 191 = false := by simp [inB]; omega
                rw [q]; simp
              rw [hf]
              repeat' (first | rw [e7] | rw [e4] | (apply AL_gidx ttok; (iterate 6 exact rfl); exact Int.natCast_nonneg _; assumption) | (apply AL_gload1 ttok; (iterate 3 exact rfl); assumption; assumption; assumption; exact rfl; exact rfl) | (apply AL_gloadn ttok; (iterate 3 exact rfl); assumption; assumption; assumption; (iterate 3 exact rfl)) | (apply AL_move; exact rfl; exact rfl) | (apply AL_assign; exact rfl; exact rfl) | (apply AL_bin; (iterate 5 exact rfl)) | (apply AL_load1 ttok; (iterate 6 exact rfl)) | (apply AL_fieldAddr ttok; (iterate 7 exact rfl)) | (apply AL_store ttok; (iterate 8 exact rfl)) | (apply AL_convT ttok; (iterate 5 exact rfl)) | refine AL_nil ?_ | (apply AL_guardT; (iterate 3 exact rfl); (first | with_reducible assumption | decide +kernel)) | (apply AL_pickF; exact rfl; (first | with_reducible assumption | decide +kernel); exact rfl; exact rfl) | refine AW_region ?_ | refine AW_seq' ?_ | (apply AW_condA; exact rfl; (first | with_reducible assumption | decide +kernel)) | (apply AW_condB; exact rfl; (first | with_reducible assumption | decide +kernel)) | refine then_norm ?_ | refine AW_block ?_ | refine AW_ret ?_ | refine then_ret ?_ | refine blk_ret ?_ | (apply AL_len ttok; (iterate 4 exact rfl)) | (apply AL_eload1 ttok; (iterate 6 exact rfl)) | (apply AL_alloc ttok; (iterate 4 exact rfl)) | (apply AW_drawM 17 hmix; (decide +kernel); (kernel_rfl); (kernel_rfl); exact rfl; exact rfl) | (apply AD_cons; (iterate 3 exact rfl)) | refine AD.nil _ | exact qp_ok rfl | refine AW_skip ?_ | (apply AL_idx ttok; (iterate 6 exact rfl); (first | with_reducible assumption | decide +kernel | exact Int.natCast_nonneg _ | (guard_target = (0:Int) ≤ (OfNat.ofNat _ : Int); decide) | rotate_left); (first | with_reducible assumption | decide +kernel | exact rfl); (first | exact uniB_ok rfl | with_reducible assumption | decide +kernel | rotate_left)) | (apply AL_shr; exact rfl; exact rfl; (first | with_reducible assumption | decide +kernel | exact Int.natCast_nonneg _ | (exact (by decide)) | rotate_left); exact rfl))
              all_goals (apply endQ []; (repeat (first | exact ResL.nil | (apply ResL.cons; first | exact .tmp _ _ rfl | (apply res_n ttok; (iterate 6 exact rfl)) | (apply res_1 ttok; (iterate 5 exact rfl))))); (iterate 4 exact rfl))
              all_goals rfl
            | false =>
              have hv2 : validU r = validU b := by
                rw [← hv]
                have := of_decide_eq_false b1
                have := of_decide_eq_false b2
                have := of_decide_eq_false b3
                have := of_decide_eq_false b4
                have q1 : inB c1.toNat (ptLo c.toNat) (ptHi c.toNat) = true := by simp [inB]; omega
                have q2 : inB c2.toNat 128 191 = true := by simp [inB]; omega
                rw [q1, q2]; rfl
              repeat' (first | rw [e7] | rw [e4] | (apply AL_gidx ttok; (iterate 6 exact rfl); exact Int.natCast_nonneg _; assumption) | (apply AL_gload1 ttok; (iterate 3 exact rfl); assumption; assumption; assumption; exact rfl; exact rfl) | (apply AL_gloadn ttok; (iterate 3 exact rfl); assumption; assumption; assumption; (iterate 3 exact rfl)) | (apply AL_from ttok; (iterate 8 exact rfl); (first | with_reducible assumption | exact Int.natCast_nonneg _ | exact (by decide)); (first | with_reducible assumption | decide | (simp only [List.length_cons, List.length_drop, List.length_take, List.length_append, Int.toNat_natCast] at *; omega)); (first | with_reducible assumption | exact rfl)) | (apply AL_move; exact rfl; exact rfl) | (apply AL_assign; exact rfl; exact rfl) | (apply AL_bin; (iterate 5 exact rfl)) | (apply AL_load1 ttok; (iterate 6 exact rfl)) | (apply AL_fieldAddr ttok; (iterate 7 exact rfl)) | (apply AL_store ttok; (iterate 8 exact rfl)) | (apply AL_convT ttok; (iterate 5 exact rfl)) | refine AL_nil ?_ | (apply AL_guardT; (iterate 3 exact rfl); (first | with_reducible assumption | decide +kernel)) | (apply AL_pickF; exact rfl; (first | with_reducible assumption | decide +kernel); exact rfl; exact rfl) | refine AW_region ?_ | refine AW_seq' ?_ | (apply AW_condA; exact rfl; (first | with_reducible assumption | decide +kernel)) | (apply AW_condB; exact rfl; (first | with_reducible assumption | decide +kernel)) | refine then_norm ?_ | refine blk_norm ?_ | refine AW_block ?_ | (apply AL_len ttok; (iterate 4 exact rfl)) | (apply AL_eload1 ttok; (iterate 6 exact rfl)) | (apply AL_alloc ttok; (iterate 4 exact rfl)) | (apply AW_drawM 17 hmix; (decide +kernel); (kernel_rfl); (kernel_rfl); exact rfl; exact rfl) | (apply AD_cons; (iterate 3 exact rfl)) | refine AD.nil _ | exact qp_ok rfl | refine AW_skip ?_ | (apply AL_idx ttok; (iterate 6 exact rfl); (first | with_reducible assumption | decide +kernel | exact Int.natCast_nonneg _ | (guard_target = (0:Int) ≤ (OfNat.ofNat _ : Int); decide) | rotate_left); (first | with_reducible assumption | decide +kernel | exact rfl); (first | exact uniB_ok rfl | with_reducible assumption | decide +kernel | rotate_left)) | (apply AL_shr; exact rfl; exact rfl; (first | with_reducible assumption | decide +kernel | exact Int.natCast_nonneg _ | (exact (by decide)) | rotate_left); exact rfl))
              refine Lands.mk' (m := r.length) (by simp only [List.length_cons] at hk; omega) ⟨r, rfl, hv2, rfl, rfl, rfl⟩ ?_ rfl rfl rfl rfl rfl rfl
              exact .cons rfl (.cons rfl .nil)
end Go.Proofs.YtnihobjehelagaaDoor
end
/- unicode/utf8.Valid: the rounds. -/
section
open Go.RowKit Go.Pl Go.Av
namespace Go.Proofs.YtnihobjehelagaaDoor
set_option linter.unusedVariables false
set_option linter.unusedSimpArgs false
set_option maxHeartbeats 4000000
set_option maxRecDepth 10000 in
theorem v_r4 [Known] [KnownU8] (b : List UInt8) (hb : b.length ≤ 1099511627776) (K : St → Prop) (k : Nat) (c : UInt8) (r : List UInt8) (hk : k = r.length + 1) (hv : validU (c :: r) = validU b) (hc : ¬ c.toNat < 128) (i lo hi : Nat) (e7 : bits .and .u8 (fT c.toNat : Int) 7 = ((4 : Nat) : Int)) (e4 : ((fT c.toNat : Nat) : Int).fdiv (2 ^ min (Int.toNat 4) IntKind.u8.bits) = (i : Int)) (hi16 : i < 16)
    (hvs : (((List.range 16).flatMap aT).drop (0 + ((i : Nat) : Int).toNat * 2)).take 2 = [.int .u8 (lo : Int), .int .u8 (hi : Int)]) (hp : ptN c.toNat = 4) (hlo : lo = ptLo c.toNat) (hhi : hi = ptHi c.toNat) : AW Tryd.prog (loopBody (Tryd.f122.body.getD .skip)) (vS (c :: r)) (vQ b (validU b) k K) := by
  conv => enter [3]; whnf
  subst hlo hhi
  have hU := uniB1 (c :: r)
  have hlen : decide ((((c :: r).map E.byte).length : Int) > 0) = true := by simp
  have dc : decide ((c.toNat : Int) < 128) = false := by simp; omega
  have hlt : ((c.toNat : Nat) : Int).toNat < 256 := by rw [Int.toNat_natCast]; exact c.toNat_lt
  have hlt2 : ((i : Nat) : Int).toNat < 16 := by rw [Int.toNat_natCast]; exact hi16
  have hfa := first_at c
  have hks := KnownU8.first
  have hka := KnownU8.accept
  have htf := tab_first
  have hta := tab_accept
  cases r with
  | nil =>
    have hl : decide (((([c] : List UInt8).map E.byte).length : Int) < 4) = true := rfl
    rw [← hv, v4s hp [] (by simp)]
    repeat' (first | rw [e7] | rw [e4] | (apply AL_gidx ttok; (iterate 6 exact rfl); exact Int.natCast_nonneg _; assumption) | (apply AL_gload1 ttok; (iterate 3 exact rfl); assumption; assumption; assumption; exact rfl; exact rfl) | (apply AL_gloadn ttok; (iterate 3 exact rfl); assumption; assumption; assumption; (iterate 3 exact rfl)) | (apply AL_move; exact rfl; exact rfl) | (apply AL_assign; exact rfl; exact rfl) | (apply AL_bin; (iterate 5 exact rfl)) | (apply AL_store ttok; (iterate 8 exact rfl)) | (apply AL_convT ttok; (iterate 5 exact rfl)) | refine AL_nil ?_ | (apply AL_guardFf; (iterate 3 exact rfl); (first | with_reducible assumption | decide +kernel)) | (apply AL_pickT; exact rfl; (first | with_reducible assumption | decide +kernel); exact rfl; exact rfl) | refine AW_region ?_ | refine AW_seq' ?_ | (apply AW_condA; exact rfl; (first | with_reducible assumption | decide +kernel)) | (apply AW_condB; exact rfl; (first | with_reducible assumption | decide +kernel)) | refine then_norm ?_ | refine AW_block ?_ | refine AW_ret ?_ | refine then_ret ?_ | refine blk_ret ?_ | (apply AL_len ttok; (iterate 4 exact rfl)) | (apply AL_eload1 ttok; (iterate 6 exact rfl)) | (apply AL_alloc ttok; (iterate 4 exact rfl)) | (apply AW_drawM 17 hmix; (decide +kernel); (kernel_rfl); (kernel_rfl); exact rfl; exact rfl) | (apply AD_cons; (iterate 3 exact rfl)) | refine AD.nil _ | exact qp_ok rfl | refine AW_skip ?_ | (apply AL_idx ttok; (iterate 6 exact rfl); (first | with_reducible assumption | decide +kernel | exact Int.natCast_nonneg _ | (guard_target = (0:Int) ≤ (OfNat.ofNat _ : Int); decide) | rotate_left); (first | with_reducible assumption | decide +kernel | exact rfl); (first | exact uniB_ok rfl | with_reducible assumption | decide +kernel | rotate_left)) | (apply AL_shr; exact rfl; exact rfl; (first | with_reducible assumption | decide +kernel | exact Int.natCast_nonneg _ | (exact (by decide)) | rotate_left); exact rfl))
    all_goals (apply endQ []; (repeat (first | exact ResL.nil | (apply ResL.cons; first | exact .tmp _ _ rfl | (apply res_n ttok; (iterate 6 exact rfl)) | (apply res_1 ttok; (iterate 5 exact rfl))))); (iterate 4 exact rfl))
    all_goals rfl
  | cons c1 r =>
    cases r with
    | nil =>
      have hl : decide (((([c, c1] : List UInt8).map E.byte).length : Int) < 4) = true := rfl
      rw [← hv, v4s hp [c1] (by simp)]
      repeat' (first | rw [e7] | rw [e4] | (apply AL_gidx ttok; (iterate 6 exact rfl); exact Int.natCast_nonneg _; assumption) | (apply AL_gload1 ttok; (iterate 3 exact rfl); assumption; assumption; assumption; exact rfl; exact rfl) | (apply AL_gloadn ttok; (iterate 3 exact rfl); assumption; assumption; assumption; (iterate 3 exact rfl)) | (apply AL_move; exact rfl; exact rfl) | (apply AL_assign; exact rfl; exact rfl) | (apply AL_bin; (iterate 5 exact rfl)) | (apply AL_store ttok; (iterate 8 exact rfl)) | (apply AL_convT ttok; (iterate 5 exact rfl)) | refine AL_nil ?_ | (apply AL_guardFf; (iterate 3 exact rfl); (first | with_reducible assumption | decide +kernel)) | (apply AL_pickT; exact rfl; (first | with_reducible assumption | decide +kernel); exact rfl; exact rfl) | refine AW_region ?_ | refine AW_seq' ?_ | (apply AW_condA; exact rfl; (first | with_reducible assumption | decide +kernel)) | (apply AW_condB; exact rfl; (first | with_reducible assumption | decide +kernel)) | refine then_norm ?_ | refine AW_block ?_ | refine AW_ret ?_ | refine then_ret ?_ | refine blk_ret ?_ | (apply AL_len ttok; (iterate 4 exact rfl)) | (apply AL_eload1 ttok; (iterate 6 exact rfl)) | (apply AL_alloc ttok; (iterate 4 exact rfl)) | (apply AW_drawM 17 hmix; (decide +kernel); (kernel_rfl); (kernel_rfl); exact rfl; exact rfl) | (apply AD_cons; (iterate 3 exact rfl)) | refine AD.nil _ | exact qp_ok rfl | refine AW_skip ?_ | (apply AL_idx ttok; (iterate 6 exact rfl); (first | with_reducible assumption | decide +kernel | exact Int.natCast_nonneg _ | (guard_target = (0:Int) ≤ (OfNat.ofNat _ : Int); decide) | rotate_left); (first | with_reducible assumption | decide +kernel | exact rfl); (first | exact uniB_ok rfl | with_reducible assumption | decide +kernel | rotate_left)) | (apply AL_shr; exact rfl; exact rfl; (first | with_reducible assumption | decide +kernel | exact Int.natCast_nonneg _ | (exact (by decide)) | rotate_left); exact rfl))
      all_goals (apply endQ []; (repeat (first | exact ResL.nil | (apply ResL.cons; first | exact .tmp _ _ rfl | (apply res_n ttok; (iterate 6 exact rfl)) | (apply res_1 ttok; (iterate 5 exact rfl))))); (iterate 4 exact rfl))
      all_goals rfl
    | cons c2 r =>
      cases r with
      | nil =>
        have hl : decide (((([c, c1, c2] : List UInt8).map E.byte).length : Int) < 4) = true := rfl
        rw [← hv, v4s hp [c1, c2] (by simp)]
        repeat' (first | rw [e7] | rw [e4] | (apply AL_gidx ttok; (iterate 6 exact rfl); exact Int.natCast_nonneg _; assumption) | (apply AL_gload1 ttok; (iterate 3 exact rfl); assumption; assumption; assumption; exact rfl; exact rfl) | (apply AL_gloadn ttok; (iterate 3 exact rfl); assumption; assumption; assumption; (iterate 3 exact rfl)) | (apply AL_move; exact rfl; exact rfl) | (apply AL_assign; exact rfl; exact rfl) | (apply AL_bin; (iterate 5 exact rfl)) | (apply AL_store ttok; (iterate 8 exact rfl)) | (apply AL_convT ttok; (iterate 5 exact rfl)) | refine AL_nil ?_ | (apply AL_guardFf; (iterate 3 exact rfl); (first | with_reducible assumption | decide +kernel)) | (apply AL_pickT; exact rfl; (first | with_reducible assumption | decide +kernel); exact rfl; exact rfl) | refine AW_region ?_ | refine AW_seq' ?_ | (apply AW_condA; exact rfl; (first | with_reducible assumption | decide +kernel)) | (apply AW_condB; exact rfl; (first | with_reducible assumption | decide +kernel)) | refine then_norm ?_ | refine AW_block ?_ | refine AW_ret ?_ | refine then_ret ?_ | refine blk_ret ?_ | (apply AL_len ttok; (iterate 4 exact rfl)) | (apply AL_eload1 ttok; (iterate 6 exact rfl)) | (apply AL_alloc ttok; (iterate 4 exact rfl)) | (apply AW_drawM 17 hmix; (decide +kernel); (kernel_rfl); (kernel_rfl); exact rfl; exact rfl) | (apply AD_cons; (iterate 3 exact rfl)) | refine AD.nil _ | exact qp_ok rfl | refine AW_skip ?_ | (apply AL_idx ttok; (iterate 6 exact rfl); (first | with_reducible assumption | decide +kernel | exact Int.natCast_nonneg _ | (guard_target = (0:Int) ≤ (OfNat.ofNat _ : Int); decide) | rotate_left); (first | with_reducible assumption | decide +kernel | exact rfl); (first | exact uniB_ok rfl | with_reducible assumption | decide +kernel | rotate_left)) | (apply AL_shr; exact rfl; exact rfl; (first | with_reducible assumption | decide +kernel | exact Int.natCast_nonneg _ | (exact (by decide)) | rotate_left); exact rfl))
        all_goals (apply endQ []; (repeat (first | exact ResL.nil | (apply ResL.cons; first | exact .tmp _ _ rfl | (apply res_n ttok; (iterate 6 exact rfl)) | (apply res_1 ttok; (iterate 5 exact rfl))))); (iterate 4 exact rfl))
        all_goals rfl
      | cons c3 r =>
        have hl : decide ((((c :: c1 :: c2 :: c3 :: r).map E.byte).length : Int) < 4) = false := by simp; omega
        have xd : (c :: c1 :: c2 :: c3 :: r).drop (Int.toNat 4) = r := rfl
        rw [v4 hp] at hv
        cases b1 : decide ((c1.toNat : Int) < (ptLo c.toNat : Int)) with
        | true =>
          have hf : validU b = false := by
            rw [← hv]
            have := of_decide_eq_true b1
            have q : inB c1.toNat (ptLo c.toNat) (ptHi c.toNat) = false := by simp [inB]; omega
            rw [q]; simp
          rw [hf]
          repeat' (first | rw [e7] | rw [e4] | (apply AL_gidx ttok; (iterate 6 exact rfl); exact Int.natCast_nonneg _; assumption) | (apply AL_gload1 ttok; (iterate 3 exact rfl); assumption; assumption; assumption; exact rfl; exact rfl) | (apply AL_gloadn ttok; (iterate 3 exact rfl); assumption; assumption; assumption; (iterate 3 exact rfl)) | (apply AL_move; exact rfl; exact rfl) | (apply AL_assign; exact rfl; exact rfl) | (apply AL_bin; (iterate 5 exact rfl)) | (apply AL_load1 ttok; (iterate 6 exact rfl)) | (apply AL_fieldAddr ttok; (iterate 7 exact rfl)) | (apply AL_store ttok; (iterate 8 exact rfl)) | (apply AL_convT ttok; (iterate 5 exact rfl)) | refine AL_nil ?_ | (apply AL_guardT; (iterate 3 exact rfl); (first | with_reducible assumption | decide +kernel)) | (apply AL_guardFf; (iterate 3 exact rfl); (first | with_reducible assumption | decide +kernel)) | (apply AL_pickT; exact rfl; (first | with_reducible assumption | decide +kernel); exact rfl; exact rfl) | (apply AL_pickF; exact rfl; (first | with_reducible assumption | decide +kernel); exact rfl; exact rfl) | refine AW_region ?_ | refine AW_seq' ?_ | (apply AW_condA; exact rfl; (first | with_reducible assumption | decide +kernel)) | (apply AW_condB; exact rfl; (first | with_reducible assumption | decide +kernel)) | refine then_norm ?_ | refine AW_block ?_ | refine AW_ret ?_ | refine then_ret ?_ | refine blk_ret ?_ | (apply AL_len ttok; (iterate 4 exact rfl)) | (apply AL_eload1 ttok; (iterate 6 exact rfl)) | (apply AL_alloc ttok; (iterate 4 exact rfl)) | (apply AW_drawM 17 hmix; (decide +kernel); (kernel_rfl); (kernel_rfl); exact rfl; exact rfl) | (apply AD_cons; (iterate 3 exact rfl)) | refine AD.nil _ | exact qp_ok rfl | refine AW_skip ?_ | (apply AL_idx ttok; (iterate 6 exact rfl); (first | with_reducible assumption | decide +kernel | exact Int.natCast_nonneg _ | (guard_target = (0:Int) ≤ (OfNat.ofNat _ : Int); decide) | rotate_left); (first | with_reducible assumption | decide +kernel | exact rfl); (first | exact uniB_ok rfl | with_reducible assumption | decide +kernel | rotate_left)) | (apply AL_shr; exact rfl; exact rfl; (first | with_reducible assumption | decide +kernel | exact Int.natCast_nonneg _ | (exact (by decide)) | rotate_left); exact rfl))
          all_goals (apply endQ []; (repeat (first | exact ResL.nil | (apply ResL.cons; first | exact .tmp _ _ rfl | (apply res_n ttok; (iterate 6 exact rfl)) | (apply res_1 ttok; (iterate 5 exact rfl))))); (iterate 4 exact rfl))
          all_goals rfl
        | false =>
          cases b2 : decide ((ptHi c.toNat : Int) < (c1.toNat : Int)) with
          | true =>
            have hf : validU b = false := by
              rw [← hv]
              have := of_decide_eq_true b2
              have q : inB c1.toNat (ptLo c.toNat) (ptHi c.toNat) = false := by simp [inB]; omega
              rw [q]; simp
            rw [hf]
            repeat' (first | rw [e7] | rw [e4] | (apply AL_gidx ttok; (iterate 6 exact rfl); exact Int.natCast_nonneg _; assumption) | (apply AL_gload1 ttok; (iterate 3 exact rfl); assumption; assumption; assumption; exact rfl; exact rfl) | (apply AL_gloadn ttok; (iterate 3 exact rfl); assumption; assumption; assumption; (iterate 3 exact rfl)) | (apply AL_move; exact rfl; exact rfl) | (apply AL_assign; exact rfl; exact rfl) | (apply AL_bin; (iterate 5 exact rfl)) | (apply AL_load1 ttok; (iterate 6 exact rfl)) | (apply AL_fieldAddr ttok; (iterate 7 exact rfl)) | (apply AL_store ttok; (iterate 8 exact rfl)) | (apply AL_convT ttok; (iterate 5 exact rfl)) | refine AL_nil ?_ | (apply AL_guardT; (iterate 3 exact rfl); (first | with_reducible assumption | decide +kernel)) | (apply AL_guardFf; (iterate 3 exact rfl); (first | with_reducible assumption | decide +kernel)) | (apply AL_pickT; exact rfl; (first | with_reducible assumption | decide +kernel); exact rfl; exact rfl) | (apply AL_pickF; exact rfl; (first | with_reducible assumption | decide +kernel); exact rfl; exact rfl) | refine AW_region ?_ | refine AW_seq' ?_ | (apply AW_condA; exact rfl; (first | with_reducible assumption | decide +kernel)) | (apply AW_condB; exact rfl; (first | with_reducible assumption | decide +kernel)) | refine then_norm ?_ | refine AW_block ?_ | refine AW_ret ?_ | refine then_ret ?_ | refine blk_ret ?_ | (apply AL_len ttok; (iterate 4 exact rfl)) | (apply AL_eload1 ttok; (iterate 6 exact rfl)) | (apply AL_alloc ttok; (iterate 4 exact rfl)) | (apply AW_drawM 17 hmix; (decide +kernel); (kernel_rfl); (kernel_rfl); exact rfl; exact rfl) | (apply AD_cons; (iterate 3 exact rfl)) | refine AD.nil _ | exact qp_ok rfl | refine AW_skip ?_ | (apply AL_idx ttok; (iterate 6 exact rfl); (first | with_reducible assumption | decide +kernel | exact Int.natCast_nonneg _ | (guard_target = (0:Int) ≤ (OfNat.ofNat _ : Int); decide) | rotate_left); (first | with_reducible assumption | decide +kernel | exact rfl); (first | exact uniB_ok rfl | with_reducible assumption | decide +kernel | rotate_left)) | (apply AL_shr; exact rfl; exact rfl; (first | with_reducible assumption | decide +kernel | exact Int.natCast_nonneg _ | (exact (by decide)) | rotate_left); exact rfl))
            all_goals (apply endQ []; (repeat (first | exact ResL.nil | (apply ResL.cons; first | exact .tmp _ _ rfl | (apply res_n ttok; (iterate 6 exact rfl)) | (apply res_1 ttok; (iterate 5 exact rfl))))); (iterate 4 exact rfl))
            all_goals rfl
          | false =>
            cases b3 : decide ((c2.toNat : Int) < 128) with
            | true =>
              have hf : validU b = false := by
                rw [← hv]
                have := of_decide_eq_true b3
                have q : inB c2.toNat 128 191 = false := by simp [inB]; omega
                rw [q]; simp
              rw [hf]
              repeat' (first | rw [e7] | rw [e4] | (apply AL_gidx ttok; (iterate 6 exact rfl); exact Int.natCast_nonneg _; assumption) | (apply AL_gload1 ttok; (iterate 3 exact rfl); assumption; assumption; assumption; exact rfl; exact rfl) | (apply AL_gloadn ttok; (iterate 3 exact rfl); assumption; assumption; assumption; (iterate 3 exact rfl)) | (apply AL_move; exact rfl; exact rfl) | (apply AL_assign; exact rfl; exact rfl) | (apply AL_bin; (iterate 5 exact rfl)) | (apply AL_load1 ttok; (iterate 6 exact rfl)) | (apply AL_fieldAddr ttok; (iterate 7 exact rfl)) | (apply AL_store ttok; (iterate 8 exact rfl)) | (apply AL_convT ttok; (iterate 5 exact rfl)) | refine AL_nil ?_ | (apply AL_guardT; (iterate 3 exact rfl); (first | with_reducible assumption | decide +kernel)) | (apply AL_guardFf; (iterate 3 exact rfl); (first | with_reducible assumption | decide +kernel)) | (apply AL_pickT; exact rfl; (first | with_reducible assumption | decide +kernel); exact rfl; exact rfl) | (apply AL_pickF; exact rfl; (first | with_reducible assumption | decide +kernel); exact rfl; exact rfl) | refine AW_region ?_ | refine AW_seq' ?_ | (apply AW_condA; exact rfl; (first | with_reducible assumption | decide +kernel)) | (apply AW_condB; exact rfl; (first | with_reducible assumption | decide +kernel)) | refine then_norm ?_ | refine AW_block ?_ | refine AW_ret ?_ | refine then_ret ?_ | refine blk_ret ?_ | (apply AL_len ttok; (iterate 4 exact rfl)) | (apply AL_eload1 ttok; (iterate 6 exact rfl)) | (apply AL_alloc ttok; (iterate 4 exact rfl)) | (apply AW_drawM 17 hmix; (decide +kernel); (kernel_rfl); (kernel_rfl); exact rfl; exact rfl) | (apply AD_cons; (iterate 3 exact rfl)) | refine AD.nil _ | exact qp_ok rfl | refine AW_skip ?_ | (apply AL_idx ttok; (iterate 6 exact rfl); (first | with_reducible assumption | decide +kernel | exact Int.natCast_nonneg _ | (guard_target = (0:Int) ≤ (OfNat.ofNat _ : Int); decide) | rotate_left); (first | with_reducible assumption | decide +kernel | exact rfl); (first | exact uniB_ok rfl | with_reducible assumption | decide +kernel | rotate_left)) | (apply AL_shr; exact rfl; exact rfl; (first | with_reducible assumption | decide +kernel | exact Int.natCast_nonneg _ | (exact (by decide)) | rotate_left); exact rfl))
              all_goals (apply endQ []; (repeat (first | exact ResL.nil | (apply ResL.cons; first | exact .tmp _ _ rfl | (apply res_n ttok; (iterate 6 exact rfl)) | (apply res_1 ttok; (iterate 5 exact rfl))))); (iterate 4 exact rfl))
              all_goals rfl
            | false =>
              cases b4 : decide ((191 : Int) < (c2.toNat : Int)) with
              | true =>
                have hf : validU b = false := by
                  rw [← hv]
                  have := of_decide_eq_true b4
                  have q : inB c2.toNat 128 191 = false := by simp [inB]; omega
                  rw [q]; simp
                rw [hf]
                repeat' (first | rw [e7] | rw [e4] | (apply AL_gidx ttok; (iterate 6 exact rfl); exact Int.natCast_nonneg _; assumption) | (apply AL_gload1 ttok; (iterate 3 exact rfl); assumption; assumption; assumption; exact rfl; exact rfl) | (apply AL_gloadn ttok; (iterate 3 exact rfl); assumption; assumption; assumption; (iterate 3 exact rfl)) | (apply AL_move; exact rfl; exact rfl) | (apply AL_assign; exact rfl; exact rfl) | (apply AL_bin; (iterate 5 exact rfl)) | (apply AL_load1 ttok; (iterate 6 exact rfl)) | (apply AL_fieldAddr ttok; (iterate 7 exact rfl)) | (apply AL_store ttok; (iterate 8 exact rfl)) | (apply AL_convT ttok; (iterate 5 exact rfl)) | refine AL_nil ?_ | (apply AL_guardT; (iterate 3 exact rfl); (first | with_reducible assumption | decide +kernel)) | (apply AL_guardFf; (iterate 3 exact rfl); (first | with_reducible assumption | decide +kernel)) | (apply AL_pickT; exact rfl; (first | with_reducible assumption | decide +kernel); exact rfl; exact rfl) | (apply AL_pickF; exact rfl; (first | with_reducible assumption | decide +kernel); exact rfl; exact rfl) | refine AW_region ?_ | refine AW_seq' ?_ | (apply AW_condA; exact rfl; (first | with_reducible assumption | decide +kernel)) | (apply AW_condB; exact rfl; (first | with_reducible assumption | decide +kernel)) | refine then_norm ?_ | refine AW_block ?_ | refine AW_ret ?_ | refine then_ret ?_ | refine blk_ret ?_ | (apply AL_len ttok; (iterate 4 exact rfl)) | (apply AL_eload1 ttok; (iterate 6 exact rfl)) | (apply AL_alloc ttok; (iterate 4 exact rfl)) | (apply AW_drawM 17 hmix; (decide +kernel); (kernel_rfl); (kernel_rfl); exact rfl; exact rfl) | (apply AD_cons; (iterate 3 exact rfl)) | refine AD.nil _ | exact qp_ok rfl | refine AW_skip ?_ | (apply AL_idx ttok; (iterate 6 exact rfl); (first | with_reducible assumption | decide +kernel | exact Int.natCast_nonneg _ | (guard_target = (0:Int) ≤ (OfNat.ofNat _ : Int); decide) | rotate_left); (first | with_reducible assumption | decide +kernel | exact rfl); (first | exact uniB_ok rfl | with_reducible assumption | decide +kernel | rotate_left)) | (apply AL_shr; exact rfl; exact rfl; (first | with_reducible assumption | decide +kernel | exact Int.natCast_nonneg _ | (exact (by decide)) | rotate_left); exact rfl))
                all_goals (apply endQ []; (repeat (first | exact ResL.nil | (apply ResL.cons; first | exact .tmp _ _ rfl | (apply res_n ttok; (iterate 6 exact rfl)) | (apply res_1 ttok; (iterate 5 exact rfl))))); (iterate 4 exact rfl))
                all_goals rfl
              | false =>
                cases b5 : decide ((c3.toNat : Int) < 128) with
                | true =>
                  have hf : validU b = false := by
                    rw [← hv]
                    have := of_decide_eq_true b5
                    have q : inB c3.toNat 128 191 = false := by simp [inB]; omega
                    rw [q]; simp
                  rw [hf]
                  repeat' (first | rw [e7] | rw [e4] | (apply AL_gidx ttok; (iterate 6 exact rfl); exact Int.natCast_nonneg _; assumption) | (apply AL_gload1 ttok; (iterate 3 exact rfl); assumption; assumption; assumption; exact rfl; exact rfl) | (apply AL_gloadn ttok; (iterate 3 exact rfl); assumption; assumption; assumption; (iterate 3 exact rfl)) | (apply AL_move; exact rfl; exact rfl) | (apply AL_assign; exact rfl; exact rfl) | (apply AL_bin; (iterate 5 exact rfl)) | (apply AL_load1 ttok; (iterate 6 exact rfl)) | (apply AL_fieldAddr ttok; (iterate 7 exact rfl)) | (apply AL_store ttok; (iterate 8 exact rfl)) | (apply AL_convT ttok; (iterate 5 exact rfl)) | refine AL_nil ?_ | (apply AL_guardT; (iterate 3 exact rfl); (first | with_reducible assumption | decide +kernel)) | (apply AL_guardFf; (iterate 3 exact rfl); (first | with_reducible assumption | decide +kernel)) | (apply AL_pickT; exact rfl; (first | with_reducible assumption | decide +kernel); exact rfl; exact rfl) | (apply AL_pickF; exact rfl; (first | with_reducible assumption | decide +kernel); exact rfl; exact rfl) | refine AW_region ?_ | refine AW_seq' ?_ | (apply AW_condA; exact rfl; (first | with_reducible assumption | decide +kernel)) | (apply AW_condB; exact rfl; (first | with_reducible assumption | decide +kernel)) | refine then_norm ?_ | refine AW_block ?_ | refine AW_ret ?_ | refine then_ret ?_ | refine blk_ret ?_ | (apply AL_len ttok; (iterate 4 exact rfl)) | (apply AL_eload1 ttok; (iterate 6 exact rfl)) | (apply AL_alloc ttok; (iterate 4 exact rfl)) | (apply AW_drawM 17 hmix; (decide +kernel); (kernel_rfl); (kernel_rfl); exact rfl; exact rfl) | (apply AD_cons; (iterate 3 exact rfl)) | refine AD.nil _ | exact qp_ok rfl | refine AW_skip ?_ | (apply AL_idx ttok; (iterate 6 exact rfl); (first | with_reducible assumption | decide +kernel | exact Int.natCast_nonneg _ | (guard_target = (0:Int) ≤ (OfNat.ofNat _ : Int); decide) | rotate_left); (first | with_reducible assumption | decide +kernel | exact rfl); (first | exact uniB_ok rfl | with_reducible assumption | decide +kernel | rotate_left)) | (apply AL_shr; exact rfl; exact rfl; (first | with_reducible assumption | decide +kernel | exact Int.natCast_nonneg _ | (exact (by decide)) | rotate_left); exact rfl))
                  all_goals (apply endQ []; (repeat (first | exact ResL.nil | (apply ResL.cons; first | exact .tmp _ _ rfl | (apply res_n ttok; (iterate 6 exact rfl)) | (apply res_1 ttok; (iterate 5 exact rfl))))); (iterate 4 exact rfl))
                  all_goals rfl
                | false =>
                  cases b6 : decide ((191 : Int) < (c3.toNat : Int)) with
                  | true =>
                    have hf : validU b = false := by
                      rw [← hv]
                      have := of_decide_eq_true b6
                      have q : inB c3.toNat 128 191 = false := by simp [inB]; omega
                      rw [q]; simp
                    rw [hf]
                    repeat' (first | rw [e7] | rw [e4] | (apply AL_gidx ttok; (iterate 6 exact rfl); exact Int.natCast_nonneg _; assumption) | (apply AL_gload1 ttok; (iterate 3 exact rfl); assumption; assumption; assumption; exact rfl; exact rfl) | (apply AL_gloadn ttok; (iterate 3 exact rfl); assumption; assumption; assumption; (iterate 3 exact rfl)) | (apply AL_move; exact rfl; exact rfl) | (apply AL_assign; exact rfl; exact rfl) | (apply AL_bin; (iterate 5 exact rfl)) | (apply AL_load1 ttok; (iterate 6 exact rfl)) | (apply AL_fieldAddr ttok; (iterate 7 exact rfl)) | (apply AL_store ttok; (iterate 8 exact rfl)) | (apply AL_convT ttok; (iterate 5 exact rfl)) | refine AL_nil ?_ | (apply AL_guardT; (iterate 3 exact rfl); (first | with_reducible assumption | decide +kernel)) | (apply AL_pickF; exact rfl; (first | with_reducible assumption | decide +kernel); exact rfl; exact rfl) | refine AW_region ?_ | refine AW_seq' ?_ | (apply AW_condA; exact rfl; (first | with_reducible assumption | decide +kernel)) | (apply AW_condB; exact rfl; (first | with_reducible assumption | decide +kernel)) | refine then_norm ?_ | refine AW_block ?_ | refine AW_ret ?_ | refine then_ret ?_ | refine blk_ret ?_ | (apply AL_len ttok; (iterate 4 exact rfl)) | (apply AL_eload1 ttok; (iterate 6 exact rfl)) | (apply AL_alloc ttok; (iterate 4 exact rfl)) | (apply AW_drawM 17 hmix; (decide +kernel); (kernel_rfl); (kernel_rfl); exact rfl; exact rfl) | (apply AD_cons; (iterate 3 exact rfl)) | refine AD.nil _ | exact qp_ok rfl | refine AW_skip ?_ | (apply AL_idx ttok; (iterate 6 exact rfl); (first | with_reducible assumption | decide +kernel | exact Int.natCast_nonneg _ | (guard_target = (0:Int) ≤ (OfNat.ofNat _ : Int); decide) | rotate_left); (first | with_reducible assumption | decide +kernel | exact rfl); (first | exact uniB_ok rfl | with_reducible assumption | decide +kernel | rotate_left)) | (apply AL_shr; exact rfl; exact rfl; (first | with_reducible assumption | decide +kernel | exact Int.natCast_nonneg _ | (exact (by decide)) | rotate_left); exact rfl))
                    all_goals (apply endQ []; (repeat (first | exact ResL.nil | (apply ResL.cons; first | exact .tmp _ _ rfl | (apply res_n ttok; (iterate 6 exact rfl)) | (apply res_1 ttok; (iterate 5 exact rfl))))); (iterate 4 exact rfl))
                    all_goals rfl
                  | false =>
                    have hv2 : validU r = validU b := by
                      rw [← hv]
                      have := of_decide_eq_false b1
                      have := of_decide_eq_false b2
                      have := of_decide_eq_false b3
                      have := of_decide_eq_false b4
                      have := of_decide_eq_false b5
                      have := of_decide_eq_false b6
                      have q1 : inB c1.toNat (ptLo c.toNat) (ptHi c.toNat) = true := by simp [inB]; omega
                      have q2 : inB c2.toNat 128 191 = true := by simp [inB]; omega
                      have q3 : inB c3.toNat 128 191 = true := by simp [inB]; omega
                      rw [q1, q2, q3]; rfl
                    repeat' (first | rw [e7] | rw [e4] | (apply AL_gidx ttok; (iterate 6 exact rfl); exact Int.natCast_nonneg _; assumption) | (apply AL_gload1 ttok; (iterate 3 exact rfl); assumption; assumption; assumption; exact rfl; exact rfl) | (apply AL_gloadn ttok; (iterate 3 exact rfl); assumption; assumption; assumption; (iterate 3 exact rfl)) | (apply AL_from ttok; (iterate 8 exact rfl); (first | with_reducible assumption | exact Int.natCast_nonneg _ | exact (by decide)); (first | with_reducible assumption | decide | (simp only [List.length_cons, List.length_drop, List.length_take, List.length_append, Int.toNat_natCast] at *; omega)); (first | with_reducible assumption | exact rfl)) | (apply AL_move; exact rfl; exact rfl) | (apply AL_assign; exact rfl; exact rfl) | (apply AL_bin; (iterate 5 exact rfl)) | (apply AL_load1 ttok; (iterate 6 exact rfl)) | (apply AL_fieldAddr ttok; (iterate 7 exact rfl)) | (apply AL_store ttok; (iterate 8 exact rfl)) | (apply AL_convT ttok; (iterate 5 exact rfl)) | refine AL_nil ?_ | (apply AL_guardT; (iterate 3 exact rfl); (first | with_reducible assumption | decide +kernel)) | (apply AL_pickF; exact rfl; (first | with_reducible assumption | decide +kernel); exact rfl; exact rfl) | refine AW_region ?_ | refine AW_seq' ?_ | (apply AW_condA; exact rfl; (first | with_reducible assumption | decide +kernel)) | (apply AW_condB; exact rfl; (first | with_reducible assumption | decide +kernel)) | refine then_norm ?_ | refine blk_norm ?_ | refine AW_block ?_ | (apply AL_len ttok; (iterate 4 exact rfl)) | (apply AL_eload1 ttok; (iterate 6 exact rfl)) | (apply AL_alloc ttok; (iterate 4 exact rfl)) | (apply AW_drawM 17 hmix; (decide +kernel); (kernel_rfl); (kernel_rfl); exact rfl; exact rfl) | (apply AD_cons; (iterate 3 exact rfl)) | refine AD.nil _ | exact qp_ok rfl | refine AW_skip ?_ | (apply AL_idx ttok; (iterate 6 exact rfl); (first | with_reducible assumption | decide +kernel | exact Int.natCast_nonneg _ | (guard_target = (0:Int) ≤ (OfNat.ofNat _ : Int); decide) | rotate_left); (first | with_reducible assumption | decide +kernel | exact rfl); (first | exact uniB_ok rfl | with_reducible assumption | decide +kernel | rotate_left)) | (apply AL_shr; exact rfl; exact rfl; (first | with_reducible assumption | decide +kernel | exact Int.natCast_nonneg _ | (exact (by decide)) | rotate_left); exact rfl))
                    refine Lands.mk' (m := r.length) (by simp only [List.length_cons] at hk; omega) ⟨r, rfl, hv2, rfl, rfl, rfl⟩ ?_ rfl rfl rfl rfl rfl rfl
                    exact .cons rfl (.cons rfl .nil)
theorem av_valid [Known] [KnownU8] (b : List UInt8) (hb : b.length ≤ 1099511627776) : AP Tryd.prog 122 [byE b] (.bool (validU b)) [] := by
  refine AP.ofA ?_
  refine AC_of Tryd.func122 rfl Tryd.ntmps122 rfl rfl ?_
  repeat' (first | (apply AL_same3 ttok; (iterate 9 exact rfl); (simp); (simp)) | (apply AL_move; exact rfl; exact rfl) | (apply AL_assign; exact rfl; exact rfl) | refine AL_nil ?_ | refine AW_region ?_ | refine AW_seq' ?_ | refine AW_block ?_ | (apply AL_len ttok; (iterate 4 exact rfl)))
  refine AW_loopJ (vJ b) (b.length + 1) (Lands.mk' (m := b.length) (Nat.lt_succ_self _) ⟨b, rfl, rfl, rfl, rfl, rfl⟩ ?_ rfl rfl rfl rfl rfl rfl) ?_
  · exact .cons rfl (.cons rfl .nil)
  rintro k tm bx fr ⟨l, hk, hv, rfl, rfl, rfl⟩
  cases l with
  | nil =>
    rw [← hv]
    repeat' (first | (apply AL_move; exact rfl; exact rfl) | (apply AL_assign; exact rfl; exact rfl) | (apply AL_bin; (iterate 5 exact rfl)) | refine AL_nil ?_ | refine AW_region ?_ | refine AW_seq' ?_ | (apply AW_condB; exact rfl; (first | with_reducible assumption | decide +kernel)) | refine then_norm ?_ | refine AW_exit ?_ | refine AW_ret ?_ | (apply AL_len ttok; (iterate 4 exact rfl)))
    all_goals (apply endQ []; (repeat (first | exact ResL.nil | (apply ResL.cons; first | exact .tmp _ _ rfl | (apply res_n ttok; (iterate 6 exact rfl)) | (apply res_1 ttok; (iterate 5 exact rfl))))); (iterate 4 exact rfl))
    all_goals rfl
  | cons c r =>
    have key : ∀ K : St → Prop, AW Tryd.prog (loopBody (Tryd.f122.body.getD .skip)) (vS (c :: r)) (vQ b (validU b) k K) := fun K => by
      simp only [List.length_cons] at hk
      by_cases hc : c.toNat < 128
      · exact v_asc b hb K k c r hk hv hc
      · obtain ⟨sz, i, lo, hi, e7, e4, hi16, hvs, hcls⟩ := cls c (by omega)
        rcases hcls with ⟨rfl, hp⟩ | ⟨rfl | rfl | rfl, hp, hlo, hhi⟩
        · exact v_r1 b hb K k c r hk hv hc i lo hi e7 e4 hi16 hvs hp
        · exact v_r2 b hb K k c r hk hv hc i lo hi e7 e4 hi16 hvs hp hlo hhi
        · exact v_r3 b hb K k c r hk hv hc i lo hi e7 e4 hi16 hvs hp hlo hhi
        · exact v_r4 b hb K k c r hk hv hc i lo hi e7 e4 hi16 hvs hp hlo hhi
    exact key _
end Go.Proofs.YtnihobjehelagaaDoor
end
