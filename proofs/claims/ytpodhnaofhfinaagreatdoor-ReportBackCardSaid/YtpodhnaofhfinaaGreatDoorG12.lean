/- Laws of items: what is written is read back, what is read may be and is written no longer, what is cut is too short. -/
import Derived.Test.YtpodhnaofhfinaaGreatDoorG11
import Derived.Test.YtpodhnaofhfinaaGreatDoorG10
set_option linter.unusedVariables false
set_option linter.unusedSimpArgs false
section
open Go.RowKit Go.Pl
namespace Go.Proofs.YtpodhnaofhfinaaGreatDoor
theorem rdS_suffix {s r : List UInt8} {h : Hd} (e : rdS s = .ok (h, r)) : ∃ pre, s = pre ++ r /\ 0 < pre.length := by
 cases s with
 | nil => simp [rdS] at e
 | cons c t =>
  simp only [rdS] at e
  split at e
  ·injection e with e; injection e with e1 e2; subst e2; exact ⟨[c], rfl, by simp⟩
  split at e
  ·injection e with e; injection e with e1 e2; subst e2; exact ⟨[c], rfl, by simp⟩
  split at e
  ·cases e
  split at e
  ·cases e
  ·injection e with e; injection e with e1 e2; subst e2
   exact ⟨c :: t.take (2 ^ (c.toNat % 32 - 24)), by simp, by simp⟩
theorem readN_rdS (b : List UInt8) (p : Nat) (hp : p <= b.length) : readN b p = match rdS (b.drop p) with
  | .error e => ((0, 0, false), 0, e)
  | .ok (h, r) => (h, b.length - r.length, 0) := by
 unfold readN
 have hl : (b.drop p).length = b.length - p := List.length_drop ..
 cases hs : b.drop p with
 | nil => simp [rdS]
 | cons c r =>
  rw [hs] at hl
  simp at hl
  simp only [rdS]
  by_cases h1 : c.toNat % 32 < 24
  ·simp [h1]; omega
  by_cases h2 : c.toNat % 32 = 31 /\ mayB (c.toNat / 32 : Nat) = true
  ·rw [if_neg h1, if_pos h2, if_neg h1, if_pos h2]
   simp; omega
  by_cases h3 : 27 < c.toNat % 32
  ·rw [if_neg h1, if_neg h2, if_pos h3, if_neg h1, if_neg h2, if_pos h3]
  by_cases h4 : r.length < 2 ^ (c.toNat % 32 - 24)
  ·rw [if_neg h1, if_neg h2, if_neg h3, if_pos h4, if_neg h1, if_neg h2, if_neg h3, if_pos h4]
  ·rw [if_neg h1, if_neg h2, if_neg h3, if_neg h4, if_neg h1, if_neg h2, if_neg h3, if_neg h4]
   generalize 2 ^ (c.toNat % 32 - 24) = k at h4 ⊢
   simp; omega
theorem rdS_write (h : Hd) (hr : rightB h = true) (hn : h.2.1 < 18446744073709551616) (s : List UInt8) : rdS (writeL h ++ s) = .ok (h, s) := by
 have e := read_write h hr hn [] s
 simp only [List.nil_append, List.length_nil, Nat.zero_add] at e
 rw [readN_rdS _ 0 (Nat.zero_le _), List.drop_zero] at e
 cases hx : rdS (writeL h ++ s) with
 | error c => rw [hx] at e; simp at e; have := e.2.1; have := writeL_length h hr; have : 0 < sizeN h := by unfold sizeN; rw [if_pos hr]; split <;> omega
              omega
 | ok y =>
  obtain ⟨h', r⟩ := y
  rw [hx] at e
  simp only [Prod.mk.injEq, and_true] at e
  obtain ⟨e1, e2⟩ := e
  obtain ⟨pre, hp, _⟩ := rdS_suffix hx
  have hl := congrArg List.length hp
  simp at hl e2
  have : pre.length = (writeL h).length := by omega
  have := List.append_inj hp this.symm
  rw [<- this.2, e1]
theorem rdS_ok {s r : List UInt8} {h : Hd} (e : rdS s = .ok (h, r)) : rightB h = true /\ h.2.1 < 18446744073709551616 /\ ∃ pre, s = pre ++ r /\ (writeL h).length <= pre.length /\ 0 < pre.length := by
 have e0 := readN_rdS s 0 (Nat.zero_le _)
 rw [List.drop_zero, e] at e0
 dsimp only at e0
 have w := write_read s 0 (by rw [e0])
 have bd := readN_bd s 0
 rw [e0] at w bd
 obtain ⟨pre, hp, h0⟩ := rdS_suffix e
 have hl := congrArg List.length hp
 simp at hl
 exact ⟨w.1, bd.2.1, pre, hp, by have := w.2.1; dsimp only at this; omega, h0⟩
theorem rdS_cut (h : Hd) (hr : rightB h = true) (hn : h.2.1 < 18446744073709551616) (c : Nat) (hc : c < (writeL h).length) : rdS ((writeL h).take c) = .error 8 := by
 cases c with
 | zero => rfl
 | succ c =>
  obtain ⟨m, n, o⟩ := h
  obtain ⟨hm0, hm7⟩ := right_major hr
  cases o with
  | true => simp [writeL] at hc
  | false =>
   have hw : writeL (m, n, false) = firstB m.toNat (infoN n) :: beN n (followN n) := rfl
   rw [hw] at hc ⊢
   simp only [List.length_cons, beN_length] at hc
   dsimp only at hm0 hm7 hn
   rw [List.take_succ_cons]
   have hi := infoN_le n
   have ht : (firstB m.toNat (infoN n)).toNat = 32 * m.toNat + infoN n := firstB_toNat _ _ (by omega) (by omega)
   rcases follow_cases n hn with ⟨_, hf, _⟩ | ⟨_, hf, h24, h27, _⟩
   ·omega
   ·simp only [rdS, ht]
    have e : (32 * m.toNat + infoN n) % 32 = infoN n := by omega
    rw [e, if_neg (by omega), if_neg (by omega), if_neg (by omega), if_pos]
    rw [List.length_take, beN_length, <- hf]
    omega
theorem ownI_k {k : Int} {n : Nat} {b : List UInt8} {l : List It} (h : ownI k n b l = true) : (k = 0 /\ b = [] /\ l = []) \/ (k = 2 /\ n = 0 /\ l = []) \/ (k = 3 /\ n = 0 /\ l = [] /\ validU b = true) \/ (k = 4 /\ n = 0 /\ b = []) := by
 unfold ownI at h
 by_cases h0 : k = 0
 ·simp [h0] at h; exact .inl ⟨h0, h⟩
 by_cases h2 : k = 2
 ·simp [h2] at h; exact .inr (.inl ⟨h2, h⟩)
 by_cases h3 : k = 3
 ·simp [h3] at h; exact .inr (.inr (.inl ⟨h3, h⟩))
 by_cases h4 : k = 4
 ·simp [h4] at h; exact .inr (.inr (.inr ⟨h4, h⟩))
 ·simp [h0, h2, h3, h4] at h
theorem putI_pos {x : It} (h : 0 <= x.k /\ x.k <= 7) : 0 < (putI x).length := by
 obtain ⟨k, n, b, l⟩ := x
 simp only [It.k] at h
 have hr : rightB (k, (It.mk k n b l).hn, false) = true := by simp [rightB]; exact h
 rw [putI, if_pos hr, List.length_append, writeL_length _ hr]
 unfold sizeN; rw [if_pos hr]; simp; omega
theorem walkI_own {k : Int} {n : Nat} {b : List UInt8} {l : List It} {d m m' : Nat} (h : walkI (.mk k n b l) d m = some m') : d <= 6 /\ 1 <= m /\ ownI k n b l = true /\ walks l (d + 1) (m - 1) = some m' := by
 rw [walkI] at h
 split at h
 ·cases h
 split at h
 ·cases h
 split at h
 ·cases h
 ·rename_i h3; exact ⟨by omega, by omega, h3, h⟩
theorem own_k07 {k : Int} {n : Nat} {b : List UInt8} {l : List It} (h : ownI k n b l = true) : 0 <= k /\ k <= 7 := by
 rcases ownI_k h with ⟨h, _⟩ | ⟨h, _⟩ | ⟨h, _⟩ | ⟨h, _⟩ <;> omega
theorem walks_cons {x : It} {l : List It} {d m m' : Nat} (h : walks (x :: l) d m = some m') : ∃ m1, walkI x d m = some m1 /\ walks l d m1 = some m' := by
 rw [walks] at h
 split at h
 ·cases h
 ·rename_i m1 h1; exact ⟨m1, h1, h⟩
theorem puts_len : ∀ {l : List It} {d m m' : Nat}, walks l d m = some m' -> l.length <= (puts l).length
 | [], _, _, _, _ => by simp
 | x :: l, d, m, m', h => by
  obtain ⟨m1, h1, h2⟩ := walks_cons h
  have := puts_len h2
  obtain ⟨k, n, b, lx⟩ := x
  have := putI_pos (x := .mk k n b lx) (own_k07 (walkI_own h1).2.2.1)
  rw [puts]; simp; omega
theorem okK_own {k : Int} {n : Nat} {b : List UInt8} {l : List It} (h : ownI k n b l = true) : okK k = true := by
 rcases ownI_k h with ⟨h, _⟩ | ⟨h, _⟩ | ⟨h, _⟩ | ⟨h, _⟩ <;> subst h <;> rfl
theorem head_put {k : Int} {n : Nat} {b : List UInt8} {l : List It} (h : ownI k n b l = true) (hw : wfI (.mk k n b l)) : rightB (k, (It.mk k n b l).hn, false) = true /\ (It.mk k n b l).hn < 18446744073709551616 := by
 refine ⟨by simp [rightB]; exact own_k07 h, ?_⟩
 obtain ⟨h1, h2, h3, _⟩ := hw
 rcases ownI_k h with ⟨h, _⟩ | ⟨h, _⟩ | ⟨h, _⟩ | ⟨h, _⟩ <;> subst h <;> simp [It.hn] <;> omega
mutual
theorem item_put : ∀ (x : It) (d m m' : Nat) (r : List UInt8), wfI x -> d <= 6 -> walkI x (7 - d) m = some m' -> itemS d m (putI x ++ r) = .ok (x, r, m')
 | .mk k n b l, d, m, m', r, hw, hd, h => by
  obtain ⟨h1, h2, h3, h4⟩ := walkI_own h
  obtain ⟨hr, hn⟩ := head_put h3 hw
  obtain ⟨d, rfl⟩ : ∃ e, d = e + 1 := ⟨d - 1, by omega⟩
  have e7 : 7 - (d + 1) + 1 = 7 - d := by omega
  rw [e7] at h4
  rw [putI, if_pos hr, List.append_assoc, itemS, rdS_write _ hr hn]
  dsimp only
  rw [okK_own h3, if_neg (by simp), if_neg (by omega)]
  obtain ⟨w1, w2, w3, w4⟩ := hw
  rcases ownI_k h3 with ⟨rfl, rfl, rfl⟩ | ⟨rfl, rfl, rfl⟩ | ⟨rfl, rfl, rfl, hv⟩ | ⟨rfl, rfl, rfl⟩
  ·simp only [walks, Option.some.injEq] at h4
   simp [bodyS, puts, It.hn, h4]
  ·simp only [walks, Option.some.injEq] at h4
   simp [bodyS, puts, It.hn, txtS, pieceS, h4]
  ·simp only [walks, Option.some.injEq] at h4
   simp [bodyS, puts, It.hn, txtS, pieceS, h4, hv]
  ·have hl := puts_len h4
   have hq := list_put l d (m - 1) m' [] r w4 (by omega) h4
   show bodyS (itemS d) (4, l.length, false) (m - 1) ([] ++ puts l ++ r) = _
   rw [bodyS, if_neg (by simp), if_pos rfl]
   simp only [lisS, List.nil_append]
   rw [if_pos (by rw [List.length_append]; omega), hq]
   rfl
theorem list_put : ∀ (l : List It) (d m m' : Nat) (acc : List It) (r : List UInt8), wfs l -> d <= 6 -> walks l (7 - d) m = some m' -> lstN (itemS d) l.length acc m (puts l ++ r) = .ok (acc ++ l, r, m')
 | [], d, m, m', acc, r, _, _, h => by
  simp only [walks, Option.some.injEq] at h
  simp [lstN, puts, h]
 | x :: l, d, m, m', acc, r, hw, hd, h => by
  obtain ⟨m1, h1, h2⟩ := walks_cons h
  rw [puts, List.append_assoc, List.length_cons, lstN, item_put x d m m1 _ hw.1 hd h1]
  dsimp only
  rw [list_put l d m1 m' (acc ++ [x]) r hw.2 hd h2]
  simp
end
mutual
theorem item_cut : ∀ (x : It) (d m m' c : Nat), wfI x -> d <= 6 -> walkI x (7 - d) m = some m' -> c < (putI x).length -> itemS d m ((putI x).take c) = .error 8
 | .mk k n b l, d, m, m', c, hw, hd, h, hc => by
  obtain ⟨h1, h2, h3, h4⟩ := walkI_own h
  obtain ⟨hr, hn⟩ := head_put h3 hw
  obtain ⟨d, rfl⟩ : ∃ e, d = e + 1 := ⟨d - 1, by omega⟩
  have e7 : 7 - (d + 1) + 1 = 7 - d := by omega
  rw [e7] at h4
  rw [putI, if_pos hr] at hc ⊢
  rw [itemS]
  rcases Nat.lt_or_ge c (writeL (k, (It.mk k n b l).hn, false)).length with hlt | hge
  ·rw [List.take_append_of_le_length (by omega), rdS_cut _ hr hn _ hlt]
  ·rw [List.take_append, List.take_of_length_le hge, rdS_write _ hr hn]
   dsimp only
   rw [okK_own h3, if_neg (by simp), if_neg (by omega)]
   obtain ⟨w1, w2, w3, w4⟩ := hw
   generalize hc' : c - (writeL (k, (It.mk k n b l).hn, false)).length = c'
   have hlt : c' < (b ++ puts l).length := by rw [List.length_append] at hc; omega
   rcases ownI_k h3 with ⟨rfl, rfl, rfl⟩ | ⟨rfl, rfl, rfl⟩ | ⟨rfl, rfl, rfl, hv⟩ | ⟨rfl, rfl, rfl⟩
   ·simp [puts] at hlt
   ·simp [puts] at hlt
    show bodyS (itemS d) (2, b.length, false) (m - 1) ((b ++ []).take c') = _
    have hx : ¬ b.length <= min c' b.length := by omega
    simp [bodyS, txtS, pieceS, List.length_take, hx]
   ·simp [puts] at hlt
    show bodyS (itemS d) (3, b.length, false) (m - 1) ((b ++ []).take c') = _
    have hx : ¬ b.length <= min c' b.length := by omega
    simp [bodyS, txtS, pieceS, List.length_take, hx]
   ·simp only [List.nil_append] at hlt
    have hq := list_cut l d (m - 1) m' c' [] w4 (by omega) h4 hlt
    show bodyS (itemS d) (4, l.length, false) (m - 1) (([] ++ puts l).take c') = _
    rw [bodyS, if_neg (by simp), if_pos rfl]
    simp only [lisS, List.nil_append]
    by_cases hx : l.length <= ((puts l).take c').length
    ·rw [if_pos hx, hq]
    ·rw [if_neg hx]
theorem list_cut : ∀ (l : List It) (d m m' c : Nat) (acc : List It), wfs l -> d <= 6 -> walks l (7 - d) m = some m' -> c < (puts l).length -> lstN (itemS d) l.length acc m ((puts l).take c) = .error 8
 | [], d, m, m', c, acc, _, _, h, hc => by simp [puts] at hc
 | x :: l, d, m, m', c, acc, hw, hd, h, hc => by
  obtain ⟨m1, h1, h2⟩ := walks_cons h
  rw [puts] at hc ⊢
  rw [List.length_cons, lstN]
  rcases Nat.lt_or_ge c (putI x).length with hlt | hge
  ·rw [List.take_append_of_le_length (by omega), item_cut x d m m1 c hw.1 hd h1 hlt]
  ·rw [List.take_append, List.take_of_length_le hge, item_put x d m m1 _ hw.1 hd h1]
   dsimp only
   exact list_cut l d m1 m' _ _ hw.2 hd h2 (by rw [List.length_append] at hc; omega)
end
theorem pieceS_ok {h : Hd} {s c r : List UInt8} (e : pieceS h s = .ok (c, r)) : s = c ++ r /\ c.length = h.2.1 /\ (h.1 = 3 -> validU c = true) := by
 unfold pieceS at e
 split at e
 ·split at e
  ·cases e
  ·rename_i h1 h2
   injection e with e; injection e with e1 e2
   subst e1 e2
   refine ⟨by simp, by simp; omega, fun h3 => ?_⟩
   simpa [h3] using h2
 ·cases e
theorem fol_add (a b : Nat) (h : a + b < 4294967296) : followN (a + b) <= followN a + followN b + 2 := by
 unfold followN
 repeat' split
 all_goals omega
theorem strS_ok {m : Int} : ∀ (f : Nat) (acc s c r : List UInt8), strS m f acc s = .ok (c, r) -> (m = 3 -> validU acc = true) -> ∃ (pre d : List UInt8) (q : Nat), s = pre ++ r /\ c = acc ++ d /\ (m = 3 -> validU c = true) /\ pre.length = 1 + d.length + q /\
  (s.length < 4294967296 -> followN d.length <= 1 + q /\ (d = [] \/ followN d.length + 1 <= q \/ 2 <= q))
 | 0, _, _, _, _, h, _ => by simp [strS] at h
 | f + 1, acc, s, c, r, h, ha => by
  rw [strS] at h
  cases he : endB s with
  | true =>
   rw [he] at h
   injection h with h; injection h with h1 h2; subst h1 h2
   obtain ⟨x, t, rfl⟩ : ∃ x t, s = x :: t := by cases s with | nil => simp [endB] at he | cons x t => exact ⟨x, t, rfl⟩
   exact ⟨[x], [], 0, rfl, by simp, ha, by simp, fun _ => ⟨by simp [followN], .inl rfl⟩⟩
  | false =>
   rw [he] at h
   dsimp only at h
   cases hr : rdS s with
   | error e => rw [hr] at h; cases h
   | ok y =>
    obtain ⟨p, t⟩ := y
    rw [hr] at h
    dsimp only at h
    obtain ⟨k1, k2, pre, k3, k4, k5⟩ := rdS_ok hr
    by_cases hp : p.1 = m /\ p.2.2 = false
    ·rw [if_pos hp] at h
     cases hc : pieceS p t with
     | error e => rw [hc] at h; cases h
     | ok y =>
      obtain ⟨c1, r2⟩ := y
      rw [hc] at h
      dsimp only at h
      obtain ⟨q1, q2, q3⟩ := pieceS_ok hc
      have hv : m = 3 -> validU (acc ++ c1) = true := fun h3 => by
       rw [validU_append _ _ _ (Nat.le_refl _) (ha h3)]
       exact q3 (hp.1.trans h3)
      obtain ⟨pre2, d2, q, e1, e2, e3, e4, e5⟩ := strS_ok f _ _ _ _ h hv
      have hw : (writeL p).length = 1 + followN c1.length := by
       rw [writeL_length p k1]; unfold sizeN; rw [if_pos k1, hp.2, <- q2]; simp
      refine ⟨pre ++ (c1 ++ pre2), c1 ++ d2, pre.length + q, by rw [k3, q1, e1]; simp, by rw [e2]; simp, e3, by simp; omega, fun hl => ?_⟩
      have hlen := congrArg List.length k3
      have hlen2 := congrArg List.length q1
      have hlen3 := congrArg List.length e1
      simp only [List.length_append] at hlen hlen2 hlen3 ⊢
      obtain ⟨f1, f2⟩ := e5 (by omega)
      have hadd := fol_add c1.length d2.length (by omega)
      have h4 : followN (c1.length + d2.length) <= 4 := by
       unfold followN
       repeat' split
       all_goals omega
      have hz : d2 = [] -> followN (c1.length + d2.length) = followN c1.length := fun e => by rw [e]; rfl
      rcases f2 with e | f2 | f2
      ·rw [hz e]; omega
      ·omega
      ·omega
    ·rw [if_neg hp] at h; cases h
theorem tail_length (s : List UInt8) (h : endB s = true) : ∃ x, s = x :: s.tail := by
 cases s with
 | nil => simp [endB] at h
 | cons x t => exact ⟨x, rfl⟩
def Reads (it : Nat -> List UInt8 -> Res (It × List UInt8 × Nat)) (D : Nat) : Prop := ∀ (m : Nat) (s : List UInt8) (x : It) (r : List UInt8) (m' : Nat), it m s = .ok (x, r, m') -> s.length <= 1099511627776 -> walkI x D m = some m' /\ wfI x /\ ∃ pre, s = pre ++ r /\ 0 < pre.length /\ (m <= 256 /\ s.length < 4294967296 -> (putI x).length <= pre.length)
mutual
theorem walkI_lt : ∀ {x : It} {d m m' : Nat}, walkI x d m = some m' -> m' + 1 <= m
 | .mk k n b l, d, m, m', h => by
  obtain ⟨_, h2, _, h4⟩ := walkI_own h
  have := walks_lt h4
  omega
theorem walks_lt : ∀ {l : List It} {d m m' : Nat}, walks l d m = some m' -> m' + l.length <= m
 | [], d, m, m', h => by simp only [walks, Option.some.injEq] at h; simp [h]
 | x :: l, d, m, m', h => by
  obtain ⟨m1, h1, h2⟩ := walks_cons h
  have := walkI_lt h1
  have := walks_lt h2
  simp; omega
end
theorem walks_snoc : ∀ {l : List It} {x : It} {D m m1 m2 : Nat}, walks l D m = some m1 -> walkI x D m1 = some m2 -> walks (l ++ [x]) D m = some m2
 | [], x, D, m, m1, m2, h1, h2 => by
  simp only [walks, Option.some.injEq] at h1
  subst h1
  simp [walks, h2]
 | y :: l, x, D, m, m1, m2, h1, h2 => by
  obtain ⟨m3, h3, h4⟩ := walks_cons h1
  rw [List.cons_append, walks, h3]
  exact walks_snoc h4 h2
theorem wfs_snoc : ∀ {l : List It} {x : It}, wfs l -> wfI x -> wfs (l ++ [x])
 | [], x, _, h => ⟨h, trivial⟩
 | y :: l, x, ⟨h1, h2⟩, h => ⟨h1, wfs_snoc h2 h⟩
theorem puts_app : ∀ (l l' : List It), puts (l ++ l') = puts l ++ puts l'
 | [], l' => rfl
 | x :: l, l' => by rw [List.cons_append, puts, puts, puts_app l l', List.append_assoc]
theorem lstN_ok {it : Nat -> List UInt8 -> Res (It × List UInt8 × Nat)} {D : Nat} (hit : Reads it D) : ∀ (f : Nat) (acc : List It) (m0 m : Nat) (s : List UInt8) (l : List It) (r : List UInt8) (m' : Nat), lstN it f acc m s = .ok (l, r, m') -> s.length <= 1099511627776 -> walks acc D m0 = some m -> wfs acc ->
  walks l D m0 = some m' /\ wfs l /\ l.length = acc.length + f /\ ∃ pre, s = pre ++ r /\ (m <= 256 /\ s.length < 4294967296 -> (puts l).length <= (puts acc).length + pre.length)
 | 0, acc, m0, m, s, l, r, m', h, hs, ha, hw => by
  rw [lstN] at h
  injection h with h; injection h with h1 h2; injection h2 with h2 h3
  subst h1 h2 h3
  exact ⟨ha, hw, rfl, [], rfl, fun _ => by simp⟩
 | f + 1, acc, m0, m, s, l, r, m', h, hs, ha, hw => by
  rw [lstN] at h
  cases hx : it m s with
  | error e => rw [hx] at h; cases h
  | ok y =>
   obtain ⟨x, r1, m1⟩ := y
   rw [hx] at h
   dsimp only at h
   obtain ⟨k1, k2, pre, k3, k4, k5⟩ := hit _ _ _ _ _ hx hs
   have hl := congrArg List.length k3
   rw [List.length_append] at hl
   obtain ⟨q1, q2, q3, pre2, q4, q5⟩ := lstN_ok hit f _ m0 _ _ _ _ _ h (by omega) (walks_snoc ha k1) (wfs_snoc hw k2)
   refine ⟨q1, q2, by rw [q3]; simp; omega, pre ++ pre2, by rw [k3, q4]; simp, fun h4 => ?_⟩
   have := walkI_lt k1
   have := q5 (by omega)
   have := k5 h4
   rw [puts_app] at *
   simp [puts] at *
   omega
theorem lstO_ok {it : Nat -> List UInt8 -> Res (It × List UInt8 × Nat)} {D : Nat} (hit : Reads it D) : ∀ (f : Nat) (acc : List It) (m0 m : Nat) (s : List UInt8) (l : List It) (r : List UInt8) (m' : Nat), lstO it f acc m s = .ok (l, r, m') -> s.length <= 1099511627776 -> walks acc D m0 = some m -> wfs acc ->
  walks l D m0 = some m' /\ wfs l /\ acc.length <= l.length /\ ∃ pre, s = pre ++ r /\ l.length + 1 <= acc.length + pre.length /\ (m <= 256 /\ s.length < 4294967296 -> (puts l).length + 1 <= (puts acc).length + pre.length)
 | 0, acc, m0, m, s, l, r, m', h, hs, ha, hw => by rw [lstO] at h; cases h
 | f + 1, acc, m0, m, s, l, r, m', h, hs, ha, hw => by
  rw [lstO] at h
  cases he : endB s with
  | true =>
   rw [he] at h
   injection h with h; injection h with h1 h2; injection h2 with h2 h3
   subst h1 h2 h3
   obtain ⟨x, hx⟩ := tail_length s he
   exact ⟨ha, hw, Nat.le_refl _, [x], hx, by simp, fun _ => by simp⟩
  | false =>
   rw [he] at h
   dsimp only at h
   cases hx : it m s with
   | error e => rw [hx] at h; cases h
   | ok y =>
    obtain ⟨x, r1, m1⟩ := y
    rw [hx] at h
    dsimp only at h
    obtain ⟨k1, k2, pre, k3, k4, k5⟩ := hit _ _ _ _ _ hx hs
    have hl := congrArg List.length k3
    rw [List.length_append] at hl
    obtain ⟨q1, q2, q3, pre2, q4, q5, q6⟩ := lstO_ok hit f _ m0 _ _ _ _ _ h (by omega) (walks_snoc ha k1) (wfs_snoc hw k2)
    refine ⟨q1, q2, by simp at q3; omega, pre ++ pre2, by rw [k3, q4]; simp, by simp at q5 ⊢; omega, fun h4 => ?_⟩
    have := walkI_lt k1
    have := q6 (by omega)
    have := k5 h4
    rw [puts_app] at *
    simp [puts] at *
    omega
theorem putI_len {k : Int} {n : Nat} {b : List UInt8} {l : List It} (hr : rightB (k, (It.mk k n b l).hn, false) = true) : (putI (.mk k n b l)).length = 1 + followN (It.mk k n b l).hn + (b.length + (puts l).length) := by
 rw [putI, if_pos hr]
 simp only [List.length_append]
 rw [writeL_length _ hr]
 unfold sizeN; rw [if_pos hr]; simp
theorem writeL_le {h : Hd} (hr : rightB h = true) (ho : h.2.2 = false) : (writeL h).length = 1 + followN h.2.1 := by
 rw [writeL_length h hr]; unfold sizeN; rw [if_pos hr, ho]; rfl
theorem okK_cases {k : Int} (h : okK k = true) : k = 0 \/ k = 2 \/ k = 3 \/ k = 4 := by
 simpa [okK] using h
theorem item_ok : ∀ (d : Nat), d <= 6 -> Reads (itemS d) (7 - d)
 | 0, _ => fun m s x r m' h hs => by
  rw [itemS] at h
  cases hr : rdS s with
  | error e => rw [hr] at h; cases h
  | ok y => obtain ⟨hd, t⟩ := y; rw [hr] at h; dsimp only at h; split at h <;> cases h
 | d + 1, hd => fun m s x r m' h hs => by
  rw [itemS] at h
  cases hr : rdS s with
  | error e => rw [hr] at h; cases h
  | ok y =>
   obtain ⟨⟨k, n, o⟩, t⟩ := y
   rw [hr] at h
   dsimp only at h
   obtain ⟨k1, k2, pre, k3, k4, k5⟩ := rdS_ok hr
   dsimp only at k2
   have hlen := congrArg List.length k3
   rw [List.length_append] at hlen
   cases hk : okK k with
   | false => rw [hk, if_pos rfl] at h; cases h
   | true =>
    rw [hk, if_neg (by simp)] at h
    by_cases hm : m = 0
    ·rw [if_pos hm] at h; cases h
    ·rw [if_neg hm] at h
     have hwk : ∀ (k : Int) (n : Nat) (b : List UInt8) (l : List It), ownI k n b l = true -> walks l (7 - d) (m - 1) = some m' -> walkI (.mk k n b l) (7 - (d + 1)) m = some m' := fun k n b l ho hl => by
      rw [walkI, if_neg (by omega), if_neg (by omega), ho, show 7 - (d + 1) + 1 = 7 - d by omega]
      exact hl
     have hr0 : ∀ (k : Int) (n : Nat) (b : List UInt8) (l : List It), ownI k n b l = true -> rightB (k, (It.mk k n b l).hn, false) = true := fun k n b l ho => by
      have := own_k07 ho
      simp [rightB]; exact this
     unfold bodyS at h
     dsimp only at h
     by_cases h0 : k = 0
     ·subst h0
      rw [if_pos rfl] at h
      injection h with h; injection h with h1 h2; injection h2 with h2 h3
      subst h1 h2 h3
      have ho : ownI 0 n [] [] = true := rfl
      refine ⟨hwk _ _ _ _ ho (by simp [walks]), ⟨k2, by simp, by simp, trivial⟩, pre, k3, k5, fun _ => ?_⟩
      rw [putI_len (hr0 _ _ _ _ ho)]
      have hof : o = false := by cases o with
       | false => rfl
       | true => have := (mayB_of_open k1).2; simp [mayB] at this
      subst hof
      have := writeL_le k1 rfl
      simp [It.hn, puts] at this ⊢
      omega
     rw [if_neg h0] at h
     by_cases h4 : k = 4
     ·subst h4
      rw [if_pos rfl] at h
      cases hl : lisS (itemS d) (4, n, o) (m - 1) t with
      | error e => rw [hl] at h; cases h
      | ok y =>
       obtain ⟨l, r2, m2⟩ := y
       rw [hl] at h
       dsimp only at h
       injection h with h; injection h with h1 h2; injection h2 with h2 h3
       subst h1 h2 h3
       have ho : ownI 4 0 [] l = true := rfl
       have hR := item_ok d (by omega)
       unfold lisS at hl
       dsimp only at hl
       cases o with
       | true =>
        dsimp only at hl
        obtain ⟨q1, q2, q3, pre2, q4, q5, q6⟩ := lstO_ok hR _ _ (m - 1) _ _ _ _ _ hl (by omega) rfl trivial
        have hl2 := congrArg List.length q4
        rw [List.length_append] at hl2
        simp at q5
        refine ⟨hwk _ _ _ _ ho q1, ⟨by omega, by simp, by omega, q2⟩, pre ++ pre2, by rw [k3, q4]; simp, by simp; omega, fun h4 => ?_⟩
        have := q6 (by omega)
        rw [putI_len (hr0 _ _ _ _ ho)]
        have hc := walks_lt q1
        have hf : followN l.length <= 1 := by
         unfold followN
         repeat' split
         all_goals omega
        simp [It.hn, puts] at this ⊢
        omega
       | false =>
        dsimp only at hl
        split at hl
        ·obtain ⟨q1, q2, q3, pre2, q4, q5⟩ := lstN_ok hR _ _ (m - 1) _ _ _ _ _ hl (by omega) rfl trivial
         have hl2 := congrArg List.length q4
         rw [List.length_append] at hl2
         simp at q3
         refine ⟨hwk _ _ _ _ ho q1, ⟨by omega, by simp, by omega, q2⟩, pre ++ pre2, by rw [k3, q4]; simp, by simp; omega, fun h4 => ?_⟩
         have := q5 (by omega)
         rw [putI_len (hr0 _ _ _ _ ho)]
         have := writeL_le k1 rfl
         simp [It.hn, puts, q3] at this ⊢
         simp [puts] at *
         omega
        ·cases hl
     ·rw [if_neg h4] at h
      cases hl : txtS (k, n, o) t with
      | error e => rw [hl] at h; cases h
      | ok y =>
       obtain ⟨c, r2⟩ := y
       rw [hl] at h
       dsimp only at h
       injection h with h; injection h with h1 h2; injection h2 with h2 h3
       subst h1 h2 h3
       have hk' : k = 2 \/ k = 3 := by rcases okK_cases hk with h | h | h | h <;> simp_all
       have hhn : (It.mk k 0 c []).hn = c.length := by rcases hk' with rfl | rfl <;> rfl
       have ho : (k = 3 -> validU c = true) -> ownI k 0 c [] = true := fun hv => by
        rcases hk' with rfl | rfl
        ·rfl
        ·simp [ownI, hv]
       unfold txtS at hl
       dsimp only at hl
       cases o with
       | true =>
        dsimp only at hl
        obtain ⟨pre2, d2, q, e1, e2, e3, e4, e5⟩ := strS_ok _ _ _ _ _ hl (fun _ => rfl)
        simp only [List.nil_append] at e2
        subst e2
        have hl2 := congrArg List.length e1
        rw [List.length_append] at hl2
        refine ⟨hwk _ _ _ _ (ho e3) rfl, ⟨by omega, by omega, by simp, trivial⟩, pre ++ pre2, by rw [k3, e1]; simp, by simp; omega, fun h4 => ?_⟩
        have := e5 (by omega)
        rw [putI_len (hr0 _ _ _ _ (ho e3)), hhn]
        simp [puts]
        omega
       | false =>
        dsimp only at hl
        obtain ⟨q1, q2, q3⟩ := pieceS_ok hl
        dsimp only at q2 q3
        have hl2 := congrArg List.length q1
        rw [List.length_append] at hl2
        refine ⟨hwk _ _ _ _ (ho q3) rfl, ⟨by omega, by omega, by simp, trivial⟩, pre ++ c, by rw [k3, q1]; simp, by simp; omega, fun h4 => ?_⟩
        rw [putI_len (hr0 _ _ _ _ (ho q3)), hhn]
        have := writeL_le k1 rfl
        dsimp only at this
        have e : followN c.length = followN n := by rw [q2]
        simp [puts]
        omega
end Go.Proofs.YtpodhnaofhfinaaGreatDoor
end
section
open Go.RowKit Go.Pl Go.Av
namespace Go.Proofs.YtpodhnaofhfinaaGreatDoor
set_option maxHeartbeats 4000000
theorem av_cloneB [Known] (b : List UInt8) (hb : b.length <= 140737488351232) : AP Tryz.prog 25 [byE b] (byE b) [] := by
 have hU := uniB1 b
 cases b with
 | nil =>
  refine AP.ofA ?_
  refine AC_of Tryz.func25 rfl Tryz.ntmps25 rfl rfl ?_
  repeat' (first | (apply AL_snil ttok; (iterate 5 exact rfl); intro b hbn) | (apply AL_go ttok; exact rfl) | (apply AW_go ttok; exact rfl) | (apply K_go ttok; exact rfl) | (apply AW_cond'; exact rfl; all_goals intro hb) | (apply AL_bs ttok; (iterate 12 exact rfl)) | (apply AL_append_none ttok; (iterate 6 exact rfl)))
  all_goals (apply endQ []; (apply resG_ok ttok; exact rfl); (iterate 4 exact rfl))
  all_goals rfl
 | cons c b =>
  refine AP.ofA ?_
  refine AC_of Tryz.func25 rfl Tryz.ntmps25 rfl rfl ?_
  repeat' (first | (apply AL_snil ttok; (iterate 5 exact rfl); intro b hbn; (have hbn2 := hbn (List.cons_ne_nil _ _)); subst hbn2; clear hbn) | (apply AL_go ttok; exact rfl) | (apply AW_go ttok; exact rfl) | (apply K_go ttok; exact rfl) | (apply AW_condB; exact rfl; (first | with_reducible assumption | (solve | simp only [bn]))) | (apply AL_bs ttok; (iterate 12 exact rfl)) | (apply AL_append ttok; (iterate 6 exact rfl); (first | with_reducible assumption | exact rfl | rotate_left); exact rfl; exact rfl; (first | exact uniB_ok rfl | with_reducible assumption | rotate_left); (first | exact uniB_ok rfl | with_reducible assumption | rotate_left); (first | exact List.cons_ne_nil _ _ | with_reducible assumption | rotate_left); (first | with_reducible assumption | rotate_left); (first | with_reducible assumption | rotate_left); exact rfl; exact rfl))
  all_goals first | (apply endQ []; (apply resG_ok ttok; exact rfl); (iterate 4 exact rfl)) | skip
  all_goals first | rfl | (simp at hb ⊢; (try unfold maxLen); omega)
theorem av_bEq [Known] (a b : List UInt8) : AP Tryz.prog 44 [byE a, byE b] (.bool (a == b)) [] := by
 refine AP.ofA ?_
 refine AC_of Tryz.func44 rfl Tryz.ntmps44 rfl rfl ?_
 repeat' (first | (apply AL_go ttok; exact rfl) | (apply AW_go ttok; exact rfl) | (apply AL_b2s ttok; (iterate 9 exact rfl)))
 all_goals (apply endQ []; (apply resG_ok ttok; exact rfl); (iterate 4 exact rfl))
 all_goals rfl
end Go.Proofs.YtpodhnaofhfinaaGreatDoor
end
section
open Go.RowKit Go.Pl Go.Av
namespace Go.Proofs.YtpodhnaofhfinaaGreatDoor
set_option maxHeartbeats 4000000
theorem It.ind {P : It -> Prop} (h : ∀ k n b l, (∀ y ∈ l, P y) -> P (.mk k n b l)) : ∀ x, P x := by
 intro x
 refine It.rec (motive_1 := P) (motive_2 := fun l => ∀ y ∈ l, P y) (fun k n b l ih => h k n b l ih) (by simp) (fun x l hx hl y hy => ?_) x
 rcases List.mem_cons.1 hy with rfl | hy
 ·exact hx
 ·exact hl y hy
mutual
def itE : It -> E
 | .mk k n b l => .agg [.int .i64 k, .int .u64 (n : Int), .sl (b.map E.byte), .sl (itEs l)]
def itEs : List It -> List E
 | [] => []
 | x :: l => itE x :: itEs l
end
theorem itEs_map : ∀ l : List It, itEs l = l.map itE
 | [] => rfl
 | x :: l => by rw [itEs, List.map_cons, itEs_map l]
theorem itEs_app (a b : List It) : itEs (a ++ b) = itEs a ++ itEs b := by rw [itEs_map, itEs_map, itEs_map, List.map_append]
theorem itEs_len (l : List It) : (itEs l).length = l.length := by rw [itEs_map, List.length_map]
abbrev itC (k : Int) (n : Nat) (b : List UInt8) (l : List It) : List D := [.int .i64 k, .int .u64 (n : Int), byE b, .sl .ext (itEs l)]
def itD : It -> D
 | .mk k n b l => .agg (itC k n b l)
theorem itE_cells (x : It) : (itE x).cells.length = 4 := by obtain ⟨k, n, b, l⟩ := x; rfl
theorem uniI (l : List It) : Uni 4 (itEs l) := by rw [itEs_map]; exact Uni.map itE_cells l
theorem wfs_mem : ∀ {l : List It}, wfs l -> ∀ y ∈ l, wfI y
 | x :: l, ⟨h1, h2⟩, y, hy => by
  rcases List.mem_cons.1 hy with rfl | hy
  ·exact h1
  ·exact wfs_mem h2 y hy
theorem av_copied [Known] : ∀ (x : It), wfI x -> AP Tryz.prog 72 [itD x] (itD x) [] := by
 refine It.ind fun k n b l ih hw => ?_
 obtain ⟨hn, hb, hl, hws⟩ := hw
 have ih' : ∀ y ∈ l, AP Tryz.prog 72 [itD y] (itD y) [] := fun y hy => ih y hy (wfs_mem hws y hy)
 clear ih
 have hlen := itEs_len l
 refine AP.ofA ?_
 refine AC_of Tryz.func72 rfl Tryz.ntmps72 rfl rfl ?_
 repeat' (first | (apply AL_callPw (av_cloneB b hb); kernel_rfl; (iterate 4 exact rfl)) | (apply AL_go ttok; exact rfl) | (apply AW_go ttok; exact rfl) | (apply AL_len ttok; (iterate 4 exact rfl)))
 refine AW_loopJ (fun k' tm bx fr => ∃ (i c : Nat) (L : List E), k' + i = l.length /\ c = L.length /\ L = itEs (l.take i) /\ tm = [(1, .ptr 0 0), (2, .ptr 1 0), (13, .sl .ext (itEs l)), (14, .int .i64 ((itEs l).length : Int)), (15, .int .i64 (i : Int))] /\
  ((i = 0 /\ bx = [[.int .i64 k, .int .u64 (n : Int), byE b, .sl .nil []], [.int .i64 0, .int .u64 0, .sl .nil [], .sl .nil []]] /\ fr = []) \/
  (bx = [[.int .i64 k, .int .u64 (n : Int), byE b, .sl (.own 0) L], [.int .i64 0, .int .u64 0, .sl .nil [], .sl .nil []]] /\ fr = [⟨c, 4, 83⟩]))) (l.length + 1) (Lands.mk' (m := l.length) (Nat.lt_succ_self _) ⟨0, 0, [], rfl, rfl, rfl, rfl, .inl ⟨rfl, rfl, rfl⟩⟩ ?_ rfl rfl rfl rfl rfl rfl) ?_
 ·exact .cons rfl (.cons rfl (.cons rfl (.cons rfl (.cons rfl .nil))))
 rintro k' tm bx fr ⟨i, c, L, hi, hc, hL, rfl, ⟨rfl, rfl, rfl⟩ | ⟨rfl, rfl⟩⟩
 ·cases l with
  | nil =>
   repeat' (first | (apply AW_go ttok; exact rfl) | (apply AW_condB; exact rfl; (first | with_reducible assumption | decide +kernel)))
   all_goals (apply endQ []; (apply resG_ok ttok; exact rfl); (iterate 4 exact rfl))
   all_goals rfl
  | cons y l =>
   have hc := ih' y (List.mem_cons_self ..)
   have hU := uniI (y :: l)
   have hd : decide (((0 : Nat) : Int) < ((itEs (y :: l)).length : Int)) = true := decide_eq_true (by rw [itEs]; simp)
   obtain ⟨k1, n1, b1, l1⟩ := y
   repeat' (first | (apply AL_callPw (hc); kernel_rfl; (iterate 4 exact rfl)) | (apply AL_append_nilZ ttok; (iterate 6 exact rfl); exact uniB_ok rfl; exact List.cons_ne_nil _ _; exact rfl; decide +kernel; decide +kernel; (iterate 3 exact rfl)) | (apply AL_go ttok; exact rfl) | (apply AW_go ttok; exact rfl) | (apply K_go ttok; exact rfl) | (apply AW_condA; exact rfl; (first | with_reducible assumption | decide +kernel)) | (apply AL_bsZ ttok; (iterate 12 exact rfl)) | (apply AW_drawE 5 hmix; (decide +kernel); (kernel_rfl); (kernel_rfl); (kernel_rfl); exact rfl; exact rfl) | (apply AE_consZ; (iterate 4 exact rfl)) | exact AE.nil _ _ _ _ | (apply AEk_puT; exact rfl) | (apply AOt_mk; exact rfl; exact rfl; (decide +kernel); exact rfl) | (apply AO_puT; exact rfl) | exact AO.nil _ _ _ | (apply AOs_skip; (decide +kernel)) | exact AOs.nil | exact qY_ok rfl rfl | exact qY_wk rfl rfl rfl rfl rfl | (apply AL_idx ttok; (iterate 6 exact rfl); (first | with_reducible assumption | decide +kernel | exact Int.natCast_nonneg _ | (guard_target = (0:Int) <= (OfNat.ofNat _ : Int); decide) | rotate_left); (first | with_reducible assumption | decide +kernel | exact rfl); (first | exact uniB_ok rfl | with_reducible assumption | decide +kernel | rotate_left)))
   refine Lands.mk' (m := k' - 1) (by simp at hi; omega) ⟨1, 1, itEs [It.mk k1 n1 b1 l1], by simp at hi ⊢; omega, rfl, rfl, rfl, .inr ⟨rfl, rfl⟩⟩ ?_ rfl rfl rfl rfl rfl rfl
   exact .cons rfl (.cons rfl (.cons rfl (.cons rfl (.cons rfl .nil))))
 ·have hU := uniI l
  have hU2 : Uni 4 L := hL ▸ uniI (l.take i)
  have el := itEs_len (l.take i)
  rw [<- hL] at el
  subst hc
  rcases Nat.lt_or_ge i l.length with hlt | hge
  ·have hd : decide ((i : Int) < ((itEs l).length : Int)) = true := decide_eq_true (by omega)
   obtain ⟨⟨k1, n1, b1, l1⟩, hy⟩ : ∃ y, l[i]? = some y := ⟨_, List.getElem?_eq_getElem hlt⟩
   have hv : (itEs l)[((i : Nat) : Int).toNat]? = some (.agg [.int .i64 k1, .int .u64 (n1 : Int), .sl (b1.map E.byte), .sl (itEs l1)]) := by
    rw [Int.toNat_natCast, itEs_map, List.getElem?_map, hy]; rfl
   have hc := ih' _ (List.mem_of_getElem? hy)
   have ei : IntKind.i64.wrap ((i : Int) + 1) = ((i + 1 : Nat) : Int) := by rw [IntWalk.i64_in _ (by omega)]; omega
   have hs : L ++ [E.agg [.int .i64 k1, .int .u64 (n1 : Int), .sl (b1.map E.byte), .sl (itEs l1)]] = itEs (l.take (i + 1)) := by
    rw [hL, List.take_add_one, hy]; exact (itEs_app _ [It.mk k1 n1 b1 l1]).symm
   rw [List.length_take] at el
   repeat' (first | (apply AL_callPw (hc); kernel_rfl; (iterate 4 exact rfl)) | rw [ei] | (apply AL_go ttok; exact rfl) | (apply AW_go ttok; exact rfl) | (apply K_go ttok; exact rfl) | (apply AW_condA; exact rfl; (first | with_reducible assumption | decide +kernel)) | (apply AL_bsZ ttok; (iterate 12 exact rfl)) | (apply AW_drawE 5 hmix; (decide +kernel); (kernel_rfl); (kernel_rfl); (kernel_rfl); exact rfl; exact rfl) | (apply AE_consZ; (iterate 4 exact rfl)) | exact AE.nil _ _ _ _ | (apply AEk_puT; exact rfl) | (apply AOt_mk; exact rfl; exact rfl; (decide +kernel); exact rfl) | (apply AO_puT; exact rfl) | exact AO.nil _ _ _ | (apply AOs_skip; (decide +kernel)) | exact AOs.nil | exact qY_ok rfl rfl | exact qY_wk rfl rfl rfl rfl rfl | (apply AL_append ttok; (iterate 6 exact rfl); (first | with_reducible assumption | decide +kernel | exact rfl | rotate_left); exact rfl; exact rfl; (first | exact uniB_ok rfl | with_reducible assumption | decide +kernel | rotate_left); (first | exact uniB_ok rfl | with_reducible assumption | decide +kernel | rotate_left); (first | exact List.cons_ne_nil _ _ | with_reducible assumption | decide +kernel | rotate_left); (first | with_reducible assumption | decide +kernel | rotate_left); (first | with_reducible assumption | decide +kernel | rotate_left); exact rfl; exact rfl) | (apply AL_idx ttok; (iterate 6 exact rfl); (first | with_reducible assumption | decide +kernel | exact Int.natCast_nonneg _ | (guard_target = (0:Int) <= (OfNat.ofNat _ : Int); decide) | rotate_left); (first | with_reducible assumption | decide +kernel | exact rfl); (first | exact uniB_ok rfl | with_reducible assumption | decide +kernel | rotate_left)))
   ·refine Lands.mk' (m := k' - 1) (by omega) ⟨i + 1, L.length + 1, _, by omega, by rw [List.length_append]; rfl, hs, rfl, .inr ⟨rfl, rfl⟩⟩ ?_ rfl rfl rfl rfl rfl rfl
    exact .cons rfl (.cons rfl (.cons rfl (.cons rfl (.cons rfl .nil))))
   all_goals (first | rfl | (simp only [List.length_append, List.length_cons, List.length_nil, List.length_map, itEs_len]; done) | (simp only [List.length_append, List.length_cons, List.length_nil, List.length_map, itEs_len] at *; (try unfold maxLen); (try simp only [Nat.add_mul]); omega))
  ·have hd : decide ((i : Int) < ((itEs l).length : Int)) = false := decide_eq_false (by omega)
   rw [List.take_of_length_le hge] at hL
   subst hL
   repeat' (first | (apply AW_go ttok; exact rfl) | (apply AW_condB; exact rfl; (first | with_reducible assumption | decide +kernel)))
   all_goals (apply endQ []; (apply resG_ok ttok; exact rfl); (iterate 4 exact rfl))
   all_goals rfl
theorem av_num [Known] (n : Nat) : AP Tryz.prog 48 [.int .u64 (n : Int)] (itD (.mk 0 n [] [])) [] := by
 refine AP.ofA ?_
 refine AC_of Tryz.func48 rfl Tryz.ntmps48 rfl rfl ?_
 repeat' (first | (apply AW_go ttok; exact rfl))
 all_goals (apply endQ []; (apply resG_ok ttok; exact rfl); (iterate 4 exact rfl))
 all_goals rfl
theorem av_text [Known] (b : List UInt8) : AP Tryz.prog 77 [.str b] (itD (.mk 3 0 b [])) [] := by
 refine AP.ofA ?_
 refine AC_of Tryz.func77 rfl Tryz.ntmps77 rfl rfl ?_
 repeat' (first | (apply AL_s2b ttok; (iterate 8 exact rfl)) | (apply AL_go ttok; exact rfl) | (apply AW_go ttok; exact rfl))
 all_goals (apply endQ []; (apply resG_ok ttok; exact rfl); (iterate 4 exact rfl))
 all_goals rfl
theorem av_bytes [Known] (b : List UInt8) (hb : b.length <= 140737488351232) : AP Tryz.prog 82 [byE b] (itD (.mk 2 0 b [])) [] := by
 refine AP.ofA ?_
 refine AC_of Tryz.func82 rfl Tryz.ntmps82 rfl rfl ?_
 repeat' (first | (apply AL_callPw (av_cloneB b hb); kernel_rfl; (iterate 4 exact rfl)) | (apply AL_go ttok; exact rfl) | (apply AW_go ttok; exact rfl))
 all_goals (apply endQ []; (apply resG_ok ttok; exact rfl); (iterate 4 exact rfl))
 all_goals rfl
theorem av_list [Known] (l : List It) (hl : l.length <= 2199023255488) (hws : wfs l) : AP Tryz.prog 47 [.sl .ext (itEs l)] (itD (.mk 4 0 [] l)) [] := by
 have ih' : ∀ y ∈ l, AP Tryz.prog 72 [itD y] (itD y) [] := fun y hy => av_copied y (wfs_mem hws y hy)
 have hlen := itEs_len l
 refine AP.ofA ?_
 refine AC_of Tryz.func47 rfl Tryz.ntmps47 rfl rfl ?_
 repeat' (first | (apply AL_go ttok; exact rfl) | (apply AW_go ttok; exact rfl) | (apply AL_len ttok; (iterate 4 exact rfl)))
 refine AW_loopJ (fun k' tm bx fr => ∃ (i c : Nat) (L : List E), k' + i = l.length /\ c = L.length /\ L = itEs (l.take i) /\ tm = [(3, .ptr 1 0), (2, .ptr 0 0), (7, .sl .ext (itEs l)), (8, .int .i64 ((itEs l).length : Int)), (9, .int .i64 (i : Int))] /\
  ((i = 0 /\ bx = [[.int .i64 0, .int .u64 0, .sl .nil [], .sl .nil []], [.int .i64 4, .int .u64 0, .sl .nil [], .sl .nil []]] /\ fr = []) \/
  (bx = [[.int .i64 0, .int .u64 0, .sl .nil [], .sl .nil []], [.int .i64 4, .int .u64 0, .sl .nil [], .sl (.own 0) L]] /\ fr = [⟨c, 4, 83⟩]))) (l.length + 1) (Lands.mk' (m := l.length) (Nat.lt_succ_self _) ⟨0, 0, [], rfl, rfl, rfl, rfl, .inl ⟨rfl, rfl, rfl⟩⟩ ?_ rfl rfl rfl rfl rfl rfl) ?_
 ·exact .cons rfl (.cons rfl (.cons rfl (.cons rfl (.cons rfl .nil))))
 rintro k' tm bx fr ⟨i, c, L, hi, hc, hL, rfl, ⟨rfl, rfl, rfl⟩ | ⟨rfl, rfl⟩⟩
 ·cases l with
  | nil =>
   repeat' (first | (apply AW_go ttok; exact rfl) | (apply AW_condB; exact rfl; (first | with_reducible assumption | decide +kernel)))
   all_goals (apply endQ []; (apply resG_ok ttok; exact rfl); (iterate 4 exact rfl))
   all_goals rfl
  | cons y l =>
   have hc := ih' y (List.mem_cons_self ..)
   have hU := uniI (y :: l)
   have hd : decide (((0 : Nat) : Int) < ((itEs (y :: l)).length : Int)) = true := decide_eq_true (by rw [itEs]; simp)
   obtain ⟨k1, n1, b1, l1⟩ := y
   repeat' (first | (apply AL_callPw (hc); kernel_rfl; (iterate 4 exact rfl)) | (apply AL_append_nilZ ttok; (iterate 6 exact rfl); exact uniB_ok rfl; exact List.cons_ne_nil _ _; exact rfl; decide +kernel; decide +kernel; (iterate 3 exact rfl)) | (apply AL_go ttok; exact rfl) | (apply AW_go ttok; exact rfl) | (apply K_go ttok; exact rfl) | (apply AW_condA; exact rfl; (first | with_reducible assumption | decide +kernel)) | (apply AL_bsZ ttok; (iterate 12 exact rfl)) | (apply AW_drawE 5 hmix; (decide +kernel); (kernel_rfl); (kernel_rfl); (kernel_rfl); exact rfl; exact rfl) | (apply AE_consZ; (iterate 4 exact rfl)) | exact AE.nil _ _ _ _ | (apply AEk_puT; exact rfl) | (apply AOt_mk; exact rfl; exact rfl; (decide +kernel); exact rfl) | (apply AO_puT; exact rfl) | exact AO.nil _ _ _ | (apply AOs_skip; (decide +kernel)) | exact AOs.nil | exact qY_ok rfl rfl | exact qY_wk rfl rfl rfl rfl rfl | (apply AL_idx ttok; (iterate 6 exact rfl); (first | with_reducible assumption | decide +kernel | exact Int.natCast_nonneg _ | (guard_target = (0:Int) <= (OfNat.ofNat _ : Int); decide) | rotate_left); (first | with_reducible assumption | decide +kernel | exact rfl); (first | exact uniB_ok rfl | with_reducible assumption | decide +kernel | rotate_left)))
   refine Lands.mk' (m := k' - 1) (by simp at hi; omega) ⟨1, 1, itEs [It.mk k1 n1 b1 l1], by simp at hi ⊢; omega, rfl, rfl, rfl, .inr ⟨rfl, rfl⟩⟩ ?_ rfl rfl rfl rfl rfl rfl
   exact .cons rfl (.cons rfl (.cons rfl (.cons rfl (.cons rfl .nil))))
 ·have hU := uniI l
  have hU2 : Uni 4 L := hL ▸ uniI (l.take i)
  have el := itEs_len (l.take i)
  rw [<- hL] at el
  subst hc
  rcases Nat.lt_or_ge i l.length with hlt | hge
  ·have hd : decide ((i : Int) < ((itEs l).length : Int)) = true := decide_eq_true (by omega)
   obtain ⟨⟨k1, n1, b1, l1⟩, hy⟩ : ∃ y, l[i]? = some y := ⟨_, List.getElem?_eq_getElem hlt⟩
   have hv : (itEs l)[((i : Nat) : Int).toNat]? = some (.agg [.int .i64 k1, .int .u64 (n1 : Int), .sl (b1.map E.byte), .sl (itEs l1)]) := by
    rw [Int.toNat_natCast, itEs_map, List.getElem?_map, hy]; rfl
   have hc := ih' _ (List.mem_of_getElem? hy)
   have ei : IntKind.i64.wrap ((i : Int) + 1) = ((i + 1 : Nat) : Int) := by rw [IntWalk.i64_in _ (by omega)]; omega
   have hs : L ++ [E.agg [.int .i64 k1, .int .u64 (n1 : Int), .sl (b1.map E.byte), .sl (itEs l1)]] = itEs (l.take (i + 1)) := by
    rw [hL, List.take_add_one, hy]; exact (itEs_app _ [It.mk k1 n1 b1 l1]).symm
   rw [List.length_take] at el
   repeat' (first | (apply AL_callPw (hc); kernel_rfl; (iterate 4 exact rfl)) | rw [ei] | (apply AL_go ttok; exact rfl) | (apply AW_go ttok; exact rfl) | (apply K_go ttok; exact rfl) | (apply AW_condA; exact rfl; (first | with_reducible assumption | decide +kernel)) | (apply AL_bsZ ttok; (iterate 12 exact rfl)) | (apply AW_drawE 5 hmix; (decide +kernel); (kernel_rfl); (kernel_rfl); (kernel_rfl); exact rfl; exact rfl) | (apply AE_consZ; (iterate 4 exact rfl)) | exact AE.nil _ _ _ _ | (apply AEk_puT; exact rfl) | (apply AOt_mk; exact rfl; exact rfl; (decide +kernel); exact rfl) | (apply AO_puT; exact rfl) | exact AO.nil _ _ _ | (apply AOs_skip; (decide +kernel)) | exact AOs.nil | exact qY_ok rfl rfl | exact qY_wk rfl rfl rfl rfl rfl | (apply AL_append ttok; (iterate 6 exact rfl); (first | with_reducible assumption | decide +kernel | exact rfl | rotate_left); exact rfl; exact rfl; (first | exact uniB_ok rfl | with_reducible assumption | decide +kernel | rotate_left); (first | exact uniB_ok rfl | with_reducible assumption | decide +kernel | rotate_left); (first | exact List.cons_ne_nil _ _ | with_reducible assumption | decide +kernel | rotate_left); (first | with_reducible assumption | decide +kernel | rotate_left); (first | with_reducible assumption | decide +kernel | rotate_left); exact rfl; exact rfl) | (apply AL_idx ttok; (iterate 6 exact rfl); (first | with_reducible assumption | decide +kernel | exact Int.natCast_nonneg _ | (guard_target = (0:Int) <= (OfNat.ofNat _ : Int); decide) | rotate_left); (first | with_reducible assumption | decide +kernel | exact rfl); (first | exact uniB_ok rfl | with_reducible assumption | decide +kernel | rotate_left)))
   ·refine Lands.mk' (m := k' - 1) (by omega) ⟨i + 1, L.length + 1, _, by omega, by rw [List.length_append]; rfl, hs, rfl, .inr ⟨rfl, rfl⟩⟩ ?_ rfl rfl rfl rfl rfl rfl
    exact .cons rfl (.cons rfl (.cons rfl (.cons rfl (.cons rfl .nil))))
   all_goals (first | rfl | (simp only [List.length_append, List.length_cons, List.length_nil, List.length_map, itEs_len]; done) | (simp only [List.length_append, List.length_cons, List.length_nil, List.length_map, itEs_len] at *; (try unfold maxLen); (try simp only [Nat.add_mul]); omega))
  ·have hd : decide ((i : Int) < ((itEs l).length : Int)) = false := decide_eq_false (by omega)
   rw [List.take_of_length_le hge] at hL
   subst hL
   repeat' (first | (apply AW_go ttok; exact rfl) | (apply AW_condB; exact rfl; (first | with_reducible assumption | decide +kernel)))
   all_goals (apply endQ []; (apply resG_ok ttok; exact rfl); (iterate 4 exact rfl))
   all_goals rfl
end Go.Proofs.YtpodhnaofhfinaaGreatDoor
end
