/- Plain laws of heads, with no program in sight but for the names of HeadS: what is written is read back, what is read is written shortest or longer. -/
import Derived.Test.YtpkgdlhiblgdnaaHeadS
open Go.RowKit Go.Pl
namespace Go.Proofs.Ytpkgdlhiblgdnaa
set_option linter.unusedVariables false
set_option linter.unusedSimpArgs false
theorem firstB_toNat (m i : Nat) (hm : m ≤ 7) (hi : i < 32) : (firstB m i).toNat = 32 * m + i := u8_ofNat (by omega)
theorem beVal_beN (n k : Nat) (h : n < 256 ^ k) : beVal (beN n k) = n := by
  have key : ∀ i, i ≤ k → beVal ((beN n k).take i) = n / 256 ^ (k - i) := by
    intro i
    induction i with
    | zero => intro _; simp [beVal]; exact (Nat.div_eq_of_lt h).symm
    | succ i ih =>
      intro hi
      rw [beN_take_succ n k i (by omega), beVal_snoc, ih (by omega), UInt8.toNat_ofNat']
      have e : 256 ^ (k - i) = 256 ^ (k - 1 - i) * 256 := by rw [← Nat.pow_succ]; congr 1; omega
      rw [e, ← Nat.div_div_eq_div_mul, show k - (i + 1) = k - 1 - i from by omega]
      omega
  have := key k (Nat.le_refl _)
  rwa [List.take_of_length_le (by rw [beN_length]; exact Nat.le_refl _), Nat.sub_self, Nat.pow_zero, Nat.div_one] at this
theorem beN_beVal (l : List UInt8) : beN (beVal l) l.length = l := by
  have key : ∀ (l : List UInt8) (m : Nat), (l.length = m) → beN (beVal l) m = l := by
    intro l
    induction hk : l.length generalizing l with
    | zero => intro m hm; have : l = [] := List.eq_nil_of_length_eq_zero hk; subst this; subst hm; rfl
    | succ k ih =>
      intro m hm
      obtain ⟨l', c, rfl⟩ : ∃ l' c, l = l' ++ [c] := ⟨l.dropLast, l.getLast (by rintro rfl; simp at hk), (List.dropLast_concat_getLast _).symm⟩
      have hl' : l'.length = k := by simpa using hk
      have h1 := ih l' hl' k rfl
      subst hm
      rw [beVal_snoc]
      unfold beN at h1 ⊢
      have hc := c.toNat_lt
      rw [List.range_succ, List.map_append]
      congr 1
      · rw [← h1]
        apply List.map_congr_left
        intro i hi
        have hi : i < k := by simpa using hi
        congr 1
        have e : 256 ^ (k + 1 - 1 - i) = 256 * 256 ^ (k - 1 - i) := by rw [Nat.mul_comm, ← Nat.pow_succ]; congr 1; omega
        rw [e, ← Nat.div_div_eq_div_mul, h1]
        congr 1
        omega
      · simp only [List.map_cons, List.map_nil]
        congr 1
        rw [show k + 1 - 1 - k = 0 from by omega, Nat.pow_zero, Nat.div_one]
        apply UInt8.toNat_inj.1
        rw [UInt8.toNat_ofNat']
        omega
  exact key l _ rfl
/-- which info, how many bytes, which numbers -/
theorem follow_cases (n : Nat) (hn : n < 18446744073709551616) : (n < 24 ∧ followN n = 0 ∧ infoN n = n) ∨ (24 ≤ n ∧ followN n = 2 ^ (infoN n - 24) ∧ 24 ≤ infoN n ∧ infoN n ≤ 27 ∧ n < 256 ^ followN n) := by
  unfold followN infoN
  by_cases h1 : n < 24
  · simp [h1]
  right
  refine ⟨by omega, ?_⟩
  by_cases h2 : n < 256
  · simp [h1, h2]
  by_cases h3 : n < 65536
  · simp [h1, h2, h3]
  by_cases h4 : n < 4294967296
  · simp [h1, h2, h3, h4]
  · simp [h1, h2, h3, h4]; omega
theorem writeL_length (h : Hd) (hr : rightB h = true) : (writeL h).length = sizeN h := by
  unfold writeL sizeN
  rw [if_pos hr]
  split
  · rfl
  · simp [beN_length]; omega
theorem right_major {h : Hd} (hr : rightB h = true) : 0 ≤ h.1 ∧ h.1 ≤ 7 := by
  obtain ⟨m, n, o⟩ := h
  cases o <;> simp [rightB, mayB] at hr <;> dsimp only <;> omega
theorem mayB_of_open {m : Int} {n : Nat} (hr : rightB (m, n, true) = true) : n = 0 ∧ mayB m = true := by
  simpa [rightB] using hr
/-- heads go there and back -/
theorem read_write (h : Hd) (hr : rightB h = true) (hn : h.2.1 < 18446744073709551616) (a c : List UInt8) : readN (a ++ writeL h ++ c) a.length = (h, a.length + (writeL h).length, 0) := by
  obtain ⟨m, n, o⟩ := h
  obtain ⟨hm0, hm7⟩ := right_major hr
  dsimp only at hn hm0 hm7
  obtain ⟨M, rfl⟩ : ∃ M : Nat, m = (M : Int) := ⟨m.toNat, by omega⟩
  have hM : M ≤ 7 := by omega
  unfold readN
  rw [List.append_assoc, List.drop_left]
  cases o with
  | true =>
    obtain ⟨rfl, hmay⟩ := mayB_of_open hr
    simp only [writeL, if_true, Int.toNat_natCast, List.cons_append, List.nil_append]
    rw [firstB_toNat M 31 hM (by decide)]
    rw [if_neg (by omega), show (32 * M + 31) / 32 = M from by omega, if_pos ⟨by omega, hmay⟩]
    rfl
  | false =>
    have hw : writeL ((M : Int), n, false) = firstB M (infoN n) :: beN n (followN n) := by simp [writeL]
    rw [hw]
    simp only [List.cons_append]
    rcases follow_cases n hn with ⟨h1, h2, h3⟩ | ⟨h1, h2, h3, h4, h5⟩
    · rw [firstB_toNat M (infoN n) hM (by omega), h3, h2]
      rw [if_pos (by omega), show (32 * M + n) / 32 = M from by omega, show (32 * M + n) % 32 = n from by omega]
      simp [beN]
    · rw [firstB_toNat M (infoN n) hM (by omega)]
      have e1 : (32 * M + infoN n) / 32 = M := by omega
      have e2 : (32 * M + infoN n) % 32 = infoN n := by omega
      rw [e1, e2, if_neg (by omega), if_neg (by omega), if_neg (by omega), ← h2]
      rw [if_neg (by rw [List.length_append, beN_length]; omega)]
      rw [List.take_append_of_le_length (by rw [beN_length]; exact Nat.le_refl _), List.take_of_length_le (by rw [beN_length]; exact Nat.le_refl _), beVal_beN n _ h5]
      rw [List.length_cons, beN_length]
      congr 2
      omega
theorem readH_write (h : Hd) (hr : rightB h = true) (hn : h.2.1 < 18446744073709551616) (a c : List UInt8) : readH (a ++ writeL h ++ c) (a.length : Int) = (h, a.length + (writeL h).length, 0) := by
  unfold readH
  rw [if_neg (by simp only [List.length_append]; omega), Int.toNat_natCast]
  exact read_write h hr hn a c
theorem shortB_write (h : Hd) (hr : rightB h = true) (hn : h.2.1 < 18446744073709551616) (a c : List UInt8) : shortB (a ++ writeL h ++ c) (a.length : Int) = true := by
  unfold shortB
  rw [readH_write h hr hn a c, ← writeL_length h hr]
  simp
  omega
/-- what is read is a head that may be; written again it is no longer, and the same just if it is as short -/
theorem write_read (b : List UInt8) (p : Nat) (h0 : (readN b p).2.2 = 0) : rightB (readN b p).1 = true ∧ (writeL (readN b p).1).length ≤ (readN b p).2.1 - p ∧
    ((sizeN (readN b p).1 = (readN b p).2.1 - p) ↔ writeL (readN b p).1 = (b.drop p).take ((readN b p).2.1 - p)) := by
  have hbd := readN_bd b p
  obtain ⟨h, x, y, hr⟩ : ∃ (h : Hd) (x y : Nat), readN b p = (h, x, y) := ⟨_, _, _, rfl⟩
  rw [hr] at h0 hbd ⊢
  dsimp only at h0 hbd ⊢
  subst h0
  have key : ∀ (hrt : rightB h = true) (hlen : (writeL h).length ≤ x - p) (heq : (writeL h).length = x - p → writeL h = (b.drop p).take (x - p)), rightB h = true ∧ (writeL h).length ≤ x - p ∧ (sizeN h = x - p ↔ writeL h = (b.drop p).take (x - p)) := by
    intro hrt hlen heq
    refine ⟨hrt, hlen, fun e => heq (by rw [writeL_length h hrt]; exact e), fun e => ?_⟩
    rw [← writeL_length h hrt, e, List.length_take, List.length_drop]
    have := hbd.1
    omega
  unfold readN at hr
  split at hr
  · simp at hr
  · rename_i c r hd
    have hc := c.toNat_lt
    have hl : b.length - p = r.length + 1 := by
      have := congrArg List.length hd
      simpa using this
    split at hr
    · rename_i h1
      simp only [Prod.mk.injEq] at hr
      obtain ⟨rfl, rfl, _⟩ := hr
      have hinfo : infoN (c.toNat % 32) = c.toNat % 32 ∧ followN (c.toNat % 32) = 0 := by unfold infoN followN; rw [if_pos h1, if_pos h1]; exact ⟨rfl, rfl⟩
      have hw : writeL (((c.toNat / 32 : Nat) : Int), c.toNat % 32, false) = [c] := by
        simp only [writeL, Bool.false_eq_true, if_false, Int.toNat_natCast, hinfo.1, hinfo.2]
        congr 1
        apply UInt8.toNat_inj.1
        rw [firstB_toNat _ _ (by omega) (by omega)]
        omega
      refine key (by simp [rightB]; omega) (by rw [hw]; simp; try omega) fun _ => ?_
      rw [hw, hd, show p + 1 - p = 1 from by omega]
      rfl
    split at hr
    · rename_i h1 h2
      simp only [Prod.mk.injEq] at hr
      obtain ⟨rfl, rfl, _⟩ := hr
      have hw : writeL (((c.toNat / 32 : Nat) : Int), 0, true) = [c] := by
        simp only [writeL, if_true, Int.toNat_natCast]
        congr 1
        apply UInt8.toNat_inj.1
        rw [firstB_toNat _ _ (by omega) (by omega)]
        omega
      refine key (by simp [rightB]; exact h2.2) (by rw [hw]; simp; try omega) fun _ => ?_
      rw [hw, hd, show p + 1 - p = 1 from by omega]
      rfl
    split at hr
    · simp at hr
    split at hr
    · simp at hr
    · rename_i h1 h2 h3 h4
      simp only [Prod.mk.injEq] at hr
      obtain ⟨rfl, rfl, _⟩ := hr
      obtain ⟨K, hK⟩ : ∃ K, 2 ^ (c.toNat % 32 - 24) = K := ⟨_, rfl⟩
      rw [hK] at h4 hbd key ⊢
      have hK8 : K = 1 ∧ c.toNat % 32 = 24 ∨ K = 2 ∧ c.toNat % 32 = 25 ∨ K = 4 ∧ c.toNat % 32 = 26 ∨ K = 8 ∧ c.toNat % 32 = 27 := by
        have hk : c.toNat % 32 = 24 ∨ c.toNat % 32 = 25 ∨ c.toNat % 32 = 26 ∨ c.toNat % 32 = 27 := by omega
        rcases hk with hk | hk | hk | hk <;> rw [hk] at hK <;> simp at hK <;> omega
      have hlt := beVal_lt (r.take K)
      rw [List.length_take, Nat.min_eq_left (by omega)] at hlt
      obtain ⟨n, hn⟩ : ∃ n, n = beVal (r.take K) := ⟨_, rfl⟩
      rw [← hn] at hlt key ⊢
      have hfol : followN n ≤ K ∧ (followN n = K → infoN n = c.toNat % 32) := by
        unfold followN infoN
        rcases hK8 with ⟨rfl, hk⟩ | ⟨rfl, hk⟩ | ⟨rfl, hk⟩ | ⟨rfl, hk⟩
        all_goals
          rw [hk]
          simp only [Nat.reducePow] at hlt
          refine ⟨by (repeat' split) <;> omega, fun e => by (repeat' split at e) <;> (repeat' split) <;> omega⟩
      have hw : writeL (((c.toNat / 32 : Nat) : Int), n, false) = firstB (c.toNat / 32) (infoN n) :: beN n (followN n) := by simp only [writeL, Bool.false_eq_true, if_false, Int.toNat_natCast]
      refine key (by simp [rightB]; omega) (by rw [hw]; simp [beN_length]; omega) fun e => ?_
      rw [hw, List.length_cons, beN_length] at e
      have hfk : followN n = K := by omega
      rw [hw, hfol.2 hfk, hfk, hd, show p + 1 + K - p = K + 1 from by omega, List.take_succ_cons]
      congr 1
      · apply UInt8.toNat_inj.1
        rw [firstB_toNat _ _ (by omega) (by omega)]
        omega
      · have := beN_beVal (r.take K)
        rw [List.length_take, Nat.min_eq_left (by omega), ← hn] at this
        exact this
end Go.Proofs.Ytpkgdlhiblgdnaa
