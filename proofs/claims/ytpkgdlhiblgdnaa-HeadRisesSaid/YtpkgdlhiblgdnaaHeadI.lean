/- The walk of the law HeadRises: for every major and all two numbers it answers true and leaves memory as it was. -/
import Derived.Test.YtpkgdlhiblgdnaaHeadP
import Derived.Test.YtpkgdlhiblgdnaaExt
open Go.RowKit Go.Pl
namespace Go.Proofs.Ytpkgdlhiblgdnaa
set_option maxHeartbeats 1000000
set_option linter.unusedVariables false
set_option linter.unusedSimpArgs false
theorem beVal_cons (c : UInt8) (l : List UInt8) : beVal (c :: l) = c.toNat * 256 ^ l.length + beVal l := by
  induction hk : l.length generalizing l with
  | zero =>
    obtain rfl := List.eq_nil_of_length_eq_zero hk
    simp [beVal]
  | succ k ih =>
    obtain ⟨l', d, rfl⟩ : ∃ l' d, l = l' ++ [d] := ⟨l.dropLast, l.getLast (by rintro rfl; simp at hk), (List.dropLast_concat_getLast _).symm⟩
    have hl' : l'.length = k := by simpa using hk
    rw [← List.cons_append, beVal_snoc, beVal_snoc, ih l' hl', Nat.pow_succ]
    have e : c.toNat * (256 ^ k * 256) = c.toNat * 256 ^ k * 256 := (Nat.mul_assoc _ _ _).symm
    rw [e]
    omega
theorem less_beVal : ∀ (x y : List UInt8), x.length = y.length → beVal x < beVal y → Op.bytesLess x y = true
  | [], [], _, h => by simp at h
  | [], _ :: _, h, _ => by simp at h
  | _ :: _, [], h, _ => by simp at h
  | a :: x, b :: y, hl, h => by
    have hl' : x.length = y.length := by simpa using hl
    rw [beVal_cons, beVal_cons, hl'] at h
    have h1 := beVal_lt x
    have h2 := beVal_lt y
    rw [hl'] at h1
    rw [Op.bytesLess]
    rcases Nat.lt_trichotomy a.toNat b.toNat with g | g | g
    · have : a < b := g
      simp [this]
    · obtain rfl := UInt8.toNat_inj.1 g
      have := less_beVal x y hl' (by omega)
      simp [this]
    · exfalso
      have h3 : (b.toNat + 1) * 256 ^ y.length ≤ a.toNat * 256 ^ y.length := Nat.mul_le_mul_right _ g
      rw [Nat.add_mul] at h3
      omega
theorem rises_plain (M : Int) (n m : Nat) (h0 : 0 ≤ M) (h7 : M ≤ 7) (hm : m < 18446744073709551616) (h : n < m) :
    (writeL (M, n, false)).length ≤ (writeL (M, m, false)).length ∧ Op.bytesLess (writeL (M, n, false)) (writeL (M, m, false)) = true := by
  obtain ⟨K, rfl⟩ : ∃ K : Nat, M = (K : Int) := ⟨M.toNat, by omega⟩
  have hK : K ≤ 7 := by omega
  have e : ∀ k, writeL ((K : Int), k, false) = firstB K (infoN k) :: beN k (followN k) := fun k => by simp [writeL]
  rw [e, e]
  have i1 := infoN_le n
  have i2 := infoN_le m
  have l1 : infoN n < infoN m ∧ followN n ≤ followN m ∨ infoN n = infoN m ∧ followN n = followN m ∧ n < 256 ^ followN n ∧ m < 256 ^ followN n := by
    unfold infoN followN
    by_cases a1 : m < 24
    · rw [if_pos a1, if_pos a1, if_pos (by omega), if_pos (by omega)]; omega
    by_cases b1 : n < 24
    · left; rw [if_neg a1, if_neg a1, if_pos b1, if_pos b1]
      repeat' split
      all_goals omega
    by_cases a2 : m < 256
    · right; simp only [if_neg a1, if_pos a2, if_neg b1, if_pos (show n < 256 by omega)]; simp; omega
    by_cases b2 : n < 256
    · left; simp only [if_neg a1, if_neg a2, if_neg b1, if_pos b2]
      repeat' split
      all_goals omega
    by_cases a3 : m < 65536
    · right; simp only [if_neg a1, if_neg a2, if_pos a3, if_neg b1, if_neg b2, if_pos (show n < 65536 by omega)]; simp; omega
    by_cases b3 : n < 65536
    · left; simp only [if_neg a1, if_neg a2, if_neg a3, if_neg b1, if_neg b2, if_pos b3]
      repeat' split
      all_goals omega
    by_cases a4 : m < 4294967296
    · right; simp only [if_neg a1, if_neg a2, if_neg a3, if_pos a4, if_neg b1, if_neg b2, if_neg b3, if_pos (show n < 4294967296 by omega)]; simp; omega
    by_cases b4 : n < 4294967296
    · left; simp only [if_neg a1, if_neg a2, if_neg a3, if_neg a4, if_neg b1, if_neg b2, if_neg b3, if_pos b4]; omega
    · right; simp only [if_neg a1, if_neg a2, if_neg a3, if_neg a4, if_neg b1, if_neg b2, if_neg b3, if_neg b4]; simp; omega
  have f1 := firstB_toNat K (infoN n) hK (by omega)
  have f2 := firstB_toNat K (infoN m) hK (by omega)
  rw [Op.bytesLess]
  simp only [List.length_cons, beN_length]
  rcases l1 with ⟨g1, g2⟩ | ⟨g1, g2, g3, g4⟩
  · refine ⟨by omega, ?_⟩
    have : firstB K (infoN n) < firstB K (infoN m) := by
      show (firstB K (infoN n)).toNat < (firstB K (infoN m)).toNat
      omega
    simp [this]
  · refine ⟨by omega, ?_⟩
    have := less_beVal (beN n (followN n)) (beN m (followN n)) (by rw [beN_length, beN_length]) (by rw [beVal_beN _ _ g3, beVal_beN _ _ g4]; exact h)
    rw [g1, ← g2, this]
    simp
set_option maxRecDepth 100000 in
theorem rises_bad (M : Int) (n m : Nat) (w : World) (hM : M < 0 ∨ 7 < M) :
    Calls Try.prog 13 #[.int .i64 M, .int .u64 (n : Int), .int .u64 (m : Int)] w fun e w' => e = .returned (.bool true) ∧ Below w.heap.size w w' := by
  rcases hM with hM | hM
  all_goals
    have r1 : rightB (M, n, false) = false := by simp [rightB]; omega
    have r2 : rightB (M, m, false) = false := by simp [rightB]; omega
    go_enter Try.func13, Try.ntmps13
    go_wp2_with fail
    refine (write_bad (M, n, false) _ r1).mono ?_
    rintro e w1 ⟨rfl, hb1⟩
    have HB1 := hid hb1
    clear hb1
    go_wp2_with fail
    refine (write_bad (M, m, false) _ r2).mono ?_
    rintro e w2 ⟨rfl, hb2⟩
    have HB2 := hid (HB1.out.trans (hb2.mono HB1.out.size))
    clear hb2
    go_wp2_with fail
    refine (alive_head _).mono ?_
    rintro e w3 ⟨rfl, hb3⟩
    have HB3 := hid (HB2.out.trans (hb3.mono HB2.out.size))
    clear hb3
    go_wp2
    go_ret
    exact ⟨rfl, HB3.out⟩
set_option maxRecDepth 100000 in
theorem rises_walk (M : Int) (n m : Nat) (w : World) (hn : n < 18446744073709551616) (hm : m < 18446744073709551616) :
    Calls Try.prog 13 #[.int .i64 M, .int .u64 (n : Int), .int .u64 (m : Int)] w fun e w' => e = .returned (.bool true) ∧ Below w.heap.size w w' := by
  by_cases hM : M < 0 ∨ 7 < M
  · exact rises_bad M n m w hM
  have hM0 : 0 ≤ M := by omega
  have hM7 : M ≤ 7 := by omega
  have r1 : rightB (M, n, false) = true := by simp [rightB]; omega
  have r2 : rightB (M, m, false) = true := by simp [rightB]; omega
  have HP := hid (fun h => rises_plain M n m hM0 hM7 hm h)
  have HK : sizeN (M, 0, true) = 0 ∨ sizeN (M, 0, true) = 1 := by
    unfold sizeN
    split
    · right; rfl
    · left; rfl
  clear hM
  go_enter Try.func13, Try.ntmps13
  go_wp2_with fail
  refine (write_ok (M, n, false) _ r1 hn).mono ?_
  rintro e w1 ⟨y1, rfl, ho1, hb1⟩
  obtain ⟨L1, hL1⟩ : ∃ L, L = writeL (M, n, false) := ⟨_, rfl⟩
  rw [← hL1] at ho1
  have HL1 := hid hL1
  obtain ⟨Y1, cy1, rfl⟩ := ho1.form
  have HO1 := hid (ho1.slB (Nat.le_refl _))
  have HB1 := hid hb1
  clear ho1 hb1 hL1 r1
  go_wp2_with fail
  refine (write_ok (M, m, false) _ r2 hm).mono ?_
  rintro e w2 ⟨y2, rfl, ho2, hb2⟩
  obtain ⟨L2, hL2⟩ : ∃ L, L = writeL (M, m, false) := ⟨_, rfl⟩
  rw [← hL2] at ho2
  have HL2 := hid hL2
  obtain ⟨Y2, cy2, rfl⟩ := ho2.form
  have HO2 := hid ((ho2.slB (Nat.le_refl _)).mono (S' := (· < w2.heap.size)) fun k hk => hk.2)
  have HO1' := hid (((HO1.out.frame fun k hk => hb2.block k hk.2).mono (S' := (· < w2.heap.size)) fun k hk => Nat.lt_of_lt_of_le hk.2 hb2.size))
  have HB2 := hid (HB1.out.trans (hb2.mono HB1.out.size))
  clear ho2 hb2 hL2 r2 HO1
  go_wp2_with fail
  refine (size_any (M, 0, true) _).mono ?_
  rintro e w3 ⟨rfl, hb3⟩
  have HO2' := hid (HO2.out.below hb3)
  have HO1 := hid (HO1'.out.below hb3)
  have HB3 := hid (HB2.out.trans (hb3.mono HB2.out.size))
  have HZ3 := hid hb3.size
  clear hb3 HO1' HO2
  go_wp2_with fail
  refine (alive_head _).mono ?_
  rintro e w4 ⟨rfl, hb4⟩
  have hcv2 := strB (HO2'.out.frame fun k hk => hb4.block k (Nat.lt_of_lt_of_le hk HZ3.out))
  have hcv1 := strB (HO1.out.frame fun k hk => hb4.block k (Nat.lt_of_lt_of_le hk HZ3.out))
  have HB4 := hid (HB3.out.trans (hb4.mono HB3.out.size))
  clear hb4 HO1 HO2'
  obtain ⟨k, hk⟩ : ∃ k, k = sizeN (M, 0, true) := ⟨_, rfl⟩
  rw [← hk] at HK ⊢
  clear hk
  have hcase : (n < m ∧ (L1.length : Int) ≤ (L2.length : Int) ∧ Op.bytesLess L1 L2 = true) ∨ (n = m ∧ L1 = L2) ∨ m < n := by
    rcases Nat.lt_trichotomy n m with g | g | g
    · have := HP.out g
      rw [← HL1.out, ← HL2.out] at this
      exact Or.inl ⟨g, by omega, this.2⟩
    · exact Or.inr (Or.inl ⟨g, by rw [HL1.out, HL2.out, g]⟩)
    · exact Or.inr (Or.inr g)
  clear HP HL1 HL2
  rcases HK with rfl | rfl
  · rcases hcase with ⟨g, g1, g2⟩ | ⟨rfl, rfl⟩ | g
    all_goals
      go_wp2_with fail
      go_ret
      exact ⟨rfl, HB4.out⟩
  · rcases hcase with ⟨g, g1, g2⟩ | ⟨rfl, rfl⟩ | g
    all_goals
      go_wp2_with fail
      go_ret
      exact ⟨rfl, HB4.out⟩
end Go.Proofs.Ytpkgdlhiblgdnaa
