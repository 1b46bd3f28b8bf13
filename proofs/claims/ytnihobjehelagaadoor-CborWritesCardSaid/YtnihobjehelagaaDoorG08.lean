/- Items: how many there are, how deep they go; that this is what walk counts. Plain laws. -/
import Derived.Test.YtnihobjehelagaaDoorG07
import Derived.Test.YtnihobjehelagaaDoorG04
import Derived.Test.YtnihobjehelagaaDoorG05
import Derived.Test.YtnihobjehelagaaDoorG03
section
open Go.RowKit Go.Pl Go.Av
namespace Go.Proofs.YtnihobjehelagaaDoor
set_option linter.unusedVariables false
set_option linter.unusedSimpArgs false
mutual
def sizeI : It → Nat
  | .mk _ _ _ l => 1 + sizes l
def sizes : List It → Nat
  | [] => 0
  | x :: l => sizeI x + sizes l
end
mutual
def fineI : It → Bool
  | .mk k n b l => ownI k n b l && fines l
def fines : List It → Bool
  | [] => true
  | x :: l => fineI x && fines l
end
mutual
theorem walk_iff : ∀ (x : It) (d m : Nat), walkI x d m = if deepI x (7 - d) = true ∧ sizeI x ≤ m ∧ fineI x = true then some (m - sizeI x) else none
  | .mk k n b l, d, m => by
    rw [walkI]
    split
    · rename_i h
      rw [if_neg]
      rintro ⟨h1, _⟩
      rw [show 7 - d = 0 by omega, deepI] at h1
      cases h1
    rename_i hd
    rw [show 7 - d = (7 - (d + 1)) + 1 by omega, deepI, sizeI, fineI]
    split
    · rename_i h
      rw [if_neg]
      rintro ⟨_, h1, _⟩
      omega
    rename_i hm
    cases ho : ownI k n b l with
    | false =>
      dsimp only
      rw [if_neg]
      rintro ⟨_, _, h1⟩
      simp at h1
    | true =>
      dsimp only
      rw [walks_iff l (d + 1) (m - 1), Bool.true_and]
      by_cases h : deeps l (7 - (d + 1)) = true ∧ sizes l ≤ m - 1 ∧ fines l = true
      · rw [if_pos h, if_pos ⟨h.1, by omega, h.2.2⟩]
        congr 1; omega
      · rw [if_neg h, if_neg]
        exact fun ⟨a, b, c⟩ => h ⟨a, by omega, c⟩
theorem walks_iff : ∀ (l : List It) (d m : Nat), walks l d m = if deeps l (7 - d) = true ∧ sizes l ≤ m ∧ fines l = true then some (m - sizes l) else none
  | [], d, m => by rw [walks, if_pos ⟨by rw [deeps], by rw [sizes]; omega, by rw [fines]⟩, sizes]; rfl
  | x :: l, d, m => by
    rw [walks, walk_iff x d m, deeps, sizes, fines]
    by_cases h : deepI x (7 - d) = true ∧ sizeI x ≤ m ∧ fineI x = true
    · rw [if_pos h]
      dsimp only
      rw [walks_iff l d (m - sizeI x), h.1, h.2.2, Bool.true_and, Bool.true_and]
      by_cases h2 : deeps l (7 - d) = true ∧ sizes l ≤ m - sizeI x ∧ fines l = true
      · rw [if_pos h2, if_pos ⟨h2.1, by omega, h2.2.2⟩]
        congr 1; omega
      · rw [if_neg h2, if_neg]
        exact fun ⟨a, b, c⟩ => h2 ⟨a, by omega, c⟩
    · rw [if_neg h]
      dsimp only
      rw [if_neg]
      rintro ⟨a, b, c⟩
      rw [Bool.and_eq_true] at a c
      exact h ⟨a.1, by omega, c.1⟩
end
theorem right_iff (x : It) : rightI x = (deepI x 6 && (decide (sizeI x ≤ 256) && fineI x)) := by
  unfold rightI
  rw [walk_iff]
  split
  · rename_i h
    obtain ⟨a, b, c⟩ := h
    rw [show 7 - 1 = 6 from rfl] at a
    simp [a, b, c]
  · rename_i h
    rw [show 7 - 1 = 6 from rfl] at h
    show false = _
    cases h2 : (deepI x 6 && (decide (sizeI x ≤ 256) && fineI x)) with
    | false => rfl
    | true =>
      simp only [Bool.and_eq_true, decide_eq_true_eq] at h2
      exact absurd ⟨h2.1, h2.2.1, h2.2.2⟩ h
mutual
theorem deepI_more : ∀ (x : It) (d e : Nat), deepI x d = true → d ≤ e → deepI x e = true
  | .mk k n b l, 0, e, h, _ => by rw [deepI] at h; cases h
  | .mk k n b l, d + 1, 0, h, hle => by omega
  | .mk k n b l, d + 1, e + 1, h, hle => by
    rw [deepI] at h ⊢
    exact deeps_more l d e h (by omega)
theorem deeps_more : ∀ (l : List It) (d e : Nat), deeps l d = true → d ≤ e → deeps l e = true
  | [], _, _, _, _ => by rw [deeps]
  | x :: l, d, e, h, hle => by
    rw [deeps, Bool.and_eq_true] at h ⊢
    exact ⟨deepI_more x d e h.1 hle, deeps_more l d e h.2 hle⟩
end
theorem walk_deep {x : It} {d m m' : Nat} (h : walkI x d m = some m') : deepI x (7 - d) = true ∧ sizeI x ≤ m := by
  rw [walk_iff] at h
  split at h
  · rename_i q; exact ⟨q.1, q.2.1⟩
  · cases h
mutual
theorem great_size : ∀ (x : It) (d : Nat) (m : Int), 0 ≤ greatI x d m → (sizeI x : Int) = m - greatI x d m
  | .mk k n b l, d, m, h => by
    rw [greatI] at h ⊢
    split at h
    · omega
    split at h
    · omega
    rename_i h1 h2
    rw [if_neg h1, if_neg h2, sizeI]
    have := greats_size l (d + 1) (m - 1) h
    omega
theorem greats_size : ∀ (l : List It) (d : Nat) (m : Int), 0 ≤ greats l d m → (sizes l : Int) = m - greats l d m
  | [], d, m, h => by rw [greats, sizes]; omega
  | x :: l, d, m, h => by
    rw [greats] at h ⊢
    split at h
    · omega
    rename_i h1
    rw [if_neg h1, sizes]
    have h0 : 0 ≤ greatI x d m := by
      rcases Int.lt_or_le (greatI x d m) 0 with hlt | hge
      · have := greats_le l d (greatI x d m) (by have := greatI_lt x d m (by omega); omega); omega
      · exact hge
    have a := great_size x d m h0
    have b := greats_size l d _ h
    omega
end
end Go.Proofs.YtnihobjehelagaaDoor
end
/- Items as the document's; which of these are equal. -/
section
open Go.RowKit Go.Pl Go.Av
namespace Go.Proofs.YtnihobjehelagaaDoor
set_option linter.unusedVariables false
set_option linter.unusedSimpArgs false
set_option maxHeartbeats 4000000
theorem deeps_mem : ∀ {l : List It} {d : Nat}, deeps l d = true → ∀ y ∈ l, deepI y d = true
  | x :: l, d, h, y, hy => by
    rw [deeps, Bool.and_eq_true] at h
    rcases List.mem_cons.1 hy with rfl | hy
    · exact h.1
    · exact deeps_mem h.2 y hy
theorem deepI_pos {x : It} {d : Nat} (h : deepI x d = true) : 0 < d := by
  obtain ⟨k, n, b, l⟩ := x
  cases d with
  | zero => rw [deepI] at h; cases h
  | succ d => omega
/-- an item that is not too deep, as the document's: its cells hold the same -/
theorem av_as [Known] : ∀ (x : It), wfI x → ∀ d : Nat, deepI x (d + 1) = true → d ≤ 100 → AP Tryd.prog 19 [itD x, .int .i64 (d : Int)] (itD x) [] := by
  refine It.ind fun k n b l ih hw d hd hd' => ?_
  obtain ⟨hn, hb, hl, hws⟩ := hw
  rw [deepI] at hd
  have ih' : ∀ y ∈ l, AP Tryd.prog 19 [itD y, .int .i64 ((d - 1 : Nat) : Int)] (itD y) [] := fun y hy => by
    have h1 := deeps_mem hd y hy
    have h2 := deepI_pos h1
    exact ih y hy (wfs_mem hws y hy) (d - 1) (by rw [show d - 1 + 1 = d by omega]; exact h1) (by omega)
  clear ih
  have hlen := itEs_len l
  refine AP.ofA ?_
  refine AC_of Tryd.func19 rfl Tryd.ntmps19 rfl rfl ?_
  repeat' (first | (apply AL_assign; exact rfl; exact rfl) | (apply AL_load1 ttok; (iterate 6 exact rfl)) | (apply AL_fieldAddr ttok; (iterate 7 exact rfl)) | (apply AL_boxZ; (iterate 5 exact rfl)) | (apply AL_store ttok; (iterate 8 exact rfl)) | refine AL_nil ?_ | refine AW_region ?_ | refine AW_seq' ?_ | refine then_norm ?_ | refine AW_block ?_ | (apply AL_build ttok; (iterate 6 exact rfl)) | (apply AL_allocZ ttok; (iterate 4 exact rfl)))
  refine AW_loopJ (fun k' tm bx fr => ∃ (i c : Nat) (L : List E), k' + i = l.length ∧ c = L.length ∧ L = itEs (l.take i) ∧ tm = [(1, .int .i64 (d : Int)), (2, .ptr 0 0), (4, .ptr 1 0), (5, .ptr 2 0), (6, .int .i64 (i : Int))] ∧
    ((i = 0 ∧ bx = [itC k n b l, [.int .i64 0, .int .u64 0, .sl .nil [], .sl .nil []], [.int .i64 k, .int .u64 (n : Int), byE b, .sl .nil []]] ∧ fr = []) ∨
    (bx = [itC k n b l, [.int .i64 0, .int .u64 0, .sl .nil [], .sl .nil []], [.int .i64 k, .int .u64 (n : Int), byE b, .sl (.own 0) L]] ∧ fr = [⟨c, 4, 37⟩]))) (l.length + 1) (Lands.mk' (m := l.length) (Nat.lt_succ_self _) ⟨0, 0, [], rfl, rfl, rfl, rfl, .inl ⟨rfl, rfl, rfl⟩⟩ ?_ rfl rfl rfl rfl rfl rfl) ?_
  · exact .cons rfl (.cons rfl (.cons rfl (.cons rfl (.cons rfl .nil))))
  rintro k' tm bx fr ⟨i, c, L, hi, hc, hL, rfl, ⟨rfl, rfl, rfl⟩ | ⟨rfl, rfl⟩⟩
  · cases l with
    | nil =>
      repeat' (first | (apply AL_move; exact rfl; exact rfl) | (apply AL_bin; (iterate 5 exact rfl)) | (apply AL_load1 ttok; (iterate 6 exact rfl)) | (apply AL_loadn ttok; (iterate 7 exact rfl)) | (apply AL_fieldAddr ttok; (iterate 7 exact rfl)) | (apply AL_store ttok; (iterate 8 exact rfl)) | refine AL_nil ?_ | (apply AL_guardFt; (iterate 3 exact rfl); (first | with_reducible assumption | decide +kernel)) | (apply AL_pickF; exact rfl; (first | with_reducible assumption | decide +kernel); exact rfl; exact rfl) | refine AW_region ?_ | refine AW_seq' ?_ | (apply AW_condB; exact rfl; (first | with_reducible assumption | decide +kernel)) | refine then_norm ?_ | refine AW_exit ?_ | refine AW_ret ?_ | (apply AL_len ttok; (iterate 4 exact rfl)))
      all_goals (apply endQ []; (repeat (first | exact ResL.nil | (apply ResL.cons; first | exact .tmp _ _ rfl | (apply res_n ttok; (iterate 6 exact rfl)) | (apply res_1 ttok; (iterate 5 exact rfl))))); (iterate 4 exact rfl))
      all_goals rfl
    | cons y l =>
      have hc := ih' y (List.mem_cons_self ..)
      have hU := uniI (y :: l)
      have hd1 : decide (((0 : Nat) : Int) < ((itEs (y :: l)).length : Int)) = true := decide_eq_true (by rw [itEs]; simp)
      have hp := deepI_pos (deeps_mem hd y (List.mem_cons_self ..))
      have hd2 : decide ((d : Int) > 0) = true := decide_eq_true (by omega)
      have ed : IntKind.i64.wrap ((d : Int) - 1) = ((d - 1 : Nat) : Int) := by rw [IntWalk.i64_in _ (by omega)]; omega
      obtain ⟨k1, n1, b1, l1⟩ := y
      repeat' (first | (apply AL_callPw (hc); kernel_rfl; (iterate 4 exact rfl)) | rw [ed] | (apply AL_append_nilZ ttok; (iterate 6 exact rfl); exact uniB_ok rfl; exact List.cons_ne_nil _ _; exact rfl; decide +kernel; decide +kernel; (iterate 3 exact rfl)) | (apply AL_move; exact rfl; exact rfl) | (apply AL_assign; exact rfl; exact rfl) | (apply AL_bin; (iterate 5 exact rfl)) | (apply AL_load1 ttok; (iterate 6 exact rfl)) | (apply AL_fieldAddr ttok; (iterate 7 exact rfl)) | (apply AL_store ttok; (iterate 8 exact rfl)) | refine AL_nil ?_ | (apply AL_guardT; (iterate 3 exact rfl); (first | with_reducible assumption | decide +kernel)) | (apply AL_pickT; exact rfl; (first | with_reducible assumption | decide +kernel); exact rfl; exact rfl) | refine AW_region ?_ | refine AW_seq' ?_ | (apply AW_condA; exact rfl; (first | with_reducible assumption | decide +kernel)) | refine then_norm ?_ | refine AW_block ?_ | (apply AL_len ttok; (iterate 4 exact rfl)) | (apply AL_eloadn ttok; (iterate 6 exact rfl)) | (apply AL_bsZ ttok; (iterate 12 exact rfl)) | (apply AW_drawE 11 hmix; (decide +kernel); (kernel_rfl); (kernel_rfl); (kernel_rfl); exact rfl; exact rfl) | (apply AE_consZ; (iterate 4 exact rfl)) | exact AE.nil _ _ _ _ | (apply AEk_puT; exact rfl) | (apply AOt_mk; exact rfl; exact rfl; (decide +kernel); exact rfl) | (apply AO_puT; exact rfl) | exact AO.nil _ _ _ | (apply AOs_skip; (decide +kernel)) | exact AOs.nil | exact qY_ok rfl rfl | exact qY_wk rfl rfl rfl rfl rfl | refine AW_skip ?_ | (apply AL_idx ttok; (iterate 6 exact rfl); (first | with_reducible assumption | decide +kernel | exact Int.natCast_nonneg _ | (guard_target = (0:Int) ≤ (OfNat.ofNat _ : Int); decide) | rotate_left); (first | with_reducible assumption | decide +kernel | exact rfl); (first | exact uniB_ok rfl | with_reducible assumption | decide +kernel | rotate_left)))
      refine Lands.mk' (m := k' - 1) (by simp at hi; omega) ⟨1, 1, itEs [It.mk k1 n1 b1 l1], by simp at hi ⊢; omega, rfl, rfl, rfl, .inr ⟨rfl, rfl⟩⟩ ?_ rfl rfl rfl rfl rfl rfl
      exact .cons rfl (.cons rfl (.cons rfl (.cons rfl (.cons rfl .nil))))
  · have hU := uniI l
    have hU2 : Uni 4 L := hL ▸ uniI (l.take i)
    have el := itEs_len (l.take i)
    rw [← hL] at el
    subst hc
    rcases Nat.lt_or_ge i l.length with hlt | hge
    · have hd1 : decide ((i : Int) < ((itEs l).length : Int)) = true := decide_eq_true (by omega)
      obtain ⟨⟨k1, n1, b1, l1⟩, hy⟩ : ∃ y, l[i]? = some y := ⟨_, List.getElem?_eq_getElem hlt⟩
      have hv : (itEs l)[((i : Nat) : Int).toNat]? = some (.agg [.int .i64 k1, .int .u64 (n1 : Int), .sl (b1.map E.byte), .sl (itEs l1)]) := by
        rw [Int.toNat_natCast, itEs_map, List.getElem?_map, hy]; rfl
      have hc := ih' _ (List.mem_of_getElem? hy)
      have hp := deepI_pos (deeps_mem hd _ (List.mem_of_getElem? hy))
      have hd2 : decide ((d : Int) > 0) = true := decide_eq_true (by omega)
      have ed : IntKind.i64.wrap ((d : Int) - 1) = ((d - 1 : Nat) : Int) := by rw [IntWalk.i64_in _ (by omega)]; omega
      have ei : IntKind.i64.wrap ((i : Int) + 1) = ((i + 1 : Nat) : Int) := by rw [IntWalk.i64_in _ (by omega)]; omega
      have hs : L ++ [E.agg [.int .i64 k1, .int .u64 (n1 : Int), .sl (b1.map E.byte), .sl (itEs l1)]] = itEs (l.take (i + 1)) := by
        rw [hL, List.take_add_one, hy]; exact (itEs_app _ [It.mk k1 n1 b1 l1]).symm
      rw [List.length_take] at el
      repeat' (first | (apply AL_callPw (hc); kernel_rfl; (iterate 4 exact rfl)) | rw [ei] | rw [ed] | (apply AL_move; exact rfl; exact rfl) | (apply AL_assign; exact rfl; exact rfl) | (apply AL_bin; (iterate 5 exact rfl)) | (apply AL_load1 ttok; (iterate 6 exact rfl)) | (apply AL_fieldAddr ttok; (iterate 7 exact rfl)) | (apply AL_store ttok; (iterate 8 exact rfl)) | refine AL_nil ?_ | (apply AL_guardT; (iterate 3 exact rfl); (first | with_reducible assumption | decide +kernel)) | (apply AL_pickT; exact rfl; (first | with_reducible assumption | decide +kernel); exact rfl; exact rfl) | refine AW_region ?_ | refine AW_seq' ?_ | (apply AW_condA; exact rfl; (first | with_reducible assumption | decide +kernel)) | refine then_norm ?_ | refine AW_block ?_ | (apply AL_len ttok; (iterate 4 exact rfl)) | (apply AL_eloadn ttok; (iterate 6 exact rfl)) | (apply AL_bsZ ttok; (iterate 12 exact rfl)) | (apply AW_drawE 11 hmix; (decide +kernel); (kernel_rfl); (kernel_rfl); (kernel_rfl); exact rfl; exact rfl) | (apply AE_consZ; (iterate 4 exact rfl)) | exact AE.nil _ _ _ _ | (apply AEk_puT; exact rfl) | (apply AOt_mk; exact rfl; exact rfl; (decide +kernel); exact rfl) | (apply AO_puT; exact rfl) | exact AO.nil _ _ _ | (apply AOs_skip; (decide +kernel)) | exact AOs.nil | exact qY_ok rfl rfl | exact qY_wk rfl rfl rfl rfl rfl | refine AW_skip ?_ | (apply AL_append ttok; (iterate 6 exact rfl); (first | with_reducible assumption | decide +kernel | exact rfl | rotate_left); exact rfl; exact rfl; (first | exact uniB_ok rfl | with_reducible assumption | decide +kernel | rotate_left); (first | exact uniB_ok rfl | with_reducible assumption | decide +kernel | rotate_left); (first | exact List.cons_ne_nil _ _ | with_reducible assumption | decide +kernel | rotate_left); (first | with_reducible assumption | decide +kernel | rotate_left); (first | with_reducible assumption | decide +kernel | rotate_left); exact rfl; exact rfl) | (apply AL_idx ttok; (iterate 6 exact rfl); (first | with_reducible assumption | decide +kernel | exact Int.natCast_nonneg _ | (guard_target = (0:Int) ≤ (OfNat.ofNat _ : Int); decide) | rotate_left); (first | with_reducible assumption | decide +kernel | exact rfl); (first | exact uniB_ok rfl | with_reducible assumption | decide +kernel | rotate_left)))
      · refine Lands.mk' (m := k' - 1) (by omega) ⟨i + 1, L.length + 1, _, by omega, by rw [List.length_append]; rfl, hs, rfl, .inr ⟨rfl, rfl⟩⟩ ?_ rfl rfl rfl rfl rfl rfl
        exact .cons rfl (.cons rfl (.cons rfl (.cons rfl (.cons rfl .nil))))
      all_goals (first | rfl | (simp only [List.length_append, List.length_cons, List.length_nil, List.length_map, itEs_len]; done) | (simp only [List.length_append, List.length_cons, List.length_nil, List.length_map, itEs_len] at *; (try unfold maxLen); (try simp only [Nat.add_mul]); omega))
    · have hd1 : decide ((i : Int) < ((itEs l).length : Int)) = false := decide_eq_false (by omega)
      rw [List.take_of_length_le hge] at hL
      subst hL
      repeat' (first | (apply AL_move; exact rfl; exact rfl) | (apply AL_bin; (iterate 5 exact rfl)) | (apply AL_load1 ttok; (iterate 6 exact rfl)) | (apply AL_loadn ttok; (iterate 7 exact rfl)) | (apply AL_fieldAddr ttok; (iterate 7 exact rfl)) | (apply AL_store ttok; (iterate 8 exact rfl)) | refine AL_nil ?_ | (apply AL_guardFt; (iterate 3 exact rfl); (first | with_reducible assumption | decide +kernel)) | (apply AL_pickF; exact rfl; (first | with_reducible assumption | decide +kernel); exact rfl; exact rfl) | refine AW_region ?_ | refine AW_seq' ?_ | (apply AW_condB; exact rfl; (first | with_reducible assumption | decide +kernel)) | refine then_norm ?_ | refine AW_exit ?_ | refine AW_ret ?_ | (apply AL_len ttok; (iterate 4 exact rfl)))
      all_goals (apply endQ []; (repeat (first | exact ResL.nil | (apply ResL.cons; first | exact .tmp _ _ rfl | (apply res_n ttok; (iterate 6 exact rfl)) | (apply res_1 ttok; (iterate 5 exact rfl))))); (iterate 4 exact rfl))
      all_goals rfl
theorem beqs_ne {l l' : List It} (h : l.length ≠ l'.length) : It.beqs l l' = false := by
  rw [← Bool.not_eq_true]
  intro e
  exact h (congrArg List.length (It.beqs_iff.1 e))
theorem av_refSame [Known] : ∀ (x : It), wfI x → ∀ y : It, wfI y → AP Tryd.prog 18 [itD x, itD y] (.bool (It.beq x y)) [] := by
  refine It.ind fun k n b l ih hw y hw' => ?_
  obtain ⟨k', n', b', l'⟩ := y
  obtain ⟨_, _, hl, hws⟩ := hw
  obtain ⟨_, _, hl', hws'⟩ := hw'
  have e1 := itEs_len l
  have e2 := itEs_len l'
  rw [It.beq]
  by_cases h1 : k = k'
  case neg =>
    have t1 : (k != k') = true := by simpa using h1
    have tt : ((k == k') && ((n == n') && ((b == b') && It.beqs l l'))) = false := by simp [h1]
    rw [tt]
    refine AP.ofA ?_
    refine AC_of Tryd.func18 rfl Tryd.ntmps18 rfl rfl ?_
    repeat' (first | (apply AL_move; exact rfl; exact rfl) | (apply AL_assign; exact rfl; exact rfl) | (apply AL_bin; (iterate 5 exact rfl)) | (apply AL_load1 ttok; (iterate 6 exact rfl)) | (apply AL_fieldAddr ttok; (iterate 7 exact rfl)) | (apply AL_box; (iterate 5 exact rfl)) | refine AL_nil ?_ | (apply AL_guardFf; (iterate 3 exact rfl); (first | with_reducible assumption | decide +kernel)) | (apply AL_pickT; exact rfl; (first | with_reducible assumption | decide +kernel); exact rfl; exact rfl) | refine AW_region ?_ | refine AW_seq' ?_ | (apply AW_condA; exact rfl; (first | with_reducible assumption | decide +kernel)) | refine then_norm ?_ | refine AW_ret ?_ | refine then_ret ?_)
    all_goals (apply endQ []; (repeat (first | exact ResL.nil | (apply ResL.cons; first | exact .tmp _ _ rfl | (apply res_n ttok; (iterate 6 exact rfl)) | (apply res_1 ttok; (iterate 5 exact rfl))))); (iterate 4 exact rfl))
    all_goals rfl
  have t1 : (k != k') = false := by simpa using h1
  by_cases h2 : n = n'
  case neg =>
    have t2 : ((n : Int) != (n' : Int)) = true := by simp; omega
    have tt : ((k == k') && ((n == n') && ((b == b') && It.beqs l l'))) = false := by simp [h2]
    rw [tt]
    refine AP.ofA ?_
    refine AC_of Tryd.func18 rfl Tryd.ntmps18 rfl rfl ?_
    repeat' (first | (apply AL_move; exact rfl; exact rfl) | (apply AL_assign; exact rfl; exact rfl) | (apply AL_bin; (iterate 5 exact rfl)) | (apply AL_load1 ttok; (iterate 6 exact rfl)) | (apply AL_fieldAddr ttok; (iterate 7 exact rfl)) | (apply AL_box; (iterate 5 exact rfl)) | refine AL_nil ?_ | (apply AL_guardT; (iterate 3 exact rfl); (first | with_reducible assumption | decide +kernel)) | (apply AL_guardFf; (iterate 3 exact rfl); (first | with_reducible assumption | decide +kernel)) | (apply AL_pickT; exact rfl; (first | with_reducible assumption | decide +kernel); exact rfl; exact rfl) | (apply AL_pickF; exact rfl; (first | with_reducible assumption | decide +kernel); exact rfl; exact rfl) | refine AW_region ?_ | refine AW_seq' ?_ | (apply AW_condA; exact rfl; (first | with_reducible assumption | decide +kernel)) | refine then_norm ?_ | refine AW_ret ?_ | refine then_ret ?_)
    all_goals (apply endQ []; (repeat (first | exact ResL.nil | (apply ResL.cons; first | exact .tmp _ _ rfl | (apply res_n ttok; (iterate 6 exact rfl)) | (apply res_1 ttok; (iterate 5 exact rfl))))); (iterate 4 exact rfl))
    all_goals rfl
  have t2 : ((n : Int) != (n' : Int)) = false := by simp; omega
  by_cases h3 : b = b'
  case neg =>
    have t3 : (b != b') = true := by simpa using h3
    have tt : ((k == k') && ((n == n') && ((b == b') && It.beqs l l'))) = false := by simp [h3]
    rw [tt]
    refine AP.ofA ?_
    refine AC_of Tryd.func18 rfl Tryd.ntmps18 rfl rfl ?_
    repeat' (first | (apply AL_move; exact rfl; exact rfl) | (apply AL_assign; exact rfl; exact rfl) | (apply AL_bin; (iterate 5 exact rfl)) | (apply AL_load1 ttok; (iterate 6 exact rfl)) | (apply AL_fieldAddr ttok; (iterate 7 exact rfl)) | (apply AL_box; (iterate 5 exact rfl)) | refine AL_nil ?_ | (apply AL_guardT; (iterate 3 exact rfl); (first | with_reducible assumption | decide +kernel)) | (apply AL_guardFf; (iterate 3 exact rfl); (first | with_reducible assumption | decide +kernel)) | (apply AL_pickT; exact rfl; (first | with_reducible assumption | decide +kernel); exact rfl; exact rfl) | (apply AL_pickF; exact rfl; (first | with_reducible assumption | decide +kernel); exact rfl; exact rfl) | refine AW_region ?_ | refine AW_seq' ?_ | (apply AW_condA; exact rfl; (first | with_reducible assumption | decide +kernel)) | refine then_norm ?_ | refine AW_ret ?_ | refine then_ret ?_ | (apply AL_str; (iterate 5 exact rfl)) | (apply AL_b2s ttok; (iterate 9 exact rfl)))
    all_goals (apply endQ []; (repeat (first | exact ResL.nil | (apply ResL.cons; first | exact .tmp _ _ rfl | (apply res_n ttok; (iterate 6 exact rfl)) | (apply res_1 ttok; (iterate 5 exact rfl))))); (iterate 4 exact rfl))
    all_goals rfl
  have t3 : (b != b') = false := by simpa using h3
  have e : ((k == k') && ((n == n') && ((b == b') && It.beqs l l'))) = It.beqs l l' := by simp [h1, h2, h3]
  rw [e]
  by_cases hne : l.length = l'.length
  case neg =>
    have t4 : (((itEs l).length : Int) != ((itEs l').length : Int)) = true := by rw [e1, e2]; simp; omega
    rw [beqs_ne hne]
    refine AP.ofA ?_
    refine AC_of Tryd.func18 rfl Tryd.ntmps18 rfl rfl ?_
    repeat' (first | (apply AL_move; exact rfl; exact rfl) | (apply AL_assign; exact rfl; exact rfl) | (apply AL_bin; (iterate 5 exact rfl)) | (apply AL_load1 ttok; (iterate 6 exact rfl)) | (apply AL_fieldAddr ttok; (iterate 7 exact rfl)) | (apply AL_box; (iterate 5 exact rfl)) | refine AL_nil ?_ | (apply AL_guardT; (iterate 3 exact rfl); (first | with_reducible assumption | decide +kernel)) | (apply AL_pickF; exact rfl; (first | with_reducible assumption | decide +kernel); exact rfl; exact rfl) | refine AW_region ?_ | refine AW_seq' ?_ | (apply AW_condA; exact rfl; (first | with_reducible assumption | decide +kernel)) | refine then_norm ?_ | refine AW_ret ?_ | refine then_ret ?_ | (apply AL_len ttok; (iterate 4 exact rfl)) | (apply AL_str; (iterate 5 exact rfl)) | (apply AL_b2s ttok; (iterate 9 exact rfl)))
    all_goals (apply endQ []; (repeat (first | exact ResL.nil | (apply ResL.cons; first | exact .tmp _ _ rfl | (apply res_n ttok; (iterate 6 exact rfl)) | (apply res_1 ttok; (iterate 5 exact rfl))))); (iterate 4 exact rfl))
    all_goals rfl
  have t4 : (((itEs l).length : Int) != ((itEs l').length : Int)) = false := by rw [e1, e2, hne]; simp
  generalize hfin : It.beqs l l' = fin
  have ih' : ∀ y ∈ l, ∀ y' ∈ l', AP Tryd.prog 18 [itD y, itD y'] (.bool (It.beq y y')) [] := fun y hy y' hy' => ih y hy (wfs_mem hws y hy) y' (wfs_mem hws' y' hy')
  clear ih e h1 h2 h3
  refine AP.ofA ?_
  refine AC_of Tryd.func18 rfl Tryd.ntmps18 rfl rfl ?_
  repeat' (first | (apply AL_move; exact rfl; exact rfl) | (apply AL_assign; exact rfl; exact rfl) | (apply AL_bin; (iterate 5 exact rfl)) | (apply AL_load1 ttok; (iterate 6 exact rfl)) | (apply AL_fieldAddr ttok; (iterate 7 exact rfl)) | (apply AL_box; (iterate 5 exact rfl)) | refine AL_nil ?_ | (apply AL_guardT; (iterate 3 exact rfl); (first | with_reducible assumption | decide +kernel)) | (apply AL_pickF; exact rfl; (first | with_reducible assumption | decide +kernel); exact rfl; exact rfl) | refine AW_region ?_ | refine AW_seq' ?_ | (apply AW_condB; exact rfl; (first | with_reducible assumption | decide +kernel)) | refine then_norm ?_ | refine AW_block ?_ | (apply AL_len ttok; (iterate 4 exact rfl)) | (apply AL_str; (iterate 5 exact rfl)) | refine AW_skip ?_ | (apply AL_b2s ttok; (iterate 9 exact rfl)))
  refine AW_loopJ (fun f tm bx fr => ∃ i : Nat, f + i = l.length ∧ It.beqs (l.drop i) (l'.drop i) = fin ∧ tm = [(2, .ptr 0 0), (3, .ptr 1 0), (5, .int .i64 (i : Int)), (4, .bool false)] ∧ bx = [itC k n b l, itC k' n' b' l'] ∧ fr = []) (l.length + 1) (Lands.mk' (m := l.length) (Nat.lt_succ_self _) ⟨0, rfl, hfin, rfl, rfl, rfl⟩ ?_ rfl rfl rfl rfl rfl rfl) ?_
  · exact .cons rfl (.cons rfl (.cons rfl (.cons rfl .nil)))
  rintro f tm bx fr ⟨i, hf, hfin, rfl, rfl, rfl⟩
  have hU := uniI l
  have hU' := uniI l'
  rcases Nat.lt_or_ge i l.length with hlt | hge
  · have hdl : decide ((i : Int) < ((itEs l).length : Int)) = true := decide_eq_true (by omega)
    obtain ⟨⟨k1, n1, b1, l1⟩, hy⟩ : ∃ y, l[i]? = some y := ⟨_, List.getElem?_eq_getElem hlt⟩
    obtain ⟨⟨k2, n2, b2, l2⟩, hy'⟩ : ∃ y, l'[i]? = some y := ⟨_, List.getElem?_eq_getElem (by omega)⟩
    have hv : (itEs l)[((i : Nat) : Int).toNat]? = some (.agg [.int .i64 k1, .int .u64 (n1 : Int), .sl (b1.map E.byte), .sl (itEs l1)]) := by
      rw [Int.toNat_natCast, itEs_map, List.getElem?_map, hy]; rfl
    have hv' : (itEs l')[((i : Nat) : Int).toNat]? = some (.agg [.int .i64 k2, .int .u64 (n2 : Int), .sl (b2.map E.byte), .sl (itEs l2)]) := by
      rw [Int.toNat_natCast, itEs_map, List.getElem?_map, hy']; rfl
    have hc := ih' _ (List.mem_of_getElem? hy) _ (List.mem_of_getElem? hy')
    have hdr : l.drop i = It.mk k1 n1 b1 l1 :: l.drop (i + 1) := by
      rw [List.drop_eq_getElem_cons hlt]; congr 1
      exact (List.getElem?_eq_some_iff.1 hy).2
    have hdr' : l'.drop i = It.mk k2 n2 b2 l2 :: l'.drop (i + 1) := by
      rw [List.drop_eq_getElem_cons (by omega)]; congr 1
      exact (List.getElem?_eq_some_iff.1 hy').2
    rw [hdr, hdr', It.beqs] at hfin
    have ei : IntKind.i64.wrap ((i : Int) + 1) = ((i + 1 : Nat) : Int) := by rw [IntWalk.i64_in _ (by omega)]; omega
    cases hb : It.beq (.mk k1 n1 b1 l1) (.mk k2 n2 b2 l2) with
    | false =>
      rw [hb] at hfin hc
      subst hfin
      repeat' (first | (apply AL_callPw (hc); kernel_rfl; (iterate 4 exact rfl)) | (apply AL_move; exact rfl; exact rfl) | (apply AL_assign; exact rfl; exact rfl) | (apply AL_bin; (iterate 5 exact rfl)) | (apply AL_load1 ttok; (iterate 6 exact rfl)) | (apply AL_fieldAddr ttok; (iterate 7 exact rfl)) | (apply AL_not; exact rfl; exact rfl) | refine AL_nil ?_ | refine AW_region ?_ | refine AW_seq' ?_ | (apply AW_condA; exact rfl; (first | with_reducible assumption | decide +kernel)) | refine then_norm ?_ | refine AW_block ?_ | refine AW_ret ?_ | refine then_ret ?_ | refine blk_ret ?_ | (apply AL_len ttok; (iterate 4 exact rfl)) | (apply AL_eloadn ttok; (iterate 6 exact rfl)) | (apply AW_drawM 10 hmix; (decide +kernel); (kernel_rfl); (kernel_rfl); exact rfl; exact rfl) | (apply AD_cons; (iterate 3 exact rfl)) | refine AD.nil _ | exact qp_ok rfl | refine AW_skip ?_ | (apply AL_idx ttok; (iterate 6 exact rfl); (first | with_reducible assumption | decide +kernel | exact Int.natCast_nonneg _ | (guard_target = (0:Int) ≤ (OfNat.ofNat _ : Int); decide) | rotate_left); (first | with_reducible assumption | decide +kernel | exact rfl); (first | exact uniB_ok rfl | with_reducible assumption | decide +kernel | rotate_left)))
      all_goals (apply endQ []; (repeat (first | exact ResL.nil | (apply ResL.cons; first | exact .tmp _ _ rfl | (apply res_n ttok; (iterate 6 exact rfl)) | (apply res_1 ttok; (iterate 5 exact rfl))))); (iterate 4 exact rfl))
      all_goals rfl
    | true =>
      rw [hb] at hfin hc
      repeat' (first | rw [ei] | (apply AL_callPw (hc); kernel_rfl; (iterate 4 exact rfl)) | (apply AL_move; exact rfl; exact rfl) | (apply AL_assign; exact rfl; exact rfl) | (apply AL_bin; (iterate 5 exact rfl)) | (apply AL_load1 ttok; (iterate 6 exact rfl)) | (apply AL_fieldAddr ttok; (iterate 7 exact rfl)) | (apply AL_not; exact rfl; exact rfl) | refine AL_nil ?_ | refine AW_region ?_ | refine AW_seq' ?_ | (apply AW_condA; exact rfl; (first | with_reducible assumption | decide +kernel)) | (apply AW_condB; exact rfl; (first | with_reducible assumption | decide +kernel)) | refine then_norm ?_ | refine AW_block ?_ | (apply AL_len ttok; (iterate 4 exact rfl)) | (apply AL_eloadn ttok; (iterate 6 exact rfl)) | (apply AW_drawM 10 hmix; (decide +kernel); (kernel_rfl); (kernel_rfl); exact rfl; exact rfl) | (apply AD_cons; (iterate 3 exact rfl)) | refine AD.nil _ | exact qp_ok rfl | refine AW_skip ?_ | (apply AL_idx ttok; (iterate 6 exact rfl); (first | with_reducible assumption | decide +kernel | exact Int.natCast_nonneg _ | (guard_target = (0:Int) ≤ (OfNat.ofNat _ : Int); decide) | rotate_left); (first | with_reducible assumption | decide +kernel | exact rfl); (first | exact uniB_ok rfl | with_reducible assumption | decide +kernel | rotate_left)))
      refine Lands.mk' (m := f - 1) (by omega) ⟨i + 1, by omega, hfin, rfl, rfl, rfl⟩ ?_ rfl rfl rfl rfl rfl rfl
      exact .cons rfl (.cons rfl (.cons rfl (.cons rfl .nil)))
  · have hdl : decide ((i : Int) < ((itEs l).length : Int)) = false := decide_eq_false (by omega)
    rw [List.drop_eq_nil_of_le hge, List.drop_eq_nil_of_le (by omega)] at hfin
    have hfin : true = fin := hfin
    subst hfin
    repeat' (first | (apply AL_move; exact rfl; exact rfl) | (apply AL_assign; exact rfl; exact rfl) | (apply AL_bin; (iterate 5 exact rfl)) | (apply AL_load1 ttok; (iterate 6 exact rfl)) | (apply AL_fieldAddr ttok; (iterate 7 exact rfl)) | refine AL_nil ?_ | refine AW_region ?_ | refine AW_seq' ?_ | (apply AW_condB; exact rfl; (first | with_reducible assumption | decide +kernel)) | refine then_norm ?_ | refine AW_exit ?_ | refine AW_ret ?_ | (apply AL_len ttok; (iterate 4 exact rfl)))
    all_goals (apply endQ []; (repeat (first | exact ResL.nil | (apply ResL.cons; first | exact .tmp _ _ rfl | (apply res_n ttok; (iterate 6 exact rfl)) | (apply res_1 ttok; (iterate 5 exact rfl))))); (iterate 4 exact rfl))
    all_goals rfl
end Go.Proofs.YtnihobjehelagaaDoor
end
/- The document's texts: which bytes are UTF-8. -/
section
open Go.RowKit Go.Pl Go.Av
namespace Go.Proofs.YtnihobjehelagaaDoor
set_option linter.unusedVariables false
set_option linter.unusedSimpArgs false
set_option maxHeartbeats 4000000
theorem av_within [Known] (c lo hi : Nat) : AP Tryd.prog 134 [.int .u8 (c : Int), .int .u8 (lo : Int), .int .u8 (hi : Int)] (.bool (inB c lo hi)) [] := by
  have e : inB c lo hi = (decide (lo ≤ c) && decide (c ≤ hi)) := rfl
  rw [e]
  by_cases h1 : lo ≤ c
  · have t1 : decide ((c : Int) ≥ (lo : Int)) = true := decide_eq_true (by omega)
    have t2 : decide ((c : Int) ≤ (hi : Int)) = decide (c ≤ hi) := by rw [decide_eq_decide]; omega
    rw [decide_eq_true h1, Bool.true_and]
    refine AP.ofA ?_
    refine AC_of Tryd.func134 rfl Tryd.ntmps134 rfl rfl ?_
    repeat' (first | rw [t2] | (apply AL_move; exact rfl; exact rfl) | (apply AL_assign; exact rfl; exact rfl) | (apply AL_bin; (iterate 5 exact rfl)) | refine AL_nil ?_ | (apply AL_guardT; (iterate 3 exact rfl); (first | with_reducible assumption | decide +kernel)) | (apply AL_pickT; exact rfl; (first | with_reducible assumption | decide +kernel); exact rfl; exact rfl) | refine AW_region ?_ | refine AW_seq' ?_ | refine then_norm ?_ | refine AW_ret ?_)
    all_goals (apply endQ []; (repeat (first | exact ResL.nil | (apply ResL.cons; first | exact .tmp _ _ rfl | (apply res_n ttok; (iterate 6 exact rfl)) | (apply res_1 ttok; (iterate 5 exact rfl))))); (iterate 4 exact rfl))
    all_goals rfl
  · have t1 : decide ((c : Int) ≥ (lo : Int)) = false := decide_eq_false (by omega)
    rw [decide_eq_false h1, Bool.false_and]
    refine AP.ofA ?_
    refine AC_of Tryd.func134 rfl Tryd.ntmps134 rfl rfl ?_
    repeat' (first | (apply AL_move; exact rfl; exact rfl) | (apply AL_assign; exact rfl; exact rfl) | (apply AL_bin; (iterate 5 exact rfl)) | refine AL_nil ?_ | (apply AL_guardFt; (iterate 3 exact rfl); (first | with_reducible assumption | decide +kernel)) | (apply AL_pickF; exact rfl; (first | with_reducible assumption | decide +kernel); exact rfl; exact rfl) | refine AW_region ?_ | refine AW_seq' ?_ | refine then_norm ?_ | refine AW_ret ?_)
    all_goals (apply endQ []; (repeat (first | exact ResL.nil | (apply ResL.cons; first | exact .tmp _ _ rfl | (apply res_n ttok; (iterate 6 exact rfl)) | (apply res_1 ttok; (iterate 5 exact rfl))))); (iterate 4 exact rfl))
    all_goals rfl
/-- what the first byte tells -/
theorem first4 (c : Nat) (h : 128 ≤ c) : (inB c 194 223 = true ∧ ptN c = 2)
    ∨ (inB c 194 223 = false ∧ inB c 224 239 = true ∧ ptN c = 3)
    ∨ (inB c 194 223 = false ∧ inB c 224 239 = false ∧ inB c 240 244 = true ∧ ptN c = 4)
    ∨ (inB c 194 223 = false ∧ inB c 224 239 = false ∧ inB c 240 244 = false ∧ ptN c = 0) := by
  have f : ∀ lo hi : Nat, inB c lo hi = decide (lo ≤ c ∧ c ≤ hi) := fun lo hi => by unfold inB; rw [Bool.decide_and]
  unfold ptN
  rw [f, f, f]
  simp only [decide_eq_true_eq, decide_eq_false_iff_not]
  (repeat' split) <;> omega
theorem eqB (c k : Nat) : ((c : Int) == (k : Int)) = decide (c = k) := by rw [Bool.eq_iff_iff, beq_iff_eq, decide_eq_true_eq]; omega
theorem lo_if (c : Nat) : (ptLo c : Int) = if ((c : Int) == 224) = true then 160 else if ((c : Int) == 237) = true then 128 else if ((c : Int) == 240) = true then 144 else 128 := by
  have e1 : ((c : Int) == 224) = decide (c = 224) := eqB c 224
  have e2 : ((c : Int) == 237) = decide (c = 237) := eqB c 237
  have e3 : ((c : Int) == 240) = decide (c = 240) := eqB c 240
  rw [e1, e2, e3]
  unfold ptLo
  simp only [decide_eq_true_eq]
  (repeat' split) <;> omega
theorem hi_if (c : Nat) : (ptHi c : Int) = if ((c : Int) == 224) = true then 191 else if ((c : Int) == 237) = true then 159 else if ((c : Int) == 240) = true then 191 else if ((c : Int) == 244) = true then 143 else 191 := by
  have e1 : ((c : Int) == 224) = decide (c = 224) := eqB c 224
  have e2 : ((c : Int) == 237) = decide (c = 237) := eqB c 237
  have e3 : ((c : Int) == 240) = decide (c = 240) := eqB c 240
  have e4 : ((c : Int) == 244) = decide (c = 244) := eqB c 244
  rw [e1, e2, e3, e4]
  unfold ptHi
  simp only [decide_eq_true_eq]
  (repeat' split) <;> omega
theorem lenT {α : Type} {f : α → E} {b : List α} {n : Nat} (h : b.length < n) : decide (((b.map f).length : Int) < (n : Int)) = true := decide_eq_true (by rw [List.length_map]; omega)
theorem lenF {α : Type} {f : α → E} {b : List α} {n : Nat} (h : n ≤ b.length) : decide (((b.map f).length : Int) < (n : Int)) = false := decide_eq_false (by rw [List.length_map]; omega)
theorem av_point [Known] (c : UInt8) (r : List UInt8) : AP Tryd.prog 123 [byE (c :: r)] (.int .i64 (pt (c :: r) : Int)) [] := by
  have hU := uniB1 (c :: r)
  have hv0 : ((c :: r).map E.byte)[Int.toNat 0]? = some (.int .u8 (c.toNat : Int)) := rfl
  by_cases h1 : c.toNat < 128
  · have t1 : decide ((c.toNat : Int) < 128) = true := decide_eq_true (by omega)
    have e : pt (c :: r) = 1 := by simp [pt, ptN, h1]
    rw [e]
    refine AP.ofA ?_
    refine AC_of Tryd.func123 rfl Tryd.ntmps123 rfl rfl ?_
    repeat' (first | (apply AL_move; exact rfl; exact rfl) | (apply AL_assign; exact rfl; exact rfl) | (apply AL_bin; (iterate 5 exact rfl)) | refine AL_nil ?_ | refine AW_region ?_ | refine AW_seq' ?_ | (apply AW_condA; exact rfl; (first | with_reducible assumption | decide +kernel)) | refine then_norm ?_ | refine AW_block ?_ | refine AW_ret ?_ | refine then_ret ?_ | refine blk_ret ?_ | (apply AL_eload1 ttok; (iterate 6 exact rfl)) | (apply AL_idx ttok; (iterate 6 exact rfl); (first | with_reducible assumption | decide +kernel | exact Int.natCast_nonneg _ | (guard_target = (0:Int) ≤ (OfNat.ofNat _ : Int); decide) | rotate_left); (first | with_reducible assumption | decide +kernel | exact rfl); (first | exact uniB_ok rfl | with_reducible assumption | decide +kernel | rotate_left)))
    all_goals (apply endQ []; (repeat (first | exact ResL.nil | (apply ResL.cons; first | exact .tmp _ _ rfl | (apply res_n ttok; (iterate 6 exact rfl)) | (apply res_1 ttok; (iterate 5 exact rfl))))); (iterate 4 exact rfl))
    all_goals rfl
  have t1 : decide ((c.toNat : Int) < 128) = false := decide_eq_false (by omega)
  have w1 := av_within c.toNat 194 223
  have w2 := av_within c.toNat 224 239
  have w3 := av_within c.toNat 240 244
  have hF := first4 c.toNat (by omega)
  have hlo := lo_if c.toNat
  have hhi := hi_if c.toNat
  generalize hp : pt (c :: r) = p
  refine AP.ofA ?_
  refine AC_of Tryd.func123 rfl Tryd.ntmps123 rfl rfl ?_
  rcases hF with ⟨i1, hn⟩ | ⟨i1, i2, hn⟩ | ⟨i1, i2, i3, hn⟩ | ⟨i1, i2, i3, hn⟩
  all_goals
    repeat' (first | (apply AL_callPw (w1); kernel_rfl; (iterate 4 exact rfl)) | (apply AL_callPw (w2); kernel_rfl; (iterate 4 exact rfl)) | (apply AL_callPw (w3); kernel_rfl; (iterate 4 exact rfl)) | refine AW_joinB 1 (fun tm bx fr => tm = [(0, byE (c :: r)), (4, .int .i64 (ptN c.toNat : Int)), (5, .int .u8 (ptLo c.toNat : Int)), (6, .int .u8 (ptHi c.toNat : Int))] ∧ bx = [] ∧ fr = []) ?_ ?_ | (apply AL_move; exact rfl; exact rfl) | (apply AL_assign; exact rfl; exact rfl) | (apply AL_bin; (iterate 5 exact rfl)) | refine AL_nil ?_ | refine AW_region ?_ | refine AW_seq' ?_ | (apply AW_condA; exact rfl; (first | with_reducible assumption | decide +kernel)) | (apply AW_condB; exact rfl; (first | with_reducible assumption | decide +kernel)) | (apply AW_cond'; exact rfl; all_goals intro hb) | refine then_norm ?_ | refine blk_norm ?_ | refine AW_block ?_ | (apply AL_eload1 ttok; (iterate 6 exact rfl)) | refine AW_skip ?_ | (apply AL_idx ttok; (iterate 6 exact rfl); (first | with_reducible assumption | decide +kernel | exact Int.natCast_nonneg _ | (guard_target = (0:Int) ≤ (OfNat.ofNat _ : Int); decide) | rotate_left); (first | with_reducible assumption | decide +kernel | exact rfl); (first | exact uniB_ok rfl | with_reducible assumption | decide +kernel | rotate_left)))
    all_goals first
      | (refine Lands.mk' (m := 0) (by decide) ⟨rfl, rfl, rfl⟩ ?_ rfl rfl rfl rfl rfl rfl
         exact .cons rfl (.cons (by rw [hn]; rfl) (.cons (by simp only [hlo, *]; rfl) (.cons (by simp only [hhi, *]; rfl) .nil))))
      | skip
  all_goals
    rintro tm bx fr ⟨rfl, rfl, rfl⟩
    rw [hn]
    clear hlo hhi t1 w1 w2 w3 h1
    try clear i1
    try clear i2
    try clear i3
  · rcases r with _ | ⟨c1, r⟩
    · have t2 : decide ((([c].map E.byte).length : Int) < ((2 : Nat) : Int)) = true := lenT (n := 2) (by simp)
      obtain rfl : 0 = p := by rw [← hp]; simp [pt, hn]
      repeat' (first | (apply AL_move; exact rfl; exact rfl) | (apply AL_assign; exact rfl; exact rfl) | (apply AL_bin; (iterate 5 exact rfl)) | refine AL_nil ?_ | (apply AL_guardT; (iterate 3 exact rfl); (first | with_reducible assumption | decide +kernel)) | (apply AL_guardFf; (iterate 3 exact rfl); (first | with_reducible assumption | decide +kernel)) | (apply AL_pickT; exact rfl; (first | with_reducible assumption | decide +kernel); exact rfl; exact rfl) | (apply AL_pickF; exact rfl; (first | with_reducible assumption | decide +kernel); exact rfl; exact rfl) | refine AW_region ?_ | refine AW_seq' ?_ | (apply AW_condA; exact rfl; (first | with_reducible assumption | decide +kernel)) | refine then_norm ?_ | refine AW_ret ?_ | refine then_ret ?_ | (apply AL_len ttok; (iterate 4 exact rfl)))
      all_goals (apply endQ []; (repeat (first | exact ResL.nil | (apply ResL.cons; first | exact .tmp _ _ rfl | (apply res_n ttok; (iterate 6 exact rfl)) | (apply res_1 ttok; (iterate 5 exact rfl))))); (iterate 4 exact rfl))
      all_goals rfl
    · have t2 : decide ((((c :: c1 :: r).map E.byte).length : Int) < ((2 : Nat) : Int)) = false := lenF (n := 2) (by simp)
      have hv1 : ((c :: c1 :: r).map E.byte)[Int.toNat 1]? = some (.int .u8 (c1.toNat : Int)) := rfl
      have w1 := av_within c1.toNat (ptLo c.toNat) (ptHi c.toNat)
      cases hin : inB c1.toNat (ptLo c.toNat) (ptHi c.toNat)
      · obtain rfl : 0 = p := by rw [← hp]; simp [pt, hn, hin]
        rw [hin] at w1
        repeat' (first | (apply AL_callPw (w1); kernel_rfl; (iterate 4 exact rfl)) | (apply AL_move; exact rfl; exact rfl) | (apply AL_assign; exact rfl; exact rfl) | (apply AL_bin; (iterate 5 exact rfl)) | (apply AL_not; exact rfl; exact rfl) | refine AL_nil ?_ | (apply AL_guardT; (iterate 3 exact rfl); (first | with_reducible assumption | decide +kernel)) | (apply AL_pickF; exact rfl; (first | with_reducible assumption | decide +kernel); exact rfl; exact rfl) | refine AW_region ?_ | refine AW_seq' ?_ | (apply AW_condA; exact rfl; (first | with_reducible assumption | decide +kernel)) | refine then_norm ?_ | refine AW_ret ?_ | refine then_ret ?_ | (apply AL_len ttok; (iterate 4 exact rfl)) | (apply AL_eload1 ttok; (iterate 6 exact rfl)) | (apply AL_idx ttok; (iterate 6 exact rfl); (first | with_reducible assumption | decide +kernel | exact Int.natCast_nonneg _ | (guard_target = (0:Int) ≤ (OfNat.ofNat _ : Int); decide) | rotate_left); (first | with_reducible assumption | decide +kernel | exact rfl); (first | exact uniB_ok rfl | with_reducible assumption | decide +kernel | rotate_left)))
        all_goals (apply endQ []; (repeat (first | exact ResL.nil | (apply ResL.cons; first | exact .tmp _ _ rfl | (apply res_n ttok; (iterate 6 exact rfl)) | (apply res_1 ttok; (iterate 5 exact rfl))))); (iterate 4 exact rfl))
        all_goals rfl
      · obtain rfl : 2 = p := by rw [← hp]; simp [pt, hn, hin]
        rw [hin] at w1
        repeat' (first | (apply AL_callPw (w1); kernel_rfl; (iterate 4 exact rfl)) | refine AW_loopN 70 ?_ | refine AN_succ ?_ | (apply AL_move; exact rfl; exact rfl) | (apply AL_assign; exact rfl; exact rfl) | (apply AL_bin; (iterate 5 exact rfl)) | (apply AL_not; exact rfl; exact rfl) | refine AL_nil ?_ | (apply AL_guardT; (iterate 3 exact rfl); (first | with_reducible assumption | decide +kernel)) | (apply AL_pickF; exact rfl; (first | with_reducible assumption | decide +kernel); exact rfl; exact rfl) | refine AW_region ?_ | refine AW_seq' ?_ | (apply AW_condB; exact rfl; (first | with_reducible assumption | decide +kernel)) | refine then_norm ?_ | refine AW_block ?_ | refine AW_exit ?_ | refine AW_ret ?_ | (apply AL_len ttok; (iterate 4 exact rfl)) | (apply AL_eload1 ttok; (iterate 6 exact rfl)) | refine AW_skip ?_ | (apply AL_idx ttok; (iterate 6 exact rfl); (first | with_reducible assumption | decide +kernel | exact Int.natCast_nonneg _ | (guard_target = (0:Int) ≤ (OfNat.ofNat _ : Int); decide) | rotate_left); (first | with_reducible assumption | decide +kernel | exact rfl); (first | exact uniB_ok rfl | with_reducible assumption | decide +kernel | rotate_left)))
        all_goals (apply endQ []; (repeat (first | exact ResL.nil | (apply ResL.cons; first | exact .tmp _ _ rfl | (apply res_n ttok; (iterate 6 exact rfl)) | (apply res_1 ttok; (iterate 5 exact rfl))))); (iterate 4 exact rfl))
        all_goals rfl
  · rcases r with _ | ⟨c1, _ | ⟨c2, r⟩⟩
    · have t2 : decide ((([c].map E.byte).length : Int) < ((3 : Nat) : Int)) = true := lenT (n := 3) (by simp)
      obtain rfl : 0 = p := by rw [← hp]; simp [pt, hn]
      repeat' (first | (apply AL_move; exact rfl; exact rfl) | (apply AL_assign; exact rfl; exact rfl) | (apply AL_bin; (iterate 5 exact rfl)) | refine AL_nil ?_ | (apply AL_guardT; (iterate 3 exact rfl); (first | with_reducible assumption | decide +kernel)) | (apply AL_guardFf; (iterate 3 exact rfl); (first | with_reducible assumption | decide +kernel)) | (apply AL_pickT; exact rfl; (first | with_reducible assumption | decide +kernel); exact rfl; exact rfl) | (apply AL_pickF; exact rfl; (first | with_reducible assumption | decide +kernel); exact rfl; exact rfl) | refine AW_region ?_ | refine AW_seq' ?_ | (apply AW_condA; exact rfl; (first | with_reducible assumption | decide +kernel)) | refine then_norm ?_ | refine AW_ret ?_ | refine then_ret ?_ | (apply AL_len ttok; (iterate 4 exact rfl)))
      all_goals (apply endQ []; (repeat (first | exact ResL.nil | (apply ResL.cons; first | exact .tmp _ _ rfl | (apply res_n ttok; (iterate 6 exact rfl)) | (apply res_1 ttok; (iterate 5 exact rfl))))); (iterate 4 exact rfl))
      all_goals rfl
    · have t2 : decide ((([c, c1].map E.byte).length : Int) < ((3 : Nat) : Int)) = true := lenT (n := 3) (by simp)
      obtain rfl : 0 = p := by rw [← hp]; simp [pt, hn]
      repeat' (first | (apply AL_move; exact rfl; exact rfl) | (apply AL_assign; exact rfl; exact rfl) | (apply AL_bin; (iterate 5 exact rfl)) | refine AL_nil ?_ | (apply AL_guardT; (iterate 3 exact rfl); (first | with_reducible assumption | decide +kernel)) | (apply AL_guardFf; (iterate 3 exact rfl); (first | with_reducible assumption | decide +kernel)) | (apply AL_pickT; exact rfl; (first | with_reducible assumption | decide +kernel); exact rfl; exact rfl) | (apply AL_pickF; exact rfl; (first | with_reducible assumption | decide +kernel); exact rfl; exact rfl) | refine AW_region ?_ | refine AW_seq' ?_ | (apply AW_condA; exact rfl; (first | with_reducible assumption | decide +kernel)) | refine then_norm ?_ | refine AW_ret ?_ | refine then_ret ?_ | (apply AL_len ttok; (iterate 4 exact rfl)))
      all_goals (apply endQ []; (repeat (first | exact ResL.nil | (apply ResL.cons; first | exact .tmp _ _ rfl | (apply res_n ttok; (iterate 6 exact rfl)) | (apply res_1 ttok; (iterate 5 exact rfl))))); (iterate 4 exact rfl))
      all_goals rfl
    · have t2 : decide ((((c :: c1 :: c2 :: r).map E.byte).length : Int) < ((3 : Nat) : Int)) = false := lenF (n := 3) (by simp)
      have hv1 : ((c :: c1 :: c2 :: r).map E.byte)[Int.toNat 1]? = some (.int .u8 (c1.toNat : Int)) := rfl
      have w1 := av_within c1.toNat (ptLo c.toNat) (ptHi c.toNat)
      have w2 := av_within c2.toNat 128 191
      cases hin : inB c1.toNat (ptLo c.toNat) (ptHi c.toNat)
      · obtain rfl : 0 = p := by rw [← hp]; simp [pt, hn, hin]
        rw [hin] at w1
        repeat' (first | (apply AL_callPw (w1); kernel_rfl; (iterate 4 exact rfl)) | (apply AL_move; exact rfl; exact rfl) | (apply AL_assign; exact rfl; exact rfl) | (apply AL_bin; (iterate 5 exact rfl)) | (apply AL_not; exact rfl; exact rfl) | refine AL_nil ?_ | (apply AL_guardT; (iterate 3 exact rfl); (first | with_reducible assumption | decide +kernel)) | (apply AL_pickF; exact rfl; (first | with_reducible assumption | decide +kernel); exact rfl; exact rfl) | refine AW_region ?_ | refine AW_seq' ?_ | (apply AW_condA; exact rfl; (first | with_reducible assumption | decide +kernel)) | refine then_norm ?_ | refine AW_ret ?_ | refine then_ret ?_ | (apply AL_len ttok; (iterate 4 exact rfl)) | (apply AL_eload1 ttok; (iterate 6 exact rfl)) | (apply AL_idx ttok; (iterate 6 exact rfl); (first | with_reducible assumption | decide +kernel | exact Int.natCast_nonneg _ | (guard_target = (0:Int) ≤ (OfNat.ofNat _ : Int); decide) | rotate_left); (first | with_reducible assumption | decide +kernel | exact rfl); (first | exact uniB_ok rfl | with_reducible assumption | decide +kernel | rotate_left)))
        all_goals (apply endQ []; (repeat (first | exact ResL.nil | (apply ResL.cons; first | exact .tmp _ _ rfl | (apply res_n ttok; (iterate 6 exact rfl)) | (apply res_1 ttok; (iterate 5 exact rfl))))); (iterate 4 exact rfl))
        all_goals rfl
      · cases hi2 : inB c2.toNat 128 191
        all_goals
          rw [hin] at w1
          rw [hi2] at w2
        · obtain rfl : 0 = p := by rw [← hp]; simp [pt, hn, hin, hi2]
          repeat' (first | (apply AL_callPw (w1); kernel_rfl; (iterate 4 exact rfl)) | (apply AL_callPw (w2); kernel_rfl; (iterate 4 exact rfl)) | refine AW_loopN 70 ?_ | refine AN_succ ?_ | (apply AL_move; exact rfl; exact rfl) | (apply AL_assign; exact rfl; exact rfl) | (apply AL_bin; (iterate 5 exact rfl)) | (apply AL_not; exact rfl; exact rfl) | refine AL_nil ?_ | (apply AL_guardT; (iterate 3 exact rfl); (first | with_reducible assumption | decide +kernel)) | (apply AL_pickF; exact rfl; (first | with_reducible assumption | decide +kernel); exact rfl; exact rfl) | refine AW_region ?_ | refine AW_seq' ?_ | (apply AW_condA; exact rfl; (first | with_reducible assumption | decide +kernel)) | (apply AW_condB; exact rfl; (first | with_reducible assumption | decide +kernel)) | refine then_norm ?_ | refine AW_block ?_ | refine AW_ret ?_ | refine then_ret ?_ | refine blk_ret ?_ | (apply AL_len ttok; (iterate 4 exact rfl)) | (apply AL_eload1 ttok; (iterate 6 exact rfl)) | refine AW_skip ?_ | (apply AL_idx ttok; (iterate 6 exact rfl); (first | with_reducible assumption | decide +kernel | exact Int.natCast_nonneg _ | (guard_target = (0:Int) ≤ (OfNat.ofNat _ : Int); decide) | rotate_left); (first | with_reducible assumption | decide +kernel | exact rfl); (first | exact uniB_ok rfl | with_reducible assumption | decide +kernel | rotate_left)))
          all_goals (apply endQ []; (repeat (first | exact ResL.nil | (apply ResL.cons; first | exact .tmp _ _ rfl | (apply res_n ttok; (iterate 6 exact rfl)) | (apply res_1 ttok; (iterate 5 exact rfl))))); (iterate 4 exact rfl))
          all_goals rfl
        · obtain rfl : 3 = p := by rw [← hp]; simp [pt, hn, hin, hi2]
          repeat' (first | (apply AL_callPw (w1); kernel_rfl; (iterate 4 exact rfl)) | (apply AL_callPw (w2); kernel_rfl; (iterate 4 exact rfl)) | refine AW_loopN 70 ?_ | refine AN_succ ?_ | (apply AL_move; exact rfl; exact rfl) | (apply AL_assign; exact rfl; exact rfl) | (apply AL_bin; (iterate 5 exact rfl)) | (apply AL_not; exact rfl; exact rfl) | refine AL_nil ?_ | (apply AL_guardT; (iterate 3 exact rfl); (first | with_reducible assumption | decide +kernel)) | (apply AL_pickF; exact rfl; (first | with_reducible assumption | decide +kernel); exact rfl; exact rfl) | refine AW_region ?_ | refine AW_seq' ?_ | (apply AW_condA; exact rfl; (first | with_reducible assumption | decide +kernel)) | (apply AW_condB; exact rfl; (first | with_reducible assumption | decide +kernel)) | refine then_norm ?_ | refine AW_block ?_ | refine AW_exit ?_ | refine AW_ret ?_ | (apply AL_len ttok; (iterate 4 exact rfl)) | (apply AL_eload1 ttok; (iterate 6 exact rfl)) | refine AW_skip ?_ | (apply AL_idx ttok; (iterate 6 exact rfl); (first | with_reducible assumption | decide +kernel | exact Int.natCast_nonneg _ | (guard_target = (0:Int) ≤ (OfNat.ofNat _ : Int); decide) | rotate_left); (first | with_reducible assumption | decide +kernel | exact rfl); (first | exact uniB_ok rfl | with_reducible assumption | decide +kernel | rotate_left)))
          all_goals (apply endQ []; (repeat (first | exact ResL.nil | (apply ResL.cons; first | exact .tmp _ _ rfl | (apply res_n ttok; (iterate 6 exact rfl)) | (apply res_1 ttok; (iterate 5 exact rfl))))); (iterate 4 exact rfl))
          all_goals rfl
  · rcases r with _ | ⟨c1, _ | ⟨c2, _ | ⟨c3, r⟩⟩⟩
    · have t2 : decide ((([c].map E.byte).length : Int) < ((4 : Nat) : Int)) = true := lenT (n := 4) (by simp)
      obtain rfl : 0 = p := by rw [← hp]; simp [pt, hn]
      repeat' (first | (apply AL_move; exact rfl; exact rfl) | (apply AL_assign; exact rfl; exact rfl) | (apply AL_bin; (iterate 5 exact rfl)) | refine AL_nil ?_ | (apply AL_guardT; (iterate 3 exact rfl); (first | with_reducible assumption | decide +kernel)) | (apply AL_guardFf; (iterate 3 exact rfl); (first | with_reducible assumption | decide +kernel)) | (apply AL_pickT; exact rfl; (first | with_reducible assumption | decide +kernel); exact rfl; exact rfl) | (apply AL_pickF; exact rfl; (first | with_reducible assumption | decide +kernel); exact rfl; exact rfl) | refine AW_region ?_ | refine AW_seq' ?_ | (apply AW_condA; exact rfl; (first | with_reducible assumption | decide +kernel)) | refine then_norm ?_ | refine AW_ret ?_ | refine then_ret ?_ | (apply AL_len ttok; (iterate 4 exact rfl)))
      all_goals (apply endQ []; (repeat (first | exact ResL.nil | (apply ResL.cons; first | exact .tmp _ _ rfl | (apply res_n ttok; (iterate 6 exact rfl)) | (apply res_1 ttok; (iterate 5 exact rfl))))); (iterate 4 exact rfl))
      all_goals rfl
    · have t2 : decide ((([c, c1].map E.byte).length : Int) < ((4 : Nat) : Int)) = true := lenT (n := 4) (by simp)
      obtain rfl : 0 = p := by rw [← hp]; simp [pt, hn]
      repeat' (first | (apply AL_move; exact rfl; exact rfl) | (apply AL_assign; exact rfl; exact rfl) | (apply AL_bin; (iterate 5 exact rfl)) | refine AL_nil ?_ | (apply AL_guardT; (iterate 3 exact rfl); (first | with_reducible assumption | decide +kernel)) | (apply AL_guardFf; (iterate 3 exact rfl); (first | with_reducible assumption | decide +kernel)) | (apply AL_pickT; exact rfl; (first | with_reducible assumption | decide +kernel); exact rfl; exact rfl) | (apply AL_pickF; exact rfl; (first | with_reducible assumption | decide +kernel); exact rfl; exact rfl) | refine AW_region ?_ | refine AW_seq' ?_ | (apply AW_condA; exact rfl; (first | with_reducible assumption | decide +kernel)) | refine then_norm ?_ | refine AW_ret ?_ | refine then_ret ?_ | (apply AL_len ttok; (iterate 4 exact rfl)))
      all_goals (apply endQ []; (repeat (first | exact ResL.nil | (apply ResL.cons; first | exact .tmp _ _ rfl | (apply res_n ttok; (iterate 6 exact rfl)) | (apply res_1 ttok; (iterate 5 exact rfl))))); (iterate 4 exact rfl))
      all_goals rfl
    · have t2 : decide ((([c, c1, c2].map E.byte).length : Int) < ((4 : Nat) : Int)) = true := lenT (n := 4) (by simp)
      obtain rfl : 0 = p := by rw [← hp]; simp [pt, hn]
      repeat' (first | (apply AL_move; exact rfl; exact rfl) | (apply AL_assign; exact rfl; exact rfl) | (apply AL_bin; (iterate 5 exact rfl)) | refine AL_nil ?_ | (apply AL_guardT; (iterate 3 exact rfl); (first | with_reducible assumption | decide +kernel)) | (apply AL_guardFf; (iterate 3 exact rfl); (first | with_reducible assumption | decide +kernel)) | (apply AL_pickT; exact rfl; (first | with_reducible assumption | decide +kernel); exact rfl; exact rfl) | (apply AL_pickF; exact rfl; (first | with_reducible assumption | decide +kernel); exact rfl; exact rfl) | refine AW_region ?_ | refine AW_seq' ?_ | (apply AW_condA; exact rfl; (first | with_reducible assumption | decide +kernel)) | refine then_norm ?_ | refine AW_ret ?_ | refine then_ret ?_ | (apply AL_len ttok; (iterate 4 exact rfl)))
      all_goals (apply endQ []; (repeat (first | exact ResL.nil | (apply ResL.cons; first | exact .tmp _ _ rfl | (apply res_n ttok; (iterate 6 exact rfl)) | (apply res_1 ttok; (iterate 5 exact rfl))))); (iterate 4 exact rfl))
      all_goals rfl
    · have t2 : decide ((((c :: c1 :: c2 :: c3 :: r).map E.byte).length : Int) < ((4 : Nat) : Int)) = false := lenF (n := 4) (by simp)
      have hv1 : ((c :: c1 :: c2 :: c3 :: r).map E.byte)[Int.toNat 1]? = some (.int .u8 (c1.toNat : Int)) := rfl
      have w1 := av_within c1.toNat (ptLo c.toNat) (ptHi c.toNat)
      have w2 := av_within c2.toNat 128 191
      have w3 := av_within c3.toNat 128 191
      cases hin : inB c1.toNat (ptLo c.toNat) (ptHi c.toNat)
      · obtain rfl : 0 = p := by rw [← hp]; simp [pt, hn, hin]
        rw [hin] at w1
        repeat' (first | (apply AL_callPw (w1); kernel_rfl; (iterate 4 exact rfl)) | (apply AL_move; exact rfl; exact rfl) | (apply AL_assign; exact rfl; exact rfl) | (apply AL_bin; (iterate 5 exact rfl)) | (apply AL_not; exact rfl; exact rfl) | refine AL_nil ?_ | (apply AL_guardT; (iterate 3 exact rfl); (first | with_reducible assumption | decide +kernel)) | (apply AL_pickF; exact rfl; (first | with_reducible assumption | decide +kernel); exact rfl; exact rfl) | refine AW_region ?_ | refine AW_seq' ?_ | (apply AW_condA; exact rfl; (first | with_reducible assumption | decide +kernel)) | refine then_norm ?_ | refine AW_ret ?_ | refine then_ret ?_ | (apply AL_len ttok; (iterate 4 exact rfl)) | (apply AL_eload1 ttok; (iterate 6 exact rfl)) | (apply AL_idx ttok; (iterate 6 exact rfl); (first | with_reducible assumption | decide +kernel | exact Int.natCast_nonneg _ | (guard_target = (0:Int) ≤ (OfNat.ofNat _ : Int); decide) | rotate_left); (first | with_reducible assumption | decide +kernel | exact rfl); (first | exact uniB_ok rfl | with_reducible assumption | decide +kernel | rotate_left)))
        all_goals (apply endQ []; (repeat (first | exact ResL.nil | (apply ResL.cons; first | exact .tmp _ _ rfl | (apply res_n ttok; (iterate 6 exact rfl)) | (apply res_1 ttok; (iterate 5 exact rfl))))); (iterate 4 exact rfl))
        all_goals rfl
      · rw [hin] at w1
        cases hi2 : inB c2.toNat 128 191
        · obtain rfl : 0 = p := by rw [← hp]; simp [pt, hn, hin, hi2]
          rw [hi2] at w2
          repeat' (first | (apply AL_callPw (w1); kernel_rfl; (iterate 4 exact rfl)) | (apply AL_callPw (w2); kernel_rfl; (iterate 4 exact rfl)) | refine AW_loopN 70 ?_ | refine AN_succ ?_ | (apply AL_move; exact rfl; exact rfl) | (apply AL_assign; exact rfl; exact rfl) | (apply AL_bin; (iterate 5 exact rfl)) | (apply AL_not; exact rfl; exact rfl) | refine AL_nil ?_ | (apply AL_guardT; (iterate 3 exact rfl); (first | with_reducible assumption | decide +kernel)) | (apply AL_pickF; exact rfl; (first | with_reducible assumption | decide +kernel); exact rfl; exact rfl) | refine AW_region ?_ | refine AW_seq' ?_ | (apply AW_condA; exact rfl; (first | with_reducible assumption | decide +kernel)) | (apply AW_condB; exact rfl; (first | with_reducible assumption | decide +kernel)) | refine then_norm ?_ | refine AW_block ?_ | refine AW_ret ?_ | refine then_ret ?_ | refine blk_ret ?_ | (apply AL_len ttok; (iterate 4 exact rfl)) | (apply AL_eload1 ttok; (iterate 6 exact rfl)) | refine AW_skip ?_ | (apply AL_idx ttok; (iterate 6 exact rfl); (first | with_reducible assumption | decide +kernel | exact Int.natCast_nonneg _ | (guard_target = (0:Int) ≤ (OfNat.ofNat _ : Int); decide) | rotate_left); (first | with_reducible assumption | decide +kernel | exact rfl); (first | exact uniB_ok rfl | with_reducible assumption | decide +kernel | rotate_left)))
          all_goals (apply endQ []; (repeat (first | exact ResL.nil | (apply ResL.cons; first | exact .tmp _ _ rfl | (apply res_n ttok; (iterate 6 exact rfl)) | (apply res_1 ttok; (iterate 5 exact rfl))))); (iterate 4 exact rfl))
          all_goals rfl
        · rw [hi2] at w2
          cases hi3 : inB c3.toNat 128 191
          · obtain rfl : 0 = p := by rw [← hp]; simp [pt, hn, hin, hi2, hi3]
            rw [hi3] at w3
            repeat' (first | (apply AL_callPw (w1); kernel_rfl; (iterate 4 exact rfl)) | (apply AL_callPw (w2); kernel_rfl; (iterate 4 exact rfl)) | (apply AL_callPw (w3); kernel_rfl; (iterate 4 exact rfl)) | refine AW_loopN 70 ?_ | refine AN_succ ?_ | (apply AL_move; exact rfl; exact rfl) | (apply AL_assign; exact rfl; exact rfl) | (apply AL_bin; (iterate 5 exact rfl)) | (apply AL_not; exact rfl; exact rfl) | refine AL_nil ?_ | (apply AL_guardT; (iterate 3 exact rfl); (first | with_reducible assumption | decide +kernel)) | (apply AL_pickF; exact rfl; (first | with_reducible assumption | decide +kernel); exact rfl; exact rfl) | refine AW_region ?_ | refine AW_seq' ?_ | (apply AW_condA; exact rfl; (first | with_reducible assumption | decide +kernel)) | (apply AW_condB; exact rfl; (first | with_reducible assumption | decide +kernel)) | refine then_norm ?_ | refine AW_block ?_ | refine AW_ret ?_ | refine then_ret ?_ | refine blk_ret ?_ | (apply AL_len ttok; (iterate 4 exact rfl)) | (apply AL_eload1 ttok; (iterate 6 exact rfl)) | refine AW_skip ?_ | (apply AL_idx ttok; (iterate 6 exact rfl); (first | with_reducible assumption | decide +kernel | exact Int.natCast_nonneg _ | (guard_target = (0:Int) ≤ (OfNat.ofNat _ : Int); decide) | rotate_left); (first | with_reducible assumption | decide +kernel | exact rfl); (first | exact uniB_ok rfl | with_reducible assumption | decide +kernel | rotate_left)))
            all_goals (apply endQ []; (repeat (first | exact ResL.nil | (apply ResL.cons; first | exact .tmp _ _ rfl | (apply res_n ttok; (iterate 6 exact rfl)) | (apply res_1 ttok; (iterate 5 exact rfl))))); (iterate 4 exact rfl))
            all_goals rfl
          · obtain rfl : 4 = p := by rw [← hp]; simp [pt, hn, hin, hi2, hi3]
            rw [hi3] at w3
            repeat' (first | (apply AL_callPw (w1); kernel_rfl; (iterate 4 exact rfl)) | (apply AL_callPw (w2); kernel_rfl; (iterate 4 exact rfl)) | (apply AL_callPw (w3); kernel_rfl; (iterate 4 exact rfl)) | refine AW_loopN 70 ?_ | refine AN_succ ?_ | (apply AL_move; exact rfl; exact rfl) | (apply AL_assign; exact rfl; exact rfl) | (apply AL_bin; (iterate 5 exact rfl)) | (apply AL_not; exact rfl; exact rfl) | refine AL_nil ?_ | (apply AL_guardT; (iterate 3 exact rfl); (first | with_reducible assumption | decide +kernel)) | (apply AL_pickF; exact rfl; (first | with_reducible assumption | decide +kernel); exact rfl; exact rfl) | refine AW_region ?_ | refine AW_seq' ?_ | (apply AW_condA; exact rfl; (first | with_reducible assumption | decide +kernel)) | (apply AW_condB; exact rfl; (first | with_reducible assumption | decide +kernel)) | refine then_norm ?_ | refine AW_block ?_ | refine AW_exit ?_ | refine AW_ret ?_ | (apply AL_len ttok; (iterate 4 exact rfl)) | (apply AL_eload1 ttok; (iterate 6 exact rfl)) | refine AW_skip ?_ | (apply AL_idx ttok; (iterate 6 exact rfl); (first | with_reducible assumption | decide +kernel | exact Int.natCast_nonneg _ | (guard_target = (0:Int) ≤ (OfNat.ofNat _ : Int); decide) | rotate_left); (first | with_reducible assumption | decide +kernel | exact rfl); (first | exact uniB_ok rfl | with_reducible assumption | decide +kernel | rotate_left)))
            all_goals (apply endQ []; (repeat (first | exact ResL.nil | (apply ResL.cons; first | exact .tmp _ _ rfl | (apply res_n ttok; (iterate 6 exact rfl)) | (apply res_1 ttok; (iterate 5 exact rfl))))); (iterate 4 exact rfl))
            all_goals rfl
  · obtain rfl : 0 = p := by rw [← hp]; simp [pt, hn]
    repeat' (first | (apply AL_move; exact rfl; exact rfl) | (apply AL_assign; exact rfl; exact rfl) | (apply AL_bin; (iterate 5 exact rfl)) | refine AL_nil ?_ | (apply AL_guardFf; (iterate 3 exact rfl); (first | with_reducible assumption | decide +kernel)) | (apply AL_pickT; exact rfl; (first | with_reducible assumption | decide +kernel); exact rfl; exact rfl) | refine AW_region ?_ | refine AW_seq' ?_ | (apply AW_condA; exact rfl; (first | with_reducible assumption | decide +kernel)) | refine then_norm ?_ | refine AW_ret ?_ | refine then_ret ?_)
    all_goals (apply endQ []; (repeat (first | exact ResL.nil | (apply ResL.cons; first | exact .tmp _ _ rfl | (apply res_n ttok; (iterate 6 exact rfl)) | (apply res_1 ttok; (iterate 5 exact rfl))))); (iterate 4 exact rfl))
    all_goals rfl
theorem av_refValid [Known] (b : List UInt8) (hb : b.length ≤ 1099511627776) : AP Tryd.prog 102 [byE b] (.bool (validU b)) [] := by
  generalize hV : validU b = V
  refine AP.ofA ?_
  refine AC_of Tryd.func102 rfl Tryd.ntmps102 rfl rfl ?_
  repeat' (first | (apply AL_assign; exact rfl; exact rfl) | refine AL_nil ?_ | refine AW_region ?_ | refine AW_seq' ?_ | refine AW_block ?_)
  refine AW_loopJ (fun k tm bx fr => ∃ l : List UInt8, k = l.length ∧ l.length ≤ b.length ∧ validU l = V ∧ tm = [(0, byE l), (2, .bool false)] ∧ bx = [] ∧ fr = []) (b.length + 1) (Lands.mk' (m := b.length) (Nat.lt_succ_self _) ⟨b, rfl, Nat.le_refl _, hV, rfl, rfl, rfl⟩ ?_ rfl rfl rfl rfl rfl rfl) ?_
  · exact .cons rfl (.cons rfl .nil)
  rintro k tm bx fr ⟨l, rfl, hl, hV, rfl, rfl, rfl⟩
  rcases l with _ | ⟨c, r⟩
  · have hV : true = V := hV
    subst hV
    repeat' (first | (apply AL_move; exact rfl; exact rfl) | (apply AL_assign; exact rfl; exact rfl) | (apply AL_bin; (iterate 5 exact rfl)) | refine AL_nil ?_ | refine AW_region ?_ | refine AW_seq' ?_ | (apply AW_condB; exact rfl; (first | with_reducible assumption | decide +kernel)) | refine then_norm ?_ | refine AW_exit ?_ | refine AW_ret ?_ | (apply AL_len ttok; (iterate 4 exact rfl)))
    all_goals (apply endQ []; (repeat (first | exact ResL.nil | (apply ResL.cons; first | exact .tmp _ _ rfl | (apply res_n ttok; (iterate 6 exact rfl)) | (apply res_1 ttok; (iterate 5 exact rfl))))); (iterate 4 exact rfl))
    all_goals rfl
  · have t1 : decide ((((c :: r).map E.byte).length : Int) > 0) = true := decide_eq_true (by rw [List.length_map, List.length_cons]; omega)
    have hP := av_point c r
    have hle := pt_le (c :: r)
    rw [validU_cons] at hV
    cases hp : pt (c :: r) with
    | zero =>
      rw [hp] at hP hV
      dsimp only at hV
      subst hV
      repeat' (first | (apply AL_callPw (hP); kernel_rfl; (iterate 4 exact rfl)) | (apply AL_move; exact rfl; exact rfl) | (apply AL_assign; exact rfl; exact rfl) | (apply AL_bin; (iterate 5 exact rfl)) | refine AL_nil ?_ | refine AW_region ?_ | refine AW_seq' ?_ | (apply AW_condA; exact rfl; (first | with_reducible assumption | decide +kernel)) | refine then_norm ?_ | refine AW_block ?_ | refine AW_ret ?_ | refine then_ret ?_ | refine blk_ret ?_ | (apply AL_len ttok; (iterate 4 exact rfl)) | refine AW_skip ?_)
      all_goals (apply endQ []; (repeat (first | exact ResL.nil | (apply ResL.cons; first | exact .tmp _ _ rfl | (apply res_n ttok; (iterate 6 exact rfl)) | (apply res_1 ttok; (iterate 5 exact rfl))))); (iterate 4 exact rfl))
      all_goals rfl
    | succ q =>
      rw [hp] at hP hV hle
      dsimp only at hV
      have t2 : (((q + 1 : Nat) : Int) == 0) = false := by simp; omega
      have hdr : (c :: r).drop (Int.toNat ((q + 1 : Nat) : Int)) = r.drop q := by rw [Int.toNat_natCast, List.drop_succ_cons]
      have hdl : (r.drop q).length = r.length - q := List.length_drop ..
      generalize r.drop q = r2 at hV hdr hdl
      repeat' (first | (apply AL_callPw (hP); kernel_rfl; (iterate 4 exact rfl)) | (apply AL_from ttok; (iterate 8 exact rfl); (first | with_reducible assumption | exact Int.natCast_nonneg _ | exact (by decide)); (first | with_reducible assumption | decide | (simp only [List.length_cons, List.length_drop, List.length_take, List.length_append, Int.toNat_natCast] at *; omega)); (first | with_reducible assumption | exact rfl)) | (apply AL_move; exact rfl; exact rfl) | (apply AL_assign; exact rfl; exact rfl) | (apply AL_bin; (iterate 5 exact rfl)) | refine AL_nil ?_ | refine AW_region ?_ | refine AW_seq' ?_ | (apply AW_condA; exact rfl; (first | with_reducible assumption | decide +kernel)) | (apply AW_condB; exact rfl; (first | with_reducible assumption | decide +kernel)) | refine then_norm ?_ | refine blk_norm ?_ | refine AW_block ?_ | (apply AL_len ttok; (iterate 4 exact rfl)) | refine AW_skip ?_)
      refine Lands.mk' (m := r2.length) (by rw [List.length_cons]; omega) ⟨r2, rfl, by simp at hl ⊢; omega, hV, rfl, rfl, rfl⟩ ?_ rfl rfl rfl rfl rfl rfl
      exact .cons rfl (.cons rfl .nil)
end Go.Proofs.YtnihobjehelagaaDoor
end
/- The document's powers of two, tails and heads' bytes; the bytes lie in a row of their own. -/
section
open Go.RowKit Go.Pl Go.Av
namespace Go.Proofs.YtnihobjehelagaaDoor
set_option linter.unusedVariables false
set_option linter.unusedSimpArgs false
set_option maxHeartbeats 1000000
/-- powers of two -/
theorem av_power [Known] (n : Nat) (hn : n ≤ 32) : AP Tryd.prog 103 [.int .i64 (n : Int)] (.int .u64 ((2 ^ n : Nat) : Int)) [] := by
  refine AC_of Tryd.func103 rfl Tryd.ntmps103 rfl rfl ?_
  repeat' (first | (apply AL_assign; exact rfl; exact rfl) | refine AL_nil ?_ | refine AW_region ?_ | refine AW_seq' ?_ | refine then_norm ?_ | refine AW_block ?_)
  refine AW_loopJ (fun k tm bx fr => ∃ i, k + i = n ∧ tm = [(0, .int .i64 (n : Int)), (3, .int .u64 ((2 ^ i : Nat) : Int)), (4, .int .i64 (i : Int))] ∧ bx = [] ∧ fr = []) (n + 1) (Lands.mk' (m := n) (Nat.lt_succ_self _) ⟨0, rfl, rfl, rfl, rfl⟩ ?_ rfl rfl rfl rfl rfl rfl) ?_
  · exact .cons rfl (.cons rfl (.cons rfl .nil))
  rintro k tm bx fr ⟨i, hk, rfl, rfl, rfl⟩
  rcases Nat.lt_or_ge i n with hlt | hge
  · have hd : decide ((i : Int) < (n : Int)) = true := by simp; omega
    have hp : 2 ^ (i + 1) ≤ 2 ^ 32 := Nat.pow_le_pow_right (by decide) (by omega)
    have hp' : 2 ^ (i + 1) = 2 * 2 ^ i := by rw [Nat.pow_succ]; omega
    have e1 : IntKind.u64.wrap (2 * ((2 ^ i : Nat) : Int)) = ((2 ^ (i + 1) : Nat) : Int) := by rw [IntKind.wrap_u64]; omega
    have e2 : IntKind.i64.wrap ((i : Int) + 1) = ((i + 1 : Nat) : Int) := by rw [IntWalk.i64_in _ (by omega)]; omega
    repeat' (first | rw [e1] | rw [e2] | (apply AL_move; exact rfl; exact rfl) | (apply AL_assign; exact rfl; exact rfl) | (apply AL_bin; (iterate 5 exact rfl)) | refine AL_nil ?_ | refine AW_region ?_ | refine AW_seq' ?_ | (apply AW_condA; exact rfl; (first | with_reducible assumption | (guard_target =ₛ true = true; rfl) | (guard_target =ₛ false = false; rfl) | (guard_target =ₛ (!true) = false; rfl) | (guard_target =ₛ (!false) = true; rfl))) | refine then_norm ?_ | refine AW_block ?_ | refine AW_skip ?_)
    refine Lands.mk' (m := k - 1) (by omega) ⟨i + 1, by omega, rfl, rfl, rfl⟩ ?_ rfl rfl rfl rfl rfl rfl
    exact .cons rfl (.cons rfl (.cons rfl .nil))
  · have hd : decide ((i : Int) < (n : Int)) = false := by simp; omega
    repeat' (first | (apply AL_move; exact rfl; exact rfl) | (apply AL_assign; exact rfl; exact rfl) | (apply AL_bin; (iterate 5 exact rfl)) | refine AL_nil ?_ | refine AW_region ?_ | refine AW_seq' ?_ | (apply AW_condB; exact rfl; (first | with_reducible assumption | (guard_target =ₛ true = true; rfl) | (guard_target =ₛ false = false; rfl) | (guard_target =ₛ (!true) = false; rfl) | (guard_target =ₛ (!false) = true; rfl))) | refine then_norm ?_ | refine AW_exit ?_ | refine AW_ret ?_)
    (apply end0 (ts := []); (repeat (first | exact ResL.nil | (apply ResL.cons; first | exact .tmp _ _ rfl | (apply res_n ttok; (iterate 6 exact rfl)) | (apply res_1 ttok; (iterate 5 exact rfl))))); exact okSel_nil _; exact rfl; rotate_left; exact rfl)
    obtain rfl : i = n := by omega
    rfl
theorem beN_succ' (n k : Nat) : beN n (k + 1) = UInt8.ofNat (n / 256 ^ k) :: beN n k := by
  unfold beN
  rw [List.range_succ_eq_map, List.map_cons, List.map_map]
  congr 1
  apply List.map_congr_left
  intro i hi
  have hi : i < k := by simpa using hi
  simp only [Function.comp]
  rw [show k + 1 - 1 - i.succ = k - 1 - i from by omega]
theorem av_tail [Known] (n f : Nat) (hn : n < 18446744073709551616) (hf : f ≤ 8) : AP Tryd.prog 104 [.int .u64 (n : Int), .int .i64 (f : Int)] (byE (beN n f)) [] := by
  refine AP.weak ?_
  refine AC_of Tryd.func104 rfl Tryd.ntmps104 rfl rfl ?_
  repeat' (first | (apply AL_assign; exact rfl; exact rfl) | refine AL_nil ?_ | refine AW_region ?_ | refine AW_seq' ?_ | refine then_norm ?_ | refine AW_block ?_)
  refine AW_loopJ (fun k tm bx fr => ∃ i, k + i = f ∧ tm = [(0, .int .u64 ((n / 256 ^ i : Nat) : Int)), (1, .int .i64 (f : Int)), (5, byE (beN n i)), (6, .int .i64 (i : Int))] ∧ bx = [] ∧ fr = []) (f + 1) (Lands.mk' (m := f) (Nat.lt_succ_self _) ⟨0, rfl, rfl, rfl, rfl⟩ ?_ rfl rfl rfl rfl rfl rfl) ?_
  · refine .cons ?_ (.cons rfl (.wk rfl (.cons rfl .nil)))
    rw [Nat.pow_zero, Nat.div_one]; rfl
  rintro k tm bx fr ⟨i, hk, rfl, rfl, rfl⟩
  have hle : n / 256 ^ i ≤ n := Nat.div_le_self _ _
  have hdd : n / 256 ^ (i + 1) = n / 256 ^ i / 256 := by rw [Nat.pow_succ, Nat.div_div_eq_div_mul]
  rcases Nat.lt_or_ge i f with hlt | hge
  · have hd : decide ((i : Int) < (f : Int)) = true := by simp; omega
    have e1 : E.int .u8 (IntKind.u8.wrap (((n / 256 ^ i : Nat) : Int).tmod 256)) = E.byte (UInt8.ofNat (n / 256 ^ i)) := by
      unfold E.byte
      rw [IntKind.wrap_u8', UInt8.toNat_ofNat', Int.tmod_eq_emod_of_nonneg (Int.natCast_nonneg _)]
      congr 1
      omega
    have e2 : IntKind.i64.wrap ((i : Int) + 1) = ((i + 1 : Nat) : Int) := by rw [IntWalk.i64_in _ (by omega)]; omega
    have e3 : IntKind.u64.wrap (((n / 256 ^ i : Nat) : Int).tdiv 256) = ((n / 256 ^ (i + 1) : Nat) : Int) := by
      rw [hdd]
      generalize n / 256 ^ i = q at hle
      rw [Int.tdiv_eq_ediv_of_nonneg (Int.natCast_nonneg _), IntKind.wrap_u64]; omega
    have hU := uniB1 (beN n i)
    have hne : i ≠ 0 → (beN n i).map E.byte ≠ [] := fun h0 e => by
      have := congrArg List.length e
      rw [List.length_map, beN_length] at this
      exact h0 this
    have hlb := beN_length n i
    rcases Nat.eq_zero_or_pos i with rfl | h0
    · repeat' (first | rw [e2] | rw [e3] | (apply AL_move; exact rfl; exact rfl) | (apply AL_assign; exact rfl; exact rfl) | (apply AL_bin; (iterate 5 exact rfl)) | (apply AL_convT ttok; (iterate 5 exact rfl)) | refine AL_nil ?_ | refine AW_region ?_ | refine AW_seq' ?_ | (apply AW_condA; exact rfl; (first | with_reducible assumption | (guard_target =ₛ true = true; rfl) | (guard_target =ₛ false = false; rfl) | (guard_target =ₛ (!true) = false; rfl) | (guard_target =ₛ (!false) = true; rfl))) | refine then_norm ?_ | refine AW_block ?_ | (apply AL_bs ttok; (iterate 12 exact rfl)) | refine AW_skip ?_ | (apply AL_append_none ttok; (iterate 6 exact rfl)) | (apply AL_quo; exact rfl; exact rfl; (first | (exact (by decide)) | with_reducible assumption | rotate_left); exact rfl) | (apply AL_rem; exact rfl; exact rfl; (first | (exact (by decide)) | with_reducible assumption | rotate_left); exact rfl))
      refine Lands.mk' (m := k - 1) (by omega) ⟨1, by omega, rfl, rfl, rfl⟩ ?_ rfl rfl rfl rfl rfl rfl
      refine .cons rfl (.cons rfl (.wk ?_ (.cons rfl .nil)))
      rw [beN_succ']
      exact congrArg (fun x => D.sl .ext [x]) e1
    · have hne := hne (by omega)
      repeat' (first | rw [e2] | rw [e3] | (apply AL_move; exact rfl; exact rfl) | (apply AL_assign; exact rfl; exact rfl) | (apply AL_bin; (iterate 5 exact rfl)) | (apply AL_convT ttok; (iterate 5 exact rfl)) | refine AL_nil ?_ | refine AW_region ?_ | refine AW_seq' ?_ | (apply AW_condA; exact rfl; (first | with_reducible assumption | (guard_target =ₛ true = true; rfl) | (guard_target =ₛ false = false; rfl) | (guard_target =ₛ (!true) = false; rfl) | (guard_target =ₛ (!false) = true; rfl))) | refine then_norm ?_ | refine AW_block ?_ | (apply AL_bs ttok; (iterate 12 exact rfl)) | refine AW_skip ?_ | (apply AL_append ttok; (iterate 6 exact rfl); (first | with_reducible assumption | exact rfl | rotate_left); exact rfl; exact rfl; (first | exact uniB_ok rfl | with_reducible assumption | rotate_left); (first | exact uniB_ok rfl | with_reducible assumption | rotate_left); (first | exact List.cons_ne_nil _ _ | with_reducible assumption | rotate_left); (first | with_reducible assumption | rotate_left); (first | with_reducible assumption | rotate_left); exact rfl; exact rfl) | (apply AL_quo; exact rfl; exact rfl; (first | (exact (by decide)) | with_reducible assumption | rotate_left); exact rfl) | (apply AL_rem; exact rfl; exact rfl; (first | (exact (by decide)) | with_reducible assumption | rotate_left); exact rfl))
      · refine Lands.mk' (m := k - 1) (by omega) ⟨i + 1, by omega, rfl, rfl, rfl⟩ ?_ rfl rfl rfl rfl rfl rfl
        refine .cons rfl (.cons rfl (.wk ?_ (.cons rfl .nil)))
        rw [beN_succ']
        exact congrArg (fun x => D.sl .ext (x :: (beN n i).map E.byte)) e1
      · show 1 + ((beN n i).map E.byte).length ≤ maxLen
        rw [List.length_map, hlb]; unfold maxLen; omega
      · show (1 + ((beN n i).map E.byte).length) * 1 ≤ 140737488355328
        rw [List.length_map, hlb]; omega
  · have hd : decide ((i : Int) < (f : Int)) = false := by simp; omega
    repeat' (first | (apply AL_move; exact rfl; exact rfl) | (apply AL_assign; exact rfl; exact rfl) | (apply AL_bin; (iterate 5 exact rfl)) | refine AL_nil ?_ | refine AW_region ?_ | refine AW_seq' ?_ | (apply AW_condB; exact rfl; (first | with_reducible assumption | (guard_target =ₛ true = true; rfl) | (guard_target =ₛ false = false; rfl) | (guard_target =ₛ (!true) = false; rfl) | (guard_target =ₛ (!false) = true; rfl))) | refine then_norm ?_ | refine AW_exit ?_ | refine AW_ret ?_)
    (apply endW; (repeat (first | exact ResL.nil | (apply ResL.cons; first | exact .tmp _ _ rfl | (apply res_n ttok; (iterate 6 exact rfl)) | (apply res_1 ttok; (iterate 5 exact rfl))))); exact rfl)
    obtain rfl : i = f := by omega
    rfl
theorem ref_first (m : Int) (i : Nat) (hm : 0 ≤ m ∧ m ≤ 7) (hi : i < 32) : IntKind.u8.wrap (IntKind.u8.wrap (IntKind.i64.wrap (32 * m)) + (i : Int)) = ((firstB m.toNat i).toNat : Int) := by
  unfold firstB
  rw [IntWalk.i64_in _ (by omega), IntKind.wrap_u8', IntKind.wrap_u8', UInt8.toNat_ofNat']
  omega
theorem follow_sz (n : Nat) (h : ¬ n < 24) : (n < 256 → followN n = 1 ∧ infoN n = 24) ∧ (256 ≤ n → n < 65536 → followN n = 2 ∧ infoN n = 25) ∧ (65536 ≤ n → n < 4294967296 → followN n = 4 ∧ infoN n = 26) ∧ (4294967296 ≤ n → followN n = 8 ∧ infoN n = 27) := by
  unfold followN infoN
  refine ⟨fun h1 => ?_, fun h1 h2 => ?_, fun h1 h2 => ?_, fun h1 => ?_⟩
  · simp [h, h1]
  · simp [h, h2, show ¬ n < 256 by omega]
  · simp [h, h2, show ¬ n < 256 by omega, show ¬ n < 65536 by omega]
  · simp [h, show ¬ n < 256 by omega, show ¬ n < 65536 by omega, show ¬ n < 4294967296 by omega]
theorem av_refWriteT [Known] (h : Hd) (hr : rightB h = true) (hn : h.2.1 < 18446744073709551616) : AT Tryd.prog 62 [hd h] [] [] (.sl (.own 0) ((writeL h).map E.byte)) [] [⟨(writeL h).length, 1, 5⟩] := by
  have hm := right_m hr
  have HN := hid hn
  clear hn
  refine AC_of Tryd.func62 rfl Tryd.ntmps62 rfl rfl ?_
  repeat' (first | (apply AL_move; exact rfl; exact rfl) | (apply AL_assign; exact rfl; exact rfl) | (apply AL_bin; (iterate 5 exact rfl)) | (apply AL_load1 ttok; (iterate 6 exact rfl)) | (apply AL_fieldAddr ttok; (iterate 7 exact rfl)) | (apply AL_boxZ; (iterate 5 exact rfl)) | (apply AL_convT ttok; (iterate 5 exact rfl)) | refine AL_nil ?_ | refine AW_region ?_ | refine AW_seq' ?_ | (apply AW_cond'; exact rfl; all_goals intro hb) | refine then_norm ?_ | refine AW_block ?_ | refine AW_ret ?_ | refine then_ret ?_ | (apply AL_bsZ ttok; (iterate 12 exact rfl)) | refine AW_skip ?_)
  · (apply endT [] [0]; (repeat (first | exact ResL.nil | (apply ResL.cons; first | exact .tmp _ _ rfl | (apply res_n ttok; (iterate 6 exact rfl)) | (apply res_1 ttok; (iterate 5 exact rfl))))); (iterate 7 exact rfl))
    · have hb' : h.2.2 = true := hb
      rw [show writeL h = [firstB h.1.toNat 31] by simp [writeL, hb']]
      exact congrArg (fun x : Int => D.sl (.own 0) [E.int .u8 x]) (ref_first h.1 31 hm (by decide))
    · rfl
    · (have hb' : h.2.2 = true := hb); rw [show writeL h = [firstB h.1.toNat 31] by simp [writeL, hb']]; rfl
  · (apply endT [] [0]; (repeat (first | exact ResL.nil | (apply ResL.cons; first | exact .tmp _ _ rfl | (apply res_n ttok; (iterate 6 exact rfl)) | (apply res_1 ttok; (iterate 5 exact rfl))))); (iterate 7 exact rfl))
    · have hb' : h.2.2 = false := ‹_›
      have h24 := of_decide_eq_true hb
      have h24' : h.2.1 < 24 := by omega
      rw [show writeL h = [firstB h.1.toNat h.2.1] by simp [writeL, hb', infoN, followN, h24', beN]]
      have e1 : IntKind.u8.wrap ((h.2.1 : Nat) : Int) = ((h.2.1 : Nat) : Int) := by rw [IntKind.wrap_u8']; omega
      have e := congrArg (fun x : Int => D.sl (.own 0) [E.int .u8 x]) (ref_first h.1 h.2.1 hm (by omega))
      rw [← e1] at e
      exact e
    · rfl
    · (have hb' : h.2.2 = false := ‹_›); (have h24 := of_decide_eq_true hb); (have h24' : h.2.1 < 24 := by omega); rw [show writeL h = [firstB h.1.toNat h.2.1] by simp [writeL, hb', infoN, followN, h24', beN]]; rfl
  have hb' : h.2.2 = false := ‹_›
  have h24 : ¬ h.2.1 < 24 := by have := of_decide_eq_false hb; omega
  have hw : writeL h = firstB h.1.toNat (infoN h.2.1) :: beN h.2.1 (followN h.2.1) := by simp [writeL, hb']
  have hfs := follow_sz h.2.1 h24
  refine AW_loopJ (fun k tm bx fr => ∃ sz inf : Int, ((k = 3 ∧ sz = 1 ∧ inf = 24) ∨ (k = 2 ∧ sz = 2 ∧ inf = 25 ∧ 256 ≤ h.2.1) ∨ (k = 1 ∧ sz = 4 ∧ inf = 26 ∧ 65536 ≤ h.2.1) ∨ (k = 0 ∧ sz = 8 ∧ inf = 27 ∧ 4294967296 ≤ h.2.1)) ∧ tm = [(1, .ptr 0 0), (3, .int .u8 (IntKind.u8.wrap (IntKind.i64.wrap (32 * h.1)))), (4, .int .i64 sz), (5, .int .u8 inf)] ∧ bx = [[.int .i64 h.1, .int .u64 (h.2.1 : Int), .bool h.2.2]] ∧ fr = []) 4 (Lands.mk' (m := 3) (by decide) ⟨1, 24, .inl ⟨rfl, rfl, rfl⟩, rfl, rfl, rfl⟩ ?_ rfl rfl rfl rfl rfl rfl) ?_
  · exact .cons rfl (.cons rfl (.cons rfl (.cons rfl .nil)))
  rintro k tm bx fr ⟨sz, inf, hc, rfl, rfl, rfl⟩
  rcases hc with ⟨rfl, rfl, rfl⟩ | ⟨rfl, rfl, rfl, hge⟩ | ⟨rfl, rfl, rfl, hge⟩ | ⟨rfl, rfl, rfl, hge⟩
  · have hd : decide ((1 : Int) < 8) = true := by decide
    rcases Nat.lt_or_ge h.2.1 256 with hlt | hge2
    · have hq : decide ((h.2.1 : Int) ≥ ((2 ^ 8 : Nat) : Int)) = false := by
        rw [show ((2 ^ 8 : Nat) : Int) = 256 from rfl]; simp; omega
      have hf := hfs.1 hlt
      have hU := uniB1 (beN h.2.1 1)
      repeat' (first | (apply AL_callPw (av_power 8 (by decide)); kernel_rfl; (iterate 4 exact rfl)) | (apply AL_callPw (av_tail h.2.1 1 HN.out (by decide)); kernel_rfl; (iterate 4 exact rfl)) | (apply AL_appendZ ttok; (iterate 11 exact rfl); exact uniB_ok rfl; exact uniB_ok rfl; exact List.cons_ne_nil _ _; decide +kernel; decide +kernel; exact rfl; exact rfl) | (apply AL_move; exact rfl; exact rfl) | (apply AL_assign; exact rfl; exact rfl) | (apply AL_bin; (iterate 5 exact rfl)) | (apply AL_load1 ttok; (iterate 6 exact rfl)) | (apply AL_fieldAddr ttok; (iterate 7 exact rfl)) | refine AL_nil ?_ | (apply AL_guardT; (iterate 3 exact rfl); (first | with_reducible assumption | decide +kernel)) | (apply AL_pickT; exact rfl; (first | with_reducible assumption | decide +kernel); exact rfl; exact rfl) | refine AW_region ?_ | refine AW_seq' ?_ | (apply AW_condB; exact rfl; (first | with_reducible assumption | decide +kernel)) | refine then_norm ?_ | refine AW_exit ?_ | refine AW_ret ?_ | (apply AL_bsZ ttok; (iterate 12 exact rfl)) | (apply AW_drawE 8 hmix; (decide +kernel); (kernel_rfl); (kernel_rfl); (kernel_rfl); exact rfl; exact rfl) | (apply AE_consZ; (iterate 4 exact rfl)) | exact AE.nil _ _ _ _ | (apply AEk_puT; exact rfl) | (apply AOt_mk; exact rfl; exact rfl; (decide +kernel); exact rfl) | (apply AO_puT; exact rfl) | exact AO.nil _ _ _ | (apply AOs_skip; (decide +kernel)) | exact AOs.nil | exact qY_ok rfl rfl)
      · (apply endT [] [0]; (repeat (first | exact ResL.nil | (apply ResL.cons; first | exact .tmp _ _ rfl | (apply res_n ttok; (iterate 6 exact rfl)) | (apply res_1 ttok; (iterate 5 exact rfl))))); (iterate 7 exact rfl))
        · have e := congrArg (fun x : Int => D.sl (.own 0) (E.int .u8 x :: (beN h.2.1 1).map E.byte)) (ref_first h.1 24 hm (by decide))
          rw [hw, hf.1, hf.2]
          exact e
        · rfl
        · simp only [hw, hf.1, List.length_cons, List.length_nil, List.length_map, beN_length]; rfl
    · have hq : decide ((h.2.1 : Int) ≥ ((2 ^ 8 : Nat) : Int)) = true := by
        rw [show ((2 ^ 8 : Nat) : Int) = 256 from rfl]; simp; omega
      repeat' (first | (apply AL_callPw (av_power 8 (by decide)); kernel_rfl; (iterate 4 exact rfl)) | (apply AL_move; exact rfl; exact rfl) | (apply AL_assign; exact rfl; exact rfl) | (apply AL_bin; (iterate 5 exact rfl)) | (apply AL_load1 ttok; (iterate 6 exact rfl)) | (apply AL_fieldAddr ttok; (iterate 7 exact rfl)) | refine AL_nil ?_ | (apply AL_guardT; (iterate 3 exact rfl); (first | with_reducible assumption | decide +kernel)) | (apply AL_pickT; exact rfl; (first | with_reducible assumption | decide +kernel); exact rfl; exact rfl) | refine AW_region ?_ | refine AW_seq' ?_ | (apply AW_condA; exact rfl; (first | with_reducible assumption | decide +kernel)) | refine then_norm ?_ | refine blk_norm ?_ | refine AW_block ?_ | (apply AW_drawE 8 hmix; (decide +kernel); (kernel_rfl); (kernel_rfl); (kernel_rfl); exact rfl; exact rfl) | (apply AE_consZ; (iterate 4 exact rfl)) | exact AE.nil _ _ _ _ | (apply AEk_puT; exact rfl) | (apply AOt_mk; exact rfl; exact rfl; (decide +kernel); exact rfl) | (apply AO_puT; exact rfl) | exact AO.nil _ _ _ | (apply AOs_skip; (decide +kernel)) | exact AOs.nil | exact qY_ok rfl rfl | refine AW_skip ?_)
      refine Lands.mk' (m := 2) (by decide) ⟨2, 25, .inr (.inl ⟨rfl, rfl, rfl, hge2⟩), rfl, rfl, rfl⟩ ?_ rfl rfl rfl rfl rfl rfl
      exact .cons rfl (.cons rfl (.cons rfl (.cons rfl .nil)))
  · have hd : decide ((2 : Int) < 8) = true := by decide
    rcases Nat.lt_or_ge h.2.1 65536 with hlt | hge2
    · have hq : decide ((h.2.1 : Int) ≥ ((2 ^ 16 : Nat) : Int)) = false := by
        rw [show ((2 ^ 16 : Nat) : Int) = 65536 from rfl]; simp; omega
      have hf := hfs.2.1 hge hlt
      have hU := uniB1 (beN h.2.1 2)
      repeat' (first | (apply AL_callPw (av_power 16 (by decide)); kernel_rfl; (iterate 4 exact rfl)) | (apply AL_callPw (av_tail h.2.1 2 HN.out (by decide)); kernel_rfl; (iterate 4 exact rfl)) | (apply AL_appendZ ttok; (iterate 11 exact rfl); exact uniB_ok rfl; exact uniB_ok rfl; exact List.cons_ne_nil _ _; decide +kernel; decide +kernel; exact rfl; exact rfl) | (apply AL_move; exact rfl; exact rfl) | (apply AL_assign; exact rfl; exact rfl) | (apply AL_bin; (iterate 5 exact rfl)) | (apply AL_load1 ttok; (iterate 6 exact rfl)) | (apply AL_fieldAddr ttok; (iterate 7 exact rfl)) | refine AL_nil ?_ | (apply AL_guardT; (iterate 3 exact rfl); (first | with_reducible assumption | decide +kernel)) | (apply AL_pickT; exact rfl; (first | with_reducible assumption | decide +kernel); exact rfl; exact rfl) | refine AW_region ?_ | refine AW_seq' ?_ | (apply AW_condB; exact rfl; (first | with_reducible assumption | decide +kernel)) | refine then_norm ?_ | refine AW_exit ?_ | refine AW_ret ?_ | (apply AL_bsZ ttok; (iterate 12 exact rfl)) | (apply AW_drawE 8 hmix; (decide +kernel); (kernel_rfl); (kernel_rfl); (kernel_rfl); exact rfl; exact rfl) | (apply AE_consZ; (iterate 4 exact rfl)) | exact AE.nil _ _ _ _ | (apply AEk_puT; exact rfl) | (apply AOt_mk; exact rfl; exact rfl; (decide +kernel); exact rfl) | (apply AO_puT; exact rfl) | exact AO.nil _ _ _ | (apply AOs_skip; (decide +kernel)) | exact AOs.nil | exact qY_ok rfl rfl)
      · (apply endT [] [0]; (repeat (first | exact ResL.nil | (apply ResL.cons; first | exact .tmp _ _ rfl | (apply res_n ttok; (iterate 6 exact rfl)) | (apply res_1 ttok; (iterate 5 exact rfl))))); (iterate 7 exact rfl))
        · have e := congrArg (fun x : Int => D.sl (.own 0) (E.int .u8 x :: (beN h.2.1 2).map E.byte)) (ref_first h.1 25 hm (by decide))
          rw [hw, hf.1, hf.2]
          exact e
        · rfl
        · simp only [hw, hf.1, List.length_cons, List.length_nil, List.length_map, beN_length]; rfl
    · have hq : decide ((h.2.1 : Int) ≥ ((2 ^ 16 : Nat) : Int)) = true := by
        rw [show ((2 ^ 16 : Nat) : Int) = 65536 from rfl]; simp; omega
      repeat' (first | (apply AL_callPw (av_power 16 (by decide)); kernel_rfl; (iterate 4 exact rfl)) | (apply AL_move; exact rfl; exact rfl) | (apply AL_assign; exact rfl; exact rfl) | (apply AL_bin; (iterate 5 exact rfl)) | (apply AL_load1 ttok; (iterate 6 exact rfl)) | (apply AL_fieldAddr ttok; (iterate 7 exact rfl)) | refine AL_nil ?_ | (apply AL_guardT; (iterate 3 exact rfl); (first | with_reducible assumption | decide +kernel)) | (apply AL_pickT; exact rfl; (first | with_reducible assumption | decide +kernel); exact rfl; exact rfl) | refine AW_region ?_ | refine AW_seq' ?_ | (apply AW_condA; exact rfl; (first | with_reducible assumption | decide +kernel)) | refine then_norm ?_ | refine blk_norm ?_ | refine AW_block ?_ | (apply AW_drawE 8 hmix; (decide +kernel); (kernel_rfl); (kernel_rfl); (kernel_rfl); exact rfl; exact rfl) | (apply AE_consZ; (iterate 4 exact rfl)) | exact AE.nil _ _ _ _ | (apply AEk_puT; exact rfl) | (apply AOt_mk; exact rfl; exact rfl; (decide +kernel); exact rfl) | (apply AO_puT; exact rfl) | exact AO.nil _ _ _ | (apply AOs_skip; (decide +kernel)) | exact AOs.nil | exact qY_ok rfl rfl | refine AW_skip ?_)
      refine Lands.mk' (m := 1) (by decide) ⟨4, 26, .inr (.inr (.inl ⟨rfl, rfl, rfl, hge2⟩)), rfl, rfl, rfl⟩ ?_ rfl rfl rfl rfl rfl rfl
      exact .cons rfl (.cons rfl (.cons rfl (.cons rfl .nil)))
  · have hd : decide ((4 : Int) < 8) = true := by decide
    rcases Nat.lt_or_ge h.2.1 4294967296 with hlt | hge2
    · have hq : decide ((h.2.1 : Int) ≥ ((2 ^ 32 : Nat) : Int)) = false := by
        rw [show ((2 ^ 32 : Nat) : Int) = 4294967296 from rfl]; simp; omega
      have hf := hfs.2.2.1 hge hlt
      have hU := uniB1 (beN h.2.1 4)
      repeat' (first | (apply AL_callPw (av_power 32 (by decide)); kernel_rfl; (iterate 4 exact rfl)) | (apply AL_callPw (av_tail h.2.1 4 HN.out (by decide)); kernel_rfl; (iterate 4 exact rfl)) | (apply AL_appendZ ttok; (iterate 11 exact rfl); exact uniB_ok rfl; exact uniB_ok rfl; exact List.cons_ne_nil _ _; decide +kernel; decide +kernel; exact rfl; exact rfl) | (apply AL_move; exact rfl; exact rfl) | (apply AL_assign; exact rfl; exact rfl) | (apply AL_bin; (iterate 5 exact rfl)) | (apply AL_load1 ttok; (iterate 6 exact rfl)) | (apply AL_fieldAddr ttok; (iterate 7 exact rfl)) | refine AL_nil ?_ | (apply AL_guardT; (iterate 3 exact rfl); (first | with_reducible assumption | decide +kernel)) | (apply AL_pickT; exact rfl; (first | with_reducible assumption | decide +kernel); exact rfl; exact rfl) | refine AW_region ?_ | refine AW_seq' ?_ | (apply AW_condB; exact rfl; (first | with_reducible assumption | decide +kernel)) | refine then_norm ?_ | refine AW_exit ?_ | refine AW_ret ?_ | (apply AL_bsZ ttok; (iterate 12 exact rfl)) | (apply AW_drawE 8 hmix; (decide +kernel); (kernel_rfl); (kernel_rfl); (kernel_rfl); exact rfl; exact rfl) | (apply AE_consZ; (iterate 4 exact rfl)) | exact AE.nil _ _ _ _ | (apply AEk_puT; exact rfl) | (apply AOt_mk; exact rfl; exact rfl; (decide +kernel); exact rfl) | (apply AO_puT; exact rfl) | exact AO.nil _ _ _ | (apply AOs_skip; (decide +kernel)) | exact AOs.nil | exact qY_ok rfl rfl)
      · (apply endT [] [0]; (repeat (first | exact ResL.nil | (apply ResL.cons; first | exact .tmp _ _ rfl | (apply res_n ttok; (iterate 6 exact rfl)) | (apply res_1 ttok; (iterate 5 exact rfl))))); (iterate 7 exact rfl))
        · have e := congrArg (fun x : Int => D.sl (.own 0) (E.int .u8 x :: (beN h.2.1 4).map E.byte)) (ref_first h.1 26 hm (by decide))
          rw [hw, hf.1, hf.2]
          exact e
        · rfl
        · simp only [hw, hf.1, List.length_cons, List.length_nil, List.length_map, beN_length]; rfl
    · have hq : decide ((h.2.1 : Int) ≥ ((2 ^ 32 : Nat) : Int)) = true := by
        rw [show ((2 ^ 32 : Nat) : Int) = 4294967296 from rfl]; simp; omega
      repeat' (first | (apply AL_callPw (av_power 32 (by decide)); kernel_rfl; (iterate 4 exact rfl)) | (apply AL_move; exact rfl; exact rfl) | (apply AL_assign; exact rfl; exact rfl) | (apply AL_bin; (iterate 5 exact rfl)) | (apply AL_load1 ttok; (iterate 6 exact rfl)) | (apply AL_fieldAddr ttok; (iterate 7 exact rfl)) | refine AL_nil ?_ | (apply AL_guardT; (iterate 3 exact rfl); (first | with_reducible assumption | decide +kernel)) | (apply AL_pickT; exact rfl; (first | with_reducible assumption | decide +kernel); exact rfl; exact rfl) | refine AW_region ?_ | refine AW_seq' ?_ | (apply AW_condA; exact rfl; (first | with_reducible assumption | decide +kernel)) | refine then_norm ?_ | refine blk_norm ?_ | refine AW_block ?_ | (apply AW_drawE 8 hmix; (decide +kernel); (kernel_rfl); (kernel_rfl); (kernel_rfl); exact rfl; exact rfl) | (apply AE_consZ; (iterate 4 exact rfl)) | exact AE.nil _ _ _ _ | (apply AEk_puT; exact rfl) | (apply AOt_mk; exact rfl; exact rfl; (decide +kernel); exact rfl) | (apply AO_puT; exact rfl) | exact AO.nil _ _ _ | (apply AOs_skip; (decide +kernel)) | exact AOs.nil | exact qY_ok rfl rfl | refine AW_skip ?_)
      refine Lands.mk' (m := 0) (by decide) ⟨8, 27, .inr (.inr (.inr ⟨rfl, rfl, rfl, hge2⟩)), rfl, rfl, rfl⟩ ?_ rfl rfl rfl rfl rfl rfl
      exact .cons rfl (.cons rfl (.cons rfl (.cons rfl .nil)))
  · have hd : decide ((8 : Int) < 8) = false := by decide
    have hf := hfs.2.2.2 hge
    have hU := uniB1 (beN h.2.1 8)
    repeat' (first | (apply AL_callPw (av_tail h.2.1 8 HN.out (by decide)); kernel_rfl; (iterate 4 exact rfl)) | (apply AL_appendZ ttok; (iterate 11 exact rfl); exact uniB_ok rfl; exact uniB_ok rfl; exact List.cons_ne_nil _ _; decide +kernel; decide +kernel; exact rfl; exact rfl) | (apply AL_move; exact rfl; exact rfl) | (apply AL_assign; exact rfl; exact rfl) | (apply AL_bin; (iterate 5 exact rfl)) | (apply AL_load1 ttok; (iterate 6 exact rfl)) | (apply AL_fieldAddr ttok; (iterate 7 exact rfl)) | refine AL_nil ?_ | (apply AL_guardFt; (iterate 3 exact rfl); (first | with_reducible assumption | decide +kernel)) | (apply AL_pickF; exact rfl; (first | with_reducible assumption | decide +kernel); exact rfl; exact rfl) | refine AW_region ?_ | refine AW_seq' ?_ | (apply AW_condB; exact rfl; (first | with_reducible assumption | decide +kernel)) | refine then_norm ?_ | refine AW_exit ?_ | refine AW_ret ?_ | (apply AL_bsZ ttok; (iterate 12 exact rfl)) | (apply AW_drawE 8 hmix; (decide +kernel); (kernel_rfl); (kernel_rfl); (kernel_rfl); exact rfl; exact rfl) | (apply AE_consZ; (iterate 4 exact rfl)) | exact AE.nil _ _ _ _ | (apply AEk_puT; exact rfl) | (apply AOt_mk; exact rfl; exact rfl; (decide +kernel); exact rfl) | (apply AO_puT; exact rfl) | exact AO.nil _ _ _ | (apply AOs_skip; (decide +kernel)) | exact AOs.nil | exact qY_ok rfl rfl)
    · (apply endT [] [0]; (repeat (first | exact ResL.nil | (apply ResL.cons; first | exact .tmp _ _ rfl | (apply res_n ttok; (iterate 6 exact rfl)) | (apply res_1 ttok; (iterate 5 exact rfl))))); (iterate 7 exact rfl))
      · have e := congrArg (fun x : Int => D.sl (.own 0) (E.int .u8 x :: (beN h.2.1 8).map E.byte)) (ref_first h.1 27 hm (by decide))
        rw [hw, hf.1, hf.2]
        exact e
      · rfl
      · simp only [hw, hf.1, List.length_cons, List.length_nil, List.length_map, beN_length]; rfl
end Go.Proofs.YtnihobjehelagaaDoor
end
/- The document's items: how many, how deep, which may be, their bytes. -/
section
open Go.RowKit Go.Pl Go.Av
namespace Go.Proofs.YtnihobjehelagaaDoor
set_option linter.unusedVariables false
set_option linter.unusedSimpArgs false
set_option maxHeartbeats 4000000
mutual
/-- how many items there are, as far as a limit -/
def sizeR : It → Nat → Nat
  | .mk k n b l, m => sizeRs l m 1
def sizeRs : List It → Nat → Nat → Nat
  | [], _, n => n
  | x :: l, m, n => if n ≤ m then sizeRs l m (n + sizeR x m) else n
end
theorem sizeRs_ge : ∀ (l : List It) (m n : Nat), n ≤ sizeRs l m n
  | [], m, n => by rw [sizeRs]; omega
  | x :: l, m, n => by
    rw [sizeRs]
    split
    · have := sizeRs_ge l m (n + sizeR x m); omega
    · omega
mutual
theorem sizeR_le : ∀ (x : It) (m : Nat), sizeR x m ≤ sizeI x
  | .mk k n b l, m => by
    rw [sizeR, sizeI]
    have := sizeRs_le l m 1
    omega
theorem sizeRs_le : ∀ (l : List It) (m n : Nat), sizeRs l m n ≤ n + sizes l
  | [], m, n => by rw [sizeRs]; omega
  | x :: l, m, n => by
    rw [sizeRs, sizes]
    split
    · have h1 := sizeR_le x m
      have h2 := sizeRs_le l m (n + sizeR x m)
      omega
    · omega
end
mutual
theorem sizeR_eq : ∀ (x : It) (m : Nat), sizeR x m ≤ m → sizeI x = sizeR x m
  | .mk k n b l, m, h => by
    rw [sizeR] at h ⊢
    rw [sizeI]
    exact sizeRs_eq l m 1 h
theorem sizeRs_eq : ∀ (l : List It) (m n : Nat), sizeRs l m n ≤ m → n + sizes l = sizeRs l m n
  | [], m, n, h => by rw [sizeRs, sizes]; omega
  | x :: l, m, n, h => by
    rw [sizeRs] at h ⊢
    rw [sizes]
    split at h
    · rename_i hn
      rw [if_pos hn]
      have h1 := sizeRs_ge l m (n + sizeR x m)
      have h2 := sizeR_eq x m (by omega)
      have h3 := sizeRs_eq l m (n + sizeR x m) h
      omega
    · omega
end
mutual
/-- how deep an item is, as far as a limit -/
def depR : It → Nat → Nat
  | .mk k n b l, m => depRs l m 1
def depRs : List It → Nat → Nat → Nat
  | [], _, n => n
  | x :: l, 0, n => n
  | x :: l, m + 1, n => depRs l (m + 1) (if n < 1 + depR x m then 1 + depR x m else n)
end
theorem depRs_ge : ∀ (l : List It) (m n : Nat), n ≤ depRs l m n
  | [], m, n => by rw [depRs]; omega
  | x :: l, 0, n => by rw [depRs]; omega
  | x :: l, m + 1, n => by
    rw [depRs]
    have := depRs_ge l (m + 1) (if n < 1 + depR x m then 1 + depR x m else n)
    split at this <;> (try split) <;> omega
mutual
theorem depR_le : ∀ (x : It) (m : Nat), depR x m ≤ m + 1
  | .mk k n b l, m => by
    rw [depR]
    exact depRs_le l m 1 (by omega)
theorem depRs_le : ∀ (l : List It) (m n : Nat), n ≤ m + 1 → depRs l m n ≤ m + 1
  | [], m, n, h => by rw [depRs]; omega
  | x :: l, 0, n, h => by rw [depRs]; omega
  | x :: l, m + 1, n, h => by
    rw [depRs]
    have := depR_le x m
    exact depRs_le l (m + 1) _ (by split <;> omega)
end
mutual
theorem depR_iff : ∀ (x : It) (m d : Nat), d ≤ m → (depR x m ≤ d ↔ deepI x d = true)
  | .mk k n b l, m, 0, h => by
    have := depRs_ge l m 1
    rw [depR, deepI]
    simp; omega
  | .mk k n b l, m, d + 1, h => by
    rw [depR, deepI, depRs_iff l m 1 d (by omega)]
    simp
theorem depRs_iff : ∀ (l : List It) (m n d : Nat), d + 1 ≤ m → (depRs l m n ≤ d + 1 ↔ n ≤ d + 1 ∧ deeps l d = true)
  | [], m, n, d, h => by rw [depRs, deeps]; simp
  | x :: l, 0, n, d, h => by omega
  | x :: l, m + 1, n, d, h => by
    rw [depRs, deeps, Bool.and_eq_true, depRs_iff l (m + 1) _ d (by omega), ← depR_iff x m d (by omega)]
    split
    · exact ⟨fun ⟨h1, h2⟩ => ⟨by omega, by omega, h2⟩, fun ⟨h1, h2, h3⟩ => ⟨by omega, h3⟩⟩
    · exact ⟨fun ⟨h1, h2⟩ => ⟨by omega, by omega, h2⟩, fun ⟨h1, h2, h3⟩ => ⟨by omega, h3⟩⟩
end
theorem rightR_eq (x : It) : (decide (depR x 7 ≤ 6) && (decide (sizeR x 257 ≤ 256) && fineI x)) = rightI x := by
  rw [right_iff]
  have h1 := depR_iff x 7 6 (by omega)
  have h2 := sizeR_le x 257
  have h3 : sizeR x 257 ≤ 256 → sizeI x = sizeR x 257 := fun h => sizeR_eq x 257 (by omega)
  have e1 : decide (depR x 7 ≤ 6) = deepI x 6 := by
    cases hd : deepI x 6 with
    | true => exact decide_eq_true (h1.2 hd)
    | false => exact decide_eq_false fun h => by rw [h1.1 h] at hd; cases hd
  have e2 : decide (sizeR x 257 ≤ 256) = decide (sizeI x ≤ 256) := by
    rw [decide_eq_decide]
    exact ⟨fun h => by have := h3 h; omega, fun h => by omega⟩
  rw [e1, e2]
theorem sizes_mem : ∀ {l : List It}, ∀ y ∈ l, sizeI y ≤ sizes l
  | x :: l, y, hy => by
    rw [sizes]
    rcases List.mem_cons.1 hy with rfl | hy
    · omega
    · have := sizes_mem y hy; omega
theorem sizes_drop_le : ∀ (l : List It) (i : Nat), sizes (l.drop i) ≤ sizes l
  | l, 0 => by rw [List.drop_zero]; omega
  | [], i + 1 => by rw [List.drop_nil]; omega
  | x :: l, i + 1 => by
    rw [List.drop_succ_cons, sizes]
    have := sizes_drop_le l i; omega
theorem av_size [Known] (m : Nat) (hm : m ≤ 1000) : ∀ (x : It), sizeI x ≤ 1000 → AP Tryd.prog 59 [itD x, .int .i64 (m : Int)] (.int .i64 (sizeR x m : Int)) [] := by
  refine It.ind fun k n b l ih hs => ?_
  rw [sizeI] at hs
  have hlen := itEs_len l
  have hll : l.length ≤ sizes l := by
    clear ih hs hlen
    induction l with
    | nil => rw [sizes]; exact Nat.le_refl _
    | cons x l ih =>
      obtain ⟨k', n', b', l'⟩ := x
      rw [sizes, sizeI, List.length_cons]; omega
  show AP Tryd.prog _ [.agg (itC k n b l), _] _ _
  rw [sizeR]
  generalize hfin : sizeRs l m 1 = fin
  refine AP.ofA ?_
  refine AC_of Tryd.func59 rfl Tryd.ntmps59 rfl rfl ?_
  repeat' (first | (apply AL_assign; exact rfl; exact rfl) | (apply AL_box; (iterate 5 exact rfl)) | refine AL_nil ?_ | refine AW_region ?_ | refine AW_seq' ?_ | refine then_norm ?_ | refine AW_block ?_)
  refine AW_loopJ (fun f tm bx fr => ∃ (i c : Nat), f + i = l.length ∧ c + sizes (l.drop i) ≤ 1001 ∧ sizeRs (l.drop i) m c = fin ∧ tm = [(1, .int .i64 (m : Int)), (2, .ptr 0 0), (5, .int .i64 (c : Int)), (6, .int .i64 (i : Int))] ∧ bx = [itC k n b l] ∧ fr = []) (l.length + 1) (Lands.mk' (m := l.length) (Nat.lt_succ_self _) ⟨0, 1, rfl, by rw [List.drop_zero]; omega, hfin, rfl, rfl, rfl⟩ ?_ rfl rfl rfl rfl rfl rfl) ?_
  · exact .cons rfl (.cons rfl (.cons rfl (.cons rfl .nil)))
  rintro f tm bx fr ⟨i, c, hf, hc, hfin, rfl, rfl, rfl⟩
  have hU := uniI l
  rcases Nat.lt_or_ge i l.length with hlt | hge
  · have hdl : decide ((i : Int) < ((itEs l).length : Int)) = true := decide_eq_true (by omega)
    obtain ⟨⟨k1, n1, b1, l1⟩, hy⟩ : ∃ y, l[i]? = some y := ⟨_, List.getElem?_eq_getElem hlt⟩
    have hv : (itEs l)[((i : Nat) : Int).toNat]? = some (.agg [.int .i64 k1, .int .u64 (n1 : Int), .sl (b1.map E.byte), .sl (itEs l1)]) := by
      rw [Int.toNat_natCast, itEs_map, List.getElem?_map, hy]; rfl
    have hdr : l.drop i = It.mk k1 n1 b1 l1 :: l.drop (i + 1) := by
      rw [List.drop_eq_getElem_cons hlt]; congr 1
      exact (List.getElem?_eq_some_iff.1 hy).2
    rw [hdr, sizes] at hc
    rw [hdr, sizeRs] at hfin
    by_cases hcm : c ≤ m
    · have hdm : decide ((c : Int) ≤ (m : Int)) = true := decide_eq_true (by omega)
      rw [if_pos hcm] at hfin
      have hmem := List.mem_of_getElem? hy
      have hz := sizes_mem _ hmem
      have hzl := sizeR_le (.mk k1 n1 b1 l1) m
      have hcy := ih _ hmem (by omega)
      have ei : IntKind.i64.wrap ((i : Int) + 1) = ((i + 1 : Nat) : Int) := by rw [IntWalk.i64_in _ (by omega)]; omega
      generalize hgr : sizeR (.mk k1 n1 b1 l1) m = r at hcy hfin hzl
      have ec : IntKind.i64.wrap ((c : Int) + (r : Int)) = ((c + r : Nat) : Int) := by rw [IntWalk.i64_in _ (by omega)]; omega
      repeat' (first | rw [ec] | rw [ei] | (apply AL_callPw (hcy); kernel_rfl; (iterate 4 exact rfl)) | (apply AL_move; exact rfl; exact rfl) | (apply AL_assign; exact rfl; exact rfl) | (apply AL_bin; (iterate 5 exact rfl)) | (apply AL_load1 ttok; (iterate 6 exact rfl)) | (apply AL_fieldAddr ttok; (iterate 7 exact rfl)) | refine AL_nil ?_ | (apply AL_guardT; (iterate 3 exact rfl); (first | with_reducible assumption | decide +kernel)) | (apply AL_pickT; exact rfl; (first | with_reducible assumption | decide +kernel); exact rfl; exact rfl) | refine AW_region ?_ | refine AW_seq' ?_ | (apply AW_condA; exact rfl; (first | with_reducible assumption | decide +kernel)) | refine then_norm ?_ | refine AW_block ?_ | (apply AL_len ttok; (iterate 4 exact rfl)) | (apply AL_eloadn ttok; (iterate 6 exact rfl)) | refine AW_skip ?_ | (apply AL_idx ttok; (iterate 6 exact rfl); (first | with_reducible assumption | decide +kernel | exact Int.natCast_nonneg _ | (guard_target = (0:Int) ≤ (OfNat.ofNat _ : Int); decide) | rotate_left); (first | with_reducible assumption | decide +kernel | exact rfl); (first | exact uniB_ok rfl | with_reducible assumption | decide +kernel | rotate_left)))
      refine Lands.mk' (m := f - 1) (by omega) ⟨i + 1, c + r, by omega, by omega, hfin, rfl, rfl, rfl⟩ ?_ rfl rfl rfl rfl rfl rfl
      exact .cons rfl (.cons rfl (.cons rfl (.cons rfl .nil)))
    · have hdm : decide ((c : Int) ≤ (m : Int)) = false := decide_eq_false (by omega)
      rw [if_neg hcm] at hfin
      subst hfin
      repeat' (first | (apply AL_move; exact rfl; exact rfl) | (apply AL_assign; exact rfl; exact rfl) | (apply AL_bin; (iterate 5 exact rfl)) | (apply AL_load1 ttok; (iterate 6 exact rfl)) | (apply AL_fieldAddr ttok; (iterate 7 exact rfl)) | refine AL_nil ?_ | (apply AL_guardT; (iterate 3 exact rfl); (first | with_reducible assumption | decide +kernel)) | (apply AL_pickT; exact rfl; (first | with_reducible assumption | decide +kernel); exact rfl; exact rfl) | refine AW_region ?_ | refine AW_seq' ?_ | (apply AW_condB; exact rfl; (first | with_reducible assumption | decide +kernel)) | refine then_norm ?_ | refine AW_exit ?_ | refine AW_ret ?_ | (apply AL_len ttok; (iterate 4 exact rfl)))
      all_goals (apply endQ []; (repeat (first | exact ResL.nil | (apply ResL.cons; first | exact .tmp _ _ rfl | (apply res_n ttok; (iterate 6 exact rfl)) | (apply res_1 ttok; (iterate 5 exact rfl))))); (iterate 4 exact rfl))
      all_goals rfl
  · have hdl : decide ((i : Int) < ((itEs l).length : Int)) = false := decide_eq_false (by omega)
    rw [List.drop_eq_nil_of_le hge, sizeRs] at hfin
    subst hfin
    repeat' (first | (apply AL_move; exact rfl; exact rfl) | (apply AL_assign; exact rfl; exact rfl) | (apply AL_bin; (iterate 5 exact rfl)) | (apply AL_load1 ttok; (iterate 6 exact rfl)) | (apply AL_fieldAddr ttok; (iterate 7 exact rfl)) | refine AL_nil ?_ | (apply AL_guardFt; (iterate 3 exact rfl); (first | with_reducible assumption | decide +kernel)) | (apply AL_pickF; exact rfl; (first | with_reducible assumption | decide +kernel); exact rfl; exact rfl) | refine AW_region ?_ | refine AW_seq' ?_ | (apply AW_condB; exact rfl; (first | with_reducible assumption | decide +kernel)) | refine then_norm ?_ | refine AW_exit ?_ | refine AW_ret ?_ | (apply AL_len ttok; (iterate 4 exact rfl)))
    all_goals (apply endQ []; (repeat (first | exact ResL.nil | (apply ResL.cons; first | exact .tmp _ _ rfl | (apply res_n ttok; (iterate 6 exact rfl)) | (apply res_1 ttok; (iterate 5 exact rfl))))); (iterate 4 exact rfl))
    all_goals rfl
theorem av_deep [Known] : ∀ (x : It), wfI x → ∀ m : Nat, m ≤ 1000 → AP Tryd.prog 58 [itD x, .int .i64 (m : Int)] (.int .i64 (depR x m : Int)) [] := by
  refine It.ind fun k n b l ih hw m hm => ?_
  obtain ⟨_, _, hl, hws⟩ := hw
  have hlen := itEs_len l
  show AP Tryd.prog _ [.agg (itC k n b l), _] _ _
  rw [depR]
  generalize hfin : depRs l m 1 = fin
  refine AP.ofA ?_
  refine AC_of Tryd.func58 rfl Tryd.ntmps58 rfl rfl ?_
  repeat' (first | (apply AL_assign; exact rfl; exact rfl) | (apply AL_box; (iterate 5 exact rfl)) | refine AL_nil ?_ | refine AW_region ?_ | refine AW_seq' ?_ | refine then_norm ?_ | refine AW_block ?_)
  refine AW_loopJ (fun f tm bx fr => ∃ (i c : Nat), f + i = l.length ∧ c ≤ m + 1 ∧ depRs (l.drop i) m c = fin ∧ tm = [(1, .int .i64 (m : Int)), (2, .ptr 0 0), (5, .int .i64 (c : Int)), (6, .int .i64 (i : Int))] ∧ bx = [itC k n b l] ∧ fr = []) (l.length + 1) (Lands.mk' (m := l.length) (Nat.lt_succ_self _) ⟨0, 1, rfl, by omega, hfin, rfl, rfl, rfl⟩ ?_ rfl rfl rfl rfl rfl rfl) ?_
  · exact .cons rfl (.cons rfl (.cons rfl (.cons rfl .nil)))
  rintro f tm bx fr ⟨i, c, hf, hc, hfin, rfl, rfl, rfl⟩
  have hU := uniI l
  rcases Nat.lt_or_ge i l.length with hlt | hge
  · have hdl : decide ((i : Int) < ((itEs l).length : Int)) = true := decide_eq_true (by omega)
    obtain ⟨⟨k1, n1, b1, l1⟩, hy⟩ : ∃ y, l[i]? = some y := ⟨_, List.getElem?_eq_getElem hlt⟩
    have hv : (itEs l)[((i : Nat) : Int).toNat]? = some (.agg [.int .i64 k1, .int .u64 (n1 : Int), .sl (b1.map E.byte), .sl (itEs l1)]) := by
      rw [Int.toNat_natCast, itEs_map, List.getElem?_map, hy]; rfl
    have hdr : l.drop i = It.mk k1 n1 b1 l1 :: l.drop (i + 1) := by
      rw [List.drop_eq_getElem_cons hlt]; congr 1
      exact (List.getElem?_eq_some_iff.1 hy).2
    rw [hdr] at hfin
    cases m with
    | zero =>
      rw [depRs] at hfin
      have hdm : decide (((0 : Nat) : Int) > 0) = false := by decide
      subst hfin
      repeat' (first | (apply AL_move; exact rfl; exact rfl) | (apply AL_assign; exact rfl; exact rfl) | (apply AL_bin; (iterate 5 exact rfl)) | (apply AL_load1 ttok; (iterate 6 exact rfl)) | (apply AL_fieldAddr ttok; (iterate 7 exact rfl)) | refine AL_nil ?_ | (apply AL_guardT; (iterate 3 exact rfl); (first | with_reducible assumption | decide +kernel)) | (apply AL_pickT; exact rfl; (first | with_reducible assumption | decide +kernel); exact rfl; exact rfl) | refine AW_region ?_ | refine AW_seq' ?_ | (apply AW_condB; exact rfl; (first | with_reducible assumption | decide +kernel)) | refine then_norm ?_ | refine AW_exit ?_ | refine AW_ret ?_ | (apply AL_len ttok; (iterate 4 exact rfl)))
      all_goals (apply endQ []; (repeat (first | exact ResL.nil | (apply ResL.cons; first | exact .tmp _ _ rfl | (apply res_n ttok; (iterate 6 exact rfl)) | (apply res_1 ttok; (iterate 5 exact rfl))))); (iterate 4 exact rfl))
      all_goals rfl
    | succ m =>
      rw [depRs] at hfin
      have hdm : decide (((m + 1 : Nat) : Int) > 0) = true := decide_eq_true (by omega)
      have hmem := List.mem_of_getElem? hy
      have hcy := ih _ hmem (wfs_mem hws _ hmem) m (by omega)
      have hzl := depR_le (.mk k1 n1 b1 l1) m
      have ei : IntKind.i64.wrap ((i : Int) + 1) = ((i + 1 : Nat) : Int) := by rw [IntWalk.i64_in _ (by omega)]; omega
      have em : IntKind.i64.wrap (((m + 1 : Nat) : Int) - 1) = (m : Int) := by rw [IntWalk.i64_in _ (by omega)]; omega
      generalize hgr : depR (.mk k1 n1 b1 l1) m = r at hcy hfin hzl
      have ec : IntKind.i64.wrap (1 + (r : Int)) = ((1 + r : Nat) : Int) := by rw [IntWalk.i64_in _ (by omega)]; omega
      by_cases hcr : c < 1 + r
      · rw [if_pos hcr] at hfin
        have t3 : decide (((1 + r : Nat) : Int) > (c : Int)) = true := decide_eq_true (by omega)
        repeat' (first | rw [ec] | rw [ei] | rw [em] | (apply AL_callPw (hcy); kernel_rfl; (iterate 4 exact rfl)) | (apply AL_move; exact rfl; exact rfl) | (apply AL_assign; exact rfl; exact rfl) | (apply AL_bin; (iterate 5 exact rfl)) | (apply AL_load1 ttok; (iterate 6 exact rfl)) | (apply AL_fieldAddr ttok; (iterate 7 exact rfl)) | refine AL_nil ?_ | (apply AL_guardT; (iterate 3 exact rfl); (first | with_reducible assumption | decide +kernel)) | (apply AL_pickT; exact rfl; (first | with_reducible assumption | decide +kernel); exact rfl; exact rfl) | refine AW_region ?_ | refine AW_seq' ?_ | (apply AW_condA; exact rfl; (first | with_reducible assumption | decide +kernel)) | refine then_norm ?_ | refine AW_block ?_ | (apply AL_len ttok; (iterate 4 exact rfl)) | (apply AL_eloadn ttok; (iterate 6 exact rfl)) | refine AW_skip ?_ | (apply AL_idx ttok; (iterate 6 exact rfl); (first | with_reducible assumption | decide +kernel | exact Int.natCast_nonneg _ | (guard_target = (0:Int) ≤ (OfNat.ofNat _ : Int); decide) | rotate_left); (first | with_reducible assumption | decide +kernel | exact rfl); (first | exact uniB_ok rfl | with_reducible assumption | decide +kernel | rotate_left)))
        refine Lands.mk' (m := f - 1) (by omega) ⟨i + 1, 1 + r, by omega, by omega, hfin, rfl, rfl, rfl⟩ ?_ rfl rfl rfl rfl rfl rfl
        exact .cons rfl (.cons rfl (.cons rfl (.cons rfl .nil)))
      · rw [if_neg hcr] at hfin
        have t3 : decide (((1 + r : Nat) : Int) > (c : Int)) = false := decide_eq_false (by omega)
        repeat' (first | rw [ec] | rw [ei] | rw [em] | (apply AL_callPw (hcy); kernel_rfl; (iterate 4 exact rfl)) | (apply AL_move; exact rfl; exact rfl) | (apply AL_assign; exact rfl; exact rfl) | (apply AL_bin; (iterate 5 exact rfl)) | (apply AL_load1 ttok; (iterate 6 exact rfl)) | (apply AL_fieldAddr ttok; (iterate 7 exact rfl)) | refine AL_nil ?_ | (apply AL_guardT; (iterate 3 exact rfl); (first | with_reducible assumption | decide +kernel)) | (apply AL_pickT; exact rfl; (first | with_reducible assumption | decide +kernel); exact rfl; exact rfl) | refine AW_region ?_ | refine AW_seq' ?_ | (apply AW_condA; exact rfl; (first | with_reducible assumption | decide +kernel)) | (apply AW_condB; exact rfl; (first | with_reducible assumption | decide +kernel)) | refine then_norm ?_ | refine AW_block ?_ | (apply AL_len ttok; (iterate 4 exact rfl)) | (apply AL_eloadn ttok; (iterate 6 exact rfl)) | refine AW_skip ?_ | (apply AL_idx ttok; (iterate 6 exact rfl); (first | with_reducible assumption | decide +kernel | exact Int.natCast_nonneg _ | (guard_target = (0:Int) ≤ (OfNat.ofNat _ : Int); decide) | rotate_left); (first | with_reducible assumption | decide +kernel | exact rfl); (first | exact uniB_ok rfl | with_reducible assumption | decide +kernel | rotate_left)))
        refine Lands.mk' (m := f - 1) (by omega) ⟨i + 1, c, by omega, by omega, hfin, rfl, rfl, rfl⟩ ?_ rfl rfl rfl rfl rfl rfl
        exact .cons rfl (.cons rfl (.cons rfl (.cons rfl .nil)))
  · have hdl : decide ((i : Int) < ((itEs l).length : Int)) = false := decide_eq_false (by omega)
    rw [List.drop_eq_nil_of_le hge] at hfin
    have hfin : c = fin := by rw [← hfin, depRs]
    subst hfin
    repeat' (first | (apply AL_move; exact rfl; exact rfl) | (apply AL_assign; exact rfl; exact rfl) | (apply AL_bin; (iterate 5 exact rfl)) | (apply AL_load1 ttok; (iterate 6 exact rfl)) | (apply AL_fieldAddr ttok; (iterate 7 exact rfl)) | refine AL_nil ?_ | (apply AL_guardFt; (iterate 3 exact rfl); (first | with_reducible assumption | decide +kernel)) | (apply AL_pickF; exact rfl; (first | with_reducible assumption | decide +kernel); exact rfl; exact rfl) | refine AW_region ?_ | refine AW_seq' ?_ | (apply AW_condB; exact rfl; (first | with_reducible assumption | decide +kernel)) | refine then_norm ?_ | refine AW_exit ?_ | refine AW_ret ?_ | (apply AL_len ttok; (iterate 4 exact rfl)))
    all_goals (apply endQ []; (repeat (first | exact ResL.nil | (apply ResL.cons; first | exact .tmp _ _ rfl | (apply res_n ttok; (iterate 6 exact rfl)) | (apply res_1 ttok; (iterate 5 exact rfl))))); (iterate 4 exact rfl))
    all_goals rfl
end Go.Proofs.YtnihobjehelagaaDoor
end
