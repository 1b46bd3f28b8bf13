/- Items: how many there are, how deep they go; that this is what walk counts. Plain laws. -/
import Derived.Test.YtnihobjehelagaaDoorG07
section
open Go.RowKit Go.Pl Go.Av
namespace Go.Proofs.YtnihobjehelagaaDoor
set_option linter.unusedVariables false
set_option linter.unusedSimpArgs false
mutual
def sizeI : It → Nat
  | .mk _ _ _ l => 1 + sizes l
def sizes : List It → Nat
  | [] => 0
  | x :: l => sizeI x + sizes l
end
mutual
def fineI : It → Bool
  | .mk k n b l => ownI k n b l && fines l
def fines : List It → Bool
  | [] => true
  | x :: l => fineI x && fines l
end
mutual
theorem walk_iff : ∀ (x : It) (d m : Nat), walkI x d m = if deepI x (7 - d) = true ∧ sizeI x ≤ m ∧ fineI x = true then some (m - sizeI x) else none
  | .mk k n b l, d, m => by
    rw [walkI]
    split
    · rename_i h
      rw [if_neg]
      rintro ⟨h1, _⟩
      rw [show 7 - d = 0 by omega, deepI] at h1
      cases h1
    rename_i hd
    rw [show 7 - d = (7 - (d + 1)) + 1 by omega, deepI, sizeI, fineI]
    split
    · rename_i h
      rw [if_neg]
      rintro ⟨_, h1, _⟩
      omega
    rename_i hm
    cases ho : ownI k n b l with
    | false =>
      dsimp only
      rw [if_neg]
      rintro ⟨_, _, h1⟩
      simp at h1
    | true =>
      dsimp only
      rw [walks_iff l (d + 1) (m - 1), Bool.true_and]
      by_cases h : deeps l (7 - (d + 1)) = true ∧ sizes l ≤ m - 1 ∧ fines l = true
      · rw [if_pos h, if_pos ⟨h.1, by omega, h.2.2⟩]
        congr 1; omega
      · rw [if_neg h, if_neg]
        exact fun ⟨a, b, c⟩ => h ⟨a, by omega, c⟩
theorem walks_iff : ∀ (l : List It) (d m : Nat), walks l d m = if deeps l (7 - d) = true ∧ sizes l ≤ m ∧ fines l = true then some (m - sizes l) else none
  | [], d, m => by rw [walks, if_pos ⟨by rw [deeps], by rw [sizes]; omega, by rw [fines]⟩, sizes]; rfl
  | x :: l, d, m => by
    rw [walks, walk_iff x d m, deeps, sizes, fines]
    by_cases h : deepI x (7 - d) = true ∧ sizeI x ≤ m ∧ fineI x = true
    · rw [if_pos h]
      dsimp only
      rw [walks_iff l d (m - sizeI x), h.1, h.2.2, Bool.true_and, Bool.true_and]
      by_cases h2 : deeps l (7 - d) = true ∧ sizes l ≤ m - sizeI x ∧ fines l = true
      · rw [if_pos h2, if_pos ⟨h2.1, by omega, h2.2.2⟩]
        congr 1; omega
      · rw [if_neg h2, if_neg]
        exact fun ⟨a, b, c⟩ => h2 ⟨a, by omega, c⟩
    · rw [if_neg h]
      dsimp only
      rw [if_neg]
      rintro ⟨a, b, c⟩
      rw [Bool.and_eq_true] at a c
      exact h ⟨a.1, by omega, c.1⟩
end
theorem right_iff (x : It) : rightI x = (deepI x 6 && (decide (sizeI x ≤ 256) && fineI x)) := by
  unfold rightI
  rw [walk_iff]
  split
  · rename_i h
    obtain ⟨a, b, c⟩ := h
    rw [show 7 - 1 = 6 from rfl] at a
    simp [a, b, c]
  · rename_i h
    rw [show 7 - 1 = 6 from rfl] at h
    show false = _
    cases h2 : (deepI x 6 && (decide (sizeI x ≤ 256) && fineI x)) with
    | false => rfl
    | true =>
      simp only [Bool.and_eq_true, decide_eq_true_eq] at h2
      exact absurd ⟨h2.1, h2.2.1, h2.2.2⟩ h
mutual
theorem deepI_more : ∀ (x : It) (d e : Nat), deepI x d = true → d ≤ e → deepI x e = true
  | .mk k n b l, 0, e, h, _ => by rw [deepI] at h; cases h
  | .mk k n b l, d + 1, 0, h, hle => by omega
  | .mk k n b l, d + 1, e + 1, h, hle => by
    rw [deepI] at h ⊢
    exact deeps_more l d e h (by omega)
theorem deeps_more : ∀ (l : List It) (d e : Nat), deeps l d = true → d ≤ e → deeps l e = true
  | [], _, _, _, _ => by rw [deeps]
  | x :: l, d, e, h, hle => by
    rw [deeps, Bool.and_eq_true] at h ⊢
    exact ⟨deepI_more x d e h.1 hle, deeps_more l d e h.2 hle⟩
end
theorem walk_deep {x : It} {d m m' : Nat} (h : walkI x d m = some m') : deepI x (7 - d) = true ∧ sizeI x ≤ m := by
  rw [walk_iff] at h
  split at h
  · rename_i q; exact ⟨q.1, q.2.1⟩
  · cases h
mutual
theorem great_size : ∀ (x : It) (d : Nat) (m : Int), 0 ≤ greatI x d m → (sizeI x : Int) = m - greatI x d m
  | .mk k n b l, d, m, h => by
    rw [greatI] at h ⊢
    split at h
    · omega
    split at h
    · omega
    rename_i h1 h2
    rw [if_neg h1, if_neg h2, sizeI]
    have := greats_size l (d + 1) (m - 1) h
    omega
theorem greats_size : ∀ (l : List It) (d : Nat) (m : Int), 0 ≤ greats l d m → (sizes l : Int) = m - greats l d m
  | [], d, m, h => by rw [greats, sizes]; omega
  | x :: l, d, m, h => by
    rw [greats] at h ⊢
    split at h
    · omega
    rename_i h1
    rw [if_neg h1, sizes]
    have h0 : 0 ≤ greatI x d m := by
      rcases Int.lt_or_le (greatI x d m) 0 with hlt | hge
      · have := greats_le l d (greatI x d m) (by have := greatI_lt x d m (by omega); omega); omega
      · exact hge
    have a := great_size x d m h0
    have b := greats_size l d _ h
    omega
end
end Go.Proofs.YtnihobjehelagaaDoor
end
/- Items as the document's; which of these are equal. -/
section
open Go.RowKit Go.Pl Go.Av
namespace Go.Proofs.YtnihobjehelagaaDoor
set_option linter.unusedVariables false
set_option linter.unusedSimpArgs false
set_option maxHeartbeats 4000000
theorem deeps_mem : ∀ {l : List It} {d : Nat}, deeps l d = true → ∀ y ∈ l, deepI y d = true
  | x :: l, d, h, y, hy => by
    rw [deeps, Bool.and_eq_true] at h
    rcases List.mem_cons.1 hy with rfl | hy
    · exact h.1
    · exact deeps_mem h.2 y hy
theorem deepI_pos {x : It} {d : Nat} (h : deepI x d = true) : 0 < d := by
  obtain ⟨k, n, b, l⟩ := x
  cases d with
  | zero => rw [deepI] at h; cases h
  | succ d => omega
/-- an item that is not too deep, as the document's: its cells hold the same -/
theorem av_as [Known] : ∀ (x : It), wfI x → ∀ d : Nat, deepI x (d + 1) = true → d ≤ 100 → AP Tryd.prog 19 [itD x, .int .i64 (d : Int)] (itD x) [] := by
  refine It.ind fun k n b l ih hw d hd hd' => ?_
  obtain ⟨hn, hb, hl, hws⟩ := hw
  rw [deepI] at hd
  have ih' : ∀ y ∈ l, AP Tryd.prog 19 [itD y, .int .i64 ((d - 1 : Nat) : Int)] (itD y) [] := fun y hy => by
    have h1 := deeps_mem hd y hy
    have h2 := deepI_pos h1
    exact ih y hy (wfs_mem hws y hy) (d - 1) (by rw [show d - 1 + 1 = d by omega]; exact h1) (by omega)
  clear ih
  have hlen := itEs_len l
  refine AP.ofA ?_
  refine AC_of Tryd.func19 rfl Tryd.ntmps19 rfl rfl ?_
  repeat' (first | (apply AL_assign; exact rfl; exact rfl) | (apply AL_load1 ttok; (iterate 6 exact rfl)) | (apply AL_fieldAddr ttok; (iterate 7 exact rfl)) | (apply AL_boxZ; (iterate 5 exact rfl)) | (apply AL_store ttok; (iterate 8 exact rfl)) | refine AL_nil ?_ | refine AW_region ?_ | refine AW_seq' ?_ | refine then_norm ?_ | refine AW_block ?_ | (apply AL_build ttok; (iterate 6 exact rfl)) | (apply AL_allocZ ttok; (iterate 4 exact rfl)))
  refine AW_loopJ (fun k' tm bx fr => ∃ (i c : Nat) (L : List E), k' + i = l.length ∧ c = L.length ∧ L = itEs (l.take i) ∧ tm = [(1, .int .i64 (d : Int)), (2, .ptr 0 0), (4, .ptr 1 0), (5, .ptr 2 0), (6, .int .i64 (i : Int))] ∧
    ((i = 0 ∧ bx = [itC k n b l, [.int .i64 0, .int .u64 0, .sl .nil [], .sl .nil []], [.int .i64 k, .int .u64 (n : Int), byE b, .sl .nil []]] ∧ fr = []) ∨
    (bx = [itC k n b l, [.int .i64 0, .int .u64 0, .sl .nil [], .sl .nil []], [.int .i64 k, .int .u64 (n : Int), byE b, .sl (.own 0) L]] ∧ fr = [⟨c, 4, 37⟩]))) (l.length + 1) (Lands.mk' (m := l.length) (Nat.lt_succ_self _) ⟨0, 0, [], rfl, rfl, rfl, rfl, .inl ⟨rfl, rfl, rfl⟩⟩ ?_ rfl rfl rfl rfl rfl rfl) ?_
  · exact .cons rfl (.cons rfl (.cons rfl (.cons rfl (.cons rfl .nil))))
  rintro k' tm bx fr ⟨i, c, L, hi, hc, hL, rfl, ⟨rfl, rfl, rfl⟩ | ⟨rfl, rfl⟩⟩
  · cases l with
    | nil =>
      repeat' (first | (apply AL_move; exact rfl; exact rfl) | (apply AL_bin; (iterate 5 exact rfl)) | (apply AL_load1 ttok; (iterate 6 exact rfl)) | (apply AL_loadn ttok; (iterate 7 exact rfl)) | (apply AL_fieldAddr ttok; (iterate 7 exact rfl)) | (apply AL_store ttok; (iterate 8 exact rfl)) | refine AL_nil ?_ | (apply AL_guardFt; (iterate 3 exact rfl); (first | with_reducible assumption | decide +kernel | (guard_target =ₛ true = true; rfl) | (guard_target =ₛ false = false; rfl) | (guard_target =ₛ (!true) = false; rfl) | (guard_target =ₛ (!false) = true; rfl))) | (apply AL_pickF; exact rfl; (first | with_reducible assumption | decide +kernel | (guard_target =ₛ true = true; rfl) | (guard_target =ₛ false = false; rfl) | (guard_target =ₛ (!true) = false; rfl) | (guard_target =ₛ (!false) = true; rfl)); exact rfl; exact rfl) | refine AW_region ?_ | refine AW_seq' ?_ | (apply AW_condB; exact rfl; (first | with_reducible assumption | decide +kernel | (guard_target =ₛ true = true; rfl) | (guard_target =ₛ false = false; rfl) | (guard_target =ₛ (!true) = false; rfl) | (guard_target =ₛ (!false) = true; rfl))) | refine then_norm ?_ | refine AW_exit ?_ | refine AW_ret ?_ | (apply AL_len ttok; (iterate 4 exact rfl)))
      all_goals (apply endQ []; (repeat (first | exact ResL.nil | (apply ResL.cons; first | exact .tmp _ _ rfl | (apply res_n ttok; (iterate 6 exact rfl)) | (apply res_1 ttok; (iterate 5 exact rfl))))); (iterate 4 exact rfl))
      all_goals rfl
    | cons y l =>
      have hc := ih' y (List.mem_cons_self ..)
      have hU := uniI (y :: l)
      have hd1 : decide (((0 : Nat) : Int) < ((itEs (y :: l)).length : Int)) = true := decide_eq_true (by rw [itEs]; simp)
      have hp := deepI_pos (deeps_mem hd y (List.mem_cons_self ..))
      have hd2 : decide ((d : Int) > 0) = true := decide_eq_true (by omega)
      have ed : IntKind.i64.wrap ((d : Int) - 1) = ((d - 1 : Nat) : Int) := by rw [IntWalk.i64_in _ (by omega)]; omega
      obtain ⟨k1, n1, b1, l1⟩ := y
      repeat' (first | (apply AL_callPw (hc); kernel_rfl; (iterate 4 exact rfl)) | rw [ed] | (apply AL_append_nilZ ttok; (iterate 6 exact rfl); exact uniB_ok rfl; exact List.cons_ne_nil _ _; exact rfl; decide +kernel; decide +kernel; (iterate 3 exact rfl)) | (apply AL_move; exact rfl; exact rfl) | (apply AL_assign; exact rfl; exact rfl) | (apply AL_bin; (iterate 5 exact rfl)) | (apply AL_load1 ttok; (iterate 6 exact rfl)) | (apply AL_fieldAddr ttok; (iterate 7 exact rfl)) | (apply AL_store ttok; (iterate 8 exact rfl)) | refine AL_nil ?_ | (apply AL_guardT; (iterate 3 exact rfl); (first | with_reducible assumption | decide +kernel | (guard_target =ₛ true = true; rfl) | (guard_target =ₛ false = false; rfl) | (guard_target =ₛ (!true) = false; rfl) | (guard_target =ₛ (!false) = true; rfl))) | (apply AL_pickT; exact rfl; (first | with_reducible assumption | decide +kernel | (guard_target =ₛ true = true; rfl) | (guard_target =ₛ false = false; rfl) | (guard_target =ₛ (!true) = false; rfl) | (guard_target =ₛ (!false) = true; rfl)); exact rfl; exact rfl) | refine AW_region ?_ | refine AW_seq' ?_ | (apply AW_condA; exact rfl; (first | with_reducible assumption | decide +kernel | (guard_target =ₛ true = true; rfl) | (guard_target =ₛ false = false; rfl) | (guard_target =ₛ (!true) = false; rfl) | (guard_target =ₛ (!false) = true; rfl))) | refine then_norm ?_ | refine AW_block ?_ | (apply AL_len ttok; (iterate 4 exact rfl)) | (apply AL_eloadn ttok; (iterate 6 exact rfl)) | (apply AL_bsZ ttok; (iterate 12 exact rfl)) | (apply AW_drawE 11 hmix; (decide +kernel); (kernel_rfl); (kernel_rfl); (kernel_rfl); exact rfl; exact rfl) | (apply AE_consZ; (iterate 4 exact rfl)) | exact AE.nil _ _ _ _ | (apply AEk_puT; exact rfl) | (apply AOt_mk; exact rfl; exact rfl; (decide +kernel); exact rfl) | (apply AO_puT; exact rfl) | exact AO.nil _ _ _ | (apply AOs_skip; (decide +kernel)) | exact AOs.nil | exact qY_ok rfl rfl | exact qY_wk rfl rfl rfl rfl rfl | refine AW_skip ?_ | (apply AL_idx ttok; (iterate 6 exact rfl); (first | with_reducible assumption | decide +kernel | exact Int.natCast_nonneg _ | (guard_target = (0:Int) ≤ (OfNat.ofNat _ : Int); decide) | rotate_left); (first | with_reducible assumption | decide +kernel | exact rfl); (first | exact uniB_ok rfl | with_reducible assumption | decide +kernel | rotate_left)))
      refine Lands.mk' (m := k' - 1) (by simp at hi; omega) ⟨1, 1, itEs [It.mk k1 n1 b1 l1], by simp at hi ⊢; omega, rfl, rfl, rfl, .inr ⟨rfl, rfl⟩⟩ ?_ rfl rfl rfl rfl rfl rfl
      exact .cons rfl (.cons rfl (.cons rfl (.cons rfl (.cons rfl .nil))))
  · have hU := uniI l
    have hU2 : Uni 4 L := hL ▸ uniI (l.take i)
    have el := itEs_len (l.take i)
    rw [← hL] at el
    subst hc
    rcases Nat.lt_or_ge i l.length with hlt | hge
    · have hd1 : decide ((i : Int) < ((itEs l).length : Int)) = true := decide_eq_true (by omega)
      obtain ⟨⟨k1, n1, b1, l1⟩, hy⟩ : ∃ y, l[i]? = some y := ⟨_, List.getElem?_eq_getElem hlt⟩
      have hv : (itEs l)[((i : Nat) : Int).toNat]? = some (.agg [.int .i64 k1, .int .u64 (n1 : Int), .sl (b1.map E.byte), .sl (itEs l1)]) := by
        rw [Int.toNat_natCast, itEs_map, List.getElem?_map, hy]; rfl
      have hc := ih' _ (List.mem_of_getElem? hy)
      have hp := deepI_pos (deeps_mem hd _ (List.mem_of_getElem? hy))
      have hd2 : decide ((d : Int) > 0) = true := decide_eq_true (by omega)
      have ed : IntKind.i64.wrap ((d : Int) - 1) = ((d - 1 : Nat) : Int) := by rw [IntWalk.i64_in _ (by omega)]; omega
      have ei : IntKind.i64.wrap ((i : Int) + 1) = ((i + 1 : Nat) : Int) := by rw [IntWalk.i64_in _ (by omega)]; omega
      have hs : L ++ [E.agg [.int .i64 k1, .int .u64 (n1 : Int), .sl (b1.map E.byte), .sl (itEs l1)]] = itEs (l.take (i + 1)) := by
        rw [hL, List.take_add_one, hy]; exact (itEs_app _ [It.mk k1 n1 b1 l1]).symm
      rw [List.length_take] at el
      repeat' (first | (apply AL_callPw (hc); kernel_rfl; (iterate 4 exact rfl)) | rw [ei] | rw [ed] | (apply AL_move; exact rfl; exact rfl) | (apply AL_assign; exact rfl; exact rfl) | (apply AL_bin; (iterate 5 exact rfl)) | (apply AL_load1 ttok; (iterate 6 exact rfl)) | (apply AL_fieldAddr ttok; (iterate 7 exact rfl)) | (apply AL_store ttok; (iterate 8 exact rfl)) | refine AL_nil ?_ | (apply AL_guardT; (iterate 3 exact rfl); (first | with_reducible assumption | decide +kernel | (guard_target =ₛ true = true; rfl) | (guard_target =ₛ false = false; rfl) | (guard_target =ₛ (!true) = false; rfl) | (guard_target =ₛ (!false) = true; rfl))) | (apply AL_pickT; exact rfl; (first | with_reducible assumption | decide +kernel | (guard_target =ₛ true = true; rfl) | (guard_target =ₛ false = false; rfl) | (guard_target =ₛ (!true) = false; rfl) | (guard_target =ₛ (!false) = true; rfl)); exact rfl; exact rfl) | refine AW_region ?_ | refine AW_seq' ?_ | (apply AW_condA; exact rfl; (first | with_reducible assumption | decide +kernel | (guard_target =ₛ true = true; rfl) | (guard_target =ₛ false = false; rfl) | (guard_target =ₛ (!true) = false; rfl) | (guard_target =ₛ (!false) = true; rfl))) | refine then_norm ?_ | refine AW_block ?_ | (apply AL_len ttok; (iterate 4 exact rfl)) | (apply AL_eloadn ttok; (iterate 6 exact rfl)) | (apply AL_bsZ ttok; (iterate 12 exact rfl)) | (apply AW_drawE 11 hmix; (decide +kernel); (kernel_rfl); (kernel_rfl); (kernel_rfl); exact rfl; exact rfl) | (apply AE_consZ; (iterate 4 exact rfl)) | exact AE.nil _ _ _ _ | (apply AEk_puT; exact rfl) | (apply AOt_mk; exact rfl; exact rfl; (decide +kernel); exact rfl) | (apply AO_puT; exact rfl) | exact AO.nil _ _ _ | (apply AOs_skip; (decide +kernel)) | exact AOs.nil | exact qY_ok rfl rfl | exact qY_wk rfl rfl rfl rfl rfl | refine AW_skip ?_ | (apply AL_append ttok; (iterate 6 exact rfl); (first | with_reducible assumption | decide +kernel | exact rfl | rotate_left); exact rfl; exact rfl; (first | exact uniB_ok rfl | with_reducible assumption | decide +kernel | rotate_left); (first | exact uniB_ok rfl | with_reducible assumption | decide +kernel | rotate_left); (first | exact List.cons_ne_nil _ _ | with_reducible assumption | decide +kernel | rotate_left); (first | with_reducible assumption | decide +kernel | rotate_left); (first | with_reducible assumption | decide +kernel | rotate_left); exact rfl; exact rfl) | (apply AL_idx ttok; (iterate 6 exact rfl); (first | with_reducible assumption | decide +kernel | exact Int.natCast_nonneg _ | (guard_target = (0:Int) ≤ (OfNat.ofNat _ : Int); decide) | rotate_left); (first | with_reducible assumption | decide +kernel | exact rfl); (first | exact uniB_ok rfl | with_reducible assumption | decide +kernel | rotate_left)))
      · refine Lands.mk' (m := k' - 1) (by omega) ⟨i + 1, L.length + 1, _, by omega, by rw [List.length_append]; rfl, hs, rfl, .inr ⟨rfl, rfl⟩⟩ ?_ rfl rfl rfl rfl rfl rfl
        exact .cons rfl (.cons rfl (.cons rfl (.cons rfl (.cons rfl .nil))))
      all_goals (first | rfl | (simp only [List.length_append, List.length_cons, List.length_nil, List.length_map, itEs_len]; done) | (simp only [List.length_append, List.length_cons, List.length_nil, List.length_map, itEs_len] at *; (try unfold maxLen); (try simp only [Nat.add_mul]); omega))
    · have hd1 : decide ((i : Int) < ((itEs l).length : Int)) = false := decide_eq_false (by omega)
      rw [List.take_of_length_le hge] at hL
      subst hL
      repeat' (first | (apply AL_move; exact rfl; exact rfl) | (apply AL_bin; (iterate 5 exact rfl)) | (apply AL_load1 ttok; (iterate 6 exact rfl)) | (apply AL_loadn ttok; (iterate 7 exact rfl)) | (apply AL_fieldAddr ttok; (iterate 7 exact rfl)) | (apply AL_store ttok; (iterate 8 exact rfl)) | refine AL_nil ?_ | (apply AL_guardFt; (iterate 3 exact rfl); (first | with_reducible assumption | decide +kernel | (guard_target =ₛ true = true; rfl) | (guard_target =ₛ false = false; rfl) | (guard_target =ₛ (!true) = false; rfl) | (guard_target =ₛ (!false) = true; rfl))) | (apply AL_pickF; exact rfl; (first | with_reducible assumption | decide +kernel | (guard_target =ₛ true = true; rfl) | (guard_target =ₛ false = false; rfl) | (guard_target =ₛ (!true) = false; rfl) | (guard_target =ₛ (!false) = true; rfl)); exact rfl; exact rfl) | refine AW_region ?_ | refine AW_seq' ?_ | (apply AW_condB; exact rfl; (first | with_reducible assumption | decide +kernel | (guard_target =ₛ true = true; rfl) | (guard_target =ₛ false = false; rfl) | (guard_target =ₛ (!true) = false; rfl) | (guard_target =ₛ (!false) = true; rfl))) | refine then_norm ?_ | refine AW_exit ?_ | refine AW_ret ?_ | (apply AL_len ttok; (iterate 4 exact rfl)))
      all_goals (apply endQ []; (repeat (first | exact ResL.nil | (apply ResL.cons; first | exact .tmp _ _ rfl | (apply res_n ttok; (iterate 6 exact rfl)) | (apply res_1 ttok; (iterate 5 exact rfl))))); (iterate 4 exact rfl))
      all_goals rfl
theorem beqs_ne {l l' : List It} (h : l.length ≠ l'.length) : It.beqs l l' = false := by
  rw [← Bool.not_eq_true]
  intro e
  exact h (congrArg List.length (It.beqs_iff.1 e))
theorem av_refSame [Known] : ∀ (x : It), wfI x → ∀ y : It, wfI y → AP Tryd.prog 18 [itD x, itD y] (.bool (It.beq x y)) [] := by
  refine It.ind fun k n b l ih hw y hw' => ?_
  obtain ⟨k', n', b', l'⟩ := y
  obtain ⟨_, _, hl, hws⟩ := hw
  obtain ⟨_, _, hl', hws'⟩ := hw'
  have e1 := itEs_len l
  have e2 := itEs_len l'
  rw [It.beq]
  by_cases h1 : k = k'
  case neg =>
    have t1 : (k != k') = true := by simpa using h1
    have tt : ((k == k') && ((n == n') && ((b == b') && It.beqs l l'))) = false := by simp [h1]
    rw [tt]
    refine AP.ofA ?_
    refine AC_of Tryd.func18 rfl Tryd.ntmps18 rfl rfl ?_
    repeat' (first | (apply AL_move; exact rfl; exact rfl) | (apply AL_assign; exact rfl; exact rfl) | (apply AL_bin; (iterate 5 exact rfl)) | (apply AL_load1 ttok; (iterate 6 exact rfl)) | (apply AL_fieldAddr ttok; (iterate 7 exact rfl)) | (apply AL_box; (iterate 5 exact rfl)) | refine AL_nil ?_ | (apply AL_guardFf; (iterate 3 exact rfl); (first | with_reducible assumption | decide +kernel | (guard_target =ₛ true = true; rfl) | (guard_target =ₛ false = false; rfl) | (guard_target =ₛ (!true) = false; rfl) | (guard_target =ₛ (!false) = true; rfl))) | (apply AL_pickT; exact rfl; (first | with_reducible assumption | decide +kernel | (guard_target =ₛ true = true; rfl) | (guard_target =ₛ false = false; rfl) | (guard_target =ₛ (!true) = false; rfl) | (guard_target =ₛ (!false) = true; rfl)); exact rfl; exact rfl) | refine AW_region ?_ | refine AW_seq' ?_ | (apply AW_condA; exact rfl; (first | with_reducible assumption | decide +kernel | (guard_target =ₛ true = true; rfl) | (guard_target =ₛ false = false; rfl) | (guard_target =ₛ (!true) = false; rfl) | (guard_target =ₛ (!false) = true; rfl))) | refine then_norm ?_ | refine AW_ret ?_ | refine then_ret ?_)
    all_goals (apply endQ []; (repeat (first | exact ResL.nil | (apply ResL.cons; first | exact .tmp _ _ rfl | (apply res_n ttok; (iterate 6 exact rfl)) | (apply res_1 ttok; (iterate 5 exact rfl))))); (iterate 4 exact rfl))
    all_goals rfl
  have t1 : (k != k') = false := by simpa using h1
  by_cases h2 : n = n'
  case neg =>
    have t2 : ((n : Int) != (n' : Int)) = true := by simp; omega
    have tt : ((k == k') && ((n == n') && ((b == b') && It.beqs l l'))) = false := by simp [h2]
    rw [tt]
    refine AP.ofA ?_
    refine AC_of Tryd.func18 rfl Tryd.ntmps18 rfl rfl ?_
    repeat' (first | (apply AL_move; exact rfl; exact rfl) | (apply AL_assign; exact rfl; exact rfl) | (apply AL_bin; (iterate 5 exact rfl)) | (apply AL_load1 ttok; (iterate 6 exact rfl)) | (apply AL_fieldAddr ttok; (iterate 7 exact rfl)) | (apply AL_box; (iterate 5 exact rfl)) | refine AL_nil ?_ | (apply AL_guardT; (iterate 3 exact rfl); (first | with_reducible assumption | decide +kernel | (guard_target =ₛ true = true; rfl) | (guard_target =ₛ false = false; rfl) | (guard_target =ₛ (!true) = false; rfl) | (guard_target =ₛ (!false) = true; rfl))) | (apply AL_guardFf; (iterate 3 exact rfl); (first | with_reducible assumption | decide +kernel | (guard_target =ₛ true = true; rfl) | (guard_target =ₛ false = false; rfl) | (guard_target =ₛ (!true) = false; rfl) | (guard_target =ₛ (!false) = true; rfl))) | (apply AL_pickT; exact rfl; (first | with_reducible assumption | decide +kernel | (guard_target =ₛ true = true; rfl) | (guard_target =ₛ false = false; rfl) | (guard_target =ₛ (!true) = false; rfl) | (guard_target =ₛ (!false) = true; rfl)); exact rfl; exact rfl) | (apply AL_pickF; exact rfl; (first | with_reducible assumption | decide +kernel | (guard_target =ₛ true = true; rfl) | (guard_target =ₛ false = false; rfl) | (guard_target =ₛ (!true) = false; rfl) | (guard_target =ₛ (!false) = true; rfl)); exact rfl; exact rfl) | refine AW_region ?_ | refine AW_seq' ?_ | (apply AW_condA; exact rfl; (first | with_reducible assumption | decide +kernel | (guard_target =ₛ true = true; rfl) | (guard_target =ₛ false = false; rfl) | (guard_target =ₛ (!true) = false; rfl) | (guard_target =ₛ (!false) = true; rfl))) | refine then_norm ?_ | refine AW_ret ?_ | refine then_ret ?_)
    all_goals (apply endQ []; (repeat (first | exact ResL.nil | (apply ResL.cons; first | exact .tmp _ _ rfl | (apply res_n ttok; (iterate 6 exact rfl)) | (apply res_1 ttok; (iterate 5 exact rfl))))); (iterate 4 exact rfl))
    all_goals rfl
  have t2 : ((n : Int) != (n' : Int)) = false := by simp; omega
  by_cases h3 : b = b'
  case neg =>
    have t3 : (b != b') = true := by simpa using h3
    have tt : ((k == k') && ((n == n') && ((b == b') && It.beqs l l'))) = false := by simp [h3]
    rw [tt]
    refine AP.ofA ?_
    refine AC_of Tryd.func18 rfl Tryd.ntmps18 rfl rfl ?_
    repeat' (first | (apply AL_move; exact rfl; exact rfl) | (apply AL_assign; exact rfl; exact rfl) | (apply AL_bin; (iterate 5 exact rfl)) | (apply AL_load1 ttok; (iterate 6 exact rfl)) | (apply AL_fieldAddr ttok; (iterate 7 exact rfl)) | (apply AL_box; (iterate 5 exact rfl)) | refine AL_nil ?_ | (apply AL_guardT; (iterate 3 exact rfl); (first | with_reducible assumption | decide +kernel | (guard_target =ₛ true = true; rfl) | (guard_target =ₛ false = false; rfl) | (guard_target =ₛ (!true) = false; rfl) | (guard_target =ₛ (!false) = true; rfl))) | (apply AL_guardFf; (iterate 3 exact rfl); (first | with_reducible assumption | decide +kernel | (guard_target =ₛ true = true; rfl) | (guard_target =ₛ false = false; rfl) | (guard_target =ₛ (!true) = false; rfl) | (guard_target =ₛ (!false) = true; rfl))) | (apply AL_pickT; exact rfl; (first | with_reducible assumption | decide +kernel | (guard_target =ₛ true = true; rfl) | (guard_target =ₛ false = false; rfl) | (guard_target =ₛ (!true) = false; rfl) | (guard_target =ₛ (!false) = true; rfl)); exact rfl; exact rfl) | (apply AL_pickF; exact rfl; (first | with_reducible assumption | decide +kernel | (guard_target =ₛ true = true; rfl) | (guard_target =ₛ false = false; rfl) | (guard_target =ₛ (!true) = false; rfl) | (guard_target =ₛ (!false) = true; rfl)); exact rfl; exact rfl) | refine AW_region ?_ | refine AW_seq' ?_ | (apply AW_condA; exact rfl; (first | with_reducible assumption | decide +kernel | (guard_target =ₛ true = true; rfl) | (guard_target =ₛ false = false; rfl) | (guard_target =ₛ (!true) = false; rfl) | (guard_target =ₛ (!false) = true; rfl))) | refine then_norm ?_ | refine AW_ret ?_ | refine then_ret ?_ | (apply AL_str; (iterate 5 exact rfl)) | (apply AL_b2s ttok; (iterate 9 exact rfl)))
    all_goals (apply endQ []; (repeat (first | exact ResL.nil | (apply ResL.cons; first | exact .tmp _ _ rfl | (apply res_n ttok; (iterate 6 exact rfl)) | (apply res_1 ttok; (iterate 5 exact rfl))))); (iterate 4 exact rfl))
    all_goals rfl
  have t3 : (b != b') = false := by simpa using h3
  have e : ((k == k') && ((n == n') && ((b == b') && It.beqs l l'))) = It.beqs l l' := by simp [h1, h2, h3]
  rw [e]
  by_cases hne : l.length = l'.length
  case neg =>
    have t4 : (((itEs l).length : Int) != ((itEs l').length : Int)) = true := by rw [e1, e2]; simp; omega
    rw [beqs_ne hne]
    refine AP.ofA ?_
    refine AC_of Tryd.func18 rfl Tryd.ntmps18 rfl rfl ?_
    repeat' (first | (apply AL_move; exact rfl; exact rfl) | (apply AL_assign; exact rfl; exact rfl) | (apply AL_bin; (iterate 5 exact rfl)) | (apply AL_load1 ttok; (iterate 6 exact rfl)) | (apply AL_fieldAddr ttok; (iterate 7 exact rfl)) | (apply AL_box; (iterate 5 exact rfl)) | refine AL_nil ?_ | (apply AL_guardT; (iterate 3 exact rfl); (first | with_reducible assumption | decide +kernel | (guard_target =ₛ true = true; rfl) | (guard_target =ₛ false = false; rfl) | (guard_target =ₛ (!true) = false; rfl) | (guard_target =ₛ (!false) = true; rfl))) | (apply AL_pickF; exact rfl; (first | with_reducible assumption | decide +kernel | (guard_target =ₛ true = true; rfl) | (guard_target =ₛ false = false; rfl) | (guard_target =ₛ (!true) = false; rfl) | (guard_target =ₛ (!false) = true; rfl)); exact rfl; exact rfl) | refine AW_region ?_ | refine AW_seq' ?_ | (apply AW_condA; exact rfl; (first | with_reducible assumption | decide +kernel | (guard_target =ₛ true = true; rfl) | (guard_target =ₛ false = false; rfl) | (guard_target =ₛ (!true) = false; rfl) | (guard_target =ₛ (!false) = true; rfl))) | refine then_norm ?_ | refine AW_ret ?_ | refine then_ret ?_ | (apply AL_len ttok; (iterate 4 exact rfl)) | (apply AL_str; (iterate 5 exact rfl)) | (apply AL_b2s ttok; (iterate 9 exact rfl)))
    all_goals (apply endQ []; (repeat (first | exact ResL.nil | (apply ResL.cons; first | exact .tmp _ _ rfl | (apply res_n ttok; (iterate 6 exact rfl)) | (apply res_1 ttok; (iterate 5 exact rfl))))); (iterate 4 exact rfl))
    all_goals rfl
  have t4 : (((itEs l).length : Int) != ((itEs l').length : Int)) = false := by rw [e1, e2, hne]; simp
  generalize hfin : It.beqs l l' = fin
  have ih' : ∀ y ∈ l, ∀ y' ∈ l', AP Tryd.prog 18 [itD y, itD y'] (.bool (It.beq y y')) [] := fun y hy y' hy' => ih y hy (wfs_mem hws y hy) y' (wfs_mem hws' y' hy')
  clear ih e h1 h2 h3
  refine AP.ofA ?_
  refine AC_of Tryd.func18 rfl Tryd.ntmps18 rfl rfl ?_
  repeat' (first | (apply AL_move; exact rfl; exact rfl) | (apply AL_assign; exact rfl; exact rfl) | (apply AL_bin; (iterate 5 exact rfl)) | (apply AL_load1 ttok; (iterate 6 exact rfl)) | (apply AL_fieldAddr ttok; (iterate 7 exact rfl)) | (apply AL_box; (iterate 5 exact rfl)) | refine AL_nil ?_ | (apply AL_guardT; (iterate 3 exact rfl); (first | with_reducible assumption | decide +kernel | (guard_target =ₛ true = true; rfl) | (guard_target =ₛ false = false; rfl) | (guard_target =ₛ (!true) = false; rfl) | (guard_target =ₛ (!false) = true; rfl))) | (apply AL_pickF; exact rfl; (first | with_reducible assumption | decide +kernel | (guard_target =ₛ true = true; rfl) | (guard_target =ₛ false = false; rfl) | (guard_target =ₛ (!true) = false; rfl) | (guard_target =ₛ (!false) = true; rfl)); exact rfl; exact rfl) | refine AW_region ?_ | refine AW_seq' ?_ | (apply AW_condB; exact rfl; (first | with_reducible assumption | decide +kernel | (guard_target =ₛ true = true; rfl) | (guard_target =ₛ false = false; rfl) | (guard_target =ₛ (!true) = false; rfl) | (guard_target =ₛ (!false) = true; rfl))) | refine then_norm ?_ | refine AW_block ?_ | (apply AL_len ttok; (iterate 4 exact rfl)) | (apply AL_str; (iterate 5 exact rfl)) | refine AW_skip ?_ | (apply AL_b2s ttok; (iterate 9 exact rfl)))
  refine AW_loopJ (fun f tm bx fr => ∃ i : Nat, f + i = l.length ∧ It.beqs (l.drop i) (l'.drop i) = fin ∧ tm = [(2, .ptr 0 0), (3, .ptr 1 0), (5, .int .i64 (i : Int)), (4, .bool false)] ∧ bx = [itC k n b l, itC k' n' b' l'] ∧ fr = []) (l.length + 1) (Lands.mk' (m := l.length) (Nat.lt_succ_self _) ⟨0, rfl, hfin, rfl, rfl, rfl⟩ ?_ rfl rfl rfl rfl rfl rfl) ?_
  · exact .cons rfl (.cons rfl (.cons rfl (.cons rfl .nil)))
  rintro f tm bx fr ⟨i, hf, hfin, rfl, rfl, rfl⟩
  have hU := uniI l
  have hU' := uniI l'
  rcases Nat.lt_or_ge i l.length with hlt | hge
  · have hdl : decide ((i : Int) < ((itEs l).length : Int)) = true := decide_eq_true (by omega)
    obtain ⟨⟨k1, n1, b1, l1⟩, hy⟩ : ∃ y, l[i]? = some y := ⟨_, List.getElem?_eq_getElem hlt⟩
    obtain ⟨⟨k2, n2, b2, l2⟩, hy'⟩ : ∃ y, l'[i]? = some y := ⟨_, List.getElem?_eq_getElem (by omega)⟩
    have hv : (itEs l)[((i : Nat) : Int).toNat]? = some (.agg [.int .i64 k1, .int .u64 (n1 : Int), .sl (b1.map E.byte), .sl (itEs l1)]) := by
      rw [Int.toNat_natCast, itEs_map, List.getElem?_map, hy]; rfl
    have hv' : (itEs l')[((i : Nat) : Int).toNat]? = some (.agg [.int .i64 k2, .int .u64 (n2 : Int), .sl (b2.map E.byte), .sl (itEs l2)]) := by
      rw [Int.toNat_natCast, itEs_map, List.getElem?_map, hy']; rfl
    have hc := ih' _ (List.mem_of_getElem? hy) _ (List.mem_of_getElem? hy')
    have hdr : l.drop i = It.mk k1 n1 b1 l1 :: l.drop (i + 1) := by
      rw [List.drop_eq_getElem_cons hlt]; congr 1
      exact (List.getElem?_eq_some_iff.1 hy).2
    have hdr' : l'.drop i = It.mk k2 n2 b2 l2 :: l'.drop (i + 1) := by
      rw [List.drop_eq_getElem_cons (by omega)]; congr 1
      exact (List.getElem?_eq_some_iff.1 hy').2
    rw [hdr, hdr', It.beqs] at hfin
    have ei : IntKind.i64.wrap ((i : Int) + 1) = ((i + 1 : Nat) : Int) := by rw [IntWalk.i64_in _ (by omega)]; omega
    cases hb : It.beq (.mk k1 n1 b1 l1) (.mk k2 n2 b2 l2) with
    | false =>
      rw [hb] at hfin hc
      subst hfin
      repeat' (first | (apply AL_callPw (hc); kernel_rfl; (iterate 4 exact rfl)) | (apply AL_move; exact rfl; exact rfl) | (apply AL_assign; exact rfl; exact rfl) | (apply AL_bin; (iterate 5 exact rfl)) | (apply AL_load1 ttok; (iterate 6 exact rfl)) | (apply AL_fieldAddr ttok; (iterate 7 exact rfl)) | (apply AL_not; exact rfl; exact rfl) | refine AL_nil ?_ | refine AW_region ?_ | refine AW_seq' ?_ | (apply AW_condA; exact rfl; (first | with_reducible assumption | decide +kernel | (guard_target =ₛ true = true; rfl) | (guard_target =ₛ false = false; rfl) | (guard_target =ₛ (!true) = false; rfl) | (guard_target =ₛ (!false) = true; rfl))) | refine then_norm ?_ | refine AW_block ?_ | refine AW_ret ?_ | refine then_ret ?_ | refine blk_ret ?_ | (apply AL_len ttok; (iterate 4 exact rfl)) | (apply AL_eloadn ttok; (iterate 6 exact rfl)) | (apply AW_drawM 10 hmix; (decide +kernel); (kernel_rfl); (kernel_rfl); exact rfl; exact rfl) | (apply AD_cons; (iterate 3 exact rfl)) | refine AD.nil _ | exact qp_ok rfl | refine AW_skip ?_ | (apply AL_idx ttok; (iterate 6 exact rfl); (first | with_reducible assumption | decide +kernel | exact Int.natCast_nonneg _ | (guard_target = (0:Int) ≤ (OfNat.ofNat _ : Int); decide) | rotate_left); (first | with_reducible assumption | decide +kernel | exact rfl); (first | exact uniB_ok rfl | with_reducible assumption | decide +kernel | rotate_left)))
      all_goals (apply endQ []; (repeat (first | exact ResL.nil | (apply ResL.cons; first | exact .tmp _ _ rfl | (apply res_n ttok; (iterate 6 exact rfl)) | (apply res_1 ttok; (iterate 5 exact rfl))))); (iterate 4 exact rfl))
      all_goals rfl
    | true =>
      rw [hb] at hfin hc
      repeat' (first | rw [ei] | (apply AL_callPw (hc); kernel_rfl; (iterate 4 exact rfl)) | (apply AL_move; exact rfl; exact rfl) | (apply AL_assign; exact rfl; exact rfl) | (apply AL_bin; (iterate 5 exact rfl)) | (apply AL_load1 ttok; (iterate 6 exact rfl)) | (apply AL_fieldAddr ttok; (iterate 7 exact rfl)) | (apply AL_not; exact rfl; exact rfl) | refine AL_nil ?_ | refine AW_region ?_ | refine AW_seq' ?_ | (apply AW_condA; exact rfl; (first | with_reducible assumption | decide +kernel | (guard_target =ₛ true = true; rfl) | (guard_target =ₛ false = false; rfl) | (guard_target =ₛ (!true) = false; rfl) | (guard_target =ₛ (!false) = true; rfl))) | (apply AW_condB; exact rfl; (first | with_reducible assumption | decide +kernel | (guard_target =ₛ true = true; rfl) | (guard_target =ₛ false = false; rfl) | (guard_target =ₛ (!true) = false; rfl) | (guard_target =ₛ (!false) = true; rfl))) | refine then_norm ?_ | refine AW_block ?_ | (apply AL_len ttok; (iterate 4 exact rfl)) | (apply AL_eloadn ttok; (iterate 6 exact rfl)) | (apply AW_drawM 10 hmix; (decide +kernel); (kernel_rfl); (kernel_rfl); exact rfl; exact rfl) | (apply AD_cons; (iterate 3 exact rfl)) | refine AD.nil _ | exact qp_ok rfl | refine AW_skip ?_ | (apply AL_idx ttok; (iterate 6 exact rfl); (first | with_reducible assumption | decide +kernel | exact Int.natCast_nonneg _ | (guard_target = (0:Int) ≤ (OfNat.ofNat _ : Int); decide) | rotate_left); (first | with_reducible assumption | decide +kernel | exact rfl); (first | exact uniB_ok rfl | with_reducible assumption | decide +kernel | rotate_left)))
      refine Lands.mk' (m := f - 1) (by omega) ⟨i + 1, by omega, hfin, rfl, rfl, rfl⟩ ?_ rfl rfl rfl rfl rfl rfl
      exact .cons rfl (.cons rfl (.cons rfl (.cons rfl .nil)))
  · have hdl : decide ((i : Int) < ((itEs l).length : Int)) = false := decide_eq_false (by omega)
    rw [List.drop_eq_nil_of_le hge, List.drop_eq_nil_of_le (by omega)] at hfin
    have hfin : true = fin := hfin
    subst hfin
    repeat' (first | (apply AL_move; exact rfl; exact rfl) | (apply AL_assign; exact rfl; exact rfl) | (apply AL_bin; (iterate 5 exact rfl)) | (apply AL_load1 ttok; (iterate 6 exact rfl)) | (apply AL_fieldAddr ttok; (iterate 7 exact rfl)) | refine AL_nil ?_ | refine AW_region ?_ | refine AW_seq' ?_ | (apply AW_condB; exact rfl; (first | with_reducible assumption | decide +kernel | (guard_target =ₛ true = true; rfl) | (guard_target =ₛ false = false; rfl) | (guard_target =ₛ (!true) = false; rfl) | (guard_target =ₛ (!false) = true; rfl))) | refine then_norm ?_ | refine AW_exit ?_ | refine AW_ret ?_ | (apply AL_len ttok; (iterate 4 exact rfl)))
    all_goals (apply endQ []; (repeat (first | exact ResL.nil | (apply ResL.cons; first | exact .tmp _ _ rfl | (apply res_n ttok; (iterate 6 exact rfl)) | (apply res_1 ttok; (iterate 5 exact rfl))))); (iterate 4 exact rfl))
    all_goals rfl
end Go.Proofs.YtnihobjehelagaaDoor
end
/- CborBack: the law's walk. -/
section
open Go.RowKit Go.Pl Go.Av
namespace Go.Proofs.YtnihobjehelagaaDoor
set_option linter.unusedVariables false
set_option linter.unusedSimpArgs false
set_option maxHeartbeats 4000000
theorem short_put {x : It} (hw : wfI x) (hr : rightI x = true) : shortI (putI x) = true := by
  unfold shortI
  have h := read_put hw hr []
  rw [List.append_nil] at h
  rw [h]
  simp
theorem read_put00 {x : It} (hw : wfI x) (hr : rightI x = true) : readI (putI x) 0 = (x, (putI x).length, 0) := by
  have h := read_put0 hw hr []
  rw [List.append_nil] at h
  exact h
theorem right_deep {x : It} (hr : rightI x = true) : deepI x 6 = true := by
  rw [right_iff] at hr
  simp only [Bool.and_eq_true] at hr
  exact hr.1
theorem read_case (b : List UInt8) (hb : b.length < 4294967296) : (∃ e : Nat, e ≠ 0 ∧ readI b 0 = (.mk 0 0 [] [], 0, e) ∧ shortI b = false) ∨ (∃ (y : It) (n : Nat), readI b 0 = (y, n, 0) ∧ wfI y ∧ rightI y = true ∧ (putI y).length ≤ n ∧ n ≤ b.length) := by
  have e : readI b 0 = match itemS 6 256 b with
      | .error e => (.mk 0 0 [] [], 0, e)
      | .ok (x, r, _) => (x, b.length - r.length, 0) := by rw [readI, if_neg (by omega)]; rfl
  unfold shortI
  rw [e]
  cases hx : itemS 6 256 b with
  | error c => exact .inl ⟨c, item_err _ _ _ _ hx, rfl, rfl⟩
  | ok y =>
    obtain ⟨y, r, m1⟩ := y
    obtain ⟨hwk, hwf, pre, hpre, _, hlen⟩ := item_ok 6 (Nat.le_refl _) _ _ _ _ _ hx (by omega)
    have hle := hlen ⟨Nat.le_refl _, hb⟩
    have hpl := congrArg List.length hpre
    rw [List.length_append] at hpl
    refine .inr ⟨y, b.length - r.length, rfl, hwf, ?_, by omega, by omega⟩
    have hwk : walkI y 1 256 = some m1 := hwk
    unfold rightI; rw [hwk]; rfl
theorem av_cborBack [Known] [KnownU8] (x : It) (hx : nI x) (b : List UInt8) : AP Tryd.prog 3 [itD x, byE b] (.bool true) [] := by
  have hA := av_aliveC
  have hG := av_bigI x
  have hbl : (b.map E.byte).length = b.length := List.length_map ..
  cases hg : bigI x with
  | true =>
    rw [hg] at hG
    obtain ⟨k, n, b', l⟩ := x
    refine AP.ofA ?_
    refine AC_of Tryd.func3 rfl Tryd.ntmps3 rfl rfl ?_
    repeat' (first | (apply AL_callPw (hG); kernel_rfl; (iterate 4 exact rfl)) | (apply AL_callPw (hA); kernel_rfl; (iterate 4 exact rfl)) | (apply AL_move; exact rfl; exact rfl) | (apply AL_assign; exact rfl; exact rfl) | (apply AL_loadn ttok; (iterate 7 exact rfl)) | (apply AL_box; (iterate 5 exact rfl)) | refine AL_nil ?_ | (apply AL_guardFf; (iterate 3 exact rfl); (first | with_reducible assumption | decide +kernel | (guard_target =ₛ true = true; rfl) | (guard_target =ₛ false = false; rfl) | (guard_target =ₛ (!true) = false; rfl) | (guard_target =ₛ (!false) = true; rfl))) | (apply AL_pickT; exact rfl; (first | with_reducible assumption | decide +kernel | (guard_target =ₛ true = true; rfl) | (guard_target =ₛ false = false; rfl) | (guard_target =ₛ (!true) = false; rfl) | (guard_target =ₛ (!false) = true; rfl)); exact rfl; exact rfl) | refine AW_region ?_ | refine AW_seq' ?_ | (apply AW_condA; exact rfl; (first | with_reducible assumption | decide +kernel | (guard_target =ₛ true = true; rfl) | (guard_target =ₛ false = false; rfl) | (guard_target =ₛ (!true) = false; rfl) | (guard_target =ₛ (!false) = true; rfl))) | refine then_norm ?_ | refine AW_ret ?_ | refine then_ret ?_)
    all_goals (apply endQ []; (repeat (first | exact ResL.nil | (apply ResL.cons; first | exact .tmp _ _ rfl | (apply res_n ttok; (iterate 6 exact rfl)) | (apply res_1 ttok; (iterate 5 exact rfl))))); (iterate 4 exact rfl))
    all_goals rfl
  | false =>
    rw [hg] at hG
    by_cases hl : 2000 < b.length
    · have t1 : decide (((b.map E.byte).length : Int) > 2000) = true := by rw [hbl]; simp; omega
      obtain ⟨k, n, b', l⟩ := x
      refine AP.ofA ?_
      refine AC_of Tryd.func3 rfl Tryd.ntmps3 rfl rfl ?_
      repeat' (first | (apply AL_callPw (hG); kernel_rfl; (iterate 4 exact rfl)) | (apply AL_callPw (hA); kernel_rfl; (iterate 4 exact rfl)) | (apply AL_move; exact rfl; exact rfl) | (apply AL_assign; exact rfl; exact rfl) | (apply AL_bin; (iterate 5 exact rfl)) | (apply AL_loadn ttok; (iterate 7 exact rfl)) | (apply AL_box; (iterate 5 exact rfl)) | refine AL_nil ?_ | (apply AL_guardT; (iterate 3 exact rfl); (first | with_reducible assumption | decide +kernel | (guard_target =ₛ true = true; rfl) | (guard_target =ₛ false = false; rfl) | (guard_target =ₛ (!true) = false; rfl) | (guard_target =ₛ (!false) = true; rfl))) | (apply AL_pickF; exact rfl; (first | with_reducible assumption | decide +kernel | (guard_target =ₛ true = true; rfl) | (guard_target =ₛ false = false; rfl) | (guard_target =ₛ (!true) = false; rfl) | (guard_target =ₛ (!false) = true; rfl)); exact rfl; exact rfl) | refine AW_region ?_ | refine AW_seq' ?_ | (apply AW_condA; exact rfl; (first | with_reducible assumption | decide +kernel | (guard_target =ₛ true = true; rfl) | (guard_target =ₛ false = false; rfl) | (guard_target =ₛ (!true) = false; rfl) | (guard_target =ₛ (!false) = true; rfl))) | refine then_norm ?_ | refine AW_ret ?_ | refine then_ret ?_ | (apply AL_len ttok; (iterate 4 exact rfl)))
      all_goals (apply endQ []; (repeat (first | exact ResL.nil | (apply ResL.cons; first | exact .tmp _ _ rfl | (apply res_n ttok; (iterate 6 exact rfl)) | (apply res_1 ttok; (iterate 5 exact rfl))))); (iterate 4 exact rfl))
      all_goals rfl
    have t1 : decide (((b.map E.byte).length : Int) > 2000) = false := by rw [hbl]; simp; omega
    obtain ⟨hw, hlim, hdeep⟩ := bigI_no hg hx
    have hRb := av_readC b 0 (by omega)
    have hSb := av_shortestI b (by omega)
    have hAx := av_as x hw 10 (deepI_more x 9 11 hdeep (by omega)) (by omega)
    replace hAx : AP Tryd.prog _ [itD x, .int .i64 10] (itD x) [] := hAx
    have hSx := av_refSame x hw x hw
    rw [It.beq_iff.2 rfl] at hSx
    cases hr : rightI x with
    | false =>
      have hW := av_writeNo x hw (by omega) hr
      clear hAx hSx
      rcases read_case b (by omega) with ⟨e, he, hre, hsh⟩ | ⟨y, m, hre, hwy, hry, hpm, hmb⟩
      · rw [hre] at hRb
        rw [hsh] at hSb
        replace hRb : AP Tryd.prog _ [byE b, .int .i64 0] (.tup [itD (.mk 0 0 [] []), .int .i64 0, .int .i64 (e : Int)]) [] := hRb
        have te : ((e : Int) != 0) = true := by simp; omega
        obtain ⟨k, n, b', l⟩ := x
        refine AP.ofA ?_
        refine AC_of Tryd.func3 rfl Tryd.ntmps3 rfl rfl ?_
        repeat' (first | (apply AL_callPw (hG); kernel_rfl; (iterate 4 exact rfl)) | (apply AL_callPw (hA); kernel_rfl; (iterate 4 exact rfl)) | (apply AL_callPw (hW); kernel_rfl; (iterate 4 exact rfl)) | (apply AL_callPw (hRb); kernel_rfl; (iterate 4 exact rfl)) | (apply AL_callPw (hSb); kernel_rfl; (iterate 4 exact rfl)) | (apply AL_move; exact rfl; exact rfl) | (apply AL_assign; exact rfl; exact rfl) | (apply AL_bin; (iterate 5 exact rfl)) | (apply AL_loadn ttok; (iterate 7 exact rfl)) | (apply AL_box; (iterate 5 exact rfl)) | (apply AL_store ttok; (iterate 8 exact rfl)) | (apply AL_not; exact rfl; exact rfl) | (apply AL_extract; (iterate 3 exact rfl)) | refine AL_nil ?_ | (apply AL_guardT; (iterate 3 exact rfl); (first | with_reducible assumption | decide +kernel | (guard_target =ₛ true = true; rfl) | (guard_target =ₛ false = false; rfl) | (guard_target =ₛ (!true) = false; rfl) | (guard_target =ₛ (!false) = true; rfl))) | (apply AL_pickT; exact rfl; (first | with_reducible assumption | decide +kernel | (guard_target =ₛ true = true; rfl) | (guard_target =ₛ false = false; rfl) | (guard_target =ₛ (!true) = false; rfl) | (guard_target =ₛ (!false) = true; rfl)); exact rfl; exact rfl) | (apply AL_pickF; exact rfl; (first | with_reducible assumption | decide +kernel | (guard_target =ₛ true = true; rfl) | (guard_target =ₛ false = false; rfl) | (guard_target =ₛ (!true) = false; rfl) | (guard_target =ₛ (!false) = true; rfl)); exact rfl; exact rfl) | refine AW_region ?_ | refine AW_seq' ?_ | (apply AW_condA; exact rfl; (first | with_reducible assumption | decide +kernel | (guard_target =ₛ true = true; rfl) | (guard_target =ₛ false = false; rfl) | (guard_target =ₛ (!true) = false; rfl) | (guard_target =ₛ (!false) = true; rfl))) | (apply AW_condB; exact rfl; (first | with_reducible assumption | decide +kernel | (guard_target =ₛ true = true; rfl) | (guard_target =ₛ false = false; rfl) | (guard_target =ₛ (!true) = false; rfl) | (guard_target =ₛ (!false) = true; rfl))) | refine then_norm ?_ | refine AW_ret ?_ | refine then_ret ?_ | (apply AL_len ttok; (iterate 4 exact rfl)) | (apply AL_alloc ttok; (iterate 4 exact rfl)) | refine AW_skip ?_)
        all_goals (apply endQ []; (repeat (first | exact ResL.nil | (apply ResL.cons; first | exact .tmp _ _ rfl | (apply res_n ttok; (iterate 6 exact rfl)) | (apply res_1 ttok; (iterate 5 exact rfl))))); (iterate 4 exact rfl))
        all_goals rfl
      · rw [hre] at hRb
        have hWy := av_writeYes y hwy (by omega) hry
        have hRy := av_readC (putI y) 0 (by omega)
        rw [read_put00 hwy hry] at hRy
        have hSy := av_shortestI (putI y) (by omega)
        rw [short_put hwy hry] at hSy
        have hIy := av_rightI y hwy
        rw [hry] at hIy
        have hAy := av_as y hwy 10 (deepI_more y 6 11 (right_deep hry) (by omega)) (by omega)
        replace hAy : AP Tryd.prog _ [itD y, .int .i64 10] (itD y) [] := hAy
        have hTy := av_refSame y hwy y hwy
        rw [It.beq_iff.2 rfl] at hTy
        generalize putI y = Q at *
        have hQl : (Q.map E.byte).length = Q.length := List.length_map ..
        have t2 : decide (((Q.map E.byte).length : Int) ≤ (m : Int)) = true := decide_eq_true (by omega)
        have t3 : ((Q.length : Int) == ((Q.map E.byte).length : Int)) = true := by rw [hQl]; simp
        obtain ⟨k, n, b', l⟩ := x
        obtain ⟨k1, n1, b1, l1⟩ := y
        replace hRb : AP Tryd.prog _ [byE b, .int .i64 0] (.tup [itD (.mk k1 n1 b1 l1), .int .i64 (m : Int), .int .i64 0]) [] := hRb
        replace hRy : AP Tryd.prog _ [byE Q, .int .i64 0] (.tup [itD (.mk k1 n1 b1 l1), .int .i64 (Q.length : Int), .int .i64 0]) [] := hRy
        refine AP.ofA ?_
        refine AC_of Tryd.func3 rfl Tryd.ntmps3 rfl rfl ?_
        repeat' (first | (apply AL_callPw (hG); kernel_rfl; (iterate 4 exact rfl)) | (apply AL_callPw (hA); kernel_rfl; (iterate 4 exact rfl)) | (apply AL_callPw (hW); kernel_rfl; (iterate 4 exact rfl)) | (apply AL_callPw (hWy); kernel_rfl; (iterate 4 exact rfl)) | (apply AL_callPw (hRb); kernel_rfl; (iterate 4 exact rfl)) | (apply AL_callPw (hRy); kernel_rfl; (iterate 4 exact rfl)) | (apply AL_callPw (hSy); kernel_rfl; (iterate 4 exact rfl)) | (apply AL_callPw (hIy); kernel_rfl; (iterate 4 exact rfl)) | (apply AL_callPw (hAy); kernel_rfl; (iterate 4 exact rfl)) | (apply AL_callPw (hTy); kernel_rfl; (iterate 4 exact rfl)) | (apply AL_move; exact rfl; exact rfl) | (apply AL_assign; exact rfl; exact rfl) | (apply AL_bin; (iterate 5 exact rfl)) | (apply AL_loadn ttok; (iterate 7 exact rfl)) | (apply AL_box; (iterate 5 exact rfl)) | (apply AL_store ttok; (iterate 8 exact rfl)) | (apply AL_extract; (iterate 3 exact rfl)) | refine AL_nil ?_ | (apply AL_guardT; (iterate 3 exact rfl); (first | with_reducible assumption | decide +kernel | (guard_target =ₛ true = true; rfl) | (guard_target =ₛ false = false; rfl) | (guard_target =ₛ (!true) = false; rfl) | (guard_target =ₛ (!false) = true; rfl))) | (apply AL_pickT; exact rfl; (first | with_reducible assumption | decide +kernel | (guard_target =ₛ true = true; rfl) | (guard_target =ₛ false = false; rfl) | (guard_target =ₛ (!true) = false; rfl) | (guard_target =ₛ (!false) = true; rfl)); exact rfl; exact rfl) | (apply AL_pickF; exact rfl; (first | with_reducible assumption | decide +kernel | (guard_target =ₛ true = true; rfl) | (guard_target =ₛ false = false; rfl) | (guard_target =ₛ (!true) = false; rfl) | (guard_target =ₛ (!false) = true; rfl)); exact rfl; exact rfl) | refine AW_region ?_ | refine AW_seq' ?_ | (apply AW_condB; exact rfl; (first | with_reducible assumption | decide +kernel | (guard_target =ₛ true = true; rfl) | (guard_target =ₛ false = false; rfl) | (guard_target =ₛ (!true) = false; rfl) | (guard_target =ₛ (!false) = true; rfl))) | refine then_norm ?_ | refine AW_ret ?_ | (apply AL_len ttok; (iterate 4 exact rfl)) | (apply AL_alloc ttok; (iterate 4 exact rfl)) | (apply AW_drawM 33 hmix; (decide +kernel); (kernel_rfl); (kernel_rfl); exact rfl; exact rfl) | (apply AD_cons; (iterate 3 exact rfl)) | refine AD.nil _ | exact qp_ok rfl | refine AW_skip ?_)
        all_goals (apply endQ []; (repeat (first | exact ResL.nil | (apply ResL.cons; first | exact .tmp _ _ rfl | (apply res_n ttok; (iterate 6 exact rfl)) | (apply res_1 ttok; (iterate 5 exact rfl))))); (iterate 4 exact rfl))
        all_goals rfl
    | true =>
      have hW := av_writeYes x hw (by omega) hr
      have hRx := av_readC (putI x) 0 (by omega)
      rw [read_put00 hw hr] at hRx
      have hSP := av_shortestI (putI x) (by omega)
      rw [short_put hw hr] at hSP
      generalize putI x = P at *
      have hPl : (P.map E.byte).length = P.length := List.length_map ..
      have t4 : ((P.length : Int) != ((P.map E.byte).length : Int)) = false := by rw [hPl]; simp
      rcases read_case b (by omega) with ⟨e, he, hre, hsh⟩ | ⟨y, m, hre, hwy, hry, hpm, hmb⟩
      · rw [hre] at hRb
        rw [hsh] at hSb
        replace hRb : AP Tryd.prog _ [byE b, .int .i64 0] (.tup [itD (.mk 0 0 [] []), .int .i64 0, .int .i64 (e : Int)]) [] := hRb
        have te : ((e : Int) != 0) = true := by simp; omega
        obtain ⟨k, n, b', l⟩ := x
        replace hRx : AP Tryd.prog _ [byE P, .int .i64 0] (.tup [itD (.mk k n b' l), .int .i64 (P.length : Int), .int .i64 0]) [] := hRx
        refine AP.ofA ?_
        refine AC_of Tryd.func3 rfl Tryd.ntmps3 rfl rfl ?_
        repeat' (first | (apply AL_callPw (hG); kernel_rfl; (iterate 4 exact rfl)) | (apply AL_callPw (hA); kernel_rfl; (iterate 4 exact rfl)) | (apply AL_callPw (hW); kernel_rfl; (iterate 4 exact rfl)) | (apply AL_callPw (hRx); kernel_rfl; (iterate 4 exact rfl)) | (apply AL_callPw (hSP); kernel_rfl; (iterate 4 exact rfl)) | (apply AL_callPw (hAx); kernel_rfl; (iterate 4 exact rfl)) | (apply AL_callPw (hSx); kernel_rfl; (iterate 4 exact rfl)) | (apply AL_callPw (hRb); kernel_rfl; (iterate 4 exact rfl)) | (apply AL_callPw (hSb); kernel_rfl; (iterate 4 exact rfl)) | (apply AL_move; exact rfl; exact rfl) | (apply AL_assign; exact rfl; exact rfl) | (apply AL_bin; (iterate 5 exact rfl)) | (apply AL_loadn ttok; (iterate 7 exact rfl)) | (apply AL_box; (iterate 5 exact rfl)) | (apply AL_store ttok; (iterate 8 exact rfl)) | (apply AL_not; exact rfl; exact rfl) | (apply AL_extract; (iterate 3 exact rfl)) | refine AL_nil ?_ | (apply AL_guardT; (iterate 3 exact rfl); (first | with_reducible assumption | decide +kernel | (guard_target =ₛ true = true; rfl) | (guard_target =ₛ false = false; rfl) | (guard_target =ₛ (!true) = false; rfl) | (guard_target =ₛ (!false) = true; rfl))) | (apply AL_pickT; exact rfl; (first | with_reducible assumption | decide +kernel | (guard_target =ₛ true = true; rfl) | (guard_target =ₛ false = false; rfl) | (guard_target =ₛ (!true) = false; rfl) | (guard_target =ₛ (!false) = true; rfl)); exact rfl; exact rfl) | (apply AL_pickF; exact rfl; (first | with_reducible assumption | decide +kernel | (guard_target =ₛ true = true; rfl) | (guard_target =ₛ false = false; rfl) | (guard_target =ₛ (!true) = false; rfl) | (guard_target =ₛ (!false) = true; rfl)); exact rfl; exact rfl) | refine AW_region ?_ | refine AW_seq' ?_ | (apply AW_condA; exact rfl; (first | with_reducible assumption | decide +kernel | (guard_target =ₛ true = true; rfl) | (guard_target =ₛ false = false; rfl) | (guard_target =ₛ (!true) = false; rfl) | (guard_target =ₛ (!false) = true; rfl))) | (apply AW_condB; exact rfl; (first | with_reducible assumption | decide +kernel | (guard_target =ₛ true = true; rfl) | (guard_target =ₛ false = false; rfl) | (guard_target =ₛ (!true) = false; rfl) | (guard_target =ₛ (!false) = true; rfl))) | refine then_norm ?_ | refine AW_ret ?_ | refine then_ret ?_ | (apply AL_len ttok; (iterate 4 exact rfl)) | (apply AL_alloc ttok; (iterate 4 exact rfl)) | (apply AW_drawM 12 hmix; (decide +kernel); (kernel_rfl); (kernel_rfl); exact rfl; exact rfl) | (apply AD_cons; (iterate 3 exact rfl)) | refine AD.nil _ | exact qp_ok rfl | refine AW_skip ?_)
        all_goals (apply endQ []; (repeat (first | exact ResL.nil | (apply ResL.cons; first | exact .tmp _ _ rfl | (apply res_n ttok; (iterate 6 exact rfl)) | (apply res_1 ttok; (iterate 5 exact rfl))))); (iterate 4 exact rfl))
        all_goals rfl
      · rw [hre] at hRb
        have hWy := av_writeYes y hwy (by omega) hry
        have hRy := av_readC (putI y) 0 (by omega)
        rw [read_put00 hwy hry] at hRy
        have hSy := av_shortestI (putI y) (by omega)
        rw [short_put hwy hry] at hSy
        have hIy := av_rightI y hwy
        rw [hry] at hIy
        have hAy := av_as y hwy 10 (deepI_more y 6 11 (right_deep hry) (by omega)) (by omega)
        replace hAy : AP Tryd.prog _ [itD y, .int .i64 10] (itD y) [] := hAy
        have hTy := av_refSame y hwy y hwy
        rw [It.beq_iff.2 rfl] at hTy
        generalize putI y = Q at *
        have hQl : (Q.map E.byte).length = Q.length := List.length_map ..
        have t2 : decide (((Q.map E.byte).length : Int) ≤ (m : Int)) = true := decide_eq_true (by omega)
        have t3 : ((Q.length : Int) == ((Q.map E.byte).length : Int)) = true := by rw [hQl]; simp
        obtain ⟨k, n, b', l⟩ := x
        obtain ⟨k1, n1, b1, l1⟩ := y
        replace hRx : AP Tryd.prog _ [byE P, .int .i64 0] (.tup [itD (.mk k n b' l), .int .i64 (P.length : Int), .int .i64 0]) [] := hRx
        replace hRb : AP Tryd.prog _ [byE b, .int .i64 0] (.tup [itD (.mk k1 n1 b1 l1), .int .i64 (m : Int), .int .i64 0]) [] := hRb
        replace hRy : AP Tryd.prog _ [byE Q, .int .i64 0] (.tup [itD (.mk k1 n1 b1 l1), .int .i64 (Q.length : Int), .int .i64 0]) [] := hRy
        refine AP.ofA ?_
        refine AC_of Tryd.func3 rfl Tryd.ntmps3 rfl rfl ?_
        repeat' (first | (apply AL_callPw (hG); kernel_rfl; (iterate 4 exact rfl)) | (apply AL_callPw (hA); kernel_rfl; (iterate 4 exact rfl)) | (apply AL_callPw (hW); kernel_rfl; (iterate 4 exact rfl)) | (apply AL_callPw (hWy); kernel_rfl; (iterate 4 exact rfl)) | (apply AL_callPw (hRx); kernel_rfl; (iterate 4 exact rfl)) | (apply AL_callPw (hRb); kernel_rfl; (iterate 4 exact rfl)) | (apply AL_callPw (hRy); kernel_rfl; (iterate 4 exact rfl)) | (apply AL_callPw (hSP); kernel_rfl; (iterate 4 exact rfl)) | (apply AL_callPw (hSy); kernel_rfl; (iterate 4 exact rfl)) | (apply AL_callPw (hIy); kernel_rfl; (iterate 4 exact rfl)) | (apply AL_callPw (hAx); kernel_rfl; (iterate 4 exact rfl)) | (apply AL_callPw (hSx); kernel_rfl; (iterate 4 exact rfl)) | (apply AL_callPw (hAy); kernel_rfl; (iterate 4 exact rfl)) | (apply AL_callPw (hTy); kernel_rfl; (iterate 4 exact rfl)) | (apply AL_move; exact rfl; exact rfl) | (apply AL_assign; exact rfl; exact rfl) | (apply AL_bin; (iterate 5 exact rfl)) | (apply AL_loadn ttok; (iterate 7 exact rfl)) | (apply AL_box; (iterate 5 exact rfl)) | (apply AL_store ttok; (iterate 8 exact rfl)) | (apply AL_not; exact rfl; exact rfl) | (apply AL_extract; (iterate 3 exact rfl)) | refine AL_nil ?_ | (apply AL_guardT; (iterate 3 exact rfl); (first | with_reducible assumption | decide +kernel | (guard_target =ₛ true = true; rfl) | (guard_target =ₛ false = false; rfl) | (guard_target =ₛ (!true) = false; rfl) | (guard_target =ₛ (!false) = true; rfl))) | (apply AL_pickT; exact rfl; (first | with_reducible assumption | decide +kernel | (guard_target =ₛ true = true; rfl) | (guard_target =ₛ false = false; rfl) | (guard_target =ₛ (!true) = false; rfl) | (guard_target =ₛ (!false) = true; rfl)); exact rfl; exact rfl) | (apply AL_pickF; exact rfl; (first | with_reducible assumption | decide +kernel | (guard_target =ₛ true = true; rfl) | (guard_target =ₛ false = false; rfl) | (guard_target =ₛ (!true) = false; rfl) | (guard_target =ₛ (!false) = true; rfl)); exact rfl; exact rfl) | refine AW_region ?_ | refine AW_seq' ?_ | (apply AW_condA; exact rfl; (first | with_reducible assumption | decide +kernel | (guard_target =ₛ true = true; rfl) | (guard_target =ₛ false = false; rfl) | (guard_target =ₛ (!true) = false; rfl) | (guard_target =ₛ (!false) = true; rfl))) | (apply AW_condB; exact rfl; (first | with_reducible assumption | decide +kernel | (guard_target =ₛ true = true; rfl) | (guard_target =ₛ false = false; rfl) | (guard_target =ₛ (!true) = false; rfl) | (guard_target =ₛ (!false) = true; rfl))) | refine then_norm ?_ | refine AW_ret ?_ | (apply AL_len ttok; (iterate 4 exact rfl)) | (apply AL_alloc ttok; (iterate 4 exact rfl)) | (apply AW_drawM 12 hmix; (decide +kernel); (kernel_rfl); (kernel_rfl); exact rfl; exact rfl) | (apply AW_drawM 33 hmix; (decide +kernel); (kernel_rfl); (kernel_rfl); exact rfl; exact rfl) | (apply AD_cons; (iterate 3 exact rfl)) | refine AD.nil _ | exact qp_ok rfl | refine AW_skip ?_)
        all_goals (apply endQ []; (repeat (first | exact ResL.nil | (apply ResL.cons; first | exact .tmp _ _ rfl | (apply res_n ttok; (iterate 6 exact rfl)) | (apply res_1 ttok; (iterate 5 exact rfl))))); (iterate 4 exact rfl))
        all_goals rfl
end Go.Proofs.YtnihobjehelagaaDoor
end
/- CborBack: the walk, from the row's arguments. -/
section
open Go.RowKit Go.Pl Go.Av
namespace Go.Proofs.YtnihobjehelagaaDoor
set_option linter.unusedVariables false
theorem cborBack_walk (cs : List Value) (v1 : Value) (x : It) (b : List UInt8) (W : World) (hx : ∃ m, (RI m).1.ok W (· < W.heap.size) cs x) (hs : Sl Rep.byte W (· < W.heap.size) v1 b) (hl : laidMet Tryd.prog Rows.cborBackRow.laid W) :
    Calls Tryd.prog 3 #[.agg ⟨cs⟩, v1] W fun e w' => e = .returned (.bool true) ∧ Below W.heap.size W w' := by
  obtain ⟨m, hx⟩ := hx
  have hg := gls_u8 (laid := Rows.cborBackRow.laid) (List.mem_cons_of_mem _ (List.mem_cons_self ..)) (List.mem_cons_self ..) hl
  have h := @av_cborBack knownU8 knownU8_ok x (item_nI m hx) b
  refine @topG knownU8 Tryd.prog 3 _ (@AC.mono knownU8 _ _ _ _ _ _ _ h fun r b t h => h.1) W [.agg ⟨cs⟩, v1] hg rfl ?_
  intro j d v hd hv
  match j, hd, hv with
  | 0, hd, hv => cases hd; cases hv; exact item_V hx
  | 1, hd, hv => cases hd; cases hv; exact bytes_V hs
  | j + 2, hd, hv => cases hd
end Go.Proofs.YtnihobjehelagaaDoor
end
