/- Items as the document's; which of these are equal. -/
import Derived.Test.YtnihobjehelagaaDoorG11
import Derived.Test.YtnihobjehelagaaDoorG06
import Derived.Test.YtnihobjehelagaaDoorG09
import Derived.Test.YtnihobjehelagaaDoorG10
section
open Go.RowKit Go.Pl Go.Av
namespace Go.Proofs.YtnihobjehelagaaDoor
set_option linter.unusedVariables false
set_option linter.unusedSimpArgs false
set_option maxHeartbeats 4000000
theorem deeps_mem : ∀ {l : List It} {d : Nat}, deeps l d = true → ∀ y ∈ l, deepI y d = true
  | x :: l, d, h, y, hy => by
    rw [deeps, Bool.and_eq_true] at h
    rcases List.mem_cons.1 hy with rfl | hy
    · exact h.1
    · exact deeps_mem h.2 y hy
theorem deepI_pos {x : It} {d : Nat} (h : deepI x d = true) : 0 < d := by
  obtain ⟨k, n, b, l⟩ := x
  cases d with
  | zero => rw [deepI] at h; cases h
  | succ d => omega
/-- an item that is not too deep, as the document's: its cells hold the same -/
theorem av_as [Known] : ∀ (x : It), wfI x → ∀ d : Nat, deepI x (d + 1) = true → d ≤ 100 → AP Tryd.prog 19 [itD x, .int .i64 (d : Int)] (itD x) [] := by
  refine It.ind fun k n b l ih hw d hd hd' => ?_
  obtain ⟨hn, hb, hl, hws⟩ := hw
  rw [deepI] at hd
  have ih' : ∀ y ∈ l, AP Tryd.prog 19 [itD y, .int .i64 ((d - 1 : Nat) : Int)] (itD y) [] := fun y hy => by
    have h1 := deeps_mem hd y hy
    have h2 := deepI_pos h1
    exact ih y hy (wfs_mem hws y hy) (d - 1) (by rw [show d - 1 + 1 = d by omega]; exact h1) (by omega)
  clear ih
  have hlen := itEs_len l
  refine AP.ofA ?_
  refine AC_of Tryd.func19 rfl Tryd.ntmps19 rfl rfl ?_
  repeat' (first | (apply AL_assign; exact rfl; exact rfl) | (apply AL_load1 ttok; (iterate 6 exact rfl)) | (apply AL_fieldAddr ttok; (iterate 7 exact rfl)) | (apply AL_boxZ; (iterate 5 exact rfl)) | (apply AL_store ttok; (iterate 8 exact rfl)) | refine AL_nil ?_ | refine AW_region ?_ | refine AW_seq' ?_ | refine then_norm ?_ | refine AW_block ?_ | (apply AL_build ttok; (iterate 6 exact rfl)) | (apply AL_allocZ ttok; (iterate 4 exact rfl)))
  refine AW_loopJ (fun k' tm bx fr => ∃ (i c : Nat) (L : List E), k' + i = l.length ∧ c = L.length ∧ L = itEs (l.take i) ∧ tm = [(1, .int .i64 (d : Int)), (2, .ptr 0 0), (4, .ptr 1 0), (5, .ptr 2 0), (6, .int .i64 (i : Int))] ∧
    ((i = 0 ∧ bx = [itC k n b l, [.int .i64 0, .int .u64 0, .sl .nil [], .sl .nil []], [.int .i64 k, .int .u64 (n : Int), byE b, .sl .nil []]] ∧ fr = []) ∨
    (bx = [itC k n b l, [.int .i64 0, .int .u64 0, .sl .nil [], .sl .nil []], [.int .i64 k, .int .u64 (n : Int), byE b, .sl (.own 0) L]] ∧ fr = [⟨c, 4, 37⟩]))) (l.length + 1) (Lands.mk' (m := l.length) (Nat.lt_succ_self _) ⟨0, 0, [], rfl, rfl, rfl, rfl, .inl ⟨rfl, rfl, rfl⟩⟩ ?_ rfl rfl rfl rfl rfl rfl) ?_
  · exact .cons rfl (.cons rfl (.cons rfl (.cons rfl (.cons rfl .nil))))
  rintro k' tm bx fr ⟨i, c, L, hi, hc, hL, rfl, ⟨rfl, rfl, rfl⟩ | ⟨rfl, rfl⟩⟩
  · cases l with
    | nil =>
      repeat' (first | (apply AL_move; exact rfl; exact rfl) | (apply AL_bin; (iterate 5 exact rfl)) | (apply AL_load1 ttok; (iterate 6 exact rfl)) | (apply AL_loadn ttok; (iterate 7 exact rfl)) | (apply AL_fieldAddr ttok; (iterate 7 exact rfl)) | (apply AL_store ttok; (iterate 8 exact rfl)) | refine AL_nil ?_ | (apply AL_guardFt; (iterate 3 exact rfl); (first | with_reducible assumption | decide +kernel)) | (apply AL_pickF; exact rfl; (first | with_reducible assumption | decide +kernel); exact rfl; exact rfl) | refine AW_region ?_ | refine AW_seq' ?_ | (apply AW_condB; exact rfl; (first | with_reducible assumption | decide +kernel)) | refine then_norm ?_ | refine AW_exit ?_ | refine AW_ret ?_ | (apply AL_len ttok; (iterate 4 exact rfl)))
      all_goals (apply endQ []; (repeat (first | exact ResL.nil | (apply ResL.cons; first | exact .tmp _ _ rfl | (apply res_n ttok; (iterate 6 exact rfl)) | (apply res_1 ttok; (iterate 5 exact rfl))))); (iterate 4 exact rfl))
      all_goals rfl
    | cons y l =>
      have hc := ih' y (List.mem_cons_self ..)
      have hU := uniI (y :: l)
      have hd1 : decide (((0 : Nat) : Int) < ((itEs (y :: l)).length : Int)) = true := decide_eq_true (by rw [itEs]; simp)
      have hp := deepI_pos (deeps_mem hd y (List.mem_cons_self ..))
      have hd2 : decide ((d : Int) > 0) = true := decide_eq_true (by omega)
      have ed : IntKind.i64.wrap ((d : Int) - 1) = ((d - 1 : Nat) : Int) := by rw [IntWalk.i64_in _ (by omega)]; omega
      obtain ⟨k1, n1, b1, l1⟩ := y
      repeat' (first | (apply AL_callPw (hc); kernel_rfl; (iterate 4 exact rfl)) | rw [ed] | (apply AL_append_nilZ ttok; (iterate 6 exact rfl); exact uniB_ok rfl; exact List.cons_ne_nil _ _; exact rfl; decide +kernel; decide +kernel; (iterate 3 exact rfl)) | (apply AL_move; exact rfl; exact rfl) | (apply AL_assign; exact rfl; exact rfl) | (apply AL_bin; (iterate 5 exact rfl)) | (apply AL_load1 ttok; (iterate 6 exact rfl)) | (apply AL_fieldAddr ttok; (iterate 7 exact rfl)) | (apply AL_store ttok; (iterate 8 exact rfl)) | refine AL_nil ?_ | (apply AL_guardT; (iterate 3 exact rfl); (first | with_reducible assumption | decide +kernel)) | (apply AL_pickT; exact rfl; (first | with_reducible assumption | decide +kernel); exact rfl; exact rfl) | refine AW_region ?_ | refine AW_seq' ?_ | (apply AW_condA; exact rfl; (first | with_reducible assumption | decide +kernel)) | refine then_norm ?_ | refine AW_block ?_ | (apply AL_len ttok; (iterate 4 exact rfl)) | (apply AL_eloadn ttok; (iterate 6 exact rfl)) | (apply AL_bsZ ttok; (iterate 12 exact rfl)) | (apply AW_drawE 11 hmix; (decide +kernel); (kernel_rfl); (kernel_rfl); (kernel_rfl); exact rfl; exact rfl) | (apply AE_consZ; (iterate 4 exact rfl)) | exact AE.nil _ _ _ _ | (apply AEk_puT; exact rfl) | (apply AOt_mk; exact rfl; exact rfl; (decide +kernel); exact rfl) | (apply AO_puT; exact rfl) | exact AO.nil _ _ _ | (apply AOs_skip; (decide +kernel)) | exact AOs.nil | exact qY_ok rfl rfl | exact qY_wk rfl rfl rfl rfl rfl | refine AW_skip ?_ | (apply AL_idx ttok; (iterate 6 exact rfl); (first | with_reducible assumption | decide +kernel | exact Int.natCast_nonneg _ | (guard_target = (0:Int) ≤ (OfNat.ofNat _ : Int); decide) | rotate_left); (first | with_reducible assumption | decide +kernel | exact rfl); (first | exact uniB_ok rfl | with_reducible assumption | decide +kernel | rotate_left)))
      refine Lands.mk' (m := k' - 1) (by simp at hi; omega) ⟨1, 1, itEs [It.mk k1 n1 b1 l1], by simp at hi ⊢; omega, rfl, rfl, rfl, .inr ⟨rfl, rfl⟩⟩ ?_ rfl rfl rfl rfl rfl rfl
      exact .cons rfl (.cons rfl (.cons rfl (.cons rfl (.cons rfl .nil))))
  · have hU := uniI l
    have hU2 : Uni 4 L := hL ▸ uniI (l.take i)
    have el := itEs_len (l.take i)
    rw [← hL] at el
    subst hc
    rcases Nat.lt_or_ge i l.length with hlt | hge
    · have hd1 : decide ((i : Int) < ((itEs l).length : Int)) = true := decide_eq_true (by omega)
      obtain ⟨⟨k1, n1, b1, l1⟩, hy⟩ : ∃ y, l[i]? = some y := ⟨_, List.getElem?_eq_getElem hlt⟩
      have hv : (itEs l)[((i : Nat) : Int).toNat]? = some (.agg [.int .i64 k1, .int .u64 (n1 : Int), .sl (b1.map E.byte), .sl (itEs l1)]) := by
        rw [Int.toNat_natCast, itEs_map, List.getElem?_map, hy]; rfl
      have hc := ih' _ (List.mem_of_getElem? hy)
      have hp := deepI_pos (deeps_mem hd _ (List.mem_of_getElem? hy))
      have hd2 : decide ((d : Int) > 0) = true := decide_eq_true (by omega)
      have ed : IntKind.i64.wrap ((d : Int) - 1) = ((d - 1 : Nat) : Int) := by rw [IntWalk.i64_in _ (by omega)]; omega
      have ei : IntKind.i64.wrap ((i : Int) + 1) = ((i + 1 : Nat) : Int) := by rw [IntWalk.i64_in _ (by omega)]; omega
      have hs : L ++ [E.agg [.int .i64 k1, .int .u64 (n1 : Int), .sl (b1.map E.byte), .sl (itEs l1)]] = itEs (l.take (i + 1)) := by
        rw [hL, List.take_add_one, hy]; exact (itEs_app _ [It.mk k1 n1 b1 l1]).symm
      rw [List.length_take] at el
      repeat' (first | (apply AL_callPw (hc); kernel_rfl; (iterate 4 exact rfl)) | rw [ei] | rw [ed] | (apply AL_move; exact rfl; exact rfl) | (apply AL_assign; exact rfl; exact rfl) | (apply AL_bin; (iterate 5 exact rfl)) | (apply AL_load1 ttok; (iterate 6 exact rfl)) | (apply AL_fieldAddr ttok; (iterate 7 exact rfl)) | (apply AL_store ttok; (iterate 8 exact rfl)) | refine AL_nil ?_ | (apply AL_guardT; (iterate 3 exact rfl); (first | with_reducible assumption | decide +kernel)) | (apply AL_pickT; exact rfl; (first | with_reducible assumption | decide +kernel); exact rfl; exact rfl) | refine AW_region ?_ | refine AW_seq' ?_ | (apply AW_condA; exact rfl; (first | with_reducible assumption | decide +kernel)) | refine then_norm ?_ | refine AW_block ?_ | (apply AL_len ttok; (iterate 4 exact rfl)) | (apply AL_eloadn ttok; (iterate 6 exact rfl)) | (apply AL_bsZ ttok; (iterate 12 exact rfl)) | (apply AW_drawE 11 hmix; (decide +kernel); (kernel_rfl); (kernel_rfl); (kernel_rfl); exact rfl; exact rfl) | (apply AE_consZ; (iterate 4 exact rfl)) | exact AE.nil _ _ _ _ | (apply AEk_puT; exact rfl) | (apply AOt_mk; exact rfl; exact rfl; (decide +kernel); exact rfl) | (apply AO_puT; exact rfl) | exact AO.nil _ _ _ | (apply AOs_skip; (decide +kernel)) | exact AOs.nil | exact qY_ok rfl rfl | exact qY_wk rfl rfl rfl rfl rfl | refine AW_skip ?_ | (apply AL_append ttok; (iterate 6 exact rfl); (first | with_reducible assumption | decide +kernel | exact rfl | rotate_left); exact rfl; exact rfl; (first | exact uniB_ok rfl | with_reducible assumption | decide +kernel | rotate_left); (first | exact uniB_ok rfl | with_reducible assumption | decide +kernel | rotate_left); (first | exact List.cons_ne_nil _ _ | with_reducible assumption | decide +kernel | rotate_left); (first | with_reducible assumption | decide +kernel | rotate_left); (first | with_reducible assumption | decide +kernel | rotate_left); exact rfl; exact rfl) | (apply AL_idx ttok; (iterate 6 exact rfl); (first | with_reducible assumption | decide +kernel | exact Int.natCast_nonneg _ | (guard_target = (0:Int) ≤ (OfNat.ofNat _ : Int); decide) | rotate_left); (first | with_reducible assumption | decide +kernel | exact rfl); (first | exact uniB_ok rfl | with_reducible assumption | decide +kernel | rotate_left)))
      · refine Lands.mk' (m := k' - 1) (by omega) ⟨i + 1, L.length + 1, _, by omega, by rw [List.length_append]; rfl, hs, rfl, .inr ⟨rfl, rfl⟩⟩ ?_ rfl rfl rfl rfl rfl rfl
        exact .cons rfl (.cons rfl (.cons rfl (.cons rfl (.cons rfl .nil))))
      all_goals (first | rfl | (simp only [List.length_append, List.length_cons, List.length_nil, List.length_map, itEs_len]; done) | (simp only [List.length_append, List.length_cons, List.length_nil, List.length_map, itEs_len] at *; (try unfold maxLen); (try simp only [Nat.add_mul]); omega))
    · have hd1 : decide ((i : Int) < ((itEs l).length : Int)) = false := decide_eq_false (by omega)
      rw [List.take_of_length_le hge] at hL
      subst hL
      repeat' (first | (apply AL_move; exact rfl; exact rfl) | (apply AL_bin; (iterate 5 exact rfl)) | (apply AL_load1 ttok; (iterate 6 exact rfl)) | (apply AL_loadn ttok; (iterate 7 exact rfl)) | (apply AL_fieldAddr ttok; (iterate 7 exact rfl)) | (apply AL_store ttok; (iterate 8 exact rfl)) | refine AL_nil ?_ | (apply AL_guardFt; (iterate 3 exact rfl); (first | with_reducible assumption | decide +kernel)) | (apply AL_pickF; exact rfl; (first | with_reducible assumption | decide +kernel); exact rfl; exact rfl) | refine AW_region ?_ | refine AW_seq' ?_ | (apply AW_condB; exact rfl; (first | with_reducible assumption | decide +kernel)) | refine then_norm ?_ | refine AW_exit ?_ | refine AW_ret ?_ | (apply AL_len ttok; (iterate 4 exact rfl)))
      all_goals (apply endQ []; (repeat (first | exact ResL.nil | (apply ResL.cons; first | exact .tmp _ _ rfl | (apply res_n ttok; (iterate 6 exact rfl)) | (apply res_1 ttok; (iterate 5 exact rfl))))); (iterate 4 exact rfl))
      all_goals rfl
theorem beqs_ne {l l' : List It} (h : l.length ≠ l'.length) : It.beqs l l' = false := by
  rw [← Bool.not_eq_true]
  intro e
  exact h (congrArg List.length (It.beqs_iff.1 e))
theorem av_refSame [Known] : ∀ (x : It), wfI x → ∀ y : It, wfI y → AP Tryd.prog 18 [itD x, itD y] (.bool (It.beq x y)) [] := by
  refine It.ind fun k n b l ih hw y hw' => ?_
  obtain ⟨k', n', b', l'⟩ := y
  obtain ⟨_, _, hl, hws⟩ := hw
  obtain ⟨_, _, hl', hws'⟩ := hw'
  have e1 := itEs_len l
  have e2 := itEs_len l'
  rw [It.beq]
  by_cases h1 : k = k'
  case neg =>
    have t1 : (k != k') = true := by simpa using h1
    have tt : ((k == k') && ((n == n') && ((b == b') && It.beqs l l'))) = false := by simp [h1]
    rw [tt]
    refine AP.ofA ?_
    refine AC_of Tryd.func18 rfl Tryd.ntmps18 rfl rfl ?_
    repeat' (first | (apply AL_move; exact rfl; exact rfl) | (apply AL_assign; exact rfl; exact rfl) | (apply AL_bin; (iterate 5 exact rfl)) | (apply AL_load1 ttok; (iterate 6 exact rfl)) | (apply AL_fieldAddr ttok; (iterate 7 exact rfl)) | (apply AL_box; (iterate 5 exact rfl)) | refine AL_nil ?_ | (apply AL_guardFf; (iterate 3 exact rfl); (first | with_reducible assumption | decide +kernel)) | (apply AL_pickT; exact rfl; (first | with_reducible assumption | decide +kernel); exact rfl; exact rfl) | refine AW_region ?_ | refine AW_seq' ?_ | (apply AW_condA; exact rfl; (first | with_reducible assumption | decide +kernel)) | refine then_norm ?_ | refine AW_ret ?_ | refine then_ret ?_)
    all_goals (apply endQ []; (repeat (first | exact ResL.nil | (apply ResL.cons; first | exact .tmp _ _ rfl | (apply res_n ttok; (iterate 6 exact rfl)) | (apply res_1 ttok; (iterate 5 exact rfl))))); (iterate 4 exact rfl))
    all_goals rfl
  have t1 : (k != k') = false := by simpa using h1
  by_cases h2 : n = n'
  case neg =>
    have t2 : ((n : Int) != (n' : Int)) = true := by simp; omega
    have tt : ((k == k') && ((n == n') && ((b == b') && It.beqs l l'))) = false := by simp [h2]
    rw [tt]
    refine AP.ofA ?_
    refine AC_of Tryd.func18 rfl Tryd.ntmps18 rfl rfl ?_
    repeat' (first | (apply AL_move; exact rfl; exact rfl) | (apply AL_assign; exact rfl; exact rfl) | (apply AL_bin; (iterate 5 exact rfl)) | (apply AL_load1 ttok; (iterate 6 exact rfl)) | (apply AL_fieldAddr ttok; (iterate 7 exact rfl)) | (apply AL_box; (iterate 5 exact rfl)) | refine AL_nil ?_ | (apply AL_guardT; (iterate 3 exact rfl); (first | with_reducible assumption | decide +kernel)) | (apply AL_guardFf; (iterate 3 exact rfl); (first | with_reducible assumption | decide +kernel)) | (apply AL_pickT; exact rfl; (first | with_reducible assumption | decide +kernel); exact rfl; exact rfl) | (apply AL_pickF; exact rfl; (first | with_reducible assumption | decide +kernel); exact rfl; exact rfl) | refine AW_region ?_ | refine AW_seq' ?_ | (apply AW_condA; exact rfl; (first | with_reducible assumption | decide +kernel)) | refine then_norm ?_ | refine AW_ret ?_ | refine then_ret ?_)
    all_goals (apply endQ []; (repeat (first | exact ResL.nil | (apply ResL.cons; first | exact .tmp _ _ rfl | (apply res_n ttok; (iterate 6 exact rfl)) | (apply res_1 ttok; (iterate 5 exact rfl))))); (iterate 4 exact rfl))
    all_goals rfl
  have t2 : ((n : Int) != (n' : Int)) = false := by simp; omega
  by_cases h3 : b = b'
  case neg =>
    have t3 : (b != b') = true := by simpa using h3
    have tt : ((k == k') && ((n == n') && ((b == b') && It.beqs l l'))) = false := by simp [h3]
    rw [tt]
    refine AP.ofA ?_
    refine AC_of Tryd.func18 rfl Tryd.ntmps18 rfl rfl ?_
    repeat' (first | (apply AL_move; exact rfl; exact rfl) | (apply AL_assign; exact rfl; exact rfl) | (apply AL_bin; (iterate 5 exact rfl)) | (apply AL_load1 ttok; (iterate 6 exact rfl)) | (apply AL_fieldAddr ttok; (iterate 7 exact rfl)) | (apply AL_box; (iterate 5 exact rfl)) | refine AL_nil ?_ | (apply AL_guardT; (iterate 3 exact rfl); (first | with_reducible assumption | decide +kernel)) | (apply AL_guardFf; (iterate 3 exact rfl); (first | with_reducible assumption | decide +kernel)) | (apply AL_pickT; exact rfl; (first | with_reducible assumption | decide +kernel); exact rfl; exact rfl) | (apply AL_pickF; exact rfl; (first | with_reducible assumption | decide +kernel); exact rfl; exact rfl) | refine AW_region ?_ | refine AW_seq' ?_ | (apply AW_condA; exact rfl; (first | with_reducible assumption | decide +kernel)) | refine then_norm ?_ | refine AW_ret ?_ | refine then_ret ?_ | (apply AL_str; (iterate 5 exact rfl)) | (apply AL_b2s ttok; (iterate 9 exact rfl)))
    all_goals (apply endQ []; (repeat (first | exact ResL.nil | (apply ResL.cons; first | exact .tmp _ _ rfl | (apply res_n ttok; (iterate 6 exact rfl)) | (apply res_1 ttok; (iterate 5 exact rfl))))); (iterate 4 exact rfl))
    all_goals rfl
  have t3 : (b != b') = false := by simpa using h3
  have e : ((k == k') && ((n == n') && ((b == b') && It.beqs l l'))) = It.beqs l l' := by simp [h1, h2, h3]
  rw [e]
  by_cases hne : l.length = l'.length
  case neg =>
    have t4 : (((itEs l).length : Int) != ((itEs l').length : Int)) = true := by rw [e1, e2]; simp; omega
    rw [beqs_ne hne]
    refine AP.ofA ?_
    refine AC_of Tryd.func18 rfl Tryd.ntmps18 rfl rfl ?_
    repeat' (first | (apply AL_move; exact rfl; exact rfl) | (apply AL_assign; exact rfl; exact rfl) | (apply AL_bin; (iterate 5 exact rfl)) | (apply AL_load1 ttok; (iterate 6 exact rfl)) | (apply AL_fieldAddr ttok; (iterate 7 exact rfl)) | (apply AL_box; (iterate 5 exact rfl)) | refine AL_nil ?_ | (apply AL_guardT; (iterate 3 exact rfl); (first | with_reducible assumption | decide +kernel)) | (apply AL_pickF; exact rfl; (first | with_reducible assumption | decide +kernel); exact rfl; exact rfl) | refine AW_region ?_ | refine AW_seq' ?_ | (apply AW_condA; exact rfl; (first | with_reducible assumption | decide +kernel)) | refine then_norm ?_ | refine AW_ret ?_ | refine then_ret ?_ | (apply AL_len ttok; (iterate 4 exact rfl)) | (apply AL_str; (iterate 5 exact rfl)) | (apply AL_b2s ttok; (iterate 9 exact rfl)))
    all_goals (apply endQ []; (repeat (first | exact ResL.nil | (apply ResL.cons; first | exact .tmp _ _ rfl | (apply res_n ttok; (iterate 6 exact rfl)) | (apply res_1 ttok; (iterate 5 exact rfl))))); (iterate 4 exact rfl))
    all_goals rfl
  have t4 : (((itEs l).length : Int) != ((itEs l').length : Int)) = false := by rw [e1, e2, hne]; simp
  generalize hfin : It.beqs l l' = fin
  have ih' : ∀ y ∈ l, ∀ y' ∈ l', AP Tryd.prog 18 [itD y, itD y'] (.bool (It.beq y y')) [] := fun y hy y' hy' => ih y hy (wfs_mem hws y hy) y' (wfs_mem hws' y' hy')
  clear ih e h1 h2 h3
  refine AP.ofA ?_
  refine AC_of Tryd.func18 rfl Tryd.ntmps18 rfl rfl ?_
  repeat' (first | (apply AL_move; exact rfl; exact rfl) | (apply AL_assign; exact rfl; exact rfl) | (apply AL_bin; (iterate 5 exact rfl)) | (apply AL_load1 ttok; (iterate 6 exact rfl)) | (apply AL_fieldAddr ttok; (iterate 7 exact rfl)) | (apply AL_box; (iterate 5 exact rfl)) | refine AL_nil ?_ | (apply AL_guardT; (iterate 3 exact rfl); (first | with_reducible assumption | decide +kernel)) | (apply AL_pickF; exact rfl; (first | with_reducible assumption | decide +kernel); exact rfl; exact rfl) | refine AW_region ?_ | refine AW_seq' ?_ | (apply AW_condB; exact rfl; (first | with_reducible assumption | decide +kernel)) | refine then_norm ?_ | refine AW_block ?_ | (apply AL_len ttok; (iterate 4 exact rfl)) | (apply AL_str; (iterate 5 exact rfl)) | refine AW_skip ?_ | (apply AL_b2s ttok; (iterate 9 exact rfl)))
  refine AW_loopJ (fun f tm bx fr => ∃ i : Nat, f + i = l.length ∧ It.beqs (l.drop i) (l'.drop i) = fin ∧ tm = [(2, .ptr 0 0), (3, .ptr 1 0), (5, .int .i64 (i : Int)), (4, .bool false)] ∧ bx = [itC k n b l, itC k' n' b' l'] ∧ fr = []) (l.length + 1) (Lands.mk' (m := l.length) (Nat.lt_succ_self _) ⟨0, rfl, hfin, rfl, rfl, rfl⟩ ?_ rfl rfl rfl rfl rfl rfl) ?_
  · exact .cons rfl (.cons rfl (.cons rfl (.cons rfl .nil)))
  rintro f tm bx fr ⟨i, hf, hfin, rfl, rfl, rfl⟩
  have hU := uniI l
  have hU' := uniI l'
  rcases Nat.lt_or_ge i l.length with hlt | hge
  · have hdl : decide ((i : Int) < ((itEs l).length : Int)) = true := decide_eq_true (by omega)
    obtain ⟨⟨k1, n1, b1, l1⟩, hy⟩ : ∃ y, l[i]? = some y := ⟨_, List.getElem?_eq_getElem hlt⟩
    obtain ⟨⟨k2, n2, b2, l2⟩, hy'⟩ : ∃ y, l'[i]? = some y := ⟨_, List.getElem?_eq_getElem (by omega)⟩
    have hv : (itEs l)[((i : Nat) : Int).toNat]? = some (.agg [.int .i64 k1, .int .u64 (n1 : Int), .sl (b1.map E.byte), .sl (itEs l1)]) := by
      rw [Int.toNat_natCast, itEs_map, List.getElem?_map, hy]; rfl
    have hv' : (itEs l')[((i : Nat) : Int).toNat]? = some (.agg [.int .i64 k2, .int .u64 (n2 : Int), .sl (b2.map E.byte), .sl (itEs l2)]) := by
      rw [Int.toNat_natCast, itEs_map, List.getElem?_map, hy']; rfl
    have hc := ih' _ (List.mem_of_getElem? hy) _ (List.mem_of_getElem? hy')
    have hdr : l.drop i = It.mk k1 n1 b1 l1 :: l.drop (i + 1) := by
      rw [List.drop_eq_getElem_cons hlt]; congr 1
      exact (List.getElem?_eq_some_iff.1 hy).2
    have hdr' : l'.drop i = It.mk k2 n2 b2 l2 :: l'.drop (i + 1) := by
      rw [List.drop_eq_getElem_cons (by omega)]; congr 1
      exact (List.getElem?_eq_some_iff.1 hy').2
    rw [hdr, hdr', It.beqs] at hfin
    have ei : IntKind.i64.wrap ((i : Int) + 1) = ((i + 1 : Nat) : Int) := by rw [IntWalk.i64_in _ (by omega)]; omega
    cases hb : It.beq (.mk k1 n1 b1 l1) (.mk k2 n2 b2 l2) with
    | false =>
      rw [hb] at hfin hc
      subst hfin
      repeat' (first | (apply AL_callPw (hc); kernel_rfl; (iterate 4 exact rfl)) | (apply AL_move; exact rfl; exact rfl) | (apply AL_assign; exact rfl; exact rfl) | (apply AL_bin; (iterate 5 exact rfl)) | (apply AL_load1 ttok; (iterate 6 exact rfl)) | (apply AL_fieldAddr ttok; (iterate 7 exact rfl)) | (apply AL_not; exact rfl; exact rfl) | refine AL_nil ?_ | refine AW_region ?_ | refine AW_seq' ?_ | (apply AW_condA; exact rfl; (first | with_reducible assumption | decide +kernel)) | refine then_norm ?_ | refine AW_block ?_ | refine AW_ret ?_ | refine then_ret ?_ | refine blk_ret ?_ | (apply AL_len ttok; (iterate 4 exact rfl)) | (apply AL_eloadn ttok; (iterate 6 exact rfl)) | (apply AW_drawM 10 hmix; (decide +kernel); (kernel_rfl); (kernel_rfl); exact rfl; exact rfl) | (apply AD_cons; (iterate 3 exact rfl)) | refine AD.nil _ | exact qp_ok rfl | refine AW_skip ?_ | (apply AL_idx ttok; (iterate 6 exact rfl); (first | with_reducible assumption | decide +kernel | exact Int.natCast_nonneg _ | (guard_target = (0:Int) ≤ (OfNat.ofNat _ : Int); decide) | rotate_left); (first | with_reducible assumption | decide +kernel | exact rfl); (first | exact uniB_ok rfl | with_reducible assumption | decide +kernel | rotate_left)))
      all_goals (apply endQ []; (repeat (first | exact ResL.nil | (apply ResL.cons; first | exact .tmp _ _ rfl | (apply res_n ttok; (iterate 6 exact rfl)) | (apply res_1 ttok; (iterate 5 exact rfl))))); (iterate 4 exact rfl))
      all_goals rfl
    | true =>
      rw [hb] at hfin hc
      repeat' (first | rw [ei] | (apply AL_callPw (hc); kernel_rfl; (iterate 4 exact rfl)) | (apply AL_move; exact rfl; exact rfl) | (apply AL_assign; exact rfl; exact rfl) | (apply AL_bin; (iterate 5 exact rfl)) | (apply AL_load1 ttok; (iterate 6 exact rfl)) | (apply AL_fieldAddr ttok; (iterate 7 exact rfl)) | (apply AL_not; exact rfl; exact rfl) | refine AL_nil ?_ | refine AW_region ?_ | refine AW_seq' ?_ | (apply AW_condA; exact rfl; (first | with_reducible assumption | decide +kernel)) | (apply AW_condB; exact rfl; (first | with_reducible assumption | decide +kernel)) | refine then_norm ?_ | refine AW_block ?_ | (apply AL_len ttok; (iterate 4 exact rfl)) | (apply AL_eloadn ttok; (iterate 6 exact rfl)) | (apply AW_drawM 10 hmix; (decide +kernel); (kernel_rfl); (kernel_rfl); exact rfl; exact rfl) | (apply AD_cons; (iterate 3 exact rfl)) | refine AD.nil _ | exact qp_ok rfl | refine AW_skip ?_ | (apply AL_idx ttok; (iterate 6 exact rfl); (first | with_reducible assumption | decide +kernel | exact Int.natCast_nonneg _ | (guard_target = (0:Int) ≤ (OfNat.ofNat _ : Int); decide) | rotate_left); (first | with_reducible assumption | decide +kernel | exact rfl); (first | exact uniB_ok rfl | with_reducible assumption | decide +kernel | rotate_left)))
      refine Lands.mk' (m := f - 1) (by omega) ⟨i + 1, by omega, hfin, rfl, rfl, rfl⟩ ?_ rfl rfl rfl rfl rfl rfl
      exact .cons rfl (.cons rfl (.cons rfl (.cons rfl .nil)))
  · have hdl : decide ((i : Int) < ((itEs l).length : Int)) = false := decide_eq_false (by omega)
    rw [List.drop_eq_nil_of_le hge, List.drop_eq_nil_of_le (by omega)] at hfin
    have hfin : true = fin := hfin
    subst hfin
    repeat' (first | (apply AL_move; exact rfl; exact rfl) | (apply AL_assign; exact rfl; exact rfl) | (apply AL_bin; (iterate 5 exact rfl)) | (apply AL_load1 ttok; (iterate 6 exact rfl)) | (apply AL_fieldAddr ttok; (iterate 7 exact rfl)) | refine AL_nil ?_ | refine AW_region ?_ | refine AW_seq' ?_ | (apply AW_condB; exact rfl; (first | with_reducible assumption | decide +kernel)) | refine then_norm ?_ | refine AW_exit ?_ | refine AW_ret ?_ | (apply AL_len ttok; (iterate 4 exact rfl)))
    all_goals (apply endQ []; (repeat (first | exact ResL.nil | (apply ResL.cons; first | exact .tmp _ _ rfl | (apply res_n ttok; (iterate 6 exact rfl)) | (apply res_1 ttok; (iterate 5 exact rfl))))); (iterate 4 exact rfl))
    all_goals rfl
end Go.Proofs.YtnihobjehelagaaDoor
end
/- The document's answers for names: the name of an item, by cases. -/
section
open Go.RowKit Go.Pl Go.Av
namespace Go.Proofs.YtnihobjehelagaaDoor
set_option linter.unusedVariables false
set_option linter.unusedSimpArgs false
set_option maxHeartbeats 4000000
theorem rr_a [Known] (k : Int) (n : Nat) (b : List UInt8) (l : List It) (h : k ≠ 4 ∨ l.length ≠ 2) : AP Tryd.prog 41 [itD (.mk k n b l)] (.tup [.agg [.bool false, .int .u64 0, .int .u64 0, .str [], .str []], .bool false]) [] := by
  by_cases hk : k = 4
  · have t1 : (k != 4) = false := by simpa using hk
    have hl : l.length ≠ 2 := by
      rcases h with h | h
      · exact absurd hk h
      · exact h
    have t2 : (((itEs l).length : Int) != 2) = true := by rw [itEs_len]; simp; omega
    refine AP.ofA ?_
    refine AC_of Tryd.func41 rfl Tryd.ntmps41 rfl rfl ?_
    repeat' (first | (apply AL_move; exact rfl; exact rfl) | (apply AL_assign; exact rfl; exact rfl) | (apply AL_bin; (iterate 5 exact rfl)) | (apply AL_load1 ttok; (iterate 6 exact rfl)) | (apply AL_fieldAddr ttok; (iterate 7 exact rfl)) | (apply AL_boxZ; (iterate 5 exact rfl)) | (apply AL_store ttok; (iterate 8 exact rfl)) | refine AL_nil ?_ | (apply AL_guardT; (iterate 3 exact rfl); (first | with_reducible assumption | decide +kernel)) | (apply AL_pickF; exact rfl; (first | with_reducible assumption | decide +kernel); exact rfl; exact rfl) | refine AW_region ?_ | refine AW_seq' ?_ | (apply AW_condA; exact rfl; (first | with_reducible assumption | decide +kernel)) | refine then_norm ?_ | refine AW_ret ?_ | refine then_ret ?_ | (apply AL_len ttok; (iterate 4 exact rfl)) | (apply AL_build ttok; (iterate 6 exact rfl)) | (apply AL_allocZ ttok; (iterate 4 exact rfl)))
    all_goals (apply endQ []; (repeat (first | exact ResL.nil | (apply ResL.cons; first | exact .tmp _ _ rfl | (apply res_n ttok; (iterate 6 exact rfl)) | (apply res_1 ttok; (iterate 5 exact rfl))))); (iterate 4 exact rfl))
    all_goals rfl
  · have t1 : (k != 4) = true := by simpa using hk
    refine AP.ofA ?_
    refine AC_of Tryd.func41 rfl Tryd.ntmps41 rfl rfl ?_
    repeat' (first | (apply AL_move; exact rfl; exact rfl) | (apply AL_assign; exact rfl; exact rfl) | (apply AL_bin; (iterate 5 exact rfl)) | (apply AL_load1 ttok; (iterate 6 exact rfl)) | (apply AL_fieldAddr ttok; (iterate 7 exact rfl)) | (apply AL_boxZ; (iterate 5 exact rfl)) | (apply AL_store ttok; (iterate 8 exact rfl)) | refine AL_nil ?_ | (apply AL_guardFf; (iterate 3 exact rfl); (first | with_reducible assumption | decide +kernel)) | (apply AL_pickT; exact rfl; (first | with_reducible assumption | decide +kernel); exact rfl; exact rfl) | refine AW_region ?_ | refine AW_seq' ?_ | (apply AW_condA; exact rfl; (first | with_reducible assumption | decide +kernel)) | refine then_norm ?_ | refine AW_ret ?_ | refine then_ret ?_ | (apply AL_build ttok; (iterate 6 exact rfl)) | (apply AL_allocZ ttok; (iterate 4 exact rfl)))
    all_goals (apply endQ []; (repeat (first | exact ResL.nil | (apply ResL.cons; first | exact .tmp _ _ rfl | (apply res_n ttok; (iterate 6 exact rfl)) | (apply res_1 ttok; (iterate 5 exact rfl))))); (iterate 4 exact rfl))
    all_goals rfl
/-- a list of two numbers -/
theorem rr_I [Known] (s z : It) (n : Nat) (b : List UInt8) (n2 : Nat) (b2 : List UInt8) (kp : Int) (np : Nat) (bp : List UInt8) (lp : List It) (kq : Int) (nq : Nat) (bq : List UInt8) (lq : List It) (ez : z = .mk 4 n2 b2 [.mk kp np bp lp, .mk kq nq bq lq]) (κ : Int) (w : It) (z4 R : Bool)
    (hK : AP Tryd.prog 76 [.agg [.bool true, .int .u64 (np : Int), .int .u64 (nq : Int), .str [], .str []]] (.int .i64 κ) []) (t4 : decide (κ < 0) = z4)
    (hW : z4 = false → AP Tryd.prog 79 [.agg [.bool true, .int .u64 (np : Int), .int .u64 (nq : Int), .str [], .str []]] (itD w) [])
    (hS : z4 = false → AP Tryd.prog 18 [itD w, itD (.mk 4 n b [s, z])] (.bool R) []) :
    AP Tryd.prog 41 [itD (.mk 4 n b [s, z])] (candD z4 (!R) true np nq [] []) [] := by
  have hU := uniI [s, z]
  subst ez
  have hU2 := uniI [.mk kp np bp lp, .mk kq nq bq lq]
  have t2 : (((itEs [s, .mk 4 n2 b2 [.mk kp np bp lp, .mk kq nq bq lq]]).length : Int) != 2) = false := rfl
  have t3 : (((itEs [.mk kp np bp lp, .mk kq nq bq lq]).length : Int) == 2) = true := rfl
  obtain ⟨sk, sn, sb, sl⟩ := s
  obtain ⟨wk, wn, wb, wl⟩ := w
  cases z4 with
  | true =>
    clear hW hS
    cases R
    all_goals
      refine AP.ofA ?_
      refine AC_of Tryd.func41 rfl Tryd.ntmps41 rfl rfl ?_
      repeat' (first | (apply AL_callPw (hK); kernel_rfl; (iterate 4 exact rfl)) | (apply AL_move; exact rfl; exact rfl) | (apply AL_assign; exact rfl; exact rfl) | (apply AL_bin; (iterate 5 exact rfl)) | (apply AL_load1 ttok; (iterate 6 exact rfl)) | (apply AL_loadn ttok; (iterate 7 exact rfl)) | (apply AL_fieldAddr ttok; (iterate 7 exact rfl)) | (apply AL_boxZ; (iterate 5 exact rfl)) | (apply AL_store ttok; (iterate 8 exact rfl)) | refine AL_nil ?_ | (apply AL_guardT; (iterate 3 exact rfl); (first | with_reducible assumption | decide +kernel)) | (apply AL_guardFf; (iterate 3 exact rfl); (first | with_reducible assumption | decide +kernel)) | (apply AL_pickT; exact rfl; (first | with_reducible assumption | decide +kernel); exact rfl; exact rfl) | (apply AL_pickF; exact rfl; (first | with_reducible assumption | decide +kernel); exact rfl; exact rfl) | refine AW_region ?_ | refine AW_seq' ?_ | (apply AW_condA; exact rfl; (first | with_reducible assumption | decide +kernel)) | (apply AW_condB; exact rfl; (first | with_reducible assumption | decide +kernel)) | refine then_norm ?_ | refine AW_ret ?_ | refine then_ret ?_ | (apply AL_len ttok; (iterate 4 exact rfl)) | (apply AL_eload1 ttok; (iterate 6 exact rfl)) | (apply AL_eloadn ttok; (iterate 6 exact rfl)) | (apply AL_efieldAddr ttok; (iterate 7 exact rfl)) | (apply AL_build ttok; (iterate 6 exact rfl)) | (apply AL_allocZ ttok; (iterate 4 exact rfl)) | (apply AW_drawE 7 hmix; (decide +kernel); (kernel_rfl); (kernel_rfl); (kernel_rfl); exact rfl; exact rfl) | (apply AW_drawE 10 hmix; (decide +kernel); (kernel_rfl); (kernel_rfl); (kernel_rfl); exact rfl; exact rfl) | (apply AE_consZ; (iterate 4 exact rfl)) | exact AE.nil _ _ _ _ | (apply AEk_puT; exact rfl) | (apply AOt_mk; exact rfl; exact rfl; (decide +kernel); exact rfl) | (apply AO_puT; exact rfl) | exact AO.nil _ _ _ | (apply AOs_skip; (decide +kernel)) | exact AOs.nil | exact qY_ok rfl rfl | refine AW_skip ?_ | (apply AL_idx ttok; (iterate 6 exact rfl); (first | with_reducible assumption | decide +kernel | exact Int.natCast_nonneg _ | (guard_target = (0:Int) ≤ (OfNat.ofNat _ : Int); decide) | rotate_left); (first | with_reducible assumption | decide +kernel | exact rfl); (first | exact uniB_ok rfl | with_reducible assumption | decide +kernel | rotate_left)))
      all_goals (apply endQ []; (repeat (first | exact ResL.nil | (apply ResL.cons; first | exact .tmp _ _ rfl | (apply res_n ttok; (iterate 6 exact rfl)) | (apply res_1 ttok; (iterate 5 exact rfl))))); (iterate 4 exact rfl))
      all_goals rfl
  | false =>
    have hW := hW rfl
    have hS := hS rfl
    cases R
    all_goals
      refine AP.ofA ?_
      refine AC_of Tryd.func41 rfl Tryd.ntmps41 rfl rfl ?_
      repeat' (first | (apply AL_callPw (hK); kernel_rfl; (iterate 4 exact rfl)) | (apply AL_callPw (hW); kernel_rfl; (iterate 4 exact rfl)) | (apply AL_callPw (hS); kernel_rfl; (iterate 4 exact rfl)) | (apply AL_move; exact rfl; exact rfl) | (apply AL_assign; exact rfl; exact rfl) | (apply AL_bin; (iterate 5 exact rfl)) | (apply AL_load1 ttok; (iterate 6 exact rfl)) | (apply AL_loadn ttok; (iterate 7 exact rfl)) | (apply AL_fieldAddr ttok; (iterate 7 exact rfl)) | (apply AL_boxZ; (iterate 5 exact rfl)) | (apply AL_store ttok; (iterate 8 exact rfl)) | (apply AL_not; exact rfl; exact rfl) | refine AL_nil ?_ | (apply AL_guardT; (iterate 3 exact rfl); (first | with_reducible assumption | decide +kernel)) | (apply AL_pickT; exact rfl; (first | with_reducible assumption | decide +kernel); exact rfl; exact rfl) | (apply AL_pickF; exact rfl; (first | with_reducible assumption | decide +kernel); exact rfl; exact rfl) | refine AW_region ?_ | refine AW_seq' ?_ | (apply AW_condA; exact rfl; (first | with_reducible assumption | decide +kernel)) | (apply AW_condB; exact rfl; (first | with_reducible assumption | decide +kernel)) | refine then_norm ?_ | refine AW_ret ?_ | refine then_ret ?_ | (apply AL_len ttok; (iterate 4 exact rfl)) | (apply AL_eload1 ttok; (iterate 6 exact rfl)) | (apply AL_eloadn ttok; (iterate 6 exact rfl)) | (apply AL_efieldAddr ttok; (iterate 7 exact rfl)) | (apply AL_build ttok; (iterate 6 exact rfl)) | (apply AL_allocZ ttok; (iterate 4 exact rfl)) | (apply AW_drawE 7 hmix; (decide +kernel); (kernel_rfl); (kernel_rfl); (kernel_rfl); exact rfl; exact rfl) | (apply AW_drawE 10 hmix; (decide +kernel); (kernel_rfl); (kernel_rfl); (kernel_rfl); exact rfl; exact rfl) | (apply AE_consZ; (iterate 4 exact rfl)) | exact AE.nil _ _ _ _ | (apply AEk_puT; exact rfl) | (apply AOt_mk; exact rfl; exact rfl; (decide +kernel); exact rfl) | (apply AO_puT; exact rfl) | exact AO.nil _ _ _ | (apply AOs_skip; (decide +kernel)) | exact AOs.nil | exact qY_ok rfl rfl | refine AW_skip ?_ | (apply AL_idx ttok; (iterate 6 exact rfl); (first | with_reducible assumption | decide +kernel | exact Int.natCast_nonneg _ | (guard_target = (0:Int) ≤ (OfNat.ofNat _ : Int); decide) | rotate_left); (first | with_reducible assumption | decide +kernel | exact rfl); (first | exact uniB_ok rfl | with_reducible assumption | decide +kernel | rotate_left)))
      all_goals (apply endQ []; (repeat (first | exact ResL.nil | (apply ResL.cons; first | exact .tmp _ _ rfl | (apply res_n ttok; (iterate 6 exact rfl)) | (apply res_1 ttok; (iterate 5 exact rfl))))); (iterate 4 exact rfl))
      all_goals rfl
/-- neither a list of two nor a text -/
theorem rr_J [Known] (s : It) (n : Nat) (b : List UInt8) (kz : Int) (nz : Nat) (bz : List UInt8) (lz : List It) (hz : kz = 4 ∧ lz.length ≠ 2 ∨ kz ≠ 4 ∧ kz ≠ 3) (w : It) (R : Bool)
    (hK : AP Tryd.prog 76 [.agg [.bool false, .int .u64 0, .int .u64 0, .str [], .str []]] (.int .i64 0) [])
    (hW : AP Tryd.prog 79 [.agg [.bool false, .int .u64 0, .int .u64 0, .str [], .str []]] (itD w) [])
    (hS : AP Tryd.prog 18 [itD w, itD (.mk 4 n b [s, .mk kz nz bz lz])] (.bool R) []) :
    AP Tryd.prog 41 [itD (.mk 4 n b [s, .mk kz nz bz lz])] (candD false (!R) false 0 0 [] []) [] := by
  have hU := uniI [s, .mk kz nz bz lz]
  have t2 : (((itEs [s, .mk kz nz bz lz]).length : Int) != 2) = false := rfl
  obtain ⟨sk, sn, sb, sl⟩ := s
  obtain ⟨wk, wn, wb, wl⟩ := w
  have t5 : (kz == 3) = false := by
    rcases hz with ⟨rfl, _⟩ | ⟨_, h⟩
    · rfl
    · simpa using h
  rcases hz with ⟨rfl, hl⟩ | ⟨hk, _⟩
  · have t3 : (((itEs lz).length : Int) == 2) = false := by rw [itEs_len]; simp; omega
    cases R
    all_goals
      refine AP.ofA ?_
      refine AC_of Tryd.func41 rfl Tryd.ntmps41 rfl rfl ?_
      repeat' (first | (apply AL_callPw (hK); kernel_rfl; (iterate 4 exact rfl)) | (apply AL_callPw (hW); kernel_rfl; (iterate 4 exact rfl)) | (apply AL_callPw (hS); kernel_rfl; (iterate 4 exact rfl)) | (apply AL_move; exact rfl; exact rfl) | (apply AL_assign; exact rfl; exact rfl) | (apply AL_bin; (iterate 5 exact rfl)) | (apply AL_load1 ttok; (iterate 6 exact rfl)) | (apply AL_loadn ttok; (iterate 7 exact rfl)) | (apply AL_fieldAddr ttok; (iterate 7 exact rfl)) | (apply AL_boxZ; (iterate 5 exact rfl)) | (apply AL_store ttok; (iterate 8 exact rfl)) | (apply AL_not; exact rfl; exact rfl) | refine AL_nil ?_ | (apply AL_guardT; (iterate 3 exact rfl); (first | with_reducible assumption | decide +kernel)) | (apply AL_pickT; exact rfl; (first | with_reducible assumption | decide +kernel); exact rfl; exact rfl) | (apply AL_pickF; exact rfl; (first | with_reducible assumption | decide +kernel); exact rfl; exact rfl) | refine AW_region ?_ | refine AW_seq' ?_ | (apply AW_condA; exact rfl; (first | with_reducible assumption | decide +kernel)) | (apply AW_condB; exact rfl; (first | with_reducible assumption | decide +kernel)) | refine then_norm ?_ | refine AW_ret ?_ | refine then_ret ?_ | (apply AL_len ttok; (iterate 4 exact rfl)) | (apply AL_eloadn ttok; (iterate 6 exact rfl)) | (apply AL_build ttok; (iterate 6 exact rfl)) | (apply AL_allocZ ttok; (iterate 4 exact rfl)) | (apply AW_drawE 7 hmix; (decide +kernel); (kernel_rfl); (kernel_rfl); (kernel_rfl); exact rfl; exact rfl) | (apply AE_consZ; (iterate 4 exact rfl)) | exact AE.nil _ _ _ _ | (apply AEk_puT; exact rfl) | (apply AOt_mk; exact rfl; exact rfl; (decide +kernel); exact rfl) | (apply AO_puT; exact rfl) | exact AO.nil _ _ _ | (apply AOs_skip; (decide +kernel)) | exact AOs.nil | exact qY_ok rfl rfl | refine AW_skip ?_ | (apply AL_idx ttok; (iterate 6 exact rfl); (first | with_reducible assumption | decide +kernel | exact Int.natCast_nonneg _ | (guard_target = (0:Int) ≤ (OfNat.ofNat _ : Int); decide) | rotate_left); (first | with_reducible assumption | decide +kernel | exact rfl); (first | exact uniB_ok rfl | with_reducible assumption | decide +kernel | rotate_left)))
      all_goals (apply endQ []; (repeat (first | exact ResL.nil | (apply ResL.cons; first | exact .tmp _ _ rfl | (apply res_n ttok; (iterate 6 exact rfl)) | (apply res_1 ttok; (iterate 5 exact rfl))))); (iterate 4 exact rfl))
      all_goals rfl
  · have t3 : (kz == 4) = false := by simpa using hk
    cases R
    all_goals
      refine AP.ofA ?_
      refine AC_of Tryd.func41 rfl Tryd.ntmps41 rfl rfl ?_
      repeat' (first | (apply AL_callPw (hK); kernel_rfl; (iterate 4 exact rfl)) | (apply AL_callPw (hW); kernel_rfl; (iterate 4 exact rfl)) | (apply AL_callPw (hS); kernel_rfl; (iterate 4 exact rfl)) | (apply AL_move; exact rfl; exact rfl) | (apply AL_assign; exact rfl; exact rfl) | (apply AL_bin; (iterate 5 exact rfl)) | (apply AL_load1 ttok; (iterate 6 exact rfl)) | (apply AL_loadn ttok; (iterate 7 exact rfl)) | (apply AL_fieldAddr ttok; (iterate 7 exact rfl)) | (apply AL_boxZ; (iterate 5 exact rfl)) | (apply AL_store ttok; (iterate 8 exact rfl)) | (apply AL_not; exact rfl; exact rfl) | refine AL_nil ?_ | (apply AL_guardT; (iterate 3 exact rfl); (first | with_reducible assumption | decide +kernel)) | (apply AL_guardFt; (iterate 3 exact rfl); (first | with_reducible assumption | decide +kernel)) | (apply AL_pickF; exact rfl; (first | with_reducible assumption | decide +kernel); exact rfl; exact rfl) | refine AW_region ?_ | refine AW_seq' ?_ | (apply AW_condA; exact rfl; (first | with_reducible assumption | decide +kernel)) | (apply AW_condB; exact rfl; (first | with_reducible assumption | decide +kernel)) | refine then_norm ?_ | refine AW_ret ?_ | refine then_ret ?_ | (apply AL_len ttok; (iterate 4 exact rfl)) | (apply AL_eloadn ttok; (iterate 6 exact rfl)) | (apply AL_build ttok; (iterate 6 exact rfl)) | (apply AL_allocZ ttok; (iterate 4 exact rfl)) | (apply AW_drawE 7 hmix; (decide +kernel); (kernel_rfl); (kernel_rfl); (kernel_rfl); exact rfl; exact rfl) | (apply AE_consZ; (iterate 4 exact rfl)) | exact AE.nil _ _ _ _ | (apply AEk_puT; exact rfl) | (apply AOt_mk; exact rfl; exact rfl; (decide +kernel); exact rfl) | (apply AO_puT; exact rfl) | exact AO.nil _ _ _ | (apply AOs_skip; (decide +kernel)) | exact AOs.nil | exact qY_ok rfl rfl | refine AW_skip ?_ | (apply AL_idx ttok; (iterate 6 exact rfl); (first | with_reducible assumption | decide +kernel | exact Int.natCast_nonneg _ | (guard_target = (0:Int) ≤ (OfNat.ofNat _ : Int); decide) | rotate_left); (first | with_reducible assumption | decide +kernel | exact rfl); (first | exact uniB_ok rfl | with_reducible assumption | decide +kernel | rotate_left)))
      all_goals (apply endQ []; (repeat (first | exact ResL.nil | (apply ResL.cons; first | exact .tmp _ _ rfl | (apply res_n ttok; (iterate 6 exact rfl)) | (apply res_1 ttok; (iterate 5 exact rfl))))); (iterate 4 exact rfl))
      all_goals rfl
/-- a text that is a name's -/
theorem rr_T [Known] (s : It) (n : Nat) (b : List UInt8) (nz : Nat) (bz : List UInt8) (lz : List It) (xi : Bool) (xn xs : Nat) (xh xd : List UInt8) (κ : Int) (w : It) (R : Bool) (hl : [(100 : UInt8), 116, 110, 58].length + bz.length ≤ maxLen)
    (hP : AP Tryd.prog 39 [.str ([100, 116, 110, 58] ++ bz)] (.tup [.agg [.bool xi, .int .u64 (xn : Int), .int .u64 (xs : Int), .str xh, .str xd], .bool true]) [])
    (hK : AP Tryd.prog 76 [.agg [.bool xi, .int .u64 (xn : Int), .int .u64 (xs : Int), .str xh, .str xd]] (.int .i64 κ) []) (t4 : decide (κ < 0) = false)
    (hW : AP Tryd.prog 79 [.agg [.bool xi, .int .u64 (xn : Int), .int .u64 (xs : Int), .str xh, .str xd]] (itD w) [])
    (hS : AP Tryd.prog 18 [itD w, itD (.mk 4 n b [s, .mk 3 nz bz lz])] (.bool R) []) :
    AP Tryd.prog 41 [itD (.mk 4 n b [s, .mk 3 nz bz lz])] (candD false (!R) xi xn xs xh xd) [] := by
  have hU := uniI [s, .mk 3 nz bz lz]
  have t2 : (((itEs [s, .mk 3 nz bz lz]).length : Int) != 2) = false := rfl
  obtain ⟨sk, sn, sb, sl⟩ := s
  obtain ⟨wk, wn, wb, wl⟩ := w
  cases R
  all_goals
    refine AP.ofA ?_
    refine AC_of Tryd.func41 rfl Tryd.ntmps41 rfl rfl ?_
    repeat' (first | (apply AL_callPw (hP); kernel_rfl; (iterate 4 exact rfl)) | (apply AL_callPw (hK); kernel_rfl; (iterate 4 exact rfl)) | (apply AL_callPw (hW); kernel_rfl; (iterate 4 exact rfl)) | (apply AL_callPw (hS); kernel_rfl; (iterate 4 exact rfl)) | (apply AL_cat; exact rfl; exact rfl; exact hl; exact rfl) | (apply AL_b2s ttok; (iterate 9 exact rfl)) | (apply AL_move; exact rfl; exact rfl) | (apply AL_assign; exact rfl; exact rfl) | (apply AL_bin; (iterate 5 exact rfl)) | (apply AL_load1 ttok; (iterate 6 exact rfl)) | (apply AL_loadn ttok; (iterate 7 exact rfl)) | (apply AL_fieldAddr ttok; (iterate 7 exact rfl)) | (apply AL_boxZ; (iterate 5 exact rfl)) | (apply AL_store ttok; (iterate 8 exact rfl)) | (apply AL_not; exact rfl; exact rfl) | (apply AL_extract; (iterate 3 exact rfl)) | refine AL_nil ?_ | (apply AL_guardT; (iterate 3 exact rfl); (first | with_reducible assumption | decide +kernel)) | (apply AL_guardFt; (iterate 3 exact rfl); (first | with_reducible assumption | decide +kernel)) | (apply AL_pickF; exact rfl; (first | with_reducible assumption | decide +kernel); exact rfl; exact rfl) | refine AW_region ?_ | refine AW_seq' ?_ | (apply AW_condA; exact rfl; (first | with_reducible assumption | decide +kernel)) | (apply AW_condB; exact rfl; (first | with_reducible assumption | decide +kernel)) | refine then_norm ?_ | refine AW_ret ?_ | refine then_ret ?_ | (apply AL_len ttok; (iterate 4 exact rfl)) | (apply AL_eloadn ttok; (iterate 6 exact rfl)) | (apply AL_build ttok; (iterate 6 exact rfl)) | (apply AL_allocZ ttok; (iterate 4 exact rfl)) | (apply AW_drawE 7 hmix; (decide +kernel); (kernel_rfl); (kernel_rfl); (kernel_rfl); exact rfl; exact rfl) | (apply AE_consZ; (iterate 4 exact rfl)) | exact AE.nil _ _ _ _ | (apply AEk_puT; exact rfl) | (apply AOt_mk; exact rfl; exact rfl; (decide +kernel); exact rfl) | (apply AO_puT; exact rfl) | exact AO.nil _ _ _ | (apply AOs_skip; (decide +kernel)) | exact AOs.nil | exact qY_ok rfl rfl | refine AW_skip ?_ | (apply AL_idx ttok; (iterate 6 exact rfl); (first | with_reducible assumption | decide +kernel | exact Int.natCast_nonneg _ | (guard_target = (0:Int) ≤ (OfNat.ofNat _ : Int); decide) | rotate_left); (first | with_reducible assumption | decide +kernel | exact rfl); (first | exact uniB_ok rfl | with_reducible assumption | decide +kernel | rotate_left)) | (apply AL_b2s ttok; (iterate 9 exact rfl)))
    all_goals (apply endQ []; (repeat (first | exact ResL.nil | (apply ResL.cons; first | exact .tmp _ _ rfl | (apply res_n ttok; (iterate 6 exact rfl)) | (apply res_1 ttok; (iterate 5 exact rfl))))); (iterate 4 exact rfl))
    all_goals rfl
/-- a text that is none's -/
theorem rr_U [Known] (s : It) (n : Nat) (b : List UInt8) (nz : Nat) (bz : List UInt8) (lz : List It) (hl : [(100 : UInt8), 116, 110, 58].length + bz.length ≤ maxLen)
    (hP : AP Tryd.prog 39 [.str ([100, 116, 110, 58] ++ bz)] (.tup [.agg [.bool false, .int .u64 0, .int .u64 0, .str [], .str []], .bool false]) []) :
    AP Tryd.prog 41 [itD (.mk 4 n b [s, .mk 3 nz bz lz])] (.tup [.agg [.bool false, .int .u64 0, .int .u64 0, .str [], .str []], .bool false]) [] := by
  have hU := uniI [s, .mk 3 nz bz lz]
  have t2 : (((itEs [s, .mk 3 nz bz lz]).length : Int) != 2) = false := rfl
  obtain ⟨sk, sn, sb, sl⟩ := s
  refine AP.ofA ?_
  refine AC_of Tryd.func41 rfl Tryd.ntmps41 rfl rfl ?_
  repeat' (first | (apply AL_callPw (hP); kernel_rfl; (iterate 4 exact rfl)) | (apply AL_cat; exact rfl; exact rfl; exact hl; exact rfl) | (apply AL_b2s ttok; (iterate 9 exact rfl)) | (apply AL_move; exact rfl; exact rfl) | (apply AL_assign; exact rfl; exact rfl) | (apply AL_bin; (iterate 5 exact rfl)) | (apply AL_load1 ttok; (iterate 6 exact rfl)) | (apply AL_fieldAddr ttok; (iterate 7 exact rfl)) | (apply AL_boxZ; (iterate 5 exact rfl)) | (apply AL_store ttok; (iterate 8 exact rfl)) | (apply AL_not; exact rfl; exact rfl) | (apply AL_extract; (iterate 3 exact rfl)) | refine AL_nil ?_ | (apply AL_guardT; (iterate 3 exact rfl); (first | with_reducible assumption | decide +kernel)) | (apply AL_guardFt; (iterate 3 exact rfl); (first | with_reducible assumption | decide +kernel)) | (apply AL_pickF; exact rfl; (first | with_reducible assumption | decide +kernel); exact rfl; exact rfl) | refine AW_region ?_ | refine AW_seq' ?_ | (apply AW_condA; exact rfl; (first | with_reducible assumption | decide +kernel)) | (apply AW_condB; exact rfl; (first | with_reducible assumption | decide +kernel)) | refine then_norm ?_ | refine AW_ret ?_ | refine then_ret ?_ | (apply AL_len ttok; (iterate 4 exact rfl)) | (apply AL_eloadn ttok; (iterate 6 exact rfl)) | (apply AL_build ttok; (iterate 6 exact rfl)) | (apply AL_allocZ ttok; (iterate 4 exact rfl)) | refine AW_skip ?_ | (apply AL_idx ttok; (iterate 6 exact rfl); (first | with_reducible assumption | decide +kernel | exact Int.natCast_nonneg _ | (guard_target = (0:Int) ≤ (OfNat.ofNat _ : Int); decide) | rotate_left); (first | with_reducible assumption | decide +kernel | exact rfl); (first | exact uniB_ok rfl | with_reducible assumption | decide +kernel | rotate_left)) | (apply AL_b2s ttok; (iterate 9 exact rfl)))
  all_goals (apply endQ []; (repeat (first | exact ResL.nil | (apply ResL.cons; first | exact .tmp _ _ rfl | (apply res_n ttok; (iterate 6 exact rfl)) | (apply res_1 ttok; (iterate 5 exact rfl))))); (iterate 4 exact rfl))
  all_goals rfl
end Go.Proofs.YtnihobjehelagaaDoor
end
/- EidReads: the law's walk. -/
section
open Go.RowKit Go.Pl Go.Av
namespace Go.Proofs.YtnihobjehelagaaDoor
set_option linter.unusedVariables false
set_option linter.unusedSimpArgs false
set_option maxHeartbeats 4000000
theorem cand_item {x : It} {c : EidV} (hc : (readV x).2 = true → c = (readV x).1) {i : Bool} {n q : Nat} {h d : List UInt8} (ec : c = ⟨i, n, q, h, d⟩) : candD (decide (kindN c < 0)) (!(It.beq (itemE c) x)) i n q h d = readR x := by
  have hk := kind_ge c
  cases hr : eRight c with
  | false =>
    have e : decide (kindN c < 0) = true := decide_eq_true (by have := of_decide_eq_false (hk.trans hr); omega)
    rw [e, readR_no (rr_k hc hr)]
    cases !(It.beq (itemE c) x) <;> rfl
  | true =>
    have e : decide (kindN c < 0) = false := decide_eq_false (by have := of_decide_eq_true (hk.trans hr); omega)
    rw [e]
    cases hs : It.beq (itemE c) x with
    | false => rw [readR_no (rr_s hc hs)]; rfl
    | true => rw [readR_yes (rr_y hr hs), ec]; rfl
theorem right_of_k0 {c : EidV} (h : decide (kindN c < 0) = false) : eRight c = true := by
  rw [← kind_ge]
  exact decide_eq_true (by have := of_decide_eq_false h; omega)
theorem kind0_of_right {c : EidV} (h : eRight c = true) : decide (kindN c < 0) = false := decide_eq_false (by have := of_decide_eq_true ((kind_ge c).trans h); omega)
theorem av_refERead [Known] (x : It) (hw : wfI x) (hb : ∀ y ∈ x.l, y.b.length ≤ 1099511627000) : AP Tryd.prog 41 [itD x] (readR x) [] := by
  obtain ⟨k, n, b, l⟩ := x
  by_cases hk : k = 4
  case neg => rw [readR_no (rr_no (.inl hk))]; exact rr_a k n b l (.inl hk)
  by_cases hl : l.length = 2
  case neg => rw [readR_no (rr_no (.inr hl))]; exact rr_a k n b l (.inr hl)
  subst hk
  obtain ⟨s, z, rfl⟩ : ∃ s z, l = [s, z] := by
    match l, hl with
    | [s, z], _ => exact ⟨s, z, rfl⟩
  have hbz := hb z (by simp [It.l])
  clear hl hb
  have kZ := av_kind eidZ ⟨by decide, by decide⟩
  have wZ := av_refEWrite eidZ (by decide)
  have sZ := av_refSame (itemE eidZ) (wf_itemE (by decide)) _ hw
  obtain ⟨kz, nz, bz, lz⟩ := z
  simp only [It.b] at hbz
  by_cases h3 : kz = 3
  · subst h3
    have hP := av_refParse (dtnT ++ bz) (by simp [dtnT]; omega)
    have hml : [(100 : UInt8), 116, 110, 58].length + bz.length ≤ maxLen := by simp; unfold maxLen; omega
    cases hp : (parseE (dtnT ++ bz)).2 with
    | false =>
      rw [parseR_no hp] at hP
      rw [readR_no (rr_notext hp)]
      exact rr_U s n b nz bz lz hml hP
    | true =>
      obtain ⟨hr, _⟩ := parse_text hp
      unfold parseR at hP
      rw [hp] at hP
      have hc : (readV (.mk 4 n b [s, .mk 3 nz bz lz])).2 = true → (parseE (dtnT ++ bz)).1 = (readV (.mk 4 n b [s, .mk 3 nz bz lz])).1 :=
        rr_two (fun e => by cases e) (fun p q e => by cases e) (fun t e _ => by cases e; rfl)
      generalize (parseE (dtnT ++ bz)).1 = c at *
      rw [← cand_item hc (show c = ⟨c.i, c.n, c.s, c.h, c.d⟩ from rfl), kind0_of_right hr]
      exact rr_T s n b nz bz lz c.i c.n c.s c.h c.d (kindN c) (itemE c) _ hml hP (av_kind c (fit_right hr)) (kind0_of_right hr) (av_refEWrite c hr) (av_refSame (itemE c) (wf_itemE hr) _ hw)
  · by_cases h4 : kz = 4 ∧ lz.length = 2
    · obtain ⟨rfl, hl2⟩ := h4
      obtain ⟨⟨kp, np, bp, lp⟩, ⟨kq, nq, bq, lq⟩, rfl⟩ : ∃ p q, lz = [p, q] := by
        match lz, hl2 with
        | [p, q], _ => exact ⟨p, q, rfl⟩
      have hc : (readV (.mk 4 n b [s, .mk 4 nz bz [.mk kp np bp lp, .mk kq nq bq lq]])).2 = true → (⟨true, np, nq, [], []⟩ : EidV) = (readV (.mk 4 n b [s, .mk 4 nz bz [.mk kp np bp lp, .mk kq nq bq lq]])).1 :=
        rr_two (fun e => by cases e) (fun p q e => by cases e; rfl) (fun t e _ => by cases e)
      rw [← cand_item hc rfl]
      exact rr_I s _ n b nz bz kp np bp lp kq nq bq lq rfl (kindN ⟨true, np, nq, [], []⟩) (itemE ⟨true, np, nq, [], []⟩) _ _ (av_kind ⟨true, np, nq, [], []⟩ ⟨Nat.zero_le _, Nat.zero_le _⟩) rfl (fun h => av_refEWrite ⟨true, np, nq, [], []⟩ (right_of_k0 h)) (fun h => av_refSame (itemE ⟨true, np, nq, [], []⟩) (wf_itemE (right_of_k0 h)) _ hw)
    · have hc : (readV (.mk 4 n b [s, .mk kz nz bz lz])).2 = true → eidZ = (readV (.mk 4 n b [s, .mk kz nz bz lz])).1 :=
        rr_two (fun e => rfl) (fun p q e => by cases e; exact absurd ⟨rfl, rfl⟩ h4) (fun t e _ => by cases e; exact absurd rfl h3)
      rw [← cand_item hc rfl]
      exact rr_J s n b kz nz bz lz (by
        by_cases h5 : kz = 4
        · exact .inl ⟨h5, fun e => h4 ⟨h5, e⟩⟩
        · exact .inr ⟨h5, h3⟩) (itemE eidZ) _ kZ wZ sZ
theorem puts_mem : ∀ {l : List It} {y : It}, y ∈ l → (putI y).length ≤ (puts l).length
  | x :: l, y, h => by
    rw [puts, List.length_append]
    rcases List.mem_cons.1 h with rfl | h
    · omega
    · have := puts_mem h; omega
theorem b_le (y : It) : y.b.length ≤ (putI y).length := by
  obtain ⟨k, n, b, l⟩ := y
  rw [putI, List.length_append, List.length_append]
  show b.length ≤ _
  omega
theorem put_l (k : Int) (n : Nat) (b : List UInt8) (l : List It) : (puts l).length ≤ (putI (.mk k n b l)).length := by
  rw [putI, List.length_append, List.length_append]
  omega
theorem er_al [Known] (s : List UInt8) (x : It) (h : decide ((s.length : Int) > 300) = true ∨ decide ((s.length : Int) > 300) = false ∧ bigI x = true) : AP Tryd.prog 10 [.str s, itD x] (.bool true) [] := by
  have hA := av_aliveE
  have hG := av_great x 1 400 (by omega) (by omega) (by omega)
  replace hG : AP Tryd.prog _ [itD x, .int .i64 1, .int .i64 400] _ [] := hG
  obtain ⟨k, n, b, l⟩ := x
  rcases h with t1 | ⟨t1, t2⟩
  · refine AP.ofA ?_
    refine AC_of Tryd.func10 rfl Tryd.ntmps10 rfl rfl ?_
    repeat' (first | (apply AL_callPw (hA); kernel_rfl; (iterate 4 exact rfl)) | (apply AL_move; exact rfl; exact rfl) | (apply AL_assign; exact rfl; exact rfl) | (apply AL_bin; (iterate 5 exact rfl)) | (apply AL_box; (iterate 5 exact rfl)) | refine AL_nil ?_ | (apply AL_guardFf; (iterate 3 exact rfl); (first | with_reducible assumption | decide +kernel)) | (apply AL_pickT; exact rfl; (first | with_reducible assumption | decide +kernel); exact rfl; exact rfl) | refine AW_region ?_ | refine AW_seq' ?_ | (apply AW_condA; exact rfl; (first | with_reducible assumption | decide +kernel)) | refine then_norm ?_ | refine AW_ret ?_ | refine then_ret ?_ | (apply AL_lens ttok; (iterate 4 exact rfl)))
    all_goals (apply endQ []; (repeat (first | exact ResL.nil | (apply ResL.cons; first | exact .tmp _ _ rfl | (apply res_n ttok; (iterate 6 exact rfl)) | (apply res_1 ttok; (iterate 5 exact rfl))))); (iterate 4 exact rfl))
    all_goals rfl
  · unfold bigI at t2
    generalize greatI (.mk k n b l) 1 400 = g at *
    refine AP.ofA ?_
    refine AC_of Tryd.func10 rfl Tryd.ntmps10 rfl rfl ?_
    repeat' (first | (apply AL_callPw (hG); kernel_rfl; (iterate 4 exact rfl)) | (apply AL_callPw (hA); kernel_rfl; (iterate 4 exact rfl)) | (apply AL_move; exact rfl; exact rfl) | (apply AL_assign; exact rfl; exact rfl) | (apply AL_bin; (iterate 5 exact rfl)) | (apply AL_loadn ttok; (iterate 7 exact rfl)) | (apply AL_box; (iterate 5 exact rfl)) | refine AL_nil ?_ | (apply AL_guardT; (iterate 3 exact rfl); (first | with_reducible assumption | decide +kernel)) | (apply AL_pickF; exact rfl; (first | with_reducible assumption | decide +kernel); exact rfl; exact rfl) | refine AW_region ?_ | refine AW_seq' ?_ | (apply AW_condA; exact rfl; (first | with_reducible assumption | decide +kernel)) | refine then_norm ?_ | refine AW_ret ?_ | refine then_ret ?_ | (apply AL_lens ttok; (iterate 4 exact rfl)))
    all_goals (apply endQ []; (repeat (first | exact ResL.nil | (apply ResL.cons; first | exact .tmp _ _ rfl | (apply res_n ttok; (iterate 6 exact rfl)) | (apply res_1 ttok; (iterate 5 exact rfl))))); (iterate 4 exact rfl))
    all_goals rfl
theorem er_go [Known] (s : List UInt8) (x : It) (g : Int) (a c : EidV) (P Q : Bool) (t1 : decide ((s.length : Int) > 300) = false) (t2 : decide (g < 0) = false)
    (hG : AP Tryd.prog 38 [itD x, .int .i64 1, .int .i64 400] (.int .i64 g) [])
    (hP : AP Tryd.prog 37 [.str s] (.tup [.agg (eC a), .int .i64 (if P then 0 else 3)]) []) (hRP : AP Tryd.prog 39 [.str s] (.tup [.agg (eC a), .bool P]) [])
    (hR : AP Tryd.prog 40 [itD x] (.tup [.agg (eC c), .int .i64 (if Q then 0 else 3)]) []) (hS : AP Tryd.prog 19 [itD x, .int .i64 10] (itD x) []) (hRR : AP Tryd.prog 41 [itD x] (.tup [.agg (eC c), .bool Q]) []) :
    AP Tryd.prog 10 [.str s, itD x] (.bool true) [] := by
  have hA := av_aliveE
  have hAa := av_as4 a
  have hAc := av_as4 c
  have t4 : eqE a a = true := eqE_iff.2 rfl
  have t5 : eqE c c = true := eqE_iff.2 rfl
  obtain ⟨k, n, b, l⟩ := x
  obtain ⟨ai, an, aq, ah, ad⟩ := a
  obtain ⟨ci, cn, cq, ch, cd⟩ := c
  try dsimp only at t4 t5
  cases P <;> cases Q
  all_goals
    simp only [if_true, if_false, Bool.false_eq_true] at hP hR
    refine AP.ofA ?_
    refine AC_of Tryd.func10 rfl Tryd.ntmps10 rfl rfl ?_
    repeat' (first | (apply AL_callPw (hG); kernel_rfl; (iterate 4 exact rfl)) | (apply AL_callPw (hA); kernel_rfl; (iterate 4 exact rfl)) | (apply AL_callPw (hP); kernel_rfl; (iterate 4 exact rfl)) | (apply AL_callPw (hRP); kernel_rfl; (iterate 4 exact rfl)) | (apply AL_callPw (hR); kernel_rfl; (iterate 4 exact rfl)) | (apply AL_callPw (hS); kernel_rfl; (iterate 4 exact rfl)) | (apply AL_callPw (hRR); kernel_rfl; (iterate 4 exact rfl)) | (apply AL_callPw (hAa); kernel_rfl; (iterate 4 exact rfl)) | (apply AL_callPw (hAc); kernel_rfl; (iterate 4 exact rfl)) | (apply AL_move; exact rfl; exact rfl) | (apply AL_assign; exact rfl; exact rfl) | (apply AL_bin; (iterate 5 exact rfl)) | (apply AL_loadn ttok; (iterate 7 exact rfl)) | (apply AL_box; (iterate 5 exact rfl)) | (apply AL_store ttok; (iterate 8 exact rfl)) | (apply AL_extract; (iterate 3 exact rfl)) | refine AL_nil ?_ | (apply AL_guardT; (iterate 3 exact rfl); (first | with_reducible assumption | decide +kernel)) | (apply AL_guardFf; (iterate 3 exact rfl); (first | with_reducible assumption | decide +kernel)) | (apply AL_pickT; exact rfl; (first | with_reducible assumption | decide +kernel); exact rfl; exact rfl) | (apply AL_pickF; exact rfl; (first | with_reducible assumption | decide +kernel); exact rfl; exact rfl) | refine AW_region ?_ | refine AW_seq' ?_ | (apply AW_condB; exact rfl; (first | with_reducible assumption | decide +kernel)) | refine then_norm ?_ | refine AW_ret ?_ | (apply AL_lens ttok; (iterate 4 exact rfl)) | (apply AL_alloc ttok; (iterate 4 exact rfl)) | (apply AL_beq ttok; (iterate 6 exact rfl)) | (apply AL_eqS ttok; (iterate 4 exact rfl); (kernel_rfl); (kernel_rfl); (iterate 3 exact rfl)) | (apply AW_drawM 30 hmix; (decide +kernel); (kernel_rfl); (kernel_rfl); exact rfl; exact rfl) | (apply AD_cons; (iterate 3 exact rfl)) | refine AD.nil _ | exact qp_ok rfl | refine AW_skip ?_)
    all_goals (apply endQ []; (repeat (first | exact ResL.nil | (apply ResL.cons; first | exact .tmp _ _ rfl | (apply res_n ttok; (iterate 6 exact rfl)) | (apply res_1 ttok; (iterate 5 exact rfl))))); (iterate 4 exact rfl))
    all_goals first | rfl | (exfalso; revert hb; simp; done)
theorem av_eidReads [Known] [KnownSc] [KnownPow] [KnownU8] (s : List UInt8) (x : It) (hx : nI x) : AP Tryd.prog 10 [.str s, itD x] (.bool true) [] := by
  cases h1 : decide ((s.length : Int) > 300) with
  | true => exact er_al s x (.inl h1)
  | false =>
    cases hg : bigI x with
    | true => exact er_al s x (.inr ⟨h1, hg⟩)
    | false =>
      obtain ⟨hw, hlim, hdeep⟩ := bigI_no hg hx
      have hsl : s.length ≤ 300 := by have := of_decide_eq_false h1; omega
      have hG := av_great x 1 400 (by omega) (by omega) (by omega)
      have hP := av_parse s (by omega)
      have hRP := av_refParse s (by omega)
      have hR := av_eRead x hw
      have hS := av_as x hw 10 (deepI_more x 9 11 hdeep (by omega)) (by omega)
      have hRR := av_refERead x hw (by
        obtain ⟨k, n, b, l⟩ := x
        intro y hy
        have h1 := puts_mem (l := l) hy
        have h2 := put_l k n b l
        have h3 := b_le y
        omega)
      have hRP' : AP Tryd.prog 39 [.str s] (.tup [.agg (eC (if (parseE s).2 then (parseE s).1 else eidZ)), .bool (parseE s).2]) [] := by
        unfold parseR at hRP
        cases h : (parseE s).2 with
        | true => rw [h] at hRP; rw [if_pos rfl]; exact hRP
        | false => rw [h] at hRP; rw [if_neg (by simp)]; exact hRP
      have hR' : AP Tryd.prog 40 [itD x] (.tup [.agg (eC (if (readV x).2 then (readV x).1 else eidZ)), .int .i64 (if (readV x).2 then 0 else 3)]) [] := by
        unfold resE at hR
        cases h : (readV x).2 with
        | true => rw [h] at hR; rw [if_pos rfl, if_pos rfl]; exact hR
        | false => rw [h] at hR; rw [if_neg (by simp), if_neg (by simp)]; exact hR
      have hRR' : AP Tryd.prog 41 [itD x] (.tup [.agg (eC (if (readV x).2 then (readV x).1 else eidZ)), .bool (readV x).2]) [] := by
        unfold readR at hRR
        cases h : (readV x).2 with
        | true => rw [h] at hRR; rw [if_pos rfl]; exact hRR
        | false => rw [h] at hRR; rw [if_neg (by simp)]; exact hRR
      exact er_go s x _ _ _ _ _ h1 hg hG hP hRP' hR' hS hRR'
end Go.Proofs.YtnihobjehelagaaDoor
end
/- EidReads: the walk, from the row's arguments. -/
section
open Go.RowKit Go.Pl Go.Av
namespace Go.Proofs.YtnihobjehelagaaDoor
set_option linter.unusedVariables false
theorem eidReads_walk (a0 : ByteArray) (c1 : List Value) (x1 : It) (W : World) (h0 : a0.size ≤ maxLen) (h1 : ∃ m, (RI m).1.ok W (· < W.heap.size) c1 x1) (hl : laidMet Tryd.prog Rows.eidReadsRow.laid W) :
    Calls Tryd.prog 10 #[.string a0, .agg ⟨c1⟩] W fun e w' => e = .returned (.bool true) ∧ Below W.heap.size W w' := by
  obtain ⟨m, h1⟩ := h1
  have hg1 := gls_sc (laid := Rows.eidReadsRow.laid) (by unfold Rows.eidReadsRow; repeat (first | exact List.mem_cons_self .. | apply List.mem_cons_of_mem)) hl hl.tail.tail.tail.tail hl.tail.tail.tail.tail.tail
  have hg2 := gls_u8 (laid := Rows.eidReadsRow.laid) (by unfold Rows.eidReadsRow; repeat (first | exact List.mem_cons_self .. | apply List.mem_cons_of_mem)) (by unfold Rows.eidReadsRow; repeat (first | exact List.mem_cons_self .. | apply List.mem_cons_of_mem)) hl
  have hg : @Gls knownB (g0 W).C W := gls_two hg1 hg2
  have h := @av_eidReads knownB knownB_sc knownB_pow knownB_u8 a0.data.toList x1 (item_nI m h1)
  refine @topG knownB Tryd.prog 10 _ (@AC.mono knownB _ _ _ _ _ _ _ h fun r b t h => h.1) W [.string a0, .agg ⟨c1⟩] hg rfl ?_
  intro j d v hd hv
  match j, hd, hv with
  | 0, hd, hv => cases hd; cases hv; exact @str_V knownB _ _ h0
  | 1, hd, hv => cases hd; cases hv; exact item_V h1
  | j + 2, hd, hv => cases hd
end Go.Proofs.YtnihobjehelagaaDoor
end
