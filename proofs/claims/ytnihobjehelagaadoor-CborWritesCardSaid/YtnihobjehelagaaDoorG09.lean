/- The document's items: which may be, their bytes. -/
import Derived.Test.YtnihobjehelagaaDoorG08
import Derived.Test.YtnihobjehelagaaDoorG07
import Derived.Test.YtnihobjehelagaaDoorG05
section
open Go.RowKit Go.Pl Go.Av
namespace Go.Proofs.YtnihobjehelagaaDoor
set_option linter.unusedVariables false
set_option linter.unusedSimpArgs false
set_option maxHeartbeats 4000000
theorem fines_mem : ∀ {l : List It}, fines l = true → ∀ y ∈ l, fineI y = true
  | x :: l, h, y, hy => by
    rw [fines, Bool.and_eq_true] at h
    rcases List.mem_cons.1 hy with rfl | hy
    · exact h.1
    · exact fines_mem h.2 y hy
theorem n0' (n : Nat) : ((n : Int) != 0) = !decide (n = 0) := by rw [bne, n0]
theorem len0' {α : Type} {f : α → E} (b : List α) : (((b.map f).length : Int) != 0) = !b.isEmpty := by rw [bne, len0]
theorem av_fine [Known] : ∀ (x : It), wfI x → AP Tryd.prog 60 [itD x] (.bool (fineI x)) [] := by
  refine It.ind fun k n b l ih hw => ?_
  obtain ⟨_, hb, hl, hws⟩ := hw
  have e1 := len0 (f := E.byte) b
  have e2 := len0I l
  have e3 := n0 n
  have hv := av_refValid b hb
  have hlen := itEs_len l
  have hE : ∀ P : Bool, (P && l.isEmpty && fines l) = (P && l.isEmpty) := fun P => by
    cases l with
    | nil => rw [fines, Bool.and_true]
    | cons x l => simp
  by_cases k0 : k = 0
  · subst k0
    have e : fineI (.mk 0 n b l) = (b.isEmpty && l.isEmpty) := by rw [fineI]; exact hE _
    rw [e]
    cases hbe : b.isEmpty <;> cases hle : l.isEmpty
    all_goals
      rw [hbe] at e1
      rw [hle] at e2
      refine AP.ofA ?_
      refine AC_of Tryd.func60 rfl Tryd.ntmps60 rfl rfl ?_
      repeat' (first | rw [e1] | rw [e2] | (apply AL_move; exact rfl; exact rfl) | (apply AL_assign; exact rfl; exact rfl) | (apply AL_bin; (iterate 5 exact rfl)) | (apply AL_load1 ttok; (iterate 6 exact rfl)) | (apply AL_fieldAddr ttok; (iterate 7 exact rfl)) | (apply AL_box; (iterate 5 exact rfl)) | refine AL_nil ?_ | (apply AL_guardT; (iterate 3 exact rfl); (first | with_reducible assumption | decide +kernel)) | (apply AL_guardFt; (iterate 3 exact rfl); (first | with_reducible assumption | decide +kernel)) | (apply AL_pickT; exact rfl; (first | with_reducible assumption | decide +kernel); exact rfl; exact rfl) | (apply AL_pickF; exact rfl; (first | with_reducible assumption | decide +kernel); exact rfl; exact rfl) | refine AW_region ?_ | refine AW_seq' ?_ | (apply AW_condA; exact rfl; (first | with_reducible assumption | decide +kernel)) | refine then_norm ?_ | refine AW_block ?_ | refine AW_ret ?_ | refine then_ret ?_ | refine blk_ret ?_ | (apply AL_len ttok; (iterate 4 exact rfl)))
      all_goals (apply endQ []; (repeat (first | exact ResL.nil | (apply ResL.cons; first | exact .tmp _ _ rfl | (apply res_n ttok; (iterate 6 exact rfl)) | (apply res_1 ttok; (iterate 5 exact rfl))))); (iterate 4 exact rfl))
      all_goals rfl
  by_cases k2 : k = 2
  · subst k2
    have e : fineI (.mk 2 n b l) = (decide (n = 0) && l.isEmpty) := by rw [fineI]; exact hE _
    rw [e]
    cases hbe : decide (n = 0) <;> cases hle : l.isEmpty
    all_goals
      rw [hbe] at e3
      rw [hle] at e2
      refine AP.ofA ?_
      refine AC_of Tryd.func60 rfl Tryd.ntmps60 rfl rfl ?_
      repeat' (first | rw [e2] | rw [e3] | (apply AL_move; exact rfl; exact rfl) | (apply AL_assign; exact rfl; exact rfl) | (apply AL_bin; (iterate 5 exact rfl)) | (apply AL_load1 ttok; (iterate 6 exact rfl)) | (apply AL_fieldAddr ttok; (iterate 7 exact rfl)) | (apply AL_box; (iterate 5 exact rfl)) | refine AL_nil ?_ | (apply AL_guardT; (iterate 3 exact rfl); (first | with_reducible assumption | decide +kernel)) | (apply AL_guardFt; (iterate 3 exact rfl); (first | with_reducible assumption | decide +kernel)) | (apply AL_pickT; exact rfl; (first | with_reducible assumption | decide +kernel); exact rfl; exact rfl) | (apply AL_pickF; exact rfl; (first | with_reducible assumption | decide +kernel); exact rfl; exact rfl) | refine AW_region ?_ | refine AW_seq' ?_ | (apply AW_condA; exact rfl; (first | with_reducible assumption | decide +kernel)) | (apply AW_condB; exact rfl; (first | with_reducible assumption | decide +kernel)) | refine then_norm ?_ | refine AW_block ?_ | refine AW_ret ?_ | refine then_ret ?_ | refine blk_ret ?_ | (apply AL_len ttok; (iterate 4 exact rfl)))
      all_goals (apply endQ []; (repeat (first | exact ResL.nil | (apply ResL.cons; first | exact .tmp _ _ rfl | (apply res_n ttok; (iterate 6 exact rfl)) | (apply res_1 ttok; (iterate 5 exact rfl))))); (iterate 4 exact rfl))
      all_goals rfl
  by_cases k3 : k = 3
  · subst k3
    have e : fineI (.mk 3 n b l) = (decide (n = 0) && l.isEmpty && validU b) := by
      rw [fineI]
      have e : ownI 3 n b l = (decide (n = 0) && (l.isEmpty && validU b)) := rfl
      rw [e]
      cases l with
      | nil => rw [fines]; simp
      | cons x l => simp
    rw [e]
    cases hbe : decide (n = 0) <;> cases hle : l.isEmpty
    all_goals
      rw [hbe] at e3
      rw [hle] at e2
      refine AP.ofA ?_
      refine AC_of Tryd.func60 rfl Tryd.ntmps60 rfl rfl ?_
      repeat' (first | rw [e2] | rw [e3] | (apply AL_callPw (hv); kernel_rfl; (iterate 4 exact rfl)) | (apply AL_move; exact rfl; exact rfl) | (apply AL_assign; exact rfl; exact rfl) | (apply AL_bin; (iterate 5 exact rfl)) | (apply AL_load1 ttok; (iterate 6 exact rfl)) | (apply AL_fieldAddr ttok; (iterate 7 exact rfl)) | (apply AL_box; (iterate 5 exact rfl)) | refine AL_nil ?_ | (apply AL_guardT; (iterate 3 exact rfl); (first | with_reducible assumption | decide +kernel)) | (apply AL_guardFt; (iterate 3 exact rfl); (first | with_reducible assumption | decide +kernel)) | (apply AL_pickT; exact rfl; (first | with_reducible assumption | decide +kernel); exact rfl; exact rfl) | (apply AL_pickF; exact rfl; (first | with_reducible assumption | decide +kernel); exact rfl; exact rfl) | refine AW_region ?_ | refine AW_seq' ?_ | (apply AW_condA; exact rfl; (first | with_reducible assumption | decide +kernel)) | (apply AW_condB; exact rfl; (first | with_reducible assumption | decide +kernel)) | refine then_norm ?_ | refine AW_block ?_ | refine AW_ret ?_ | refine then_ret ?_ | refine blk_ret ?_ | (apply AL_len ttok; (iterate 4 exact rfl)))
      all_goals (apply endQ []; (repeat (first | exact ResL.nil | (apply ResL.cons; first | exact .tmp _ _ rfl | (apply res_n ttok; (iterate 6 exact rfl)) | (apply res_1 ttok; (iterate 5 exact rfl))))); (iterate 4 exact rfl))
      all_goals rfl
  by_cases k4 : k = 4
  · subst k4
    have e : fineI (.mk 4 n b l) = ((decide (n = 0) && b.isEmpty) && fines l) := by rw [fineI]; rfl
    rw [e]
    have f1 := n0' n
    have f2 := len0' (f := E.byte) b
    cases hbe : decide (n = 0) with
    | false =>
      rw [hbe] at f1
      replace f1 : ((n : Int) != 0) = true := f1
      refine AP.ofA ?_
      refine AC_of Tryd.func60 rfl Tryd.ntmps60 rfl rfl ?_
      repeat' (first | (apply AL_move; exact rfl; exact rfl) | (apply AL_assign; exact rfl; exact rfl) | (apply AL_bin; (iterate 5 exact rfl)) | (apply AL_load1 ttok; (iterate 6 exact rfl)) | (apply AL_fieldAddr ttok; (iterate 7 exact rfl)) | (apply AL_box; (iterate 5 exact rfl)) | refine AL_nil ?_ | (apply AL_guardFf; (iterate 3 exact rfl); (first | with_reducible assumption | decide +kernel)) | (apply AL_pickT; exact rfl; (first | with_reducible assumption | decide +kernel); exact rfl; exact rfl) | refine AW_region ?_ | refine AW_seq' ?_ | (apply AW_condA; exact rfl; (first | with_reducible assumption | decide +kernel)) | (apply AW_condB; exact rfl; (first | with_reducible assumption | decide +kernel)) | refine then_norm ?_ | refine AW_block ?_ | refine AW_ret ?_ | refine then_ret ?_ | refine blk_ret ?_)
      all_goals (apply endQ []; (repeat (first | exact ResL.nil | (apply ResL.cons; first | exact .tmp _ _ rfl | (apply res_n ttok; (iterate 6 exact rfl)) | (apply res_1 ttok; (iterate 5 exact rfl))))); (iterate 4 exact rfl))
      all_goals rfl
    | true =>
      rw [hbe] at f1
      replace f1 : ((n : Int) != 0) = false := f1
      cases hle : b.isEmpty with
      | false =>
        rw [hle] at f2
        replace f2 : (((b.map E.byte).length : Int) != 0) = true := f2
        refine AP.ofA ?_
        refine AC_of Tryd.func60 rfl Tryd.ntmps60 rfl rfl ?_
        repeat' (first | (apply AL_move; exact rfl; exact rfl) | (apply AL_assign; exact rfl; exact rfl) | (apply AL_bin; (iterate 5 exact rfl)) | (apply AL_load1 ttok; (iterate 6 exact rfl)) | (apply AL_fieldAddr ttok; (iterate 7 exact rfl)) | (apply AL_box; (iterate 5 exact rfl)) | refine AL_nil ?_ | (apply AL_guardT; (iterate 3 exact rfl); (first | with_reducible assumption | decide +kernel)) | (apply AL_pickF; exact rfl; (first | with_reducible assumption | decide +kernel); exact rfl; exact rfl) | refine AW_region ?_ | refine AW_seq' ?_ | (apply AW_condA; exact rfl; (first | with_reducible assumption | decide +kernel)) | (apply AW_condB; exact rfl; (first | with_reducible assumption | decide +kernel)) | refine then_norm ?_ | refine AW_block ?_ | refine AW_ret ?_ | refine then_ret ?_ | refine blk_ret ?_ | (apply AL_len ttok; (iterate 4 exact rfl)))
        all_goals (apply endQ []; (repeat (first | exact ResL.nil | (apply ResL.cons; first | exact .tmp _ _ rfl | (apply res_n ttok; (iterate 6 exact rfl)) | (apply res_1 ttok; (iterate 5 exact rfl))))); (iterate 4 exact rfl))
        all_goals rfl
      | true =>
        rw [hle] at f2
        replace f2 : (((b.map E.byte).length : Int) != 0) = false := f2
        rw [Bool.true_and, Bool.true_and]
        generalize hfin : fines l = fin
        refine AP.ofA ?_
        refine AC_of Tryd.func60 rfl Tryd.ntmps60 rfl rfl ?_
        repeat' (first | (apply AL_move; exact rfl; exact rfl) | (apply AL_assign; exact rfl; exact rfl) | (apply AL_bin; (iterate 5 exact rfl)) | (apply AL_load1 ttok; (iterate 6 exact rfl)) | (apply AL_fieldAddr ttok; (iterate 7 exact rfl)) | (apply AL_box; (iterate 5 exact rfl)) | refine AL_nil ?_ | (apply AL_guardT; (iterate 3 exact rfl); (first | with_reducible assumption | decide +kernel)) | (apply AL_pickF; exact rfl; (first | with_reducible assumption | decide +kernel); exact rfl; exact rfl) | refine AW_region ?_ | refine AW_seq' ?_ | (apply AW_condA; exact rfl; (first | with_reducible assumption | decide +kernel)) | (apply AW_condB; exact rfl; (first | with_reducible assumption | decide +kernel)) | refine then_norm ?_ | refine AW_block ?_ | (apply AL_len ttok; (iterate 4 exact rfl)) | refine AW_skip ?_)
        refine AW_loopJ (fun f tm bx fr => ∃ i : Nat, f + i = l.length ∧ fines (l.drop i) = fin ∧ tm = [(1, .ptr 0 0), (3, .int .i64 (i : Int))] ∧ bx = [itC 4 n b l] ∧ fr = []) (l.length + 1) (Lands.mk' (m := l.length) (Nat.lt_succ_self _) ⟨0, rfl, hfin, rfl, rfl, rfl⟩ ?_ rfl rfl rfl rfl rfl rfl) ?_
        · exact .cons rfl (.cons rfl .nil)
        rintro f tm bx fr ⟨i, hf, hfin, rfl, rfl, rfl⟩
        have hU := uniI l
        rcases Nat.lt_or_ge i l.length with hlt | hge
        · have hdl : decide ((i : Int) < ((itEs l).length : Int)) = true := decide_eq_true (by omega)
          obtain ⟨⟨k1, n1, b1, l1⟩, hy⟩ : ∃ y, l[i]? = some y := ⟨_, List.getElem?_eq_getElem hlt⟩
          have hv : (itEs l)[((i : Nat) : Int).toNat]? = some (.agg [.int .i64 k1, .int .u64 (n1 : Int), .sl (b1.map E.byte), .sl (itEs l1)]) := by
            rw [Int.toNat_natCast, itEs_map, List.getElem?_map, hy]; rfl
          have hmem := List.mem_of_getElem? hy
          have hc := ih _ hmem (wfs_mem hws _ hmem)
          have hdr : l.drop i = It.mk k1 n1 b1 l1 :: l.drop (i + 1) := by
            rw [List.drop_eq_getElem_cons hlt]; congr 1
            exact (List.getElem?_eq_some_iff.1 hy).2
          rw [hdr, fines] at hfin
          have ei : IntKind.i64.wrap ((i : Int) + 1) = ((i + 1 : Nat) : Int) := by rw [IntWalk.i64_in _ (by omega)]; omega
          cases hq : fineI (.mk k1 n1 b1 l1) with
          | false =>
            rw [hq] at hc hfin
            rw [Bool.false_and] at hfin
            subst hfin
            repeat' (first | (apply AL_callPw (hc); kernel_rfl; (iterate 4 exact rfl)) | (apply AL_move; exact rfl; exact rfl) | (apply AL_assign; exact rfl; exact rfl) | (apply AL_bin; (iterate 5 exact rfl)) | (apply AL_load1 ttok; (iterate 6 exact rfl)) | (apply AL_fieldAddr ttok; (iterate 7 exact rfl)) | (apply AL_not; exact rfl; exact rfl) | refine AL_nil ?_ | refine AW_region ?_ | refine AW_seq' ?_ | (apply AW_condA; exact rfl; (first | with_reducible assumption | decide +kernel)) | refine then_norm ?_ | refine AW_block ?_ | refine AW_ret ?_ | refine then_ret ?_ | refine blk_ret ?_ | (apply AL_len ttok; (iterate 4 exact rfl)) | (apply AL_eloadn ttok; (iterate 6 exact rfl)) | refine AW_skip ?_ | (apply AL_idx ttok; (iterate 6 exact rfl); (first | with_reducible assumption | decide +kernel | exact Int.natCast_nonneg _ | (guard_target = (0:Int) ≤ (OfNat.ofNat _ : Int); decide) | rotate_left); (first | with_reducible assumption | decide +kernel | exact rfl); (first | exact uniB_ok rfl | with_reducible assumption | decide +kernel | rotate_left)))
            all_goals (apply endQ []; (repeat (first | exact ResL.nil | (apply ResL.cons; first | exact .tmp _ _ rfl | (apply res_n ttok; (iterate 6 exact rfl)) | (apply res_1 ttok; (iterate 5 exact rfl))))); (iterate 4 exact rfl))
            all_goals rfl
          | true =>
            rw [hq] at hc hfin
            rw [Bool.true_and] at hfin
            repeat' (first | rw [ei] | (apply AL_callPw (hc); kernel_rfl; (iterate 4 exact rfl)) | (apply AL_move; exact rfl; exact rfl) | (apply AL_assign; exact rfl; exact rfl) | (apply AL_bin; (iterate 5 exact rfl)) | (apply AL_load1 ttok; (iterate 6 exact rfl)) | (apply AL_fieldAddr ttok; (iterate 7 exact rfl)) | (apply AL_not; exact rfl; exact rfl) | refine AL_nil ?_ | refine AW_region ?_ | refine AW_seq' ?_ | (apply AW_condA; exact rfl; (first | with_reducible assumption | decide +kernel)) | (apply AW_condB; exact rfl; (first | with_reducible assumption | decide +kernel)) | refine then_norm ?_ | refine AW_block ?_ | (apply AL_len ttok; (iterate 4 exact rfl)) | (apply AL_eloadn ttok; (iterate 6 exact rfl)) | refine AW_skip ?_ | (apply AL_idx ttok; (iterate 6 exact rfl); (first | with_reducible assumption | decide +kernel | exact Int.natCast_nonneg _ | (guard_target = (0:Int) ≤ (OfNat.ofNat _ : Int); decide) | rotate_left); (first | with_reducible assumption | decide +kernel | exact rfl); (first | exact uniB_ok rfl | with_reducible assumption | decide +kernel | rotate_left)))
            refine Lands.mk' (m := f - 1) (by omega) ⟨i + 1, by omega, hfin, rfl, rfl, rfl⟩ ?_ rfl rfl rfl rfl rfl rfl
            exact .cons rfl (.cons rfl .nil)
        · have hdl : decide ((i : Int) < ((itEs l).length : Int)) = false := decide_eq_false (by omega)
          rw [List.drop_eq_nil_of_le hge] at hfin
          have hfin : true = fin := hfin
          subst hfin
          repeat' (first | (apply AL_move; exact rfl; exact rfl) | (apply AL_assign; exact rfl; exact rfl) | (apply AL_bin; (iterate 5 exact rfl)) | (apply AL_load1 ttok; (iterate 6 exact rfl)) | (apply AL_fieldAddr ttok; (iterate 7 exact rfl)) | refine AL_nil ?_ | refine AW_region ?_ | refine AW_seq' ?_ | (apply AW_condB; exact rfl; (first | with_reducible assumption | decide +kernel)) | refine then_norm ?_ | refine AW_exit ?_ | refine AW_ret ?_ | refine then_ret ?_ | refine blk_ret ?_ | (apply AL_len ttok; (iterate 4 exact rfl)))
          all_goals (apply endQ []; (repeat (first | exact ResL.nil | (apply ResL.cons; first | exact .tmp _ _ rfl | (apply res_n ttok; (iterate 6 exact rfl)) | (apply res_1 ttok; (iterate 5 exact rfl))))); (iterate 4 exact rfl))
          all_goals rfl
  · have t0 : (k == 0) = false := by simpa using k0
    have t2 : (k == 2) = false := by simpa using k2
    have t3 : (k == 3) = false := by simpa using k3
    have t4 : (k == 4) = false := by simpa using k4
    have e : fineI (.mk k n b l) = false := by rw [fineI]; simp [ownI, k0, k2, k3, k4]
    rw [e]
    refine AP.ofA ?_
    refine AC_of Tryd.func60 rfl Tryd.ntmps60 rfl rfl ?_
    repeat' (first | (apply AL_assign; exact rfl; exact rfl) | (apply AL_bin; (iterate 5 exact rfl)) | (apply AL_load1 ttok; (iterate 6 exact rfl)) | (apply AL_fieldAddr ttok; (iterate 7 exact rfl)) | (apply AL_box; (iterate 5 exact rfl)) | refine AL_nil ?_ | refine AW_region ?_ | refine AW_seq' ?_ | (apply AW_condB; exact rfl; (first | with_reducible assumption | decide +kernel)) | refine then_norm ?_ | refine AW_block ?_ | refine AW_ret ?_ | refine AW_skip ?_)
    all_goals (apply endQ []; (repeat (first | exact ResL.nil | (apply ResL.cons; first | exact .tmp _ _ rfl | (apply res_n ttok; (iterate 6 exact rfl)) | (apply res_1 ttok; (iterate 5 exact rfl))))); (iterate 4 exact rfl))
    all_goals rfl
theorem av_refRightI [Known] (x : It) (hw : wfI x) (hs : sizeI x ≤ 1000) : AP Tryd.prog 26 [itD x] (.bool (rightI x)) [] := by
  have h1 := av_deep x hw 7 (by omega)
  have h2 := av_size 257 (by omega) x hs
  have h3 := av_fine x hw
  replace h1 : AP Tryd.prog _ [itD x, .int .i64 7] (.int .i64 (depR x 7 : Int)) [] := h1
  replace h2 : AP Tryd.prog _ [itD x, .int .i64 257] (.int .i64 (sizeR x 257 : Int)) [] := h2
  rw [← rightR_eq]
  have e1 : decide ((depR x 7 : Int) ≤ 6) = decide (depR x 7 ≤ 6) := by rw [decide_eq_decide]; omega
  have e2 : decide ((sizeR x 257 : Int) ≤ 256) = decide (sizeR x 257 ≤ 256) := by rw [decide_eq_decide]; omega
  generalize decide (depR x 7 ≤ 6) = p at *
  generalize decide (sizeR x 257 ≤ 256) = q at *
  generalize fineI x = r at *
  obtain ⟨k, n, b, l⟩ := x
  cases p <;> cases q
  all_goals
    refine AP.ofA ?_
    refine AC_of Tryd.func26 rfl Tryd.ntmps26 rfl rfl ?_
    repeat' (first | (apply AL_callPw (h1); kernel_rfl; (iterate 4 exact rfl)) | (apply AL_callPw (h2); kernel_rfl; (iterate 4 exact rfl)) | (apply AL_callPw (h3); kernel_rfl; (iterate 4 exact rfl)) | (apply AL_move; exact rfl; exact rfl) | (apply AL_assign; exact rfl; exact rfl) | (apply AL_bin; (iterate 5 exact rfl)) | (apply AL_loadn ttok; (iterate 7 exact rfl)) | (apply AL_box; (iterate 5 exact rfl)) | refine AL_nil ?_ | (apply AL_guardT; (iterate 3 exact rfl); (first | with_reducible assumption | decide +kernel)) | (apply AL_guardFt; (iterate 3 exact rfl); (first | with_reducible assumption | decide +kernel)) | (apply AL_pickT; exact rfl; (first | with_reducible assumption | decide +kernel); exact rfl; exact rfl) | (apply AL_pickF; exact rfl; (first | with_reducible assumption | decide +kernel); exact rfl; exact rfl) | refine AW_region ?_ | refine AW_seq' ?_ | refine then_norm ?_ | refine AW_ret ?_)
    all_goals (apply endQ []; (repeat (first | exact ResL.nil | (apply ResL.cons; first | exact .tmp _ _ rfl | (apply res_n ttok; (iterate 6 exact rfl)) | (apply res_1 ttok; (iterate 5 exact rfl))))); (iterate 4 exact rfl))
    all_goals rfl
theorem av_refPut [Known] : ∀ (x : It), wfI x → fineI x = true → (putI x).length ≤ 1099511627776 → AP Tryd.prog 28 [itD x] (byE (putI x)) [] := by
  refine It.ind fun k n b l ih hw hfi hlim => ?_
  obtain ⟨hn, hb, hl, hws⟩ := hw
  rw [fineI, Bool.and_eq_true] at hfi
  obtain ⟨ho, hfs⟩ := hfi
  have hlen := itEs_len l
  have hk7 := own_k07 ho
  have hr : rightB (k, (It.mk k n b l).hn, false) = true := by simp [rightB]; exact hk7
  have hhn : (It.mk k n b l).hn < 18446744073709551616 := by simp only [It.hn]; (repeat' split) <;> omega
  have hput : putI (.mk k n b l) = writeL (k, (It.mk k n b l).hn, false) ++ (b ++ puts l) := by rw [putI, if_pos hr]
  have hW := av_refWriteT (k, (It.mk k n b l).hn, false) hr hhn
  obtain ⟨c0, t0, hcw⟩ := writeL_cons (k, (It.mk k n b l).hn, false)
  rw [hput] at hlim ⊢
  rw [hcw] at hW hlim ⊢
  have hU0 := uniB1 (c0 :: t0)
  have hU1 := uniB1 b
  clear hr hhn hcw hput
  have eb : IntKind.u64.wrap (((b.map E.byte).length : Nat) : Int) = ((b.length : Nat) : Int) := by rw [List.length_map, IntKind.wrap_u64]; omega
  have el : IntKind.u64.wrap (((itEs l).length : Nat) : Int) = ((l.length : Nat) : Int) := by rw [hlen, IntKind.wrap_u64]; omega
  rcases ownI_k ho with ⟨rfl, rfl, rfl⟩ | ⟨rfl, rfl, rfl⟩ | ⟨rfl, rfl, rfl, _⟩ | ⟨rfl, rfl, rfl⟩
  · replace hW : AT Tryd.prog _ [.agg [.int .i64 0, .int .u64 (n : Int), .bool false]] [] [] _ [] _ := hW
    refine AP.ofA ?_
    refine AC_of Tryd.func28 rfl Tryd.ntmps28 rfl rfl ?_
    repeat' (first | (apply AL_callT [] [] (hW); kernel_rfl; (iterate 10 exact rfl)) | refine AW_loopN 70 ?_ | refine AN_succ ?_ | (apply AL_move; exact rfl; exact rfl) | (apply AL_assign; exact rfl; exact rfl) | (apply AL_bin; (iterate 5 exact rfl)) | (apply AL_load1 ttok; (iterate 6 exact rfl)) | (apply AL_loadn ttok; (iterate 7 exact rfl)) | (apply AL_fieldAddr ttok; (iterate 7 exact rfl)) | (apply AL_boxZ; (iterate 5 exact rfl)) | (apply AL_store ttok; (iterate 8 exact rfl)) | refine AL_nil ?_ | refine AW_region ?_ | refine AW_seq' ?_ | (apply AW_condB; exact rfl; (first | with_reducible assumption | decide +kernel)) | refine then_norm ?_ | refine AW_block ?_ | refine AW_exit ?_ | refine AW_ret ?_ | (apply AL_len ttok; (iterate 4 exact rfl)) | (apply AL_build ttok; (iterate 6 exact rfl)) | (apply AL_allocZ ttok; (iterate 4 exact rfl)) | refine AW_skip ?_ | (apply AL_append_none ttok; (iterate 6 exact rfl)))
    all_goals (apply endQ []; (repeat (first | exact ResL.nil | (apply ResL.cons; first | exact .tmp _ _ rfl | (apply res_n ttok; (iterate 6 exact rfl)) | (apply res_1 ttok; (iterate 5 exact rfl))))); (iterate 4 exact rfl))
    · rw [puts, List.append_nil, List.append_nil]
    · rfl
  · replace hW : AT Tryd.prog _ [.agg [.int .i64 2, .int .u64 (b.length : Int), .bool false]] [] [] _ [] _ := hW
    rcases b with _ | ⟨c1, b⟩
    · refine AP.ofA ?_
      refine AC_of Tryd.func28 rfl Tryd.ntmps28 rfl rfl ?_
      repeat' (first | rw [eb] | (apply AL_callT [] [] (hW); kernel_rfl; (iterate 10 exact rfl)) | refine AW_loopN 70 ?_ | refine AN_succ ?_ | (apply AL_move; exact rfl; exact rfl) | (apply AL_assign; exact rfl; exact rfl) | (apply AL_bin; (iterate 5 exact rfl)) | (apply AL_load1 ttok; (iterate 6 exact rfl)) | (apply AL_loadn ttok; (iterate 7 exact rfl)) | (apply AL_fieldAddr ttok; (iterate 7 exact rfl)) | (apply AL_boxZ; (iterate 5 exact rfl)) | (apply AL_store ttok; (iterate 8 exact rfl)) | (apply AL_convT ttok; (iterate 5 exact rfl)) | refine AL_nil ?_ | refine AW_region ?_ | refine AW_seq' ?_ | (apply AW_condA; exact rfl; (first | with_reducible assumption | decide +kernel)) | (apply AW_condB; exact rfl; (first | with_reducible assumption | decide +kernel)) | refine then_norm ?_ | refine AW_block ?_ | refine AW_exit ?_ | refine AW_ret ?_ | (apply AL_len ttok; (iterate 4 exact rfl)) | (apply AL_build ttok; (iterate 6 exact rfl)) | (apply AL_allocZ ttok; (iterate 4 exact rfl)) | (apply AL_append_none ttok; (iterate 6 exact rfl)))
      all_goals (apply endQ []; (repeat (first | exact ResL.nil | (apply ResL.cons; first | exact .tmp _ _ rfl | (apply res_n ttok; (iterate 6 exact rfl)) | (apply res_1 ttok; (iterate 5 exact rfl))))); (iterate 4 exact rfl))
      · rw [puts, List.append_nil, List.append_nil]
      · rfl
    · refine AP.ofA ?_
      refine AC_of Tryd.func28 rfl Tryd.ntmps28 rfl rfl ?_
      repeat' (first | rw [eb] | (apply AL_callT [] [] (hW); kernel_rfl; (iterate 10 exact rfl)) | refine AW_loopN 70 ?_ | refine AN_succ ?_ | (apply AL_move; exact rfl; exact rfl) | (apply AL_assign; exact rfl; exact rfl) | (apply AL_bin; (iterate 5 exact rfl)) | (apply AL_load1 ttok; (iterate 6 exact rfl)) | (apply AL_loadn ttok; (iterate 7 exact rfl)) | (apply AL_fieldAddr ttok; (iterate 7 exact rfl)) | (apply AL_boxZ; (iterate 5 exact rfl)) | (apply AL_store ttok; (iterate 8 exact rfl)) | (apply AL_convT ttok; (iterate 5 exact rfl)) | refine AL_nil ?_ | refine AW_region ?_ | refine AW_seq' ?_ | (apply AW_condA; exact rfl; (first | with_reducible assumption | decide +kernel)) | (apply AW_condB; exact rfl; (first | with_reducible assumption | decide +kernel)) | refine then_norm ?_ | refine AW_block ?_ | refine AW_exit ?_ | refine AW_ret ?_ | (apply AL_len ttok; (iterate 4 exact rfl)) | (apply AL_build ttok; (iterate 6 exact rfl)) | (apply AL_allocZ ttok; (iterate 4 exact rfl)) | (apply AL_append ttok; (iterate 6 exact rfl); (first | with_reducible assumption | decide +kernel | exact rfl | rotate_left); exact rfl; exact rfl; (first | exact uniB_ok rfl | with_reducible assumption | decide +kernel | rotate_left); (first | exact uniB_ok rfl | with_reducible assumption | decide +kernel | rotate_left); (first | exact List.cons_ne_nil _ _ | with_reducible assumption | decide +kernel | rotate_left); (first | with_reducible assumption | decide +kernel | rotate_left); (first | with_reducible assumption | decide +kernel | rotate_left); exact rfl; exact rfl))
      all_goals first | (apply endQ []; (repeat (first | exact ResL.nil | (apply ResL.cons; first | exact .tmp _ _ rfl | (apply res_n ttok; (iterate 6 exact rfl)) | (apply res_1 ttok; (iterate 5 exact rfl))))); (iterate 4 exact rfl)) | (first | rfl | (simp only [List.length_append, List.length_cons, List.length_nil, List.length_map, itEs_len]; done) | (simp only [List.length_append, List.length_cons, List.length_nil, List.length_map, itEs_len] at *; (try unfold maxLen); (try simp only [Nat.add_mul]); omega))
      · rw [puts, List.append_nil]; exact congrArg (D.sl .ext) (List.map_append (f := E.byte) (l₁ := c0 :: t0) (l₂ := c1 :: b)).symm
      · rfl
  · replace hW : AT Tryd.prog _ [.agg [.int .i64 3, .int .u64 (b.length : Int), .bool false]] [] [] _ [] _ := hW
    rcases b with _ | ⟨c1, b⟩
    · refine AP.ofA ?_
      refine AC_of Tryd.func28 rfl Tryd.ntmps28 rfl rfl ?_
      repeat' (first | rw [eb] | (apply AL_callT [] [] (hW); kernel_rfl; (iterate 10 exact rfl)) | refine AW_loopN 70 ?_ | refine AN_succ ?_ | (apply AL_move; exact rfl; exact rfl) | (apply AL_assign; exact rfl; exact rfl) | (apply AL_bin; (iterate 5 exact rfl)) | (apply AL_load1 ttok; (iterate 6 exact rfl)) | (apply AL_loadn ttok; (iterate 7 exact rfl)) | (apply AL_fieldAddr ttok; (iterate 7 exact rfl)) | (apply AL_boxZ; (iterate 5 exact rfl)) | (apply AL_store ttok; (iterate 8 exact rfl)) | (apply AL_convT ttok; (iterate 5 exact rfl)) | refine AL_nil ?_ | refine AW_region ?_ | refine AW_seq' ?_ | (apply AW_condA; exact rfl; (first | with_reducible assumption | decide +kernel)) | (apply AW_condB; exact rfl; (first | with_reducible assumption | decide +kernel)) | refine then_norm ?_ | refine AW_block ?_ | refine AW_exit ?_ | refine AW_ret ?_ | (apply AL_len ttok; (iterate 4 exact rfl)) | (apply AL_build ttok; (iterate 6 exact rfl)) | (apply AL_allocZ ttok; (iterate 4 exact rfl)) | (apply AL_append_none ttok; (iterate 6 exact rfl)))
      all_goals (apply endQ []; (repeat (first | exact ResL.nil | (apply ResL.cons; first | exact .tmp _ _ rfl | (apply res_n ttok; (iterate 6 exact rfl)) | (apply res_1 ttok; (iterate 5 exact rfl))))); (iterate 4 exact rfl))
      · rw [puts, List.append_nil, List.append_nil]
      · rfl
    · refine AP.ofA ?_
      refine AC_of Tryd.func28 rfl Tryd.ntmps28 rfl rfl ?_
      repeat' (first | rw [eb] | (apply AL_callT [] [] (hW); kernel_rfl; (iterate 10 exact rfl)) | refine AW_loopN 70 ?_ | refine AN_succ ?_ | (apply AL_move; exact rfl; exact rfl) | (apply AL_assign; exact rfl; exact rfl) | (apply AL_bin; (iterate 5 exact rfl)) | (apply AL_load1 ttok; (iterate 6 exact rfl)) | (apply AL_loadn ttok; (iterate 7 exact rfl)) | (apply AL_fieldAddr ttok; (iterate 7 exact rfl)) | (apply AL_boxZ; (iterate 5 exact rfl)) | (apply AL_store ttok; (iterate 8 exact rfl)) | (apply AL_convT ttok; (iterate 5 exact rfl)) | refine AL_nil ?_ | refine AW_region ?_ | refine AW_seq' ?_ | (apply AW_condA; exact rfl; (first | with_reducible assumption | decide +kernel)) | (apply AW_condB; exact rfl; (first | with_reducible assumption | decide +kernel)) | refine then_norm ?_ | refine AW_block ?_ | refine AW_exit ?_ | refine AW_ret ?_ | (apply AL_len ttok; (iterate 4 exact rfl)) | (apply AL_build ttok; (iterate 6 exact rfl)) | (apply AL_allocZ ttok; (iterate 4 exact rfl)) | (apply AL_append ttok; (iterate 6 exact rfl); (first | with_reducible assumption | decide +kernel | exact rfl | rotate_left); exact rfl; exact rfl; (first | exact uniB_ok rfl | with_reducible assumption | decide +kernel | rotate_left); (first | exact uniB_ok rfl | with_reducible assumption | decide +kernel | rotate_left); (first | exact List.cons_ne_nil _ _ | with_reducible assumption | decide +kernel | rotate_left); (first | with_reducible assumption | decide +kernel | rotate_left); (first | with_reducible assumption | decide +kernel | rotate_left); exact rfl; exact rfl))
      all_goals first | (apply endQ []; (repeat (first | exact ResL.nil | (apply ResL.cons; first | exact .tmp _ _ rfl | (apply res_n ttok; (iterate 6 exact rfl)) | (apply res_1 ttok; (iterate 5 exact rfl))))); (iterate 4 exact rfl)) | (first | rfl | (simp only [List.length_append, List.length_cons, List.length_nil, List.length_map, itEs_len]; done) | (simp only [List.length_append, List.length_cons, List.length_nil, List.length_map, itEs_len] at *; (try unfold maxLen); (try simp only [Nat.add_mul]); omega))
      · rw [puts, List.append_nil]; exact congrArg (D.sl .ext) (List.map_append (f := E.byte) (l₁ := c0 :: t0) (l₂ := c1 :: b)).symm
      · rfl
  · replace hW : AT Tryd.prog _ [.agg [.int .i64 4, .int .u64 (l.length : Int), .bool false]] [] [] _ [] _ := hW
    refine AP.ofA ?_
    refine AC_of Tryd.func28 rfl Tryd.ntmps28 rfl rfl ?_
    repeat' (first | rw [el] | (apply AL_callT [] [] (hW); kernel_rfl; (iterate 10 exact rfl)) | (apply AL_move; exact rfl; exact rfl) | (apply AL_assign; exact rfl; exact rfl) | (apply AL_bin; (iterate 5 exact rfl)) | (apply AL_load1 ttok; (iterate 6 exact rfl)) | (apply AL_loadn ttok; (iterate 7 exact rfl)) | (apply AL_fieldAddr ttok; (iterate 7 exact rfl)) | (apply AL_boxZ; (iterate 5 exact rfl)) | (apply AL_store ttok; (iterate 8 exact rfl)) | (apply AL_convT ttok; (iterate 5 exact rfl)) | refine AL_nil ?_ | refine AW_region ?_ | refine AW_seq' ?_ | (apply AW_condA; exact rfl; (first | with_reducible assumption | decide +kernel)) | refine then_norm ?_ | refine AW_block ?_ | (apply AL_len ttok; (iterate 4 exact rfl)) | (apply AL_build ttok; (iterate 6 exact rfl)) | (apply AL_allocZ ttok; (iterate 4 exact rfl)) | (apply AL_append_none ttok; (iterate 6 exact rfl)))
    refine AW_loopJ (fun f tm bx fr => ∃ (i c : Nat) (M : List E), f + i = l.length ∧ c = M.length ∧ M = ((c0 :: t0) ++ puts (l.take i)).map E.byte ∧ tm = [(1, .ptr 0 0), (4, .sl (.own 0) M), (5, .int .i64 (i : Int))] ∧ bx = [itC 4 0 [] l, [.int .i64 4, .int .u64 (l.length : Int), .bool false]] ∧ fr = [⟨c, 1, 5⟩]) (l.length + 1) (Lands.mk' (m := l.length) (Nat.lt_succ_self _) ⟨0, (c0 :: t0).length, (c0 :: t0).map E.byte, rfl, by rw [List.length_map], by rw [List.take_zero, puts, List.append_nil], rfl, rfl, rfl⟩ ?_ rfl rfl rfl rfl rfl rfl) ?_
    · exact .cons rfl (.cons rfl (.cons rfl .nil))
    rintro f tm bx fr ⟨i, c, M, hf, hc, hM, rfl, rfl, rfl⟩
    subst hc
    have hU := uniI l
    have hUM : Uni 1 M := by rw [hM]; exact uniB1 _
    have hMl : M.length = (c0 :: t0).length + (puts (l.take i)).length := by rw [hM, List.length_map, List.length_append]
    rcases Nat.lt_or_ge i l.length with hlt | hge
    · have hdl : decide ((i : Int) < ((itEs l).length : Int)) = true := decide_eq_true (by omega)
      obtain ⟨⟨k1, n1, b2, l1⟩, hy⟩ : ∃ y, l[i]? = some y := ⟨_, List.getElem?_eq_getElem hlt⟩
      have hv : (itEs l)[((i : Nat) : Int).toNat]? = some (.agg [.int .i64 k1, .int .u64 (n1 : Int), .sl (b2.map E.byte), .sl (itEs l1)]) := by
        rw [Int.toNat_natCast, itEs_map, List.getElem?_map, hy]; rfl
      have hmem := List.mem_of_getElem? hy
      have hps := puts_take_succ hy
      have hpl := puts_take_le l (i + 1)
      have hps2 := congrArg List.length hps
      rw [List.length_append] at hps2
      rw [List.length_append, List.nil_append] at hlim
      have hfy := fines_mem hfs _ hmem
      have hc := ih _ hmem (wfs_mem hws _ hmem) hfy (by omega)
      rw [fineI, Bool.and_eq_true] at hfy
      have hk1 := own_k07 hfy.1
      have hpos := putI_pos (x := .mk k1 n1 b2 l1) hk1
      generalize putI (.mk k1 n1 b2 l1) = Q at hc hps hps2 hpos
      obtain ⟨q0, Q, rfl⟩ : ∃ q0 Q', Q = q0 :: Q' := by
        cases Q with
        | nil => simp at hpos
        | cons q Q => exact ⟨q, Q, rfl⟩
      have hUQ := uniB1 (q0 :: Q)
      have ei : IntKind.i64.wrap ((i : Int) + 1) = ((i + 1 : Nat) : Int) := by rw [IntWalk.i64_in _ (by omega)]; omega
      repeat' (first | rw [ei] | (apply AL_callPw (hc); kernel_rfl; (iterate 4 exact rfl)) | (apply AL_move; exact rfl; exact rfl) | (apply AL_assign; exact rfl; exact rfl) | (apply AL_bin; (iterate 5 exact rfl)) | (apply AL_load1 ttok; (iterate 6 exact rfl)) | (apply AL_fieldAddr ttok; (iterate 7 exact rfl)) | refine AL_nil ?_ | refine AW_region ?_ | refine AW_seq' ?_ | (apply AW_condA; exact rfl; (first | with_reducible assumption | decide +kernel)) | refine then_norm ?_ | refine AW_block ?_ | (apply AL_len ttok; (iterate 4 exact rfl)) | (apply AL_eloadn ttok; (iterate 6 exact rfl)) | refine AW_skip ?_ | (apply AL_append ttok; (iterate 6 exact rfl); (first | with_reducible assumption | decide +kernel | exact rfl | rotate_left); exact rfl; exact rfl; (first | exact uniB_ok rfl | with_reducible assumption | decide +kernel | rotate_left); (first | exact uniB_ok rfl | with_reducible assumption | decide +kernel | rotate_left); (first | exact List.cons_ne_nil _ _ | with_reducible assumption | decide +kernel | rotate_left); (first | with_reducible assumption | decide +kernel | rotate_left); (first | with_reducible assumption | decide +kernel | rotate_left); exact rfl; exact rfl) | (apply AL_idx ttok; (iterate 6 exact rfl); (first | with_reducible assumption | decide +kernel | exact Int.natCast_nonneg _ | (guard_target = (0:Int) ≤ (OfNat.ofNat _ : Int); decide) | rotate_left); (first | with_reducible assumption | decide +kernel | exact rfl); (first | exact uniB_ok rfl | with_reducible assumption | decide +kernel | rotate_left)))
      all_goals first | (first | rfl | (simp only [List.length_append, List.length_cons, List.length_nil, List.length_map, itEs_len]; done) | (simp only [List.length_append, List.length_cons, List.length_nil, List.length_map, itEs_len] at *; (try unfold maxLen); (try simp only [Nat.add_mul]); omega)) | skip
      refine Lands.mk' (m := f - 1) (by omega) ⟨i + 1, M.length + ((q0 :: Q).map E.byte).length, M ++ (q0 :: Q).map E.byte, by omega, by rw [List.length_append], by rw [hM, hps, ← List.map_append, List.append_assoc], rfl, rfl, rfl⟩ ?_ rfl rfl rfl rfl rfl rfl
      exact .cons rfl (.cons rfl (.cons rfl .nil))
    · have hdl : decide ((i : Int) < ((itEs l).length : Int)) = false := decide_eq_false (by omega)
      rw [List.take_of_length_le hge] at hM
      repeat' (first | (apply AL_move; exact rfl; exact rfl) | (apply AL_assign; exact rfl; exact rfl) | (apply AL_bin; (iterate 5 exact rfl)) | (apply AL_load1 ttok; (iterate 6 exact rfl)) | (apply AL_fieldAddr ttok; (iterate 7 exact rfl)) | refine AL_nil ?_ | refine AW_region ?_ | refine AW_seq' ?_ | (apply AW_condB; exact rfl; (first | with_reducible assumption | decide +kernel)) | refine then_norm ?_ | refine AW_exit ?_ | refine AW_ret ?_ | (apply AL_len ttok; (iterate 4 exact rfl)))
      all_goals (apply endQ []; (repeat (first | exact ResL.nil | (apply ResL.cons; first | exact .tmp _ _ rfl | (apply res_n ttok; (iterate 6 exact rfl)) | (apply res_1 ttok; (iterate 5 exact rfl))))); (iterate 4 exact rfl))
      · rw [hM]; rfl
      · rfl
end Go.Proofs.YtnihobjehelagaaDoor
end
/- Regions that draw their order, in which new variables come in any order. -/
section
open Go.RowKit Go.Pl
namespace Go.Av
set_option linter.unusedSimpArgs false
set_option linter.unusedVariables false
/-- an operation ahead of the chain leaves a datum, or is a new variable with these cells -/
inductive Zy where
  | pu (d : D)
  | al (cs : List D)
def zK (K : Nat → Nat) (p : Nat × Zy) : Nat × D := (p.1, match p.2 with | .pu d => d | .al _ => .gptr (K p.1) 0)
def z0 (p : Nat × Zy) : Nat × D := (p.1, match p.2 with | .pu d => d | .al _ => .junk)
/-- the new variables, in the order of the text -/
def zfin : Nat → List (Nat × Zy) → List (Nat × D) → List (Nat × D)
  | _, [], tm => tm
  | m, (_, .pu _) :: zs, tm => zfin m zs tm
  | m, (t, .al _) :: zs, tm => zfin (m + 1) zs ((t, .ptr m 0) :: tm)
def zcs : List (Nat × Zy) → List (List D)
  | [] => []
  | (_, .pu _) :: zs => zcs zs
  | (_, .al cs) :: zs => cs :: zcs zs
/-- no operation ahead of the chain looks at a new variable -/
def chkZ (l : List Oper) (m : Nat) : Bool := (l.take m).all fun o => match o.op, o.dst with
  | .alloc _, some t => (l.take m).all fun o' => !(looks l o').contains t
  | _, _ => true
section
variable {P : Program} {T : Tab} {Q : X → St → Prop} {n : Nat} {ee : Nat × Nat} {tm tm' : List (Nat × D)} {bx : List (List D)} {fr : List Fr} {b0 : Bs} {g g' : G} {w w' : World} {a : Act}
inductive AZ [Known] [Dfr] (P : Program) (T : Tab) (l : List Oper) (n : Nat) (bx : List (List D)) (fr : List Fr) : List Oper → List (Nat × D) → List (Nat × Zy) → List (Nat × D) → Prop
  | nil (tm : List (Nat × D)) : AZ P T l n bx fr [] tm [] tm
  | pu (o : Oper) (rest : List Oper) (t : Nat) (d : D) (tm : List (Nat × D)) (zs : List (Nat × Zy)) (tm' : List (Nat × D)) (hd : o.dst = some t) (ht : Nat.blt t n = true) (h : AL P l.toArray [o] ⟨n, restr l o tm, bx, fr, (bx.length, fr.length)⟩ (qY o bx fr (.pu d))) (k : AZ P T l n bx fr rest ((t, d) :: tm) zs tm') : AZ P T l n bx fr (o :: rest) tm ((t, .pu d) :: zs) tm'
  | al (t : Nat) (e : TypeId) (ty : Nat) (pos : String) (after : Array Edge) (rest : List Oper) (ti : Ti) (tm : List (Nat × D)) (zs : List (Nat × Zy)) (tm' : List (Nat × D)) (ht : Nat.blt t n = true) (hti : tl T e = some ti) (k : AZ P T l n bx fr rest ((t, .junk) :: tm) zs tm') : AZ P T l n bx fr (⟨some t, .alloc e, ty, pos, after, none⟩ :: rest) tm ((t, .al (ti.zero.map ZK.d)) :: zs) tm'
theorem AZ.steps [Known] [Dfr] {l rest : List Oper} {zs : List (Nat × Zy)} (h : AZ P T l n bx fr rest tm zs tm') : zs.length = rest.length ∧ tm' = (zs.map z0).reverse ++ tm ∧
    ∀ (i : Nat) (o : Oper), rest[i]? = some o → ∃ t y, zs[i]? = some (t, y) ∧ o.dst = some t ∧ Nat.blt t n = true ∧ (match y with
      | .pu d => AL P l.toArray [o] ⟨n, restr l o (((zs.take i).map z0).reverse ++ tm), bx, fr, (bx.length, fr.length)⟩ (qY o bx fr (.pu d))
      | .al cs => ∃ (e : TypeId) (ty : Nat) (pos : String) (after : Array Edge) (ti : Ti), o = ⟨some t, .alloc e, ty, pos, after, none⟩ ∧ tl T e = some ti ∧ cs = ti.zero.map ZK.d) := by
  induction h with
  | nil tm => exact ⟨rfl, rfl, fun i o h => by simp at h⟩
  | pu o rest t d tm zs tm' hd ht h k ih =>
    obtain ⟨h1, h2, h3⟩ := ih
    refine ⟨by simp [h1], by rw [h2]; simp [z0], fun i o' ho => ?_⟩
    cases i with
    | zero =>
      simp at ho; subst ho
      exact ⟨t, .pu d, rfl, hd, ht, by simpa using h⟩
    | succ i =>
      simp at ho
      obtain ⟨t', y, q1, q2, q3, q4⟩ := h3 i o' ho
      refine ⟨t', y, by simpa using q1, q2, q3, ?_⟩
      cases y with
      | pu d' =>
        dsimp only at q4 ⊢
        have e : ((((t, Zy.pu d) :: zs).take (i + 1)).map z0).reverse ++ tm = ((zs.take i).map z0).reverse ++ ((t, d) :: tm) := by simp [z0]
        rw [e]; exact q4
      | al cs => exact q4
  | al t e ty pos after rest ti tm zs tm' ht hti k ih =>
    obtain ⟨h1, h2, h3⟩ := ih
    refine ⟨by simp [h1], by rw [h2]; simp [z0], fun i o' ho => ?_⟩
    cases i with
    | zero =>
      simp at ho; subst ho
      exact ⟨t, .al _, rfl, rfl, ht, e, ty, pos, after, ti, rfl, hti, rfl⟩
    | succ i =>
      simp at ho
      obtain ⟨t', y, q1, q2, q3, q4⟩ := h3 i o' ho
      refine ⟨t', y, by simpa using q1, q2, q3, ?_⟩
      cases y with
      | pu d' =>
        dsimp only at q4 ⊢
        have e : ((((t, Zy.al (ti.zero.map ZK.d)) :: zs).take (i + 1)).map z0).reverse ++ tm = ((zs.take i).map z0).reverse ++ ((t, .junk) :: tm) := by simp [z0]
        rw [e]; exact q4
      | al cs => exact q4
theorem restr_filter (l : List Oper) (o : Oper) : ∀ tm : List (Nat × D), restr l o tm = tm.filter fun p => (looks l o).contains p.1
  | [] => rfl
  | p :: tm => by
    rw [restr, List.filter_cons, restr_filter l o tm]
    cases (looks l o).contains p.1 <;> rfl
theorem restr_zs {l : List Oper} {o : Oper} {K : Nat → Nat} : ∀ {zs : List (Nat × Zy)} {tm : List (Nat × D)}, (∀ t cs, (t, Zy.al cs) ∈ zs → (looks l o).contains t = false) → restr l o ((zs.map (zK K)).reverse ++ tm) = restr l o ((zs.map z0).reverse ++ tm) := by
  intro zs tm h
  rw [restr_filter, restr_filter, List.filter_append, List.filter_append, List.filter_reverse, List.filter_reverse]
  congr 2
  induction zs with
  | nil => rfl
  | cons p zs ih =>
    obtain ⟨t, y⟩ := p
    rw [List.map_cons, List.map_cons, List.filter_cons, List.filter_cons, ih fun t cs hm => h t cs (List.mem_cons_of_mem _ hm)]
    cases y with
    | pu d => rfl
    | al cs =>
      have := h t cs (List.mem_cons_self ..)
      simp only [zK, z0, this]
      rfl
theorem look_z0 {K : Nat → Nat} {x : Nat} {tm : List (Nat × D)} : ∀ (zs : List (Nat × Zy)), look (zs.map z0 ++ tm) x = look (zs.map (zK K) ++ tm) x ∨ look (zs.map z0 ++ tm) x = .junk
  | [] => .inl rfl
  | (t, y) :: zs => by
    rw [List.map_cons, List.map_cons, List.cons_append, List.cons_append]
    cases hb : Nat.beq t x with
    | true =>
      cases y with
      | pu d => left; simp only [z0, zK, look, hb]
      | al cs => right; simp only [z0, look, hb]
    | false =>
      have h1 : look (z0 (t, y) :: (zs.map z0 ++ tm)) x = look (zs.map z0 ++ tm) x := by simp only [z0, look, hb]
      have h2 : look (zK K (t, y) :: (zs.map (zK K) ++ tm)) x = look (zs.map (zK K) ++ tm) x := by simp only [zK, look, hb]
      rw [h1, h2]
      exact look_z0 zs
/-- a block that is nobody's yet -/
def Good (b0 : Bs) (g : G) (w : World) (k : Nat) (cs : List D) : Prop := b0.w.heap.size ≤ k ∧ ¬ M g k ∧ (∀ o, ¬ g.C k o) ∧ ∃ vs ty, w.heap[k]? = some (.cells vs ty (0, 0)) ∧ vs.size = cs.length ∧ ∀ (w : World) (g : G) (fr : List Fr) (j : Nat) (d : D) (v : Value), cs[j]? = some d → vs[j]? = some v → V w g fr d v
theorem Good.lt {k : Nat} {cs : List D} (h : Good b0 g w k cs) : k < w.heap.size := by
  obtain ⟨_, _, _, vs, ty, h1, _⟩ := h
  exact (Array.getElem?_eq_some_iff.1 h1).1
theorem Good.evo {k : Nat} {cs : List D} (h : Good b0 g w k cs) {fr fr' : List Fr} (e : Evo ⟨g, fr, w⟩ ⟨g', fr', w'⟩) : Good b0 g' w' k cs := by
  have hlt := h.lt
  obtain ⟨h1, h2, h3, vs, ty, h4, h5, h6⟩ := h
  refine ⟨h1, fun hm => ?_, fun o hc => ?_, vs, ty, (e.block k hlt h2).trans h4, h5, h6⟩
  · rcases e.own hm with hm | hm
    · exact h2 hm
    · exact absurd hlt (Nat.not_lt.2 hm)
  · rcases e.newC k o hc with hc | hc | hc
    · exact h3 o hc
    · exact absurd hlt (Nat.not_lt.2 hc)
    · exact h2 hc
theorem Evo.al [Known] (hm : Mem g bx fr w) (o : Obj) : Evo ⟨g, fr, w⟩ ⟨g, fr, w.alloc o⟩ :=
  ⟨rfl, rfl, rfl, by simp, fun k hk _ => Below.heap_alloc w _ k hk, fun _ _ h => h, fun k p h => cell_alloc w _ (hm.Clt k p h) p, fun _ _ h => .inl h, fun _ _ h => h, fun _ h => .inl h, fun k c h => .inl ⟨c, h⟩, TokOn.refl _ _⟩
theorem Mem.al [Known] (hm : Mem g bx fr w) (o : Obj) : Mem g bx fr (w.alloc o) where
  bl := hm.bl
  bat i k cs' h1 h2 := by
    obtain ⟨us, ty, k1, k2, k3⟩ := hm.bat i k cs' h1 h2
    exact ⟨us, ty, (Below.heap_alloc w _ k (Array.getElem?_eq_some_iff.1 k1).1).trans k1, k2, fun j d v hd hv => (k3 j d v hd hv).evo (Evo.al hm o)⟩
  bC := hm.bC
  bN := hm.bN
  tl := hm.tl
  tat i k c f h1 h2 := by
    have hT := hm.tat i k c f h1 h2
    obtain ⟨cur, r1, r2⟩ := hT.row
    exact ⟨⟨cur, (Below.heap_alloc w _ k (Array.getElem?_eq_some_iff.1 r1).1).trans r1, r2⟩, hT.le, hT.max, hT.pos, hT.far⟩
  tN := hm.tN
  tρ := hm.tρ
  Clt k p hC := by
    have := hm.Clt k p hC
    simp; omega
  gl := hm.gl.evo (Evo.al hm o)
theorem mem_snoc {k k' : Nat} (h : M ⟨g.C, g.ρ ++ [k], g.τ⟩ k') : M g k' ∨ k' = k := by
  rcases h with h | h
  · rcases List.mem_append.1 h with h | h
    · exact .inl (.inl h)
    · simp at h; exact .inr h
  · exact .inl (.inr h)
/-- a block that was nobody's becomes a variable -/
theorem Inv.addB [Known] [Dfr] {k t : Nat} {cs : List D} (hi : Inv b0 ⟨n, tm, bx, fr, ee⟩ g a w) (hG : Good b0 g w k cs) (ht : a.tmps.getD t undef = .pointer (some ⟨k, 0, none⟩)) : Inv b0 ⟨n, (t, .ptr bx.length 0) :: tm, bx ++ [cs], fr, ee⟩ ⟨g.C, g.ρ ++ [k], g.τ⟩ a w := by
  obtain ⟨h1, h2, h3, vs, ty, h4, h5, h6⟩ := hG
  have hm := hi.mem
  have hρ : ∀ (i b : Nat), g.ρ[i]? = some b → (g.ρ ++ [k])[i]? = some b := fun i b h => (List.getElem?_append_left (List.getElem?_eq_some_iff.1 h).1).trans h
  have hV : ∀ {d : D} {v : Value}, V w g fr d v → V w ⟨g.C, g.ρ ++ [k], g.τ⟩ fr d v := fun h => h.mono (fun _ _ h => h) (fun _ _ _ => rfl) hρ (TokOn.refl g fr)
  have hget : ∀ (i b : Nat), (g.ρ ++ [k])[i]? = some b → g.ρ[i]? = some b ∨ (i = g.ρ.length ∧ b = k) := fun i b h => by
    rcases Nat.lt_or_ge i g.ρ.length with hlt | hge
    · rw [List.getElem?_append_left hlt] at h; exact .inl h
    · rw [List.getElem?_append_right hge] at h
      have h0 : i - g.ρ.length = 0 := by have := (List.getElem?_eq_some_iff.1 h).1; simp at this; omega
      simp [h0] at h
      exact .inr ⟨by omega, h.symm⟩
  refine ⟨hi.size, hi.defers, ⟨?_, ?_, ?_, ?_, hm.tl, ?_, hm.tN, ?_, hm.Clt, hm.gl⟩, fun x => ?_, ⟨hi.evo.os, hi.evo.tape, hi.evo.output, hi.evo.size, hi.evo.block, hi.evo.C, hi.evo.cell, hi.evo.newC, fun i b h => hρ i b (hi.evo.ρp i b h), fun b h => ?_, hi.evo.τn, hi.evo.tok⟩, hi.bd⟩
  · simp [hm.bl]
  · intro i b cs' e1 e2
    rcases hget i b e1 with e3 | ⟨rfl, rfl⟩
    · have hlt : i < bx.length := by rw [← hm.bl]; exact (List.getElem?_eq_some_iff.1 e3).1
      rw [List.getElem?_append_left hlt] at e2
      obtain ⟨us, ty', k1, k2, k3⟩ := hm.bat i b cs' e3 e2
      exact ⟨us, ty', k1, k2, fun j d v hd hv => hV (k3 j d v hd hv)⟩
    · rw [List.getElem?_append_right (by rw [hm.bl]; exact Nat.le_refl _), hm.bl] at e2
      simp at e2; subst e2
      exact ⟨vs, ty, h4, h5, fun j d v hd hv => h6 _ _ _ j d v hd hv⟩
  · intro b o hb hC
    rcases List.mem_append.1 hb with h | h
    · exact hm.bC b o h hC
    · simp at h; subst h
      exact h3 o hC
  · intro i j b e1 e2
    have cross : ∀ i : Nat, g.ρ[i]? = some b → b = k → False := fun i e3 e => by
      subst e; exact h2 (.inl (List.mem_of_getElem? e3))
    rcases hget i b e1 with e3 | ⟨e3, e3'⟩ <;> rcases hget j b e2 with e4 | ⟨e4, e4'⟩
    · exact hm.bN i j b e3 e4
    · exact (cross i e3 e4').elim
    · exact (cross j e4 e3').elim
    · omega
  · intro i b c f e1 e2
    have hT := hm.tat i b c f e1 e2
    exact ⟨hT.row, hT.le, hT.max, hT.pos, hT.far⟩
  · intro b c hb hr
    rcases List.mem_append.1 hr with h | h
    · exact hm.tρ b c hb h
    · simp at h; subst h
      exact h2 (.inr ⟨c, hb⟩)
  · cases hb : Nat.beq t x with
    | true =>
      have e := Nat.eq_of_beq_eq_true hb
      subst e
      simp only [look, hb]
      rw [ht]
      exact .ptr _ _ _ (by rw [List.getElem?_append_right (by rw [hm.bl]; exact Nat.le_refl _), hm.bl]; simp)
    | false =>
      simp only [look, hb]
      exact hV (hi.tm x)
  · rcases List.mem_append.1 h with h | h
    · exact hi.evo.ρn b h
    · simp at h; subst h; exact .inr h1
theorem zfold [Known] [Dfr] {K : Nat → Nat} : ∀ (zs : List (Nat × Zy)) (tm : List (Nat × D)) (bx : List (List D)) (g : G), Inv b0 ⟨n, tm, bx, fr, ee⟩ g a w → (∀ t cs, (t, Zy.al cs) ∈ zs → a.tmps.getD t undef = .pointer (some ⟨K t, 0, none⟩) ∧ Good b0 g w (K t) cs) → zs.Pairwise (fun p q => p.1 ≠ q.1) → (∀ t cs t' cs', (t, Zy.al cs) ∈ zs → (t', Zy.al cs') ∈ zs → K t = K t' → t = t') → ∃ g', Inv b0 ⟨n, zfin bx.length zs tm, bx ++ zcs zs, fr, ee⟩ g' a w
  | [], tm, bx, g, hi, _, _, _ => ⟨g, by rw [zfin, zcs, List.append_nil]; exact hi⟩
  | (t, .pu d) :: zs, tm, bx, g, hi, hA, hN, hK => by
    rw [zfin, zcs]
    exact zfold zs tm bx g hi (fun t cs h => hA t cs (List.mem_cons_of_mem _ h)) (List.pairwise_cons.1 hN).2 (fun t cs t' cs' h h' => hK t cs t' cs' (List.mem_cons_of_mem _ h) (List.mem_cons_of_mem _ h'))
  | (t, .al cs) :: zs, tm, bx, g, hi, hA, hN, hK => by
    rw [zfin, zcs]
    obtain ⟨h1, h2⟩ := hA t cs (List.mem_cons_self ..)
    have h3 := hi.addB h2 h1
    have hlen : (bx ++ [cs]).length = bx.length + 1 := by simp
    obtain ⟨g', h4⟩ := zfold zs _ (bx ++ [cs]) _ h3 (fun t' cs' h => by
      obtain ⟨q1, q2, q3, q4, q5⟩ := hA t' cs' (List.mem_cons_of_mem _ h)
      refine ⟨q1, q2, fun hm => ?_, q4, q5⟩
      rcases mem_snoc hm with hm | hm
      · exact q3 hm
      · have := hK t' cs' t cs (List.mem_cons_of_mem _ h) (List.mem_cons_self ..) hm
        exact (List.pairwise_cons.1 hN).1 _ h this.symm) (List.pairwise_cons.1 hN).2 (fun t cs t' cs' h h' => hK t cs t' cs' (List.mem_cons_of_mem _ h) (List.mem_cons_of_mem _ h'))
    rw [hlen, List.append_assoc] at h4
    exact ⟨g', h4⟩
theorem zK_get {K : Nat → Nat} {zs : List (Nat × Zy)} {i : Nat} {t : Nat} {y : Zy} (h : zs[i]? = some (t, y)) : (zs.map (zK K))[i]? = some (zK K (t, y)) := by rw [List.getElem?_map, h]; rfl
theorem AW_drawZ' [Known] [Dfr] {id m : Nat} {l acts : List Oper} {zs : List (Nat × Zy)} (hT : chk P T = true) (hm : P.follows .mixedOrders = true) (hchk : chkDraw l = true) (hlk : chkLk n l = true) (hE : chkE l = true) (hch : chkChain l m = true) (hz : chkZ l m = true) (hlen : (l.take m).length = m) (hacts : l.drop m = acts) (h : AZ P T l n bx fr (l.take m) tm zs tm') (k : AL P l.toArray acts ⟨n, zfin bx.length zs tm', bx ++ zcs zs, fr, ee⟩ Q) :
    AW P (.region id l.toArray true) ⟨n, tm, bx, fr, ee⟩ Q := by
  obtain ⟨h1, h2, h3⟩ := h.steps
  rw [hlen] at h1
  have hml : m ≤ l.length := by rw [List.length_take] at hlen; omega
  have hdl : ∀ K, (zs.map (zK K)).length = m := fun K => by rw [List.length_map, h1]
  have hl : ∀ K, (zs.map (zK K)).length ≤ l.length := fun K => by rw [hdl]; exact hml
  have htk : ∀ (i : Nat) (o : Oper), l[i]? = some o → i < m → (l.take m)[i]? = some o := fun i o ho hi => by rw [List.getElem?_take, if_pos hi]; exact ho
  have hdst : ∀ K, HD n l (zs.map (zK K)) := fun K i o ho hd => by
    rw [hdl] at hd
    obtain ⟨t, y, q1, q2, q3, _⟩ := h3 i o (htk i o ho hd)
    refine ⟨(zK K (t, y)).2, ?_, fun hn => (by rw [q2] at hn; cases hn), by simp only [dstOk, q2, q3]⟩
    rw [zK_get q1]
    simp only [oslot, q2]
    rfl
  have hNo : ∀ {i : Nat} {o : Oper}, (l.take m)[i]? = some o → ∀ t cs, (t, Zy.al cs) ∈ zs → (looks l o).contains t = false := fun {i o} ho t cs hmem => by
    obtain ⟨j, hj⟩ := List.getElem?_of_mem hmem
    have hjm : j < m := by have := (List.getElem?_eq_some_iff.1 hj).1; omega
    have hjl : j < (l.take m).length := by rw [hlen]; exact hjm
    have hoj := List.getElem?_eq_getElem hjl
    obtain ⟨t', y', q1, q2, _, q4⟩ := h3 j _ hoj
    rw [hj] at q1
    injection q1 with q1
    injection q1 with q1 q1'
    subst q1 q1'
    obtain ⟨e, ty, pos, after, ti, q5, _⟩ := q4
    have hz1 := List.all_eq_true.1 hz _ (List.mem_of_getElem? hoj)
    rw [q5] at hz1
    dsimp only at hz1
    have := List.all_eq_true.1 hz1 o (List.mem_of_getElem? ho)
    simpa using this
  have hNN : ∀ (i j : Nat) (p q : Nat × Zy), zs[i]? = some p → zs[j]? = some q → p.1 = q.1 → i = j := fun i j p q hp hq e =>
    (hdst (fun _ => 0)).one hchk (hl _) i j _ _ (zK_get (t := p.1) (y := p.2) hp) (zK_get (t := q.1) (y := q.2) hq) e
  refine ⟨fun b0 g a w hi => wp_region_any hm ?_⟩
  have main : ∀ (fuel : Nat) (listed : Array Bool) (g : G) (a : Act) (w : World) (K : Nat → Nat), MidE b0 ee n tm (bx, fr) l (zs.map (zK K)) listed g a w →
      (∀ (i t : Nat) (cs : List D), zs[i]? = some (t, .al cs) → listed.getD i false = true → Good b0 g w (K t) cs) → (∀ (i j t t' : Nat) (cs cs' : List D), zs[i]? = some (t, .al cs) → zs[j]? = some (t', .al cs') → listed.getD i false = true → listed.getD j false = true → K t = K t' → t = t') →
      (∀ i, m ≤ i → i < l.length → listed.getD i false = false) → left l listed = fuel → wpAny P .any l.toArray (conc b0 Q) fuel listed a w := by
    intro fuel
    have hend : ∀ (listed : Array Bool) (g : G) (a : Act) (w : World) (K : Nat → Nat), MidE b0 ee n tm (bx, fr) l (zs.map (zK K)) listed g a w →
        (∀ (i t : Nat) (cs : List D), zs[i]? = some (t, .al cs) → listed.getD i false = true → Good b0 g w (K t) cs) → (∀ (i j t t' : Nat) (cs cs' : List D), zs[i]? = some (t, .al cs) → zs[j]? = some (t', .al cs') → listed.getD i false = true → listed.getD j false = true → K t = K t' → t = t') →
        (∀ i, i < m → listed.getD i false = true) → wpList P l.toArray (conc b0 Q) acts a w := fun listed g a w K hM hA hKK hall => by
      have hinv := midE_all hchk (hl K) (hdst K) hM fun i hi => hall i (by rw [hdl] at hi; exact hi)
      have hinv2 : Inv b0 ⟨n, tm', bx, fr, ee⟩ g a w := ⟨hinv.size, hinv.defers, hinv.mem, fun x => by
        have hx := hinv.tm x
        dsimp only at hx ⊢
        rw [h2, ← List.map_reverse]
        rw [← List.map_reverse] at hx
        rcases look_z0 (K := K) (x := x) (tm := tm) zs.reverse with e | e
        · rw [e]; exact hx
        · rw [e]; exact .junk _, hinv.evo, hinv.bd⟩
      have hidx : ∀ {t : Nat} {cs : List D}, (t, Zy.al cs) ∈ zs → ∃ i, zs[i]? = some (t, .al cs) ∧ listed.getD i false = true := fun hmem => by
        obtain ⟨i, hi⟩ := List.getElem?_of_mem hmem
        exact ⟨i, hi, hall i (by have := (List.getElem?_eq_some_iff.1 hi).1; omega)⟩
      obtain ⟨g', hi'⟩ := zfold (K := K) zs tm' bx g hinv2 (fun t cs hmem => by
        obtain ⟨i, hi, hli⟩ := hidx hmem
        refine ⟨?_, hA i t cs hi hli⟩
        have := hM.tm t
        rw [cur_at ((hdst K).one hchk (hl K)) (hl K) (zK_get hi), if_pos hli] at this
        exact gptr_inv this) (List.pairwise_iff_getElem.2 fun i j hi hj hij e => by
          have := hNN i j _ _ (List.getElem?_eq_getElem hi) (List.getElem?_eq_getElem hj) e
          omega) (fun t cs t' cs' hmem hmem' e => by
        obtain ⟨i, hi, hli⟩ := hidx hmem
        obtain ⟨j, hj, hlj⟩ := hidx hmem'
        exact hKK i j t t' cs cs' hi hj hli hlj e)
      exact k.run b0 g' a w hi'
    induction fuel with
    | zero =>
      intro listed g a w K hM hA hKK hu h0
      exact chain_run hE hch 0 m listed a w (by
        rcases Nat.lt_or_ge m l.length with h | h
        · have h5 := hu m (Nat.le_refl _) h
          have h6 := left_zero h0 h
          rw [h5] at h6; cases h6
        · omega) (Nat.le_refl _) hM.len (fun i hi => by
          rw [left_zero h0 hi]
          rcases Nat.lt_or_ge m l.length with h | h
          · have h5 := hu m (Nat.le_refl _) h
            have h6 := left_zero h0 h
            rw [h5] at h6; cases h6
          · simp; omega) (by rw [hacts]; exact hend listed g a w K hM hA hKK (fun i hi => left_zero h0 (by omega)))
    | succ fuel ih =>
      intro listed g a w K hM hA hKK hu hf
      by_cases hall : ∀ i, i < m → listed.getD i false = true
      · have hls : ∀ i, i < l.length → (listed.getD i false = true ↔ i < m) := fun i hi => by
          rcases Nat.lt_or_ge i m with h | h
          · simp [hall i h, h]
          · rw [hu i h hi]; simp; omega
        exact chain_run hE hch (fuel + 1) m listed a w (by rw [← hf, left_eq hls]; omega) (Nat.le_refl _) hM.len hls (by rw [hacts]; exact hend listed g a w K hM hA hKK hall)
      refine ⟨fun he => (ready_ne hE hM.len (by omega) he).elim, fun i hi => ?_⟩
      obtain ⟨hn0, o, ho, hr⟩ := mem_ready.1 hi
      have ho' : l[i]? = some o := by simpa using ho
      have hil : i < l.length := (List.getElem?_eq_some_iff.1 ho').1
      have hlt : i < listed.size := by rw [hM.len]; exact hil
      have hn : listed.getD i false = false := by simp [hlt] at hn0 ⊢; exact hn0
      have hleft := left_set hil hM.len hn
      by_cases him : i < m
      · obtain ⟨t, y, q1, q2, q3, q4⟩ := h3 i o (htk i o ho' him)
        have hut : ∀ x, m ≤ x → x < l.length → (listed.setIfInBounds i true).getD x false = false := fun x hx hxl => by
          rw [getD_set_ne false (by omega)]
          exact hu x hx hxl
        have hlist : ∀ x : Nat, x ≠ i → (listed.setIfInBounds i true).getD x false = true → listed.getD x false = true := fun x hx h => by
          rw [getD_set_ne false (Ne.symm hx)] at h; exact h
        cases y with
        | pu d =>
          dsimp only at q4
          have hM0 : MidE ⟨g, fr, w⟩ (g.ρ.length, fr.length) n tm (bx, fr) l (zs.map (zK K)) listed g a w := ⟨⟨Nat.le_refl _, Nat.le_refl _⟩, hM.size, hM.defers, hM.mem, Evo.refl _, hM.tm, hM.closed, hM.len⟩
          refine midE_step (y := .pu d) hchk hlk (hl K) (hdst K) hM0 ho' hi (by rw [hdl]; exact him) (by rw [zK_get q1]; simp only [oslot, q2]; rfl) (by
            rw [← List.map_take, restr_zs (fun t' cs' hmem => hNo (htk i o ho' him) t' cs' (List.mem_of_mem_take hmem))]
            exact q4) fun g' a' w' hM' => ?_
          have hM' : MidE ⟨g, fr, w⟩ (g.ρ.length, fr.length) n tm (bx, fr) l (zs.map (zK K)) (listed.setIfInBounds i true) g' a' w' := hM'
          refine ih _ g' a' w' K ⟨hM.bd, hM'.size, hM'.defers, hM'.mem, hM.evo.trans hM'.evo, hM'.tm, hM'.closed, hM'.len⟩ (fun x t' cs' hx hlx => ?_) (fun x x' t' t'' cs' cs'' hx hx' hlx hlx' => ?_) hut (by omega)
          · have hxi : x ≠ i := fun e => by subst e; rw [q1] at hx; cases hx
            exact (hA x t' cs' hx (hlist x hxi hlx)).evo hM'.evo
          · have hxi : x ≠ i := fun e => by subst e; rw [q1] at hx; cases hx
            have hxi' : x' ≠ i := fun e => by subst e; rw [q1] at hx'; cases hx'
            exact hKK x x' t' t'' cs' cs'' hx hx' (hlist x hxi hlx) (hlist x' hxi' hlx')
        | al cs =>
          obtain ⟨e, ty, pos, after, ti, rfl, hti, rfl⟩ := q4
          obtain ⟨z, z1, z2⟩ := (tl_ok hT hti).zero w
          have htn : t < n := by simpa [Nat.blt_eq] using q3
          have hN := fun K => (hdst K).one hchk (hl K)
          unfold wpOp
          simp only [ho]
          have hw : Region.wanted (⟨some t, .alloc e, ty, pos, after, none⟩ : Oper) (yielded l.toArray a.tmps) = true := rfl
          rw [if_pos hw]
          refine .inl ?_
          have hrun : (execOp a.eval ⟨some t, .alloc e, ty, pos, after, none⟩).run P w = .ok (.value (.pointer (some ⟨w.heap.size, 0, none⟩))) (w.alloc (.cells z.cells e)) := by
            simp [execOp, Instr.alloc, newVar, newRow, Sem.run_bind, z1]
          unfold Oper.wp
          rw [hrun, Oper.upon_value]
          have hev := Evo.al hM.mem (.cells z.cells e)
          have hK : ∀ t', t' ≠ t → (if t' = t then w.heap.size else K t') = K t' := fun t' h => if_neg h
          have hsame : ∀ (j : Nat) (x : Nat) (y : Zy), zs[j]? = some (x, y) → x ≠ t → zK (fun s => if s = t then w.heap.size else K s) (x, y) = zK K (x, y) := fun j x y _ hx => by
            cases y with
            | pu d => rfl
            | al cs => simp only [zK, hK x hx]
          refine ih _ g _ _ (fun s => if s = t then w.heap.size else K s) ⟨hM.bd, by simp [Act.put, hM.size], by simp only [Act.put]; exact hM.defers, hM.mem.al _, hM.evo.trans hev, fun x => ?_, fun mm om hmm hlm ed he hb => ?_, by simp [hM.len]⟩ (fun x t' cs' hx hlx => ?_) (fun x x' t' t'' cs' cs'' hx hx' hlx hlx' hke => ?_) hut (by omega)
          · by_cases hx : x = t
            · subst hx
              rw [cur_at (hN _) (hl _) (zK_get q1), if_pos (by simp [hM.len, hil])]
              have e1 : (Act.put a (some x) (.pointer (some ⟨w.heap.size, 0, none⟩))).tmps.getD x undef = .pointer (some ⟨w.heap.size, 0, none⟩) := by
                simp [Act.put, Array.getD_getElem?, hM.size, htn]
              dsimp only
              rw [e1]
              simp only [if_pos]
              exact .gptr _ _
            · have e1 : (Act.put a (some t) (.pointer (some ⟨w.heap.size, 0, none⟩))).tmps.getD x undef = a.tmps.getD x undef := by
                simp [Act.put, Array.getD_getElem?, Array.getElem?_setIfInBounds_ne (Ne.symm hx)]
              dsimp only
              rw [e1]
              have e2 : cur l (zs.map (zK fun s => if s = t then w.heap.size else K s)) tm (listed.setIfInBounds i true) x = cur l (zs.map (zK K)) tm listed x := by
                by_cases hex : ∃ (j : Nat) (y : Zy), zs[j]? = some (x, y)
                · obtain ⟨j, y, hj⟩ := hex
                  have hne : i ≠ j := fun e => by
                    subst e; rw [q1] at hj; injection hj with hj; injection hj with hj; exact hx hj.symm
                  have hj1 := zK_get (K := fun s => if s = t then w.heap.size else K s) hj
                  rw [hsame j x y hj hx] at hj1
                  rw [cur_at (hN _) (hl _) hj1, cur_at (hN K) (hl K) (zK_get hj), getD_set_ne false hne]
                · have hno : ∀ (K : Nat → Nat) (j : Nat) (p : Nat × D), (zs.map (zK K))[j]? = some p → p.1 ≠ x := fun K j p hj e => by
                    rw [List.getElem?_map] at hj
                    cases hzj : zs[j]? with
                    | none => rw [hzj] at hj; cases hj
                    | some q =>
                      rw [hzj] at hj
                      injection hj with hj
                      subst hj
                      exact hex ⟨j, q.2, by rw [hzj, ← e]; rfl⟩
                  rw [cur_far (hno _), cur_far (hno _)]
              rw [e2]
              exact (hM.tm x).evo hev
          · by_cases hmi : mm = i
            · subst hmi
              rw [ho'] at hmm; injection hmm with hmm; subst hmm
              exact getD_set_true (hr ed he hb)
            · rw [getD_set_ne false (Ne.symm hmi)] at hlm
              exact getD_set_true (hM.closed mm om hmm hlm ed he hb)
          · by_cases hxi : x = i
            · subst hxi
              rw [q1] at hx
              injection hx with hx
              injection hx with hx hx'
              injection hx' with hx'
              subst hx hx'
              simp only [if_pos]
              refine ⟨hM.evo.size, fun hmm => absurd (hM.mem.lt hmm) (Nat.lt_irrefl _), fun o hc => absurd (hM.mem.Clt _ o hc) (Nat.lt_irrefl _), z.cells, e, heap_alloc_new w _, ?_, fun w g fr j d v hd hv => ?_⟩
              · have := (zks_ok (w := w) (g := g) (fr := fr) z2).1
                simpa using this
              · have := (zks_ok (w := w) (g := g) (fr := fr) z2).2 j d v hd (by simpa using hv)
                exact this.1
            · have hne : t' ≠ t := fun e => hxi (hNN x i _ _ hx q1 e)
              rw [hK t' hne]
              exact (hA x t' cs' hx (hlist x hxi hlx)).evo hev
          · by_cases hxi : x = i
            · by_cases hxi' : x' = i
              · subst hxi; subst hxi'
                rw [hx] at hx'; injection hx' with hx'; injection hx'
              · subst hxi
                rw [q1] at hx; injection hx with hx; injection hx with hx _; subst hx
                have hne : t'' ≠ t := fun e => hxi' (hNN x' x _ _ hx' q1 e)
                rw [hK t'' hne] at hke
                simp only [if_pos] at hke
                have := (hA x' t'' cs'' hx' (hlist x' hxi' hlx')).lt
                omega
            · have hne : t' ≠ t := fun e => hxi (hNN x i _ _ hx q1 e)
              rw [hK t' hne] at hke
              by_cases hxi' : x' = i
              · subst hxi'
                rw [q1] at hx'; injection hx' with hx'; injection hx' with hx' _; subst hx'
                simp only [if_pos] at hke
                have := (hA x t' cs' hx (hlist x hxi hlx)).lt
                omega
              · have hne' : t'' ≠ t := fun e => hxi' (hNN x' i _ _ hx' q1 e)
                rw [hK t'' hne'] at hke
                exact hKK x x' t' t'' cs' cs'' hx hx' (hlist x hxi hlx) (hlist x' hxi' hlx') hke
      · exact (hall fun x hx => mem_up hM.closed i o ho' hr x (chkChain_get hch (by omega) hil (by omega))).elim
  have hsz : l.toArray.size = l.length := by simp
  rw [hsz]
  have hfresh : ∀ i, (Array.replicate l.length false).getD i false = false := fun i => by
    rcases Nat.lt_or_ge i l.length with h | h <;> simp [h]
  refine main l.length _ g a _ (fun _ => 0) ⟨hi.bd, hi.size, hi.defers, hi.mem.drew, hi.evo.trans Evo.drew, fun t => ?_, fun m o hm hl => ?_, by simp⟩ (fun i t cs h hl => by rw [hfresh] at hl; cases hl) (fun i j t t' cs cs' h h' hl => by rw [hfresh] at hl; cases hl) (fun i _ _ => hfresh i) ?_
  · have : cur l (zs.map (zK fun _ => 0)) tm (Array.replicate l.length false) t = look tm t := by
      unfold cur
      have hf : (List.range l.length).find? (fun i => (Array.replicate l.length false).getD i false && (((zs.map (zK fun _ => 0))[i]?).map (·.1) == some t)) = none := by
        apply List.find?_eq_none.2
        intro i _
        rw [hfresh]; simp
      rw [hf]
    rw [this]
    exact (hi.tm t).drew
  · rw [hfresh] at hl; cases hl
  · have := left_eq (l := l) (listed := Array.replicate l.length false) (j := 0) (fun i hi => by rw [hfresh]; simp)
    rw [this]; omega
/-! ### as steps of a walk -/
def hasAl (l : List Oper) : Bool := l.any fun o => match o.op with
  | .alloc _ => true
  | _ => false
/-- what stands behind the first pass -/
structure AZk [Known] [Dfr] (P : Program) (l acts : List Oper) (n : Nat) (zs : List (Nat × Zy)) (tm : List (Nat × D)) (bx : List (List D)) (fr : List Fr) (ee : Nat × Nat) (Q : X → St → Prop) : Prop where
  run : AL P l.toArray acts ⟨n, zfin bx.length zs tm, bx ++ zcs zs, fr, ee⟩ Q
theorem AZk_mk [Known] [Dfr] {l acts : List Oper} {zs : List (Nat × Zy)} {bx2 : List (List D)} {tm2 : List (Nat × D)} {k0 : Nat} (hk0 : lenZ bx = some k0) (htm : nfl (zfin k0 zs tm) = some tm2) (hbx : nfb (bx ++ zcs zs) = some bx2) (k : AL P l.toArray acts ⟨n, tm2, bx2, fr, ee⟩ Q) : AZk P l acts n zs tm bx fr ee Q := by
  have e1 := lenZ_eq hk0
  have e2 := nfl_eq htm
  have e3 := nfb_eq hbx
  subst e1 e2 e3
  exact ⟨k⟩
theorem AZ_pu [Known] [Dfr] {l : List Oper} {o : Oper} {rest : List Oper} {t : Nat} {d : D} {zs : List (Nat × Zy)} {tm2 : List (Nat × D)} (hd : o.dst = some t) (ht : Nat.blt t n = true) (h2 : nfl (restr l o tm) = some tm2) (h : AL P l.toArray [o] ⟨n, tm2, bx, fr, (bx.length, fr.length)⟩ (qY o bx fr (.pu d))) (k : AZ P T l n bx fr rest ((t, d) :: tm) zs tm') : AZ P T l n bx fr (o :: rest) tm ((t, .pu d) :: zs) tm' :=
  .pu o rest t d tm zs tm' hd ht (nfl_eq h2 ▸ h) k
theorem AZ_al [Known] [Dfr] {l rest : List Oper} {t : Nat} {e : TypeId} {ty : Nat} {pos : String} {after : Array Edge} {ti : Ti} {zs : List (Nat × Zy)} (ht : Nat.blt t n = true) (hti : tl T e = some ti) (k : AZ P T l n bx fr rest ((t, .junk) :: tm) zs tm') : AZ P T l n bx fr (⟨some t, .alloc e, ty, pos, after, none⟩ :: rest) tm ((t, .al (ti.zero.map ZK.d)) :: zs) tm' :=
  .al t e ty pos after rest ti tm zs tm' ht hti k
theorem AW_drawZ [Known] [Dfr] {id : Nat} (m : Nat) {l acts : List Oper} {zs : List (Nat × Zy)} (hT : chk P T = true) (hm : P.follows .mixedOrders = true) (hch : (hasAl (l.take m) && (chkChain l m && chkZ l m)) = true) (hchk : chkDraw l = true) (hlk : chkLk n l = true) (hE : chkE l = true) (hlen : Nat.beq (l.take m).length m = true) (hacts : nfl (l.drop m) = some acts)
    (h : AZ P T l n bx fr (l.take m) tm zs tm') (k : AZk P l acts n zs tm' bx fr ee Q) :
    AW P (.region id l.toArray true) ⟨n, tm, bx, fr, ee⟩ Q := by
  simp only [Bool.and_eq_true] at hch
  exact AW_drawZ' hT hm hchk hlk hE hch.2.1 hch.2.2 (Nat.eq_of_beq_eq_true hlen) (nfl_eq hacts) h k.run
end
end Go.Av
end
/- CborWrites: the law's walk. -/
section
open Go.RowKit Go.Pl Go.Av
namespace Go.Proofs.YtnihobjehelagaaDoor
set_option linter.unusedVariables false
set_option linter.unusedSimpArgs false
set_option maxHeartbeats 4000000
theorem big_size {x : It} (h : bigI x = false) : sizeI x ≤ 1000 := by
  have h := of_decide_eq_false h
  have h2 := great_size x 1 400 (by omega)
  omega
theorem right_fine {x : It} (hr : rightI x = true) : fineI x = true := by
  rw [right_iff] at hr
  simp only [Bool.and_eq_true] at hr
  exact hr.2.2
theorem av_cborWrites [Known] [KnownU8] (x y : It) (hx : nI x) (hy : nI y) : AP Tryd.prog 5 [itD x, itD y] (.bool true) [] := by
  have hA := av_aliveC
  have hGx := av_bigI x
  have hGy := av_bigI y
  cases hg : bigI x with
  | true =>
    rw [hg] at hGx
    obtain ⟨k, n, b, l⟩ := x
    obtain ⟨k1, n1, b1, l1⟩ := y
    refine AP.ofA ?_
    refine AC_of Tryd.func5 rfl Tryd.ntmps5 rfl rfl ?_
    repeat' (first | (apply AL_callPw (hGx); kernel_rfl; (iterate 4 exact rfl)) | (apply AL_callPw (hA); kernel_rfl; (iterate 4 exact rfl)) | (apply AL_move; exact rfl; exact rfl) | (apply AL_assign; exact rfl; exact rfl) | (apply AL_loadn ttok; (iterate 7 exact rfl)) | (apply AL_box; (iterate 5 exact rfl)) | refine AL_nil ?_ | (apply AL_guardFf; (iterate 3 exact rfl); (first | with_reducible assumption | decide +kernel)) | (apply AL_pickT; exact rfl; (first | with_reducible assumption | decide +kernel); exact rfl; exact rfl) | refine AW_region ?_ | refine AW_seq' ?_ | (apply AW_condA; exact rfl; (first | with_reducible assumption | decide +kernel)) | refine then_norm ?_ | refine AW_ret ?_ | refine then_ret ?_)
    all_goals (apply endQ []; (repeat (first | exact ResL.nil | (apply ResL.cons; first | exact .tmp _ _ rfl | (apply res_n ttok; (iterate 6 exact rfl)) | (apply res_1 ttok; (iterate 5 exact rfl))))); (iterate 4 exact rfl))
    all_goals rfl
  | false =>
    rw [hg] at hGx
    cases hg2 : bigI y with
    | true =>
      rw [hg2] at hGy
      obtain ⟨k, n, b, l⟩ := x
      obtain ⟨k1, n1, b1, l1⟩ := y
      refine AP.ofA ?_
      refine AC_of Tryd.func5 rfl Tryd.ntmps5 rfl rfl ?_
      repeat' (first | (apply AL_callPw (hGx); kernel_rfl; (iterate 4 exact rfl)) | (apply AL_callPw (hGy); kernel_rfl; (iterate 4 exact rfl)) | (apply AL_callPw (hA); kernel_rfl; (iterate 4 exact rfl)) | (apply AL_move; exact rfl; exact rfl) | (apply AL_assign; exact rfl; exact rfl) | (apply AL_loadn ttok; (iterate 7 exact rfl)) | (apply AL_box; (iterate 5 exact rfl)) | refine AL_nil ?_ | (apply AL_guardT; (iterate 3 exact rfl); (first | with_reducible assumption | decide +kernel)) | (apply AL_pickF; exact rfl; (first | with_reducible assumption | decide +kernel); exact rfl; exact rfl) | refine AW_region ?_ | refine AW_seq' ?_ | (apply AW_condA; exact rfl; (first | with_reducible assumption | decide +kernel)) | refine then_norm ?_ | refine AW_ret ?_ | refine then_ret ?_)
      all_goals (apply endQ []; (repeat (first | exact ResL.nil | (apply ResL.cons; first | exact .tmp _ _ rfl | (apply res_n ttok; (iterate 6 exact rfl)) | (apply res_1 ttok; (iterate 5 exact rfl))))); (iterate 4 exact rfl))
      all_goals rfl
    | false =>
      rw [hg2] at hGy
      obtain ⟨hw, hlim, hdeep⟩ := bigI_no hg hx
      obtain ⟨hwy, hlimy, hdeepy⟩ := bigI_no hg2 hy
      have hAx := av_as x hw 10 (deepI_more x 9 11 hdeep (by omega)) (by omega)
      replace hAx : AP Tryd.prog _ [itD x, .int .i64 10] (itD x) [] := hAx
      have hAy := av_as y hwy 10 (deepI_more y 9 11 hdeepy (by omega)) (by omega)
      replace hAy : AP Tryd.prog _ [itD y, .int .i64 10] (itD y) [] := hAy
      have hI := av_rightI x hw
      have hIr := av_refRightI x hw (big_size hg)
      have hS := av_same x hw y hwy
      have hSr := av_refSame x hw y hwy
      generalize It.beq x y = s at hS hSr
      cases hr : rightI x with
      | false =>
        have hW := av_writeNo x hw (by omega) hr
        rw [hr] at hI hIr
        obtain ⟨k, n, b, l⟩ := x
        obtain ⟨k1, n1, b1, l1⟩ := y
        cases s
        all_goals
          refine AP.ofA ?_
          refine AC_of Tryd.func5 rfl Tryd.ntmps5 rfl rfl ?_
          repeat' (first | (apply AW_drawZ 6 ttok hmix; (decide +kernel); (kernel_rfl); (kernel_rfl); (kernel_rfl); exact rfl; exact rfl) | exact AZ.nil _ | (apply AZ_al; exact rfl; exact rfl) | (apply AZ_pu; (iterate 3 exact rfl)) | (apply AZk_mk; (iterate 3 exact rfl)) | (apply AL_callPw (hGx); kernel_rfl; (iterate 4 exact rfl)) | (apply AL_callPw (hGy); kernel_rfl; (iterate 4 exact rfl)) | (apply AL_callPw (hA); kernel_rfl; (iterate 4 exact rfl)) | (apply AL_callPw (hAx); kernel_rfl; (iterate 4 exact rfl)) | (apply AL_callPw (hAy); kernel_rfl; (iterate 4 exact rfl)) | (apply AL_callPw (hW); kernel_rfl; (iterate 4 exact rfl)) | (apply AL_callPw (hI); kernel_rfl; (iterate 4 exact rfl)) | (apply AL_callPw (hIr); kernel_rfl; (iterate 4 exact rfl)) | (apply AL_callPw (hS); kernel_rfl; (iterate 4 exact rfl)) | (apply AL_callPw (hSr); kernel_rfl; (iterate 4 exact rfl)) | (apply AL_move; exact rfl; exact rfl) | (apply AL_assign; exact rfl; exact rfl) | (apply AL_bin; (iterate 5 exact rfl)) | (apply AL_loadn ttok; (iterate 7 exact rfl)) | (apply AL_boxZ; (iterate 5 exact rfl)) | (apply AL_store ttok; (iterate 8 exact rfl)) | (apply AL_not; exact rfl; exact rfl) | (apply AL_extract; (iterate 3 exact rfl)) | refine AL_nil ?_ | (apply AL_guardT; (iterate 3 exact rfl); (first | with_reducible assumption | decide +kernel)) | (apply AL_pickT; exact rfl; (first | with_reducible assumption | decide +kernel); exact rfl; exact rfl) | (apply AL_pickF; exact rfl; (first | with_reducible assumption | decide +kernel); exact rfl; exact rfl) | refine AW_region ?_ | refine AW_seq' ?_ | (apply AW_condA; exact rfl; (first | with_reducible assumption | decide +kernel)) | (apply AW_condB; exact rfl; (first | with_reducible assumption | decide +kernel)) | refine then_norm ?_ | refine AW_ret ?_ | refine then_ret ?_ | (apply AL_len ttok; (iterate 4 exact rfl)) | (apply AL_beq ttok; (iterate 6 exact rfl)) | (apply AW_drawE 11 hmix; (decide +kernel); (kernel_rfl); (kernel_rfl); (kernel_rfl); exact rfl; exact rfl) | (apply AE_consZ; (iterate 4 exact rfl)) | exact AE.nil _ _ _ _ | (apply AEk_puT; exact rfl) | (apply AOt_mk; exact rfl; exact rfl; (decide +kernel); exact rfl) | (apply AO_puT; exact rfl) | exact AO.nil _ _ _ | (apply AOs_skip; (decide +kernel)) | exact AOs.nil | exact qY_ok rfl rfl | refine AW_skip ?_)
          all_goals (apply endQ []; (repeat (first | exact ResL.nil | (apply ResL.cons; first | exact .tmp _ _ rfl | (apply res_n ttok; (iterate 6 exact rfl)) | (apply res_1 ttok; (iterate 5 exact rfl))))); (iterate 4 exact rfl))
          all_goals rfl
      | true =>
        have hW := av_writeYes x hw (by omega) hr
        have hP := av_refPut x hw (right_fine hr) (by omega)
        rw [hr] at hI hIr
        generalize putI x = P at *
        have hPP : (P == P) = true := by simp
        obtain ⟨k, n, b, l⟩ := x
        obtain ⟨k1, n1, b1, l1⟩ := y
        cases s
        all_goals
          refine AP.ofA ?_
          refine AC_of Tryd.func5 rfl Tryd.ntmps5 rfl rfl ?_
          repeat' (first | (apply AW_drawZ 6 ttok hmix; (decide +kernel); (kernel_rfl); (kernel_rfl); (kernel_rfl); exact rfl; exact rfl) | exact AZ.nil _ | (apply AZ_al; exact rfl; exact rfl) | (apply AZ_pu; (iterate 3 exact rfl)) | (apply AZk_mk; (iterate 3 exact rfl)) | (apply AL_callPw (hGx); kernel_rfl; (iterate 4 exact rfl)) | (apply AL_callPw (hGy); kernel_rfl; (iterate 4 exact rfl)) | (apply AL_callPw (hA); kernel_rfl; (iterate 4 exact rfl)) | (apply AL_callPw (hAx); kernel_rfl; (iterate 4 exact rfl)) | (apply AL_callPw (hAy); kernel_rfl; (iterate 4 exact rfl)) | (apply AL_callPw (hW); kernel_rfl; (iterate 4 exact rfl)) | (apply AL_callPw (hI); kernel_rfl; (iterate 4 exact rfl)) | (apply AL_callPw (hIr); kernel_rfl; (iterate 4 exact rfl)) | (apply AL_callPw (hS); kernel_rfl; (iterate 4 exact rfl)) | (apply AL_callPw (hSr); kernel_rfl; (iterate 4 exact rfl)) | (apply AL_callPw (hP); kernel_rfl; (iterate 4 exact rfl)) | (apply AL_move; exact rfl; exact rfl) | (apply AL_assign; exact rfl; exact rfl) | (apply AL_bin; (iterate 5 exact rfl)) | (apply AL_loadn ttok; (iterate 7 exact rfl)) | (apply AL_boxZ; (iterate 5 exact rfl)) | (apply AL_store ttok; (iterate 8 exact rfl)) | (apply AL_not; exact rfl; exact rfl) | (apply AL_extract; (iterate 3 exact rfl)) | refine AL_nil ?_ | (apply AL_guardT; (iterate 3 exact rfl); (first | with_reducible assumption | decide +kernel)) | (apply AL_pickT; exact rfl; (first | with_reducible assumption | decide +kernel); exact rfl; exact rfl) | (apply AL_pickF; exact rfl; (first | with_reducible assumption | decide +kernel); exact rfl; exact rfl) | refine AW_region ?_ | refine AW_seq' ?_ | (apply AW_condB; exact rfl; (first | with_reducible assumption | decide +kernel)) | refine then_norm ?_ | refine AW_ret ?_ | (apply AL_beq ttok; (iterate 6 exact rfl)) | (apply AL_str; (iterate 5 exact rfl)) | (apply AW_drawE 11 hmix; (decide +kernel); (kernel_rfl); (kernel_rfl); (kernel_rfl); exact rfl; exact rfl) | (apply AE_consZ; (iterate 4 exact rfl)) | exact AE.nil _ _ _ _ | (apply AEk_puT; exact rfl) | (apply AOt_mk; exact rfl; exact rfl; (decide +kernel); exact rfl) | (apply AO_puT; exact rfl) | exact AO.nil _ _ _ | (apply AOs_skip; (decide +kernel)) | exact AOs.nil | exact qY_ok rfl rfl | refine AW_skip ?_ | (apply AL_b2s ttok; (iterate 9 exact rfl)))
          all_goals (apply endQ []; (repeat (first | exact ResL.nil | (apply ResL.cons; first | exact .tmp _ _ rfl | (apply res_n ttok; (iterate 6 exact rfl)) | (apply res_1 ttok; (iterate 5 exact rfl))))); (iterate 4 exact rfl))
          all_goals first | rfl | exact congrArg D.bool hPP
end Go.Proofs.YtnihobjehelagaaDoor
end
/- CborWrites: the walk, from the row's arguments. -/
section
open Go.RowKit Go.Pl Go.Av
namespace Go.Proofs.YtnihobjehelagaaDoor
set_option linter.unusedVariables false
theorem cborWrites_walk (cs cs1 : List Value) (x y : It) (W : World) (hx : ∃ m, (RI m).1.ok W (· < W.heap.size) cs x) (hy : ∃ m, (RI m).1.ok W (· < W.heap.size) cs1 y) (hl : laidMet Tryd.prog Rows.cborWritesRow.laid W) :
    Calls Tryd.prog 5 #[.agg ⟨cs⟩, .agg ⟨cs1⟩] W fun e w' => e = .returned (.bool true) ∧ Below W.heap.size W w' := by
  obtain ⟨m, hx⟩ := hx
  obtain ⟨m', hy⟩ := hy
  have hg := gls_u8 (laid := Rows.cborWritesRow.laid) (List.mem_cons_of_mem _ (List.mem_cons_self ..)) (List.mem_cons_self ..) hl
  have h := @av_cborWrites knownU8 knownU8_ok x y (item_nI m hx) (item_nI m' hy)
  refine @topG knownU8 Tryd.prog 5 _ (@AC.mono knownU8 _ _ _ _ _ _ _ h fun r b t h => h.1) W [.agg ⟨cs⟩, .agg ⟨cs1⟩] hg rfl ?_
  intro j d v hd hv
  match j, hd, hv with
  | 0, hd, hv => cases hd; cases hv; exact item_V hx
  | 1, hd, hv => cases hd; cases hv; exact item_V hy
  | j + 2, hd, hv => cases hd
end Go.Proofs.YtnihobjehelagaaDoor
end
