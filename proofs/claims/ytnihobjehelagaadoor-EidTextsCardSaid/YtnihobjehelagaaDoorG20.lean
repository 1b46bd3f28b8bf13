/- EidTexts: the law's walk. -/
import Derived.Test.YtnihobjehelagaaDoorG19
import Derived.Test.YtnihobjehelagaaDoorG10
section
open Go.RowKit Go.Pl Go.Av
namespace Go.Proofs.YtnihobjehelagaaDoor
set_option linter.unusedVariables false
set_option linter.unusedSimpArgs false
set_option maxHeartbeats 4000000
theorem text_len {x : EidV} (h : eRight x = true) : (textE x).length ≤ 100 := by
  unfold textE
  cases hz : isZ x with
  | true => rw [if_pos rfl]; decide
  | false =>
    rw [if_neg (by simp)]
    cases hi : x.i with
    | true =>
      obtain ⟨b1, b2, _⟩ := eRight_num h hz hi
      have d1 := dec_len x.n (by omega)
      have d2 := dec_len x.s (by omega)
      rw [if_pos rfl]
      simp only [List.length_append, List.length_cons, List.length_nil]
      omega
    | false =>
      obtain ⟨_, _, _, b1, b2, _⟩ := eRight_txt h hz hi
      rw [if_neg (by simp)]
      unfold pathE
      simp only [List.length_append, List.length_cons, List.length_nil]
      omega
theorem text_eq {x y : EidV} (hx : eRight x = true) (hy : eRight y = true) : ((textE x == textE y) == eqE x y) = true := by
  have h : (textE x == textE y) = eqE x y := by
    rw [Bool.eq_iff_iff, eqE_iff, beq_iff_eq]
    exact ⟨text_inj hx hy, fun e => by rw [e]⟩
  rw [h]; simp
theorem av_eidTexts [Known] [KnownSc] [KnownPow] (x y : EidV) (more : List UInt8) : AP Tryd.prog 9 [.agg (eC x), .agg (eC y), .str more] (.bool true) [] := by
  have hA := av_aliveE
  have hRx := av_eRight x
  have hRy := av_eRight y
  by_cases hm : 100 < more.length
  · have t1 : decide ((more.length : Int) > 100) = true := decide_eq_true (by omega)
    refine AP.ofA ?_
    refine AC_of Tryd.func9 rfl Tryd.ntmps9 rfl rfl ?_
    repeat' (first | (apply AL_callPw (hA); kernel_rfl; (iterate 4 exact rfl)) | (apply AL_move; exact rfl; exact rfl) | (apply AL_assign; exact rfl; exact rfl) | (apply AL_bin; (iterate 5 exact rfl)) | (apply AL_load1 ttok; (iterate 6 exact rfl)) | (apply AL_fieldAddr ttok; (iterate 7 exact rfl)) | (apply AL_box; (iterate 5 exact rfl)) | refine AL_nil ?_ | (apply AL_guardT; (iterate 3 exact rfl); (first | with_reducible assumption | decide +kernel)) | (apply AL_guardFf; (iterate 3 exact rfl); (first | with_reducible assumption | decide +kernel)) | (apply AL_guardS; exact rfl; exact rfl; all_goals intro hb) | (apply AL_pickT; exact rfl; (first | with_reducible assumption | decide +kernel); exact rfl; exact rfl) | (apply AL_pickF; exact rfl; (first | with_reducible assumption | decide +kernel); exact rfl; exact rfl) | refine AW_region ?_ | refine AW_seq' ?_ | (apply AW_condA; exact rfl; (first | with_reducible assumption | decide +kernel)) | refine then_norm ?_ | refine AW_ret ?_ | refine then_ret ?_ | (apply AL_lens ttok; (iterate 4 exact rfl)))
    all_goals (apply endQ []; (repeat (first | exact ResL.nil | (apply ResL.cons; first | exact .tmp _ _ rfl | (apply res_n ttok; (iterate 6 exact rfl)) | (apply res_1 ttok; (iterate 5 exact rfl))))); (iterate 4 exact rfl))
    all_goals rfl
  have t1 : decide ((more.length : Int) > 100) = false := decide_eq_false (by omega)
  cases hx : eRight x with
  | false =>
    rw [hx] at hRx
    refine AP.ofA ?_
    refine AC_of Tryd.func9 rfl Tryd.ntmps9 rfl rfl ?_
    repeat' (first | (apply AL_callPw (hA); kernel_rfl; (iterate 4 exact rfl)) | (apply AL_callPw (hRx); kernel_rfl; (iterate 4 exact rfl)) | (apply AL_move; exact rfl; exact rfl) | (apply AL_assign; exact rfl; exact rfl) | (apply AL_bin; (iterate 5 exact rfl)) | (apply AL_load1 ttok; (iterate 6 exact rfl)) | (apply AL_loadn ttok; (iterate 7 exact rfl)) | (apply AL_fieldAddr ttok; (iterate 7 exact rfl)) | (apply AL_box; (iterate 5 exact rfl)) | (apply AL_not; exact rfl; exact rfl) | refine AL_nil ?_ | (apply AL_guardT; (iterate 3 exact rfl); (first | with_reducible assumption | decide +kernel)) | (apply AL_guardFf; (iterate 3 exact rfl); (first | with_reducible assumption | decide +kernel)) | (apply AL_guardS; exact rfl; exact rfl; all_goals intro hb) | (apply AL_pickT; exact rfl; (first | with_reducible assumption | decide +kernel); exact rfl; exact rfl) | (apply AL_pickF; exact rfl; (first | with_reducible assumption | decide +kernel); exact rfl; exact rfl) | refine AW_region ?_ | refine AW_seq' ?_ | (apply AW_condA; exact rfl; (first | with_reducible assumption | decide +kernel)) | refine then_norm ?_ | refine AW_ret ?_ | refine then_ret ?_ | (apply AL_lens ttok; (iterate 4 exact rfl)))
    all_goals (apply endQ []; (repeat (first | exact ResL.nil | (apply ResL.cons; first | exact .tmp _ _ rfl | (apply res_n ttok; (iterate 6 exact rfl)) | (apply res_1 ttok; (iterate 5 exact rfl))))); (iterate 4 exact rfl))
    all_goals rfl
  | true =>
    rw [hx] at hRx
    cases hy : eRight y with
    | false =>
      rw [hy] at hRy
      refine AP.ofA ?_
      refine AC_of Tryd.func9 rfl Tryd.ntmps9 rfl rfl ?_
      repeat' (first | (apply AL_callPw (hA); kernel_rfl; (iterate 4 exact rfl)) | (apply AL_callPw (hRx); kernel_rfl; (iterate 4 exact rfl)) | (apply AL_callPw (hRy); kernel_rfl; (iterate 4 exact rfl)) | (apply AL_move; exact rfl; exact rfl) | (apply AL_assign; exact rfl; exact rfl) | (apply AL_bin; (iterate 5 exact rfl)) | (apply AL_load1 ttok; (iterate 6 exact rfl)) | (apply AL_loadn ttok; (iterate 7 exact rfl)) | (apply AL_fieldAddr ttok; (iterate 7 exact rfl)) | (apply AL_box; (iterate 5 exact rfl)) | (apply AL_not; exact rfl; exact rfl) | refine AL_nil ?_ | (apply AL_guardT; (iterate 3 exact rfl); (first | with_reducible assumption | decide +kernel)) | (apply AL_guardFf; (iterate 3 exact rfl); (first | with_reducible assumption | decide +kernel)) | (apply AL_guardS; exact rfl; exact rfl; all_goals intro hb) | (apply AL_pickT; exact rfl; (first | with_reducible assumption | decide +kernel); exact rfl; exact rfl) | (apply AL_pickF; exact rfl; (first | with_reducible assumption | decide +kernel); exact rfl; exact rfl) | refine AW_region ?_ | refine AW_seq' ?_ | (apply AW_condA; exact rfl; (first | with_reducible assumption | decide +kernel)) | refine then_norm ?_ | refine AW_ret ?_ | refine then_ret ?_ | (apply AL_lens ttok; (iterate 4 exact rfl)))
      all_goals (apply endQ []; (repeat (first | exact ResL.nil | (apply ResL.cons; first | exact .tmp _ _ rfl | (apply res_n ttok; (iterate 6 exact rfl)) | (apply res_1 ttok; (iterate 5 exact rfl))))); (iterate 4 exact rfl))
      all_goals rfl
    | true =>
      rw [hy] at hRy
      have hTx := av_eText x
      have hTy := av_eText y
      rw [hx, if_pos rfl, if_pos rfl] at hTx
      rw [hy, if_pos rfl, if_pos rfl] at hTy
      have l1 := text_len hx
      have hP := av_parse (textE x ++ more ++ [32]) (by simp only [List.length_append, List.length_cons, List.length_nil]; omega)
      rw [parse_32, if_neg (by simp), if_neg (by simp)] at hP
      have hE := text_eq hx hy
      have l2 : (textE x).length + more.length ≤ maxLen := by unfold maxLen; omega
      have l3 : (textE x ++ more).length + [(32 : UInt8)].length ≤ maxLen := by simp only [List.length_append, List.length_cons, List.length_nil]; unfold maxLen; omega
      generalize textE x = tx at *
      generalize textE y = ty at *
      replace hP : AP Tryd.prog _ [.str (tx ++ more ++ [32])] (.tup [.agg [.bool false, .int .u64 0, .int .u64 0, .str [], .str []], .int .i64 3]) [] := hP
      refine AP.ofA ?_
      refine AC_of Tryd.func9 rfl Tryd.ntmps9 rfl rfl ?_
      repeat' (first | (apply AL_callPw (hA); kernel_rfl; (iterate 4 exact rfl)) | (apply AL_callPw (hRx); kernel_rfl; (iterate 4 exact rfl)) | (apply AL_callPw (hRy); kernel_rfl; (iterate 4 exact rfl)) | (apply AL_callPw (hTx); kernel_rfl; (iterate 4 exact rfl)) | (apply AL_callPw (hTy); kernel_rfl; (iterate 4 exact rfl)) | (apply AL_callPw (hP); kernel_rfl; (iterate 4 exact rfl)) | (apply AL_cat; exact rfl; exact rfl; (first | exact l2 | exact l3); exact rfl) | (apply AL_move; exact rfl; exact rfl) | (apply AL_assign; exact rfl; exact rfl) | (apply AL_bin; (iterate 5 exact rfl)) | (apply AL_load1 ttok; (iterate 6 exact rfl)) | (apply AL_loadn ttok; (iterate 7 exact rfl)) | (apply AL_fieldAddr ttok; (iterate 7 exact rfl)) | (apply AL_box; (iterate 5 exact rfl)) | (apply AL_store ttok; (iterate 8 exact rfl)) | (apply AL_not; exact rfl; exact rfl) | (apply AL_extract; (iterate 3 exact rfl)) | refine AL_nil ?_ | (apply AL_guardT; (iterate 3 exact rfl); (first | with_reducible assumption | decide +kernel)) | (apply AL_guardFf; (iterate 3 exact rfl); (first | with_reducible assumption | decide +kernel)) | (apply AL_guardS; exact rfl; exact rfl; all_goals intro hb) | (apply AL_pickT; exact rfl; (first | with_reducible assumption | decide +kernel); exact rfl; exact rfl) | (apply AL_pickF; exact rfl; (first | with_reducible assumption | decide +kernel); exact rfl; exact rfl) | refine AW_region ?_ | refine AW_seq' ?_ | (apply AW_condA; exact rfl; (first | with_reducible assumption | decide +kernel)) | (apply AW_condB; exact rfl; (first | with_reducible assumption | decide +kernel)) | refine then_norm ?_ | refine AW_ret ?_ | refine then_ret ?_ | (apply AL_lens ttok; (iterate 4 exact rfl)) | (apply AL_alloc ttok; (iterate 4 exact rfl)) | (apply AL_beq ttok; (iterate 6 exact rfl)) | (apply AL_str; (iterate 5 exact rfl)) | (apply AL_eqS ttok; (iterate 4 exact rfl); (kernel_rfl); (kernel_rfl); (iterate 3 exact rfl)) | refine AW_skip ?_)
      all_goals (apply endQ []; (repeat (first | exact ResL.nil | (apply ResL.cons; first | exact .tmp _ _ rfl | (apply res_n ttok; (iterate 6 exact rfl)) | (apply res_1 ttok; (iterate 5 exact rfl))))); (iterate 4 exact rfl))
      all_goals first | rfl | exact congrArg D.bool hE
end Go.Proofs.YtnihobjehelagaaDoor
end
