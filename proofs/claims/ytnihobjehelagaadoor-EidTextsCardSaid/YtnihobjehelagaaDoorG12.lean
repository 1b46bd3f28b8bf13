/- Package eid: numbers written; a name's text. -/
import Derived.Test.YtnihobjehelagaaDoorG11
import Derived.Test.YtnihobjehelagaaDoorG10
section
open Go.RowKit Go.Pl Go.Av
namespace Go.Proofs.YtnihobjehelagaaDoor
set_option linter.unusedVariables false
set_option linter.unusedSimpArgs false
set_option maxHeartbeats 4000000
/-- the powers of ten are known -/
class KnownPow [Known] : Prop where
  pow : 2 ∈ Known.ks
theorem pow_cells : dcs Rows.laid_internal_strconv_uint64pow10 = (List.range 20).map (fun i => Value.int .u64 ((10 ^ i : Nat) : Int)) := by kernel_rfl
theorem pow_mem : ((2, dcs Rows.laid_internal_strconv_uint64pow10) : Nat × List Value) ∈ tabs := by
  unfold tabs
  repeat (first | exact List.mem_cons_self .. | apply List.mem_cons_of_mem)
theorem dec_len (n : Nat) (hn : n < 18446744073709551616) : (Lib.decDigits n).length ≤ 20 := by
  rw [Lib.decDigits_length]
  rcases Nat.eq_zero_or_pos n with rfl | h
  · rw [Lib.nDigits_small (by omega)]; omega
  · have := Lib.numDigits_eq n h hn; split at this <;> omega
theorem av_fmtI [Known] [KnownPow] (n : Nat) (hn : n < 18446744073709551616) : AP Tryd.prog 105 [.int .u64 (n : Int), .int .i64 10] (.str (Lib.decDigits n)) [] := by
  refine ⟨fun g w vs hmem hl hv => ?_⟩
  obtain ⟨v0, v1, rfl⟩ : ∃ v0 v1, vs = [v0, v1] := by
    match vs, hl with
    | [v0, v1], _ => exact ⟨v0, v1, rfl⟩
  have h0 := (hv 0 _ _ rfl rfl).int_inv
  have h1 := (hv 1 _ _ rfl rfl).int_inv
  subst h0 h1
  have hc : ∀ i, i < 20 → w.cell? ⟨2, i, none⟩ = some (.int .u64 ((10 ^ i : Nat) : Int)) := fun i hi =>
    (hmem.gl.1 _ _ ⟨KnownPow.pow, pow_mem⟩ i _ (by rw [pow_cells, List.getElem?_map, List.getElem?_range hi]; rfl)).2
  exact (fmtI_walk n hn w hc).mono fun e w' ⟨he, hb⟩ => endBelow hmem hb he (.str _ (by have := dec_len n hn; unfold maxLen; omega))
theorem av_fmtU [Known] [KnownPow] (n : Nat) (hn : n < 18446744073709551616) : AP Tryd.prog 70 [.int .u64 (n : Int), .int .i64 10] (.str (Lib.decDigits n)) [] := by
  have h := av_fmtI n hn
  refine AP.ofA ?_
  refine AC_of Tryd.func70 rfl Tryd.ntmps70 rfl rfl ?_
  repeat' (first | (apply AL_callPw (h); kernel_rfl; (iterate 4 exact rfl)) | (apply AL_move; exact rfl; exact rfl) | (apply AL_assign; exact rfl; exact rfl) | refine AL_nil ?_ | refine AW_region ?_ | refine AW_seq' ?_ | refine then_norm ?_ | refine AW_ret ?_)
  all_goals (apply endQ []; (repeat (first | exact ResL.nil | (apply ResL.cons; first | exact .tmp _ _ rfl | (apply res_n ttok; (iterate 6 exact rfl)) | (apply res_1 ttok; (iterate 5 exact rfl))))); (iterate 4 exact rfl))
  all_goals rfl
/-- a name's text -/
def textE (x : EidV) : List UInt8 :=
  if isZ x then [100, 116, 110, 58, 110, 111, 110, 101]
  else if x.i then [105, 112, 110, 58] ++ Lib.decDigits x.n ++ [46] ++ Lib.decDigits x.s
  else [100, 116, 110, 58] ++ pathE x
theorem av_eText [Known] [KnownPow] (x : EidV) : AP Tryd.prog 36 [.agg (eC x)] (.tup [.str (if eRight x then textE x else []), .int .i64 (if eRight x then 0 else 3)]) [] := by
  have hR := av_eRight x
  cases hr : eRight x with
  | false =>
    rw [hr] at hR
    refine AP.ofA ?_
    refine AC_of Tryd.func36 rfl Tryd.ntmps36 rfl rfl ?_
    repeat' (first | (apply AL_callPw (hR); kernel_rfl; (iterate 4 exact rfl)) | (apply AL_assign; exact rfl; exact rfl) | (apply AL_loadn ttok; (iterate 7 exact rfl)) | (apply AL_boxZ; (iterate 5 exact rfl)) | (apply AL_not; exact rfl; exact rfl) | refine AL_nil ?_ | refine AW_region ?_ | refine AW_seq' ?_ | (apply AW_condA; exact rfl; (first | with_reducible assumption | decide +kernel)) | refine then_norm ?_ | refine AW_block ?_ | refine AW_ret ?_ | refine then_ret ?_ | refine blk_ret ?_)
    all_goals (apply endQ []; (repeat (first | exact ResL.nil | (apply ResL.cons; first | exact .tmp _ _ rfl | (apply res_n ttok; (iterate 6 exact rfl)) | (apply res_1 ttok; (iterate 5 exact rfl))))); (iterate 4 exact rfl))
    all_goals rfl
  | true =>
    rw [hr] at hR
    rw [if_pos rfl, if_pos rfl]
    unfold textE
    cases hz : isZ x with
    | true =>
      rw [if_pos rfl]
      unfold isZ at hz
      refine AP.ofA ?_
      refine AC_of Tryd.func36 rfl Tryd.ntmps36 rfl rfl ?_
      repeat' (first | (apply AL_callPw (hR); kernel_rfl; (iterate 4 exact rfl)) | (apply AL_assign; exact rfl; exact rfl) | (apply AL_loadn ttok; (iterate 7 exact rfl)) | (apply AL_boxZ; (iterate 5 exact rfl)) | (apply AL_not; exact rfl; exact rfl) | refine AL_nil ?_ | refine AW_region ?_ | refine AW_seq' ?_ | (apply AW_condA; exact rfl; (first | with_reducible assumption | decide +kernel)) | (apply AW_condB; exact rfl; (first | with_reducible assumption | decide +kernel)) | refine then_norm ?_ | refine AW_block ?_ | refine AW_ret ?_ | refine then_ret ?_ | refine blk_ret ?_ | (apply AL_build ttok; (iterate 6 exact rfl)) | (apply AL_eqS ttok; (iterate 4 exact rfl); (kernel_rfl); (kernel_rfl); (iterate 3 exact rfl)))
      all_goals (apply endQ []; (repeat (first | exact ResL.nil | (apply ResL.cons; first | exact .tmp _ _ rfl | (apply res_n ttok; (iterate 6 exact rfl)) | (apply res_1 ttok; (iterate 5 exact rfl))))); (iterate 4 exact rfl))
      all_goals rfl
    | false =>
      rw [if_neg (by simp)]
      cases hi : x.i with
      | true =>
        obtain ⟨b1, b2, _⟩ := eRight_num hr hz hi
        rw [if_pos rfl]
        have f1 := av_fmtU x.n (by omega)
        have f2 := av_fmtU x.s (by omega)
        have d1 := dec_len x.n (by omega)
        have d2 := dec_len x.s (by omega)
        generalize Lib.decDigits x.n = p at *
        generalize Lib.decDigits x.s = q at *
        have l1 : [(105 : UInt8), 112, 110, 58].length + p.length ≤ maxLen := by simp; unfold maxLen; omega
        have l2 : ([(105 : UInt8), 112, 110, 58] ++ p).length + [(46 : UInt8)].length ≤ maxLen := by simp; unfold maxLen; omega
        have l3 : ([(105 : UInt8), 112, 110, 58] ++ p ++ [46]).length + q.length ≤ maxLen := by simp; unfold maxLen; omega
        unfold isZ at hz
        refine AP.ofA ?_
        refine AC_of Tryd.func36 rfl Tryd.ntmps36 rfl rfl ?_
        repeat' (first | (apply AL_callPw (hR); kernel_rfl; (iterate 4 exact rfl)) | (apply AL_callPw (f1); kernel_rfl; (iterate 4 exact rfl)) | (apply AL_callPw (f2); kernel_rfl; (iterate 4 exact rfl)) | (apply AL_cat; exact rfl; exact rfl; (first | exact l1 | exact l2 | exact l3); exact rfl) | (apply AL_assign; exact rfl; exact rfl) | (apply AL_load1 ttok; (iterate 6 exact rfl)) | (apply AL_loadn ttok; (iterate 7 exact rfl)) | (apply AL_fieldAddr ttok; (iterate 7 exact rfl)) | (apply AL_boxZ; (iterate 5 exact rfl)) | (apply AL_not; exact rfl; exact rfl) | refine AL_nil ?_ | refine AW_region ?_ | refine AW_seq' ?_ | (apply AW_condA; exact rfl; (first | with_reducible assumption | decide +kernel)) | (apply AW_condB; exact rfl; (first | with_reducible assumption | decide +kernel)) | refine then_norm ?_ | refine AW_block ?_ | refine AW_ret ?_ | refine then_ret ?_ | refine blk_ret ?_ | (apply AL_build ttok; (iterate 6 exact rfl)) | (apply AL_eqS ttok; (iterate 4 exact rfl); (kernel_rfl); (kernel_rfl); (iterate 3 exact rfl)) | (apply AW_drawE 8 hmix; (decide +kernel); (kernel_rfl); (kernel_rfl); (kernel_rfl); exact rfl; exact rfl) | (apply AE_consZ; (iterate 4 exact rfl)) | exact AE.nil _ _ _ _ | (apply AEk_puT; exact rfl) | (apply AOt_mk; exact rfl; exact rfl; (decide +kernel); exact rfl) | (apply AO_puT; exact rfl) | exact AO.nil _ _ _ | (apply AOs_skip; (decide +kernel)) | exact AOs.nil | exact qY_ok rfl rfl)
        all_goals (apply endQ []; (repeat (first | exact ResL.nil | (apply ResL.cons; first | exact .tmp _ _ rfl | (apply res_n ttok; (iterate 6 exact rfl)) | (apply res_1 ttok; (iterate 5 exact rfl))))); (iterate 4 exact rfl))
        all_goals rfl
      | false =>
        obtain ⟨_, _, _, b1, b2, _⟩ := eRight_txt hr hz hi
        rw [if_neg (by simp)]
        have hP := av_path x b1 b2
        have hpl : (pathE x).length ≤ 100 := by unfold pathE; simp; omega
        generalize pathE x = p at *
        have l1 : [(100 : UInt8), 116, 110, 58].length + p.length ≤ maxLen := by simp; unfold maxLen; omega
        unfold isZ at hz
        refine AP.ofA ?_
        refine AC_of Tryd.func36 rfl Tryd.ntmps36 rfl rfl ?_
        repeat' (first | (apply AL_callPw (hR); kernel_rfl; (iterate 4 exact rfl)) | (apply AL_callPw (hP); kernel_rfl; (iterate 4 exact rfl)) | (apply AL_cat; exact rfl; exact rfl; exact l1; exact rfl) | (apply AL_assign; exact rfl; exact rfl) | (apply AL_load1 ttok; (iterate 6 exact rfl)) | (apply AL_loadn ttok; (iterate 7 exact rfl)) | (apply AL_fieldAddr ttok; (iterate 7 exact rfl)) | (apply AL_boxZ; (iterate 5 exact rfl)) | (apply AL_not; exact rfl; exact rfl) | refine AL_nil ?_ | refine AW_region ?_ | refine AW_seq' ?_ | (apply AW_condB; exact rfl; (first | with_reducible assumption | decide +kernel)) | refine then_norm ?_ | refine AW_block ?_ | refine AW_ret ?_ | (apply AL_build ttok; (iterate 6 exact rfl)) | (apply AL_eqS ttok; (iterate 4 exact rfl); (kernel_rfl); (kernel_rfl); (iterate 3 exact rfl)) | refine AW_skip ?_)
        all_goals (apply endQ []; (repeat (first | exact ResL.nil | (apply ResL.cons; first | exact .tmp _ _ rfl | (apply res_n ttok; (iterate 6 exact rfl)) | (apply res_1 ttok; (iterate 5 exact rfl))))); (iterate 4 exact rfl))
        all_goals rfl
end Go.Proofs.YtnihobjehelagaaDoor
end
