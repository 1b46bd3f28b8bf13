/- Package request: fixed calls, read. -/
import Derived.Test.YtnihobjehelagaaDoorG16
import Derived.Test.YtnihobjehelagaaDoorG13
import Derived.Test.YtnihobjehelagaaDoorG14
import Derived.Test.YtnihobjehelagaaDoorG15
import Derived.Test.YtnihobjehelagaaDoorG01
import Derived.Test.YtnihobjehelagaaDoorG06
section
open Go.RowKit Go.Pl Go.Av
namespace Go.Proofs.YtnihobjehelagaaDoor
set_option linter.unusedVariables false
set_option linter.unusedSimpArgs false
set_option maxHeartbeats 4000000
theorem f_w1p [Known] : AP Tryd.prog 46 [.agg rq1] (.tup [.sl .ext [.int .u8 5, .int .u8 6, .int .u8 7, .int .u8 105, .int .u8 112, .int .u8 110, .int .u8 58, .int .u8 55, .int .u8 46, .int .u8 49], .int .i64 0]) [] := by
  have hR := f_r1
  have hT := cl_text71
  replace hT : AP Tryd.prog _ [.agg [.bool true, .int .u64 7, .int .u64 1, .str [], .str []]] (.tup [.str [105, 112, 110, 58, 55, 46, 49], .int .i64 0]) [] := hT
  refine AP.ofA ?_
  refine AC_of Tryd.func46 rfl Tryd.ntmps46 rfl rfl ?_
  repeat' (first | (apply AL_callPw (hR); kernel_rfl; (iterate 4 exact rfl)) | (apply AL_callPw (hT); kernel_rfl; (iterate 4 exact rfl)) | (apply AL_inZ Tryd.func80 Tryd.ntmps80; exact rfl; exact rfl; kernel_rfl; (iterate 6 exact rfl)) | (apply AL_inZ Tryd.func81 Tryd.ntmps81; exact rfl; exact rfl; kernel_rfl; (iterate 6 exact rfl)) | (apply AL_inZ Tryd.func82 Tryd.ntmps82; exact rfl; exact rfl; kernel_rfl; (iterate 6 exact rfl)) | (apply AL_inZ Tryd.func84 Tryd.ntmps84; exact rfl; exact rfl; kernel_rfl; (iterate 6 exact rfl)) | (apply AL_inZ Tryd.func86 Tryd.ntmps86; exact rfl; exact rfl; kernel_rfl; (iterate 6 exact rfl)) | (apply AL_inZ Tryd.func83 Tryd.ntmps83; exact rfl; exact rfl; kernel_rfl; (iterate 6 exact rfl)) | (apply AL_inZ Tryd.func56 Tryd.ntmps56; exact rfl; exact rfl; kernel_rfl; (iterate 6 exact rfl)) | (apply in_ret; (repeat (first | exact ResL.nil | (apply ResL.cons; first | exact .tmp _ _ rfl | (apply res_n ttok; (iterate 6 exact rfl)) | (apply res_1 ttok; (iterate 5 exact rfl))))); exact rfl) | refine AW_loopN 80 ?_ | refine AN_succ ?_ | (apply AL_max; (iterate 3 exact rfl)) | (apply AL_s2b ttok; (iterate 8 exact rfl)) | (apply AL_snil ttok; (iterate 5 exact rfl); intro b hbn; (have hbn2 := hbn (List.cons_ne_nil _ _)); subst hbn2; clear hbn) | (apply AL_appendZ ttok; (iterate 11 exact rfl); exact uniB_ok rfl; exact uniB_ok rfl; exact List.cons_ne_nil _ _; decide +kernel; decide +kernel; exact rfl; exact rfl) | (apply AL_append_nilZ ttok; (iterate 6 exact rfl); exact uniB_ok rfl; exact List.cons_ne_nil _ _; exact rfl; decide +kernel; decide +kernel; (iterate 3 exact rfl)) | (apply AL_move; exact rfl; exact rfl) | (apply AL_assign; exact rfl; exact rfl) | (apply AL_bin; (iterate 5 exact rfl)) | (apply AL_load1 ttok; (iterate 6 exact rfl)) | (apply AL_loadn ttok; (iterate 7 exact rfl)) | (apply AL_fieldAddr ttok; (iterate 7 exact rfl)) | (apply AL_nilCheck; exact rfl; exact rfl) | (apply AL_boxZ; (iterate 5 exact rfl)) | (apply AL_store ttok; (iterate 8 exact rfl)) | (apply AL_not; exact rfl; exact rfl) | (apply AL_convT ttok; (iterate 5 exact rfl)) | (apply AL_extract; (iterate 3 exact rfl)) | refine AL_nil ?_ | (apply AL_guardT; (iterate 3 exact rfl); (first | with_reducible assumption | decide +kernel)) | (apply AL_pickT; exact rfl; (first | with_reducible assumption | decide +kernel); exact rfl; exact rfl) | (apply AL_pickF; exact rfl; (first | with_reducible assumption | decide +kernel); exact rfl; exact rfl) | refine AW_region ?_ | refine AW_seq' ?_ | (apply AW_condA; exact rfl; (first | with_reducible assumption | decide +kernel)) | (apply AW_condB; exact rfl; (first | with_reducible assumption | decide +kernel)) | refine then_norm ?_ | refine AW_block ?_ | refine AW_exit ?_ | refine AW_ret ?_ | (apply AL_len ttok; (iterate 4 exact rfl)) | (apply AL_build ttok; (iterate 6 exact rfl)) | (apply AL_bsZ ttok; (iterate 12 exact rfl)) | (apply AL_nilp ttok; (iterate 6 exact rfl)) | (apply AW_drawE 6 hmix; (decide +kernel); (kernel_rfl); (kernel_rfl); (kernel_rfl); exact rfl; exact rfl) | (apply AE_consZ; (iterate 4 exact rfl)) | exact AE.nil _ _ _ _ | (apply AEk_puT; exact rfl) | (apply AEk_efT; exact rfl) | (apply AOt_mk; exact rfl; exact rfl; (decide +kernel); exact rfl) | (apply AO_puT; exact rfl) | (apply AO_efT; exact rfl) | exact AO.nil _ _ _ | (apply AOs_skip; (decide +kernel)) | (apply AOs_goZ; (iterate 3 exact rfl)) | exact AOs.nil | exact qY_ok rfl rfl | exact qY_ef rfl rfl | refine AW_skip ?_)
  all_goals (apply endQ []; (repeat (first | exact ResL.nil | (apply ResL.cons; first | exact .tmp _ _ rfl | (apply res_n ttok; (iterate 6 exact rfl)) | (apply res_1 ttok; (iterate 5 exact rfl))))); (iterate 4 exact rfl))
  all_goals rfl
theorem f_rd1 [Known] : AP Tryd.prog 47 [byE bq1] (.tup [.agg rq1, .int .i64 0]) [] := by
  have hP := cl_parse71
  have hW := f_w1p
  have hE := av_bEq bq1 bq1
  rw [show (bq1 == bq1) = true by decide] at hE
  replace hP : AP Tryd.prog _ [.str [105, 112, 110, 58, 55, 46, 49]] (.tup [.agg [.bool true, .int .u64 7, .int .u64 1, .str [], .str []], .int .i64 0]) [] := hP
  replace hE : AP Tryd.prog _ [.sl .ext [.int .u8 5, .int .u8 6, .int .u8 7, .int .u8 105, .int .u8 112, .int .u8 110, .int .u8 58, .int .u8 55, .int .u8 46, .int .u8 49], .sl .ext [.int .u8 5, .int .u8 6, .int .u8 7, .int .u8 105, .int .u8 112, .int .u8 110, .int .u8 58, .int .u8 55, .int .u8 46, .int .u8 49]] _ [] := hE
  show AP Tryd.prog _ [.sl .ext [.int .u8 5, .int .u8 6, .int .u8 7, .int .u8 105, .int .u8 112, .int .u8 110, .int .u8 58, .int .u8 55, .int .u8 46, .int .u8 49]] _ []
  refine AP.ofA ?_
  refine AC_of Tryd.func47 rfl Tryd.ntmps47 rfl rfl ?_
  repeat' (first | (apply AL_callPw (hP); kernel_rfl; (iterate 4 exact rfl)) | (apply AL_callPw (hW); kernel_rfl; (iterate 4 exact rfl)) | (apply AL_callPw (hE); kernel_rfl; (iterate 4 exact rfl)) | (apply AL_inZ Tryd.func87 Tryd.ntmps87; exact rfl; exact rfl; kernel_rfl; (iterate 6 exact rfl)) | (apply AL_inZ Tryd.func88 Tryd.ntmps88; exact rfl; exact rfl; kernel_rfl; (iterate 6 exact rfl)) | (apply AL_inZ Tryd.func89 Tryd.ntmps89; exact rfl; exact rfl; kernel_rfl; (iterate 6 exact rfl)) | (apply AL_inZ Tryd.func91 Tryd.ntmps91; exact rfl; exact rfl; kernel_rfl; (iterate 6 exact rfl)) | (apply AL_inZ Tryd.func114 Tryd.ntmps114; exact rfl; exact rfl; kernel_rfl; (iterate 6 exact rfl)) | (apply AL_inZ Tryd.func112 Tryd.ntmps112; exact rfl; exact rfl; kernel_rfl; (iterate 6 exact rfl)) | (apply AL_inZ Tryd.func113 Tryd.ntmps113; exact rfl; exact rfl; kernel_rfl; (iterate 6 exact rfl)) | (apply AL_inZ Tryd.func93 Tryd.ntmps93; exact rfl; exact rfl; kernel_rfl; (iterate 6 exact rfl)) | (apply AL_inZ Tryd.func90 Tryd.ntmps90; exact rfl; exact rfl; kernel_rfl; (iterate 6 exact rfl)) | (apply AL_inZ Tryd.func56 Tryd.ntmps56; exact rfl; exact rfl; kernel_rfl; (iterate 6 exact rfl)) | (apply in_ret; (repeat (first | exact ResL.nil | (apply ResL.cons; first | exact .tmp _ _ rfl | (apply res_n ttok; (iterate 6 exact rfl)) | (apply res_1 ttok; (iterate 5 exact rfl))))); exact rfl) | refine AW_loopN 80 ?_ | refine AN_succ ?_ | (apply AL_b2sC ttok; (iterate 9 exact rfl)) | (apply AL_snil ttok; (iterate 5 exact rfl); intro b hbn; (have hbn2 := hbn (List.cons_ne_nil _ _)); subst hbn2; clear hbn) | (apply AL_slice ttok; (iterate 5 exact rfl); (first | exact .dft _ | exact .lit _ _ _ _ rfl (by decide +kernel)); (first | exact .dft _ | exact .lit _ _ _ _ rfl (by decide +kernel)); decide +kernel; decide +kernel; exact uniB_ok rfl; exact rfl) | (apply AL_appendZ ttok; (iterate 11 exact rfl); exact uniB_ok rfl; exact uniB_ok rfl; exact List.cons_ne_nil _ _; decide +kernel; decide +kernel; exact rfl; exact rfl) | (apply AL_move; exact rfl; exact rfl) | (apply AL_assign; exact rfl; exact rfl) | (apply AL_bin; (iterate 5 exact rfl)) | (apply AL_load1 ttok; (iterate 6 exact rfl)) | (apply AL_loadn ttok; (iterate 7 exact rfl)) | (apply AL_fieldAddr ttok; (iterate 7 exact rfl)) | (apply AL_nilCheck; exact rfl; exact rfl) | (apply AL_boxZ; (iterate 5 exact rfl)) | (apply AL_store ttok; (iterate 8 exact rfl)) | (apply AL_not; exact rfl; exact rfl) | (apply AL_convT ttok; (iterate 5 exact rfl)) | (apply AL_extract; (iterate 3 exact rfl)) | refine AL_nil ?_ | (apply AL_guardT; (iterate 3 exact rfl); (first | with_reducible assumption | decide +kernel)) | (apply AL_guardFt; (iterate 3 exact rfl); (first | with_reducible assumption | decide +kernel)) | (apply AL_pickT; exact rfl; (first | with_reducible assumption | decide +kernel); exact rfl; exact rfl) | (apply AL_pickF; exact rfl; (first | with_reducible assumption | decide +kernel); exact rfl; exact rfl) | refine AW_region ?_ | refine AW_seq' ?_ | (apply AW_condA; exact rfl; (first | with_reducible assumption | decide +kernel)) | (apply AW_condB; exact rfl; (first | with_reducible assumption | decide +kernel)) | refine then_norm ?_ | refine AW_block ?_ | refine AW_ret ?_ | (apply AL_len ttok; (iterate 4 exact rfl)) | (apply AL_eload1 ttok; (iterate 6 exact rfl)) | (apply AL_build ttok; (iterate 6 exact rfl)) | (apply AL_allocZ ttok; (iterate 4 exact rfl)) | (apply AL_bsZ ttok; (iterate 12 exact rfl)) | (apply AL_nilp ttok; (iterate 6 exact rfl)) | refine AW_skip ?_ | (apply AL_idx ttok; (iterate 6 exact rfl); (first | with_reducible assumption | decide +kernel | exact Int.natCast_nonneg _ | (guard_target = (0:Int) ≤ (OfNat.ofNat _ : Int); decide) | rotate_left); (first | with_reducible assumption | decide +kernel | exact rfl); (first | exact uniB_ok rfl | with_reducible assumption | decide +kernel | rotate_left)) | (apply AL_shl; exact rfl; exact rfl; (first | with_reducible assumption | decide +kernel | exact Int.natCast_nonneg _ | (exact (by decide)) | rotate_left); exact rfl))
  all_goals (apply endQ []; (repeat (first | exact ResL.nil | (apply ResL.cons; first | exact .tmp _ _ rfl | (apply res_n ttok; (iterate 6 exact rfl)) | (apply res_1 ttok; (iterate 5 exact rfl))))); (iterate 4 exact rfl))
  all_goals rfl
end Go.Proofs.YtnihobjehelagaaDoor
end
/- Package request: fixed calls, read; what must come of them. -/
section
open Go.RowKit Go.Pl Go.Av
namespace Go.Proofs.YtnihobjehelagaaDoor
set_option linter.unusedVariables false
set_option linter.unusedSimpArgs false
set_option maxHeartbeats 4000000
theorem f_rd2 [Known] : AP Tryd.prog 47 [byE (bq1 ++ [0])] (.tup [.agg rq2z, .int .i64 3]) [] := by
  have hP := cl_parse71
  have hW := f_w1p
  replace hP : AP Tryd.prog _ [.str [105, 112, 110, 58, 55, 46, 49]] (.tup [.agg [.bool true, .int .u64 7, .int .u64 1, .str [], .str []], .int .i64 0]) [] := hP
  show AP Tryd.prog _ [.sl .ext [.int .u8 5, .int .u8 6, .int .u8 7, .int .u8 105, .int .u8 112, .int .u8 110, .int .u8 58, .int .u8 55, .int .u8 46, .int .u8 49, .int .u8 0]] _ []
  refine AP.ofA ?_
  refine AC_of Tryd.func47 rfl Tryd.ntmps47 rfl rfl ?_
  repeat' (first | (apply AL_callPw (hP); kernel_rfl; (iterate 4 exact rfl)) | (apply AL_callPw (hW); kernel_rfl; (iterate 4 exact rfl)) | (apply AL_inZ Tryd.func87 Tryd.ntmps87; exact rfl; exact rfl; kernel_rfl; (iterate 6 exact rfl)) | (apply AL_inZ Tryd.func88 Tryd.ntmps88; exact rfl; exact rfl; kernel_rfl; (iterate 6 exact rfl)) | (apply AL_inZ Tryd.func89 Tryd.ntmps89; exact rfl; exact rfl; kernel_rfl; (iterate 6 exact rfl)) | (apply AL_inZ Tryd.func91 Tryd.ntmps91; exact rfl; exact rfl; kernel_rfl; (iterate 6 exact rfl)) | (apply AL_inZ Tryd.func114 Tryd.ntmps114; exact rfl; exact rfl; kernel_rfl; (iterate 6 exact rfl)) | (apply AL_inZ Tryd.func112 Tryd.ntmps112; exact rfl; exact rfl; kernel_rfl; (iterate 6 exact rfl)) | (apply AL_inZ Tryd.func113 Tryd.ntmps113; exact rfl; exact rfl; kernel_rfl; (iterate 6 exact rfl)) | (apply AL_inZ Tryd.func93 Tryd.ntmps93; exact rfl; exact rfl; kernel_rfl; (iterate 6 exact rfl)) | (apply AL_inZ Tryd.func90 Tryd.ntmps90; exact rfl; exact rfl; kernel_rfl; (iterate 6 exact rfl)) | (apply AL_inZ Tryd.func56 Tryd.ntmps56; exact rfl; exact rfl; kernel_rfl; (iterate 6 exact rfl)) | (apply in_ret; (repeat (first | exact ResL.nil | (apply ResL.cons; first | exact .tmp _ _ rfl | (apply res_n ttok; (iterate 6 exact rfl)) | (apply res_1 ttok; (iterate 5 exact rfl))))); exact rfl) | refine AW_loopN 80 ?_ | refine AN_succ ?_ | (apply AL_b2sC ttok; (iterate 9 exact rfl)) | (apply AL_snil ttok; (iterate 5 exact rfl); intro b hbn; (have hbn2 := hbn (List.cons_ne_nil _ _)); subst hbn2; clear hbn) | (apply AL_slice ttok; (iterate 5 exact rfl); (first | exact .dft _ | exact .lit _ _ _ _ rfl (by decide +kernel)); (first | exact .dft _ | exact .lit _ _ _ _ rfl (by decide +kernel)); decide +kernel; decide +kernel; exact uniB_ok rfl; exact rfl) | (apply AL_appendZ ttok; (iterate 11 exact rfl); exact uniB_ok rfl; exact uniB_ok rfl; exact List.cons_ne_nil _ _; decide +kernel; decide +kernel; exact rfl; exact rfl) | (apply AL_move; exact rfl; exact rfl) | (apply AL_assign; exact rfl; exact rfl) | (apply AL_bin; (iterate 5 exact rfl)) | (apply AL_load1 ttok; (iterate 6 exact rfl)) | (apply AL_loadn ttok; (iterate 7 exact rfl)) | (apply AL_fieldAddr ttok; (iterate 7 exact rfl)) | (apply AL_nilCheck; exact rfl; exact rfl) | (apply AL_boxZ; (iterate 5 exact rfl)) | (apply AL_store ttok; (iterate 8 exact rfl)) | (apply AL_not; exact rfl; exact rfl) | (apply AL_convT ttok; (iterate 5 exact rfl)) | (apply AL_extract; (iterate 3 exact rfl)) | refine AL_nil ?_ | (apply AL_guardT; (iterate 3 exact rfl); (first | with_reducible assumption | decide +kernel)) | (apply AL_guardFt; (iterate 3 exact rfl); (first | with_reducible assumption | decide +kernel)) | (apply AL_guardFf; (iterate 3 exact rfl); (first | with_reducible assumption | decide +kernel)) | (apply AL_pickT; exact rfl; (first | with_reducible assumption | decide +kernel); exact rfl; exact rfl) | (apply AL_pickF; exact rfl; (first | with_reducible assumption | decide +kernel); exact rfl; exact rfl) | refine AW_region ?_ | refine AW_seq' ?_ | (apply AW_condA; exact rfl; (first | with_reducible assumption | decide +kernel)) | (apply AW_condB; exact rfl; (first | with_reducible assumption | decide +kernel)) | refine then_norm ?_ | refine AW_block ?_ | refine AW_ret ?_ | refine then_ret ?_ | (apply AL_len ttok; (iterate 4 exact rfl)) | (apply AL_eload1 ttok; (iterate 6 exact rfl)) | (apply AL_build ttok; (iterate 6 exact rfl)) | (apply AL_allocZ ttok; (iterate 4 exact rfl)) | (apply AL_bsZ ttok; (iterate 12 exact rfl)) | (apply AL_nilp ttok; (iterate 6 exact rfl)) | refine AW_skip ?_ | (apply AL_idx ttok; (iterate 6 exact rfl); (first | with_reducible assumption | decide +kernel | exact Int.natCast_nonneg _ | (guard_target = (0:Int) ≤ (OfNat.ofNat _ : Int); decide) | rotate_left); (first | with_reducible assumption | decide +kernel | exact rfl); (first | exact uniB_ok rfl | with_reducible assumption | decide +kernel | rotate_left)) | (apply AL_shl; exact rfl; exact rfl; (first | with_reducible assumption | decide +kernel | exact Int.natCast_nonneg _ | (exact (by decide)) | rotate_left); exact rfl))
  all_goals (apply endQ []; (repeat (first | exact ResL.nil | (apply ResL.cons; first | exact .tmp _ _ rfl | (apply res_n ttok; (iterate 6 exact rfl)) | (apply res_1 ttok; (iterate 5 exact rfl))))); (iterate 4 exact rfl))
  all_goals rfl
theorem f_name12 [Known] : AP Tryd.prog 49 [.int .i64 12] (.str [114, 101, 115, 117, 109, 101]) [] := by
  refine AP.ofA ?_
  refine AC_of Tryd.func49 rfl Tryd.ntmps49 rfl rfl ?_
  repeat' (first | (apply AL_move; exact rfl; exact rfl) | (apply AL_assign; exact rfl; exact rfl) | (apply AL_bin; (iterate 5 exact rfl)) | refine AL_nil ?_ | refine AW_region ?_ | refine AW_seq' ?_ | (apply AW_condA; exact rfl; (first | with_reducible assumption | decide +kernel)) | (apply AW_condB; exact rfl; (first | with_reducible assumption | decide +kernel)) | refine then_norm ?_ | refine AW_block ?_ | refine AW_ret ?_ | refine then_ret ?_ | refine blk_ret ?_)
  all_goals (apply endQ []; (repeat (first | exact ResL.nil | (apply ResL.cons; first | exact .tmp _ _ rfl | (apply res_n ttok; (iterate 6 exact rfl)) | (apply res_1 ttok; (iterate 5 exact rfl))))); (iterate 4 exact rfl))
  all_goals rfl
theorem f_name0 [Known] : AP Tryd.prog 49 [.int .i64 0] (.str []) [] := by
  refine AP.ofA ?_
  refine AC_of Tryd.func49 rfl Tryd.ntmps49 rfl rfl ?_
  repeat' (first | (apply AL_move; exact rfl; exact rfl) | (apply AL_assign; exact rfl; exact rfl) | (apply AL_bin; (iterate 5 exact rfl)) | refine AL_nil ?_ | refine AW_region ?_ | refine AW_seq' ?_ | (apply AW_condB; exact rfl; (first | with_reducible assumption | decide +kernel)) | refine then_norm ?_ | refine AW_block ?_ | refine AW_ret ?_ | refine AW_skip ?_)
  all_goals (apply endQ []; (repeat (first | exact ResL.nil | (apply ResL.cons; first | exact .tmp _ _ rfl | (apply res_n ttok; (iterate 6 exact rfl)) | (apply res_1 ttok; (iterate 5 exact rfl))))); (iterate 4 exact rfl))
  all_goals rfl
theorem f_same1 [Known] : AP Tryd.prog 48 [.agg rq1, .agg rq1] (.bool true) [] := by
  have h := av_rqSame ⟨5, 6, ⟨true, 7, 1, [], []⟩, eidZ, 0, 0, 0, [], 0, 0, false⟩ ⟨5, 6, ⟨true, 7, 1, [], []⟩, eidZ, 0, 0, 0, [], 0, 0, false⟩
  rw [show rqSame ⟨5, 6, ⟨true, 7, 1, [], []⟩, eidZ, 0, 0, 0, [], 0, 0, false⟩ ⟨5, 6, ⟨true, 7, 1, [], []⟩, eidZ, 0, 0, 0, [], 0, 0, false⟩ = true by decide +kernel] at h
  exact h
theorem av_aliveQ [Known] : AP Tryd.prog 45 [] (.bool true) [] := by
  have hW1 := f_w1
  have hW2 := f_w2
  have hR1 := f_rd1
  have hR2 := f_rd2
  have hN1 := f_name12
  have hN0 := f_name0
  have hS := f_same1
  replace hR1 : AP Tryd.prog _ [.sl .ext [.int .u8 5, .int .u8 6, .int .u8 7, .int .u8 105, .int .u8 112, .int .u8 110, .int .u8 58, .int .u8 55, .int .u8 46, .int .u8 49]] _ [] := hR1
  replace hR2 : AP Tryd.prog _ [.sl .ext [.int .u8 5, .int .u8 6, .int .u8 7, .int .u8 105, .int .u8 112, .int .u8 110, .int .u8 58, .int .u8 55, .int .u8 46, .int .u8 49, .int .u8 0]] _ [] := hR2
  refine AP.ofA ?_
  refine AC_of Tryd.func45 rfl Tryd.ntmps45 rfl rfl ?_
  repeat' (first | (apply AL_callT [] [] (hW1); kernel_rfl; (iterate 10 exact rfl)) | (apply AL_callPw (hW2); kernel_rfl; (iterate 4 exact rfl)) | (apply AL_callPw (hR1); kernel_rfl; (iterate 4 exact rfl)) | (apply AL_callPw (hR2); kernel_rfl; (iterate 4 exact rfl)) | (apply AL_callPw (hN1); kernel_rfl; (iterate 4 exact rfl)) | (apply AL_callPw (hN0); kernel_rfl; (iterate 4 exact rfl)) | (apply AL_callPw (hS); kernel_rfl; (iterate 4 exact rfl)) | (apply AL_b2sC ttok; (iterate 9 exact rfl)) | (apply AL_appendZ ttok; (iterate 11 exact rfl); exact uniB_ok rfl; exact uniB_ok rfl; exact List.cons_ne_nil _ _; decide +kernel; decide +kernel; exact rfl; exact rfl) | (apply AL_move; exact rfl; exact rfl) | (apply AL_assign; exact rfl; exact rfl) | (apply AL_bin; (iterate 5 exact rfl)) | (apply AL_loadn ttok; (iterate 7 exact rfl)) | (apply AL_store ttok; (iterate 8 exact rfl)) | (apply AL_extract; (iterate 3 exact rfl)) | refine AL_nil ?_ | (apply AL_guardT; (iterate 3 exact rfl); (first | with_reducible assumption | decide +kernel)) | (apply AL_pickT; exact rfl; (first | with_reducible assumption | decide +kernel); exact rfl; exact rfl) | refine AW_region ?_ | refine AW_seq' ?_ | refine then_norm ?_ | refine AW_ret ?_ | (apply AL_build ttok; (iterate 6 exact rfl)) | (apply AL_allocZ ttok; (iterate 4 exact rfl)) | (apply AL_bsZ ttok; (iterate 12 exact rfl)) | (apply AL_str; (iterate 5 exact rfl)))
  all_goals (apply endQ []; (repeat (first | exact ResL.nil | (apply ResL.cons; first | exact .tmp _ _ rfl | (apply res_n ttok; (iterate 6 exact rfl)) | (apply res_1 ttok; (iterate 5 exact rfl))))); (iterate 4 exact rfl))
  all_goals rfl
end Go.Proofs.YtnihobjehelagaaDoor
end
/- RequestOwn, plain: a part that is not a kind's. -/
section
open Go.RowKit Go.Pl Go.Av
namespace Go.Proofs.YtnihobjehelagaaDoor
set_option linter.unusedVariables false
set_option linter.unusedSimpArgs false
theorem rq_kind {x : RqV} (h : rqRight x = true) : x.kd = 1 ∨ x.kd = 2 ∨ x.kd = 3 ∨ x.kd = 4 ∨ x.kd = 5 ∨ x.kd = 6 ∨ x.kd = 7 ∨ x.kd = 8 ∨ x.kd = 9 ∨ x.kd = 10 ∨ x.kd = 11 ∨ x.kd = 12 := by
  rcases kcase x.kd with h1 | h1 | h1 | h1 | h1 | h1 | h1 | h1 | h1 | h1 | h1 | h1 | ⟨n1, n2, n3, n4, n5, n6, n7, n8, n9, n10, n11, n12⟩
  all_goals first | (simp [h1]; done) | skip
  exfalso
  unfold rqRight rqParts at h
  simp [n1, n2, n3, n4, n5, n6, n7, n8, n9, n10, n11, n12] at h
theorem rq_num {x : RqV} (h : rqRight x = true) : rqRight { x with num := 1 } = (x.kd == 5 || (x.kd == 8 || x.kd == 9)) := by
  have hk := rq_kind h
  obtain ⟨id, kd, ⟨ei, en, es, eh, ed⟩, ⟨di, dn, dq, dh, dd⟩, pol, num, tik, pay, life, tok, on⟩ := x
  dsimp only at hk
  rcases hk with rfl | rfl | rfl | rfl | rfl | rfl | rfl | rfl | rfl | rfl | rfl | rfl
  all_goals
    simp [rqRight, rqParts, rqSame, rqOwn, eqE, eidZ] at h ⊢
    try simp_all
theorem rq_tik {x : RqV} (h : rqRight x = true) : rqRight { x with tik := 1 } = (x.kd == 7) := by
  have hk := rq_kind h
  obtain ⟨id, kd, ⟨ei, en, es, eh, ed⟩, ⟨di, dn, dq, dh, dd⟩, pol, num, tik, pay, life, tok, on⟩ := x
  dsimp only at hk
  rcases hk with rfl | rfl | rfl | rfl | rfl | rfl | rfl | rfl | rfl | rfl | rfl | rfl
  all_goals
    simp [rqRight, rqParts, rqSame, rqOwn, eqE, eidZ] at h ⊢
    try simp_all
theorem rq_life {x : RqV} (h : rqRight x = true) : rqRight { x with life := 1 } = (x.kd == 4) := by
  have hk := rq_kind h
  obtain ⟨id, kd, ⟨ei, en, es, eh, ed⟩, ⟨di, dn, dq, dh, dd⟩, pol, num, tik, pay, life, tok, on⟩ := x
  dsimp only at hk
  rcases hk with rfl | rfl | rfl | rfl | rfl | rfl | rfl | rfl | rfl | rfl | rfl | rfl
  all_goals
    simp [rqRight, rqParts, rqSame, rqOwn, eqE, eidZ] at h ⊢
    try simp_all
theorem rq_tok {x : RqV} (h : rqRight x = true) : rqRight { x with tok := 1 } = (x.kd == 12) := by
  have hk := rq_kind h
  obtain ⟨id, kd, ⟨ei, en, es, eh, ed⟩, ⟨di, dn, dq, dh, dd⟩, pol, num, tik, pay, life, tok, on⟩ := x
  dsimp only at hk
  rcases hk with rfl | rfl | rfl | rfl | rfl | rfl | rfl | rfl | rfl | rfl | rfl | rfl
  all_goals
    simp [rqRight, rqParts, rqSame, rqOwn, eqE, eidZ] at h ⊢
    try simp_all
theorem rq_pol {x : RqV} (h : rqRight x = true) : rqRight { x with pol := 1 } = (x.kd == 1 || x.kd == 3) := by
  have hk := rq_kind h
  obtain ⟨id, kd, ⟨ei, en, es, eh, ed⟩, ⟨di, dn, dq, dh, dd⟩, pol, num, tik, pay, life, tok, on⟩ := x
  dsimp only at hk
  rcases hk with rfl | rfl | rfl | rfl | rfl | rfl | rfl | rfl | rfl | rfl | rfl | rfl
  all_goals
    simp [rqRight, rqParts, rqSame, rqOwn, eqE, eidZ] at h ⊢
    try simp_all
end Go.Proofs.YtnihobjehelagaaDoor
end
/- RequestOwn: the law's walk. -/
section
open Go.RowKit Go.Pl Go.Av
namespace Go.Proofs.YtnihobjehelagaaDoor
set_option linter.unusedVariables false
set_option linter.unusedSimpArgs false
set_option maxHeartbeats 4000000
theorem ro_al [Known] (x : RqV) (h : rqGreat x = true ∨ rqGreat x = false ∧ rqRight x = false) : AP Tryd.prog 13 [.agg (rqC x)] (.bool true) [] := by
  have hA := av_aliveQ
  have hG := av_rqGreat x
  have hR := av_rqRight x
  rcases h with h | ⟨h, h2⟩
  · rw [h] at hG
    refine AP.ofA ?_
    refine AC_of Tryd.func13 rfl Tryd.ntmps13 rfl rfl ?_
    repeat' (first | (apply AL_callPw (hG); kernel_rfl; (iterate 4 exact rfl)) | (apply AL_callPw (hA); kernel_rfl; (iterate 4 exact rfl)) | (apply AL_move; exact rfl; exact rfl) | (apply AL_assign; exact rfl; exact rfl) | (apply AL_loadn ttok; (iterate 7 exact rfl)) | (apply AL_boxZ; (iterate 5 exact rfl)) | refine AL_nil ?_ | (apply AL_guardFf; (iterate 3 exact rfl); (first | with_reducible assumption | decide +kernel)) | (apply AL_pickT; exact rfl; (first | with_reducible assumption | decide +kernel); exact rfl; exact rfl) | refine AW_region ?_ | refine AW_seq' ?_ | (apply AW_condA; exact rfl; (first | with_reducible assumption | decide +kernel)) | refine then_norm ?_ | refine AW_ret ?_ | refine then_ret ?_)
    all_goals (apply endQ []; (repeat (first | exact ResL.nil | (apply ResL.cons; first | exact .tmp _ _ rfl | (apply res_n ttok; (iterate 6 exact rfl)) | (apply res_1 ttok; (iterate 5 exact rfl))))); (iterate 4 exact rfl))
    all_goals rfl
  · rw [h] at hG
    rw [h2] at hR
    refine AP.ofA ?_
    refine AC_of Tryd.func13 rfl Tryd.ntmps13 rfl rfl ?_
    repeat' (first | (apply AL_callPw (hG); kernel_rfl; (iterate 4 exact rfl)) | (apply AL_callPw (hR); kernel_rfl; (iterate 4 exact rfl)) | (apply AL_callPw (hA); kernel_rfl; (iterate 4 exact rfl)) | (apply AL_move; exact rfl; exact rfl) | (apply AL_assign; exact rfl; exact rfl) | (apply AL_loadn ttok; (iterate 7 exact rfl)) | (apply AL_boxZ; (iterate 5 exact rfl)) | (apply AL_not; exact rfl; exact rfl) | refine AL_nil ?_ | (apply AL_guardT; (iterate 3 exact rfl); (first | with_reducible assumption | decide +kernel)) | (apply AL_pickF; exact rfl; (first | with_reducible assumption | decide +kernel); exact rfl; exact rfl) | refine AW_region ?_ | refine AW_seq' ?_ | (apply AW_condA; exact rfl; (first | with_reducible assumption | decide +kernel)) | refine then_norm ?_ | refine AW_ret ?_ | refine then_ret ?_)
    all_goals (apply endQ []; (repeat (first | exact ResL.nil | (apply ResL.cons; first | exact .tmp _ _ rfl | (apply res_n ttok; (iterate 6 exact rfl)) | (apply res_1 ttok; (iterate 5 exact rfl))))); (iterate 4 exact rfl))
    all_goals rfl
theorem av_requestOwn [Known] (x : RqV) : AP Tryd.prog 13 [.agg (rqC x)] (.bool true) [] := by
  cases hg : rqGreat x with
  | true => exact ro_al x (.inl hg)
  | false =>
    cases hr : rqRight x with
    | false => exact ro_al x (.inr ⟨hg, hr⟩)
    | true =>
      have hA := av_aliveQ
      have hG := av_rqGreat x
      have hR := av_rqRight x
      have h1 := av_rqRight { x with num := 1 }
      have h2 := av_rqRight { x with tik := 1 }
      have h3 := av_rqRight { x with life := 1 }
      have h4 := av_rqRight { x with tok := 1 }
      have h5 := av_rqRight { x with pol := 1 }
      rw [hg] at hG
      rw [hr] at hR
      rw [rq_num hr] at h1
      rw [rq_tik hr] at h2
      rw [rq_life hr] at h3
      rw [rq_tok hr] at h4
      rw [rq_pol hr] at h5
      have hk := rq_kind hr
      clear hg hr
      obtain ⟨id, kd, ⟨ei, en, es, eh, ed⟩, ⟨di, dn, dq, dh, dd⟩, pol, num, tik, pay, life, tok, on⟩ := x
      dsimp only at hk
      rcases hk with rfl | rfl | rfl | rfl | rfl | rfl | rfl | rfl | rfl | rfl | rfl | rfl
      · exact ro_1 id ei en es eh ed di dn dq dh dd pol num tik pay life tok on hA hG hR h1 h2 h3 h4 h5
      · exact ro_2 id ei en es eh ed di dn dq dh dd pol num tik pay life tok on hA hG hR h1 h2 h3 h4 h5
      · exact ro_3 id ei en es eh ed di dn dq dh dd pol num tik pay life tok on hA hG hR h1 h2 h3 h4 h5
      · exact ro_4 id ei en es eh ed di dn dq dh dd pol num tik pay life tok on hA hG hR h1 h2 h3 h4 h5
      · exact ro_5 id ei en es eh ed di dn dq dh dd pol num tik pay life tok on hA hG hR h1 h2 h3 h4 h5
      · exact ro_6 id ei en es eh ed di dn dq dh dd pol num tik pay life tok on hA hG hR h1 h2 h3 h4 h5
      · exact ro_7 id ei en es eh ed di dn dq dh dd pol num tik pay life tok on hA hG hR h1 h2 h3 h4 h5
      · exact ro_8 id ei en es eh ed di dn dq dh dd pol num tik pay life tok on hA hG hR h1 h2 h3 h4 h5
      · exact ro_9 id ei en es eh ed di dn dq dh dd pol num tik pay life tok on hA hG hR h1 h2 h3 h4 h5
      · exact ro_10 id ei en es eh ed di dn dq dh dd pol num tik pay life tok on hA hG hR h1 h2 h3 h4 h5
      · exact ro_11 id ei en es eh ed di dn dq dh dd pol num tik pay life tok on hA hG hR h1 h2 h3 h4 h5
      · exact ro_12 id ei en es eh ed di dn dq dh dd pol num tik pay life tok on hA hG hR h1 h2 h3 h4 h5
end Go.Proofs.YtnihobjehelagaaDoor
end
/- Arguments: structs of any number of fields. -/
section
open Go.RowKit Go.Pl
namespace Go.Pl
set_option linter.unusedSimpArgs false
set_option linter.unusedVariables false
/-- the cells from a field on read as R -/
def OpensF {α : Type} (P : Program) (fs : Array Field) (i o : Nat) (R : Rep α) : Prop :=
  ∀ (H : Type) (enc : TypeId × Value → H) (W : World) (spare : Nat → Bool) (held : Bool) (n : Nat) (cs : List Value) (xs : List (DataW H × List MemPlace)), cs.length = o + R.n → xs.length = fs.size →
    (∀ (j : Nat) (f : Field), fs[j]? = some f → DataW.trod enc P W 0 spare held n f.type ((cs.drop f.offset).take (P.cellsOf f.type)) = xs[j]?) → ∃ x, R.ok W (· < W.heap.size) (cs.drop o) x
variable {P : Program} {t : TypeId} {fs : Array Field}
theorem opensF_at {α : Type} {R : Rep α} {i o : Nat} {f : Field} (hf : fs[i]? = some f) (ho : f.offset = o) (hc : P.cellsOf f.type = R.n) (h : Opens P f.type R) {H : Type} {enc : TypeId × Value → H} {W : World} {spare : Nat → Bool} {held : Bool} {n : Nat} {cs : List Value} {xs : List (DataW H × List MemPlace)} (hl : xs.length = fs.size)
    (hg : ∀ (j : Nat) (f : Field), fs[j]? = some f → DataW.trod enc P W 0 spare held n f.type ((cs.drop f.offset).take (P.cellsOf f.type)) = xs[j]?) : ∃ x, R.ok W (· < W.heap.size) ((cs.drop o).take R.n) x := by
  have e := hg i f hf
  rw [ho, hc] at e
  have hi : i < xs.length := by
    rw [hl]
    exact (Array.getElem?_eq_some_iff.1 hf).1
  exact h H enc W spare held n _ _ (e.trans (List.getElem?_eq_getElem hi))
theorem opensF_one {α : Type} {R : Rep α} {i o : Nat} {f : Field} (hf : fs[i]? = some f) (ho : f.offset = o) (hc : P.cellsOf f.type = R.n) (h : Opens P f.type R) : OpensF P fs i o R := by
  intro H enc W spare held n cs xs hcl hl hg
  obtain ⟨x, hx⟩ := opensF_at hf ho hc h hl hg
  rw [List.take_of_length_le (by rw [List.length_drop]; omega)] at hx
  exact ⟨x, hx⟩
theorem opensF_cons {α β : Type} {R : Rep α} {R' : Rep β} {i o : Nat} {f : Field} (hf : fs[i]? = some f) (ho : f.offset = o) (hc : P.cellsOf f.type = R.n) (h : Opens P f.type R) (h' : OpensF P fs (i + 1) (o + R.n) R') : OpensF P fs i o (R.prod R') := by
  intro H enc W spare held n cs xs hcl hl hg
  obtain ⟨x, hx⟩ := opensF_at hf ho hc h hl hg
  have hn : (R.prod R').n = R.n + R'.n := rfl
  obtain ⟨x', hx'⟩ := h' H enc W spare held n cs xs (by rw [hn] at hcl; omega) hl hg
  refine ⟨(x, x'), (cs.drop o).take R.n, (cs.drop o).drop R.n, (List.take_append_drop _ _).symm, hx, ?_⟩
  rw [List.drop_drop]
  exact hx'
theorem opens_struct {α : Type} {R : Rep α} (hs : P.underlying t = some (.struct fs)) (hc : P.cellsOf t = R.n) (h : OpensF P fs 0 0 R) : Opens P t R := by
  intro H enc W spare held fuel cs y hy
  obtain ⟨xs, n, _, _, hl, hxl, hg⟩ := DataW.trod_struct hs hy
  exact h H enc W spare held n cs xs (by omega) hxl hg
end Go.Pl
end
/- EidOrder: the walk, from the row's arguments. -/
section
open Go.RowKit Go.Pl Go.Av
namespace Go.Proofs.YtnihobjehelagaaDoor
set_option linter.unusedVariables false
/-- no package-level variable is known -/
abbrev known0 : Known := ⟨[]⟩
theorem gls0 (W : World) : @Gls known0 (g0 W).C W := ⟨fun k cs h => absurd h.1 (by intro hk; cases hk), fun k t h => absurd h.1 (by intro hk; cases hk)⟩
theorem eidOrder_walk (c0 c1 c2 : List Value) (x0 x1 x2 : XE) (W : World) (h0 : RE.ok W (· < W.heap.size) c0 x0) (h1 : RE.ok W (· < W.heap.size) c1 x1) (h2 : RE.ok W (· < W.heap.size) c2 x2) :
    Calls Tryd.prog 8 #[.agg c0.toArray, .agg c1.toArray, .agg c2.toArray] W fun e w' => e = .returned (.bool true) ∧ Below W.heap.size W w' := by
  have h := @av_eidOrder known0 x0.v x1.v x2.v
  refine @topG known0 Tryd.prog 8 _ (@AC.mono known0 _ _ _ _ _ _ _ h fun r b t h => h.1) W [.agg c0.toArray, .agg c1.toArray, .agg c2.toArray] (gls0 W) rfl ?_
  intro j d v hd hv
  match j, hd, hv with
  | 0, hd, hv => cases hd; cases hv; exact @eid_V known0 _ _ _ h0
  | 1, hd, hv => cases hd; cases hv; exact @eid_V known0 _ _ _ h1
  | 2, hd, hv => cases hd; cases hv; exact @eid_V known0 _ _ _ h2
  | j + 3, hd, hv => cases hd
end Go.Proofs.YtnihobjehelagaaDoor
end
