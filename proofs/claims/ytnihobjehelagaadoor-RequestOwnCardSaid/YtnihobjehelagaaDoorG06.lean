/- Fixed calls of package eid: names parsed and written. -/
import Derived.Test.YtnihobjehelagaaDoorG04
import Derived.Lib.Strings
import Derived.Lib.Slices
import Derived.Lib.Walk
import Derived.Lib.Bytealg
import Derived.LaidEql
import Derived.Test.YtnihobjehelagaaDoorG05
import Derived.Sort.Walk0
import Derived.Test.YtnihobjehelagaaDoorG01
import Derived.Test.YtnihobjehelagaaDoorG03
import Derived.Test.YtnihobjehelagaaDoorProg
section
open Go.RowKit Go.Pl Go.Av
namespace Go.Proofs.YtnihobjehelagaaDoor
set_option linter.unusedVariables false
set_option linter.unusedSimpArgs false
set_option maxHeartbeats 4000000
set_option maxRecDepth 100000 in
theorem ixb_walk (s : ByteArray) (c : Int) (w : World) : Calls Tryd.prog 149 #[.string s, .int .u8 c] w fun e w' => e = .returned (.int .i64 (Lib.indexByte s.data.toList c.toNat.toUInt8)) ∧ w' = w := by
  go_enter Tryd.func149, Tryd.ntmps149
  go_wp2
  rw [run_callFunc_extern Tryd.func156 (by kernel_rfl) (by kernel_rfl) (by kernel_rfl) (e := Extern.BytealgIndexByte.indexByte) (by kernel_rfl), Lib.run_indexByteString]
  simp only [Result.andThen]
  rw [Oper.upon_value]
  go_wp2
  go_ret
  exact ⟨rfl, rfl⟩
theorem av_ixb [Known] (s : List UInt8) (c : Int) : AP Tryd.prog 149 [.str s, .int .u8 c] (.int .i64 (Lib.indexByte s c.toNat.toUInt8)) [] := by
  refine ⟨fun g w vs hmem hl hv => ?_⟩
  obtain ⟨v0, v1, rfl⟩ : ∃ v0 v1, vs = [v0, v1] := by
    match vs, hl with
    | [v0, v1], _ => exact ⟨v0, v1, rfl⟩
  have h0 := (hv 0 _ _ rfl rfl).str_inv.1
  have h1 := (hv 1 _ _ rfl rfl).int_inv
  subst h0 h1
  exact (ixb_walk ⟨s.toArray⟩ c w).mono fun e w' ⟨he, hb⟩ => endBelow hmem (hb ▸ Below.refl _ _) he (.int _ _)
def e71 : EidV := ⟨true, 7, 1, [], []⟩
theorem cl_pu7 [Known] : AP Tryd.prog 108 [.str [55], .int .i64 10, .int .i64 32] (.tup [.int .u64 7, .nili]) [] := by
  refine AP.ofA ?_
  refine AC_of Tryd.func108 rfl Tryd.ntmps108 rfl rfl ?_
  repeat' (first | (apply AL_inZ Tryd.func130 Tryd.ntmps130; exact rfl; exact rfl; kernel_rfl; (iterate 6 exact rfl)) | (apply in_ret; (repeat (first | exact ResL.nil | (apply ResL.cons; first | exact .tmp _ _ rfl | (apply res_n ttok; (iterate 6 exact rfl)) | (apply res_1 ttok; (iterate 5 exact rfl))))); exact rfl) | refine AW_loopN 80 ?_ | refine AN_succ ?_ | (apply AL_s2b ttok; (iterate 8 exact rfl)) | (apply AL_ifnil; exact rfl; kernel_rfl; exact rfl; exact rfl) | (apply AL_move; exact rfl; exact rfl) | (apply AL_assign; exact rfl; exact rfl) | (apply AL_bin; (iterate 5 exact rfl)) | (apply AL_convT ttok; (iterate 5 exact rfl)) | (apply AL_extract; (iterate 3 exact rfl)) | refine AL_nil ?_ | (apply AL_guardT; (iterate 3 exact rfl); (first | with_reducible assumption | decide +kernel)) | (apply AL_guardFt; (iterate 3 exact rfl); (first | with_reducible assumption | decide +kernel)) | (apply AL_pickT; exact rfl; (first | with_reducible assumption | decide +kernel); exact rfl; exact rfl) | (apply AL_pickF; exact rfl; (first | with_reducible assumption | decide +kernel); exact rfl; exact rfl) | refine AW_region ?_ | refine AW_seq' ?_ | (apply AW_condA; exact rfl; (first | with_reducible assumption | decide +kernel)) | (apply AW_condB; exact rfl; (first | with_reducible assumption | decide +kernel)) | refine then_norm ?_ | refine AW_block ?_ | refine AW_exit ?_ | refine AW_ret ?_ | (apply AL_len ttok; (iterate 4 exact rfl)) | (apply AL_eload1 ttok; (iterate 6 exact rfl)) | (apply AL_str; (iterate 5 exact rfl)) | refine AW_skip ?_ | (apply AL_idx ttok; (iterate 6 exact rfl); (first | with_reducible assumption | decide +kernel | exact Int.natCast_nonneg _ | (guard_target = (0:Int) ≤ (OfNat.ofNat _ : Int); decide) | rotate_left); (first | with_reducible assumption | decide +kernel | exact rfl); (first | exact uniB_ok rfl | with_reducible assumption | decide +kernel | rotate_left)) | (apply AL_shl; exact rfl; exact rfl; (first | with_reducible assumption | decide +kernel | exact Int.natCast_nonneg _ | (exact (by decide)) | rotate_left); exact rfl))
  all_goals (apply endQ []; (repeat (first | exact ResL.nil | (apply ResL.cons; first | exact .tmp _ _ rfl | (apply res_n ttok; (iterate 6 exact rfl)) | (apply res_1 ttok; (iterate 5 exact rfl))))); (iterate 4 exact rfl))
  all_goals rfl
theorem cl_pu1 [Known] : AP Tryd.prog 108 [.str [49], .int .i64 10, .int .i64 32] (.tup [.int .u64 1, .nili]) [] := by
  refine AP.ofA ?_
  refine AC_of Tryd.func108 rfl Tryd.ntmps108 rfl rfl ?_
  repeat' (first | (apply AL_inZ Tryd.func130 Tryd.ntmps130; exact rfl; exact rfl; kernel_rfl; (iterate 6 exact rfl)) | (apply in_ret; (repeat (first | exact ResL.nil | (apply ResL.cons; first | exact .tmp _ _ rfl | (apply res_n ttok; (iterate 6 exact rfl)) | (apply res_1 ttok; (iterate 5 exact rfl))))); exact rfl) | refine AW_loopN 80 ?_ | refine AN_succ ?_ | (apply AL_s2b ttok; (iterate 8 exact rfl)) | (apply AL_ifnil; exact rfl; kernel_rfl; exact rfl; exact rfl) | (apply AL_move; exact rfl; exact rfl) | (apply AL_assign; exact rfl; exact rfl) | (apply AL_bin; (iterate 5 exact rfl)) | (apply AL_convT ttok; (iterate 5 exact rfl)) | (apply AL_extract; (iterate 3 exact rfl)) | refine AL_nil ?_ | (apply AL_guardT; (iterate 3 exact rfl); (first | with_reducible assumption | decide +kernel)) | (apply AL_guardFt; (iterate 3 exact rfl); (first | with_reducible assumption | decide +kernel)) | (apply AL_pickT; exact rfl; (first | with_reducible assumption | decide +kernel); exact rfl; exact rfl) | (apply AL_pickF; exact rfl; (first | with_reducible assumption | decide +kernel); exact rfl; exact rfl) | refine AW_region ?_ | refine AW_seq' ?_ | (apply AW_condA; exact rfl; (first | with_reducible assumption | decide +kernel)) | (apply AW_condB; exact rfl; (first | with_reducible assumption | decide +kernel)) | refine then_norm ?_ | refine AW_block ?_ | refine AW_exit ?_ | refine AW_ret ?_ | (apply AL_len ttok; (iterate 4 exact rfl)) | (apply AL_eload1 ttok; (iterate 6 exact rfl)) | (apply AL_str; (iterate 5 exact rfl)) | refine AW_skip ?_ | (apply AL_idx ttok; (iterate 6 exact rfl); (first | with_reducible assumption | decide +kernel | exact Int.natCast_nonneg _ | (guard_target = (0:Int) ≤ (OfNat.ofNat _ : Int); decide) | rotate_left); (first | with_reducible assumption | decide +kernel | exact rfl); (first | exact uniB_ok rfl | with_reducible assumption | decide +kernel | rotate_left)) | (apply AL_shl; exact rfl; exact rfl; (first | with_reducible assumption | decide +kernel | exact Int.natCast_nonneg _ | (exact (by decide)) | rotate_left); exact rfl))
  all_goals (apply endQ []; (repeat (first | exact ResL.nil | (apply ResL.cons; first | exact .tmp _ _ rfl | (apply res_n ttok; (iterate 6 exact rfl)) | (apply res_1 ttok; (iterate 5 exact rfl))))); (iterate 4 exact rfl))
  all_goals rfl
theorem cl_pn71 [Known] : AP Tryd.prog 73 [.str [55, 46, 49]] (.tup [.agg (eC e71), .bool true]) [] := by
  refine AP.ofA ?_
  refine AC_of Tryd.func73 rfl Tryd.ntmps73 rfl rfl ?_
  repeat' (first | (apply AL_callPw (cl_pu7); kernel_rfl; (iterate 4 exact rfl)) | (apply AL_callPw (cl_pu1); kernel_rfl; (iterate 4 exact rfl)) | (apply AL_callPw (av_ixb _ _); kernel_rfl; (iterate 4 exact rfl)) | (apply AL_callPw (av_eRight e71); kernel_rfl; (iterate 4 exact rfl)) | (apply AL_inZ Tryd.func107 Tryd.ntmps107; exact rfl; exact rfl; kernel_rfl; (iterate 6 exact rfl)) | (apply AL_inZ Tryd.func129 Tryd.ntmps129; exact rfl; exact rfl; kernel_rfl; (iterate 6 exact rfl)) | (apply AL_inZ Tryd.func140 Tryd.ntmps140; exact rfl; exact rfl; kernel_rfl; (iterate 6 exact rfl)) | (apply AL_inZ Tryd.func70 Tryd.ntmps70; exact rfl; exact rfl; kernel_rfl; (iterate 6 exact rfl)) | (apply AL_inZ Tryd.func105 Tryd.ntmps105; exact rfl; exact rfl; kernel_rfl; (iterate 6 exact rfl)) | (apply AL_inZ Tryd.func124 Tryd.ntmps124; exact rfl; exact rfl; kernel_rfl; (iterate 6 exact rfl)) | (apply in_ret; (repeat (first | exact ResL.nil | (apply ResL.cons; first | exact .tmp _ _ rfl | (apply res_n ttok; (iterate 6 exact rfl)) | (apply res_1 ttok; (iterate 5 exact rfl))))); exact rfl) | (apply AL_ifnil; exact rfl; kernel_rfl; exact rfl; exact rfl) | (apply AL_idxs ttok; (iterate 5 exact rfl); (first | exact Int.natCast_nonneg _ | decide +kernel); exact rfl) | (apply AL_sliceS ttok; (iterate 4 exact rfl); (first | exact .dft _ | exact .lit _ _ _ _ rfl (by decide +kernel)); (first | exact .dft _ | exact .lit _ _ _ _ rfl (by decide +kernel)); decide +kernel; decide +kernel; exact rfl) | (apply AL_move; exact rfl; exact rfl) | (apply AL_assign; exact rfl; exact rfl) | (apply AL_bin; (iterate 5 exact rfl)) | (apply AL_loadn ttok; (iterate 7 exact rfl)) | (apply AL_store ttok; (iterate 8 exact rfl)) | (apply AL_convT ttok; (iterate 5 exact rfl)) | (apply AL_extract; (iterate 3 exact rfl)) | refine AL_nil ?_ | (apply AL_guardT; (iterate 3 exact rfl); (first | with_reducible assumption | decide +kernel)) | (apply AL_pickT; exact rfl; (first | with_reducible assumption | decide +kernel); exact rfl; exact rfl) | (apply AL_pickF; exact rfl; (first | with_reducible assumption | decide +kernel); exact rfl; exact rfl) | refine AW_region ?_ | refine AW_seq' ?_ | (apply AW_condA; exact rfl; (first | with_reducible assumption | decide +kernel)) | (apply AW_condB; exact rfl; (first | with_reducible assumption | decide +kernel)) | refine then_norm ?_ | refine AW_block ?_ | refine AW_ret ?_ | (apply AL_lens ttok; (iterate 4 exact rfl)) | (apply AL_build ttok; (iterate 6 exact rfl)) | (apply AL_allocZ ttok; (iterate 4 exact rfl)) | (apply AL_str; (iterate 5 exact rfl)) | (apply AW_drawE 10 hmix; (decide +kernel); (kernel_rfl); (kernel_rfl); (kernel_rfl); exact rfl; exact rfl) | (apply AW_drawE 27 hmix; (decide +kernel); (kernel_rfl); (kernel_rfl); (kernel_rfl); exact rfl; exact rfl) | (apply AE_consZ; (iterate 4 exact rfl)) | exact AE.nil _ _ _ _ | (apply AEk_puT; exact rfl) | (apply AEk_ef; exact rfl) | (apply AOt_mk; exact rfl; exact rfl; (decide +kernel); exact rfl) | (apply AO_puT; exact rfl) | (apply AO_ef; exact rfl) | exact AO.nil _ _ _ | (apply AOs_skip; (decide +kernel)) | (apply AOs_goZ; (iterate 3 exact rfl)) | exact AOs.nil | exact qY_ok rfl rfl | exact qY_efn rfl)
  all_goals (apply endQ []; (repeat (first | exact ResL.nil | (apply ResL.cons; first | exact .tmp _ _ rfl | (apply res_n ttok; (iterate 6 exact rfl)) | (apply res_1 ttok; (iterate 5 exact rfl))))); (iterate 4 exact rfl))
  all_goals rfl
theorem cl_parse71 [Known] : AP Tryd.prog 37 [.str [105, 112, 110, 58, 55, 46, 49]] (.tup [.agg (eC e71), .int .i64 0]) [] := by
  refine AP.ofA ?_
  refine AC_of Tryd.func37 rfl Tryd.ntmps37 rfl rfl ?_
  repeat' (first | (apply AL_callPw (cl_pn71); kernel_rfl; (iterate 4 exact rfl)) | (apply AL_inZ Tryd.func72 Tryd.ntmps72; exact rfl; exact rfl; kernel_rfl; (iterate 6 exact rfl)) | (apply AL_inZ Tryd.func106 Tryd.ntmps106; exact rfl; exact rfl; kernel_rfl; (iterate 6 exact rfl)) | (apply AL_inZ Tryd.func128 Tryd.ntmps128; exact rfl; exact rfl; kernel_rfl; (iterate 6 exact rfl)) | (apply in_ret; (repeat (first | exact ResL.nil | (apply ResL.cons; first | exact .tmp _ _ rfl | (apply res_n ttok; (iterate 6 exact rfl)) | (apply res_1 ttok; (iterate 5 exact rfl))))); exact rfl) | (apply AL_sliceS ttok; (iterate 4 exact rfl); (first | exact .dft _ | exact .lit _ _ _ _ rfl (by decide +kernel)); (first | exact .dft _ | exact .lit _ _ _ _ rfl (by decide +kernel)); decide +kernel; decide +kernel; exact rfl) | (apply AL_move; exact rfl; exact rfl) | (apply AL_assign; exact rfl; exact rfl) | (apply AL_bin; (iterate 5 exact rfl)) | (apply AL_loadn ttok; (iterate 7 exact rfl)) | (apply AL_store ttok; (iterate 8 exact rfl)) | (apply AL_not; exact rfl; exact rfl) | (apply AL_extract; (iterate 3 exact rfl)) | refine AL_nil ?_ | (apply AL_guardT; (iterate 3 exact rfl); (first | with_reducible assumption | decide +kernel)) | (apply AL_pickT; exact rfl; (first | with_reducible assumption | decide +kernel); exact rfl; exact rfl) | refine AW_region ?_ | refine AW_seq' ?_ | (apply AW_condA; exact rfl; (first | with_reducible assumption | decide +kernel)) | (apply AW_condB; exact rfl; (first | with_reducible assumption | decide +kernel)) | refine then_norm ?_ | refine AW_ret ?_ | (apply AL_lens ttok; (iterate 4 exact rfl)) | (apply AL_allocZ ttok; (iterate 4 exact rfl)) | (apply AL_str; (iterate 5 exact rfl)) | refine AW_skip ?_)
  all_goals (apply endQ []; (repeat (first | exact ResL.nil | (apply ResL.cons; first | exact .tmp _ _ rfl | (apply res_n ttok; (iterate 6 exact rfl)) | (apply res_1 ttok; (iterate 5 exact rfl))))); (iterate 4 exact rfl))
  all_goals rfl
theorem cl_text71 [Known] : AP Tryd.prog 36 [.agg (eC e71)] (.tup [.str [105, 112, 110, 58, 55, 46, 49], .int .i64 0]) [] := by
  refine AP.ofA ?_
  refine AC_of Tryd.func36 rfl Tryd.ntmps36 rfl rfl ?_
  repeat' (first | (apply AL_callPw (av_eRight e71); kernel_rfl; (iterate 4 exact rfl)) | (apply AL_cat; exact rfl; exact rfl; decide; exact rfl) | (apply AL_inZ Tryd.func70 Tryd.ntmps70; exact rfl; exact rfl; kernel_rfl; (iterate 6 exact rfl)) | (apply AL_inZ Tryd.func105 Tryd.ntmps105; exact rfl; exact rfl; kernel_rfl; (iterate 6 exact rfl)) | (apply AL_inZ Tryd.func124 Tryd.ntmps124; exact rfl; exact rfl; kernel_rfl; (iterate 6 exact rfl)) | (apply in_ret; (repeat (first | exact ResL.nil | (apply ResL.cons; first | exact .tmp _ _ rfl | (apply res_n ttok; (iterate 6 exact rfl)) | (apply res_1 ttok; (iterate 5 exact rfl))))); exact rfl) | (apply AL_sliceS ttok; (iterate 4 exact rfl); (first | exact .dft _ | exact .lit _ _ _ _ rfl (by decide +kernel)); (first | exact .dft _ | exact .lit _ _ _ _ rfl (by decide +kernel)); decide +kernel; decide +kernel; exact rfl) | (apply AL_move; exact rfl; exact rfl) | (apply AL_assign; exact rfl; exact rfl) | (apply AL_bin; (iterate 5 exact rfl)) | (apply AL_load1 ttok; (iterate 6 exact rfl)) | (apply AL_loadn ttok; (iterate 7 exact rfl)) | (apply AL_fieldAddr ttok; (iterate 7 exact rfl)) | (apply AL_boxZ; (iterate 5 exact rfl)) | (apply AL_not; exact rfl; exact rfl) | (apply AL_convT ttok; (iterate 5 exact rfl)) | refine AL_nil ?_ | refine AW_region ?_ | refine AW_seq' ?_ | (apply AW_condA; exact rfl; (first | with_reducible assumption | decide +kernel)) | (apply AW_condB; exact rfl; (first | with_reducible assumption | decide +kernel)) | refine then_norm ?_ | refine AW_block ?_ | refine AW_ret ?_ | refine then_ret ?_ | refine blk_ret ?_ | (apply AL_build ttok; (iterate 6 exact rfl)) | (apply AL_eqS ttok; (iterate 4 exact rfl); (kernel_rfl); (kernel_rfl); (iterate 3 exact rfl)) | (apply AW_drawE 8 hmix; (decide +kernel); (kernel_rfl); (kernel_rfl); (kernel_rfl); exact rfl; exact rfl) | (apply AE_consZ; (iterate 4 exact rfl)) | exact AE.nil _ _ _ _ | (apply AEk_puT; exact rfl) | (apply AOt_mk; exact rfl; exact rfl; (decide +kernel); exact rfl) | (apply AO_puT; exact rfl) | exact AO.nil _ _ _ | (apply AOs_skip; (decide +kernel)) | exact AOs.nil | exact qY_ok rfl rfl)
  all_goals (apply endQ []; (repeat (first | exact ResL.nil | (apply ResL.cons; first | exact .tmp _ _ rfl | (apply res_n ttok; (iterate 6 exact rfl)) | (apply res_1 ttok; (iterate 5 exact rfl))))); (iterate 4 exact rfl))
  all_goals rfl
end Go.Proofs.YtnihobjehelagaaDoor
end
/- Package strings: a prefix cut off; a text cut at a byte. -/
section
open Go.RowKit Go.Pl Go.Av
namespace Go.Proofs.YtnihobjehelagaaDoor
set_option linter.unusedVariables false
set_option linter.unusedSimpArgs false
set_option maxHeartbeats 4000000
theorem av_hasPre [Known] (s p : List UInt8) (hs : s.length ≤ 4611686018427387904) (hp : p.length ≤ 4611686018427387904) : AP Tryd.prog 128 [.str s, .str p] (.bool (s.take p.length == p)) [] := by
  by_cases h : p.length ≤ s.length
  · have t1 : decide ((s.length : Int) ≥ (p.length : Int)) = true := decide_eq_true (by omega)
    have hq : ((p.length : Nat) : Int).toNat ≤ s.length := by rw [Int.toNat_natCast]; exact h
    have hs2 : (s.take ((p.length : Nat) : Int).toNat).drop 0 = s.take p.length := by rw [Int.toNat_natCast, List.drop_zero]
    generalize s.take p.length = s2 at *
    refine AP.ofA ?_
    refine AC_of Tryd.func128 rfl Tryd.ntmps128 rfl rfl ?_
    repeat' (first | (apply AL_sliceS ttok; (iterate 4 exact rfl); exact .dft _; exact .lit _ _ _ _ rfl (Int.natCast_nonneg _); exact Nat.zero_le _; exact hq; exact hs2) | (apply AL_move; exact rfl; exact rfl) | (apply AL_assign; exact rfl; exact rfl) | (apply AL_bin; (iterate 5 exact rfl)) | refine AL_nil ?_ | (apply AL_guardT; (iterate 3 exact rfl); (first | with_reducible assumption | decide +kernel)) | (apply AL_pickT; exact rfl; (first | with_reducible assumption | decide +kernel); exact rfl; exact rfl) | refine AW_region ?_ | refine AW_seq' ?_ | refine then_norm ?_ | refine AW_ret ?_ | (apply AL_lens ttok; (iterate 4 exact rfl)) | (apply AL_str; (iterate 5 exact rfl)))
    all_goals (apply endQ []; (repeat (first | exact ResL.nil | (apply ResL.cons; first | exact .tmp _ _ rfl | (apply res_n ttok; (iterate 6 exact rfl)) | (apply res_1 ttok; (iterate 5 exact rfl))))); (iterate 4 exact rfl))
    all_goals rfl
  · have t1 : decide ((s.length : Int) ≥ (p.length : Int)) = false := decide_eq_false (by omega)
    have e : (s.take p.length == p) = false := by
      rw [beq_eq_false_iff_ne]
      intro e
      have := congrArg List.length e
      rw [List.length_take] at this
      omega
    rw [e]
    refine AP.ofA ?_
    refine AC_of Tryd.func128 rfl Tryd.ntmps128 rfl rfl ?_
    repeat' (first | (apply AL_move; exact rfl; exact rfl) | (apply AL_assign; exact rfl; exact rfl) | (apply AL_bin; (iterate 5 exact rfl)) | refine AL_nil ?_ | (apply AL_guardFt; (iterate 3 exact rfl); (first | with_reducible assumption | decide +kernel)) | (apply AL_pickF; exact rfl; (first | with_reducible assumption | decide +kernel); exact rfl; exact rfl) | refine AW_region ?_ | refine AW_seq' ?_ | refine then_norm ?_ | refine AW_ret ?_ | (apply AL_lens ttok; (iterate 4 exact rfl)))
    all_goals (apply endQ []; (repeat (first | exact ResL.nil | (apply ResL.cons; first | exact .tmp _ _ rfl | (apply res_n ttok; (iterate 6 exact rfl)) | (apply res_1 ttok; (iterate 5 exact rfl))))); (iterate 4 exact rfl))
    all_goals rfl
theorem av_cutPreY [Known] (p r : List UInt8) (hs : (p ++ r).length ≤ 4611686018427387904) : AP Tryd.prog 72 [.str (p ++ r), .str p] (.tup [.str r, .bool true]) [] := by
  have hH := av_hasPre (p ++ r) p hs (by rw [List.length_append] at hs; omega)
  rw [List.take_left, beq_self_eq_true] at hH
  have hq : ((p.length : Nat) : Int).toNat ≤ (p ++ r).length := by rw [Int.toNat_natCast, List.length_append]; omega
  have hs2 : ((p ++ r).take (p ++ r).length).drop ((p.length : Nat) : Int).toNat = r := by rw [Int.toNat_natCast, List.take_length, List.drop_left]
  have hC : AP Tryd.prog 106 [.str (p ++ r), .str p] (.tup [.str r, .bool true]) [] := by
    generalize p ++ r = s at *
    refine AP.ofA ?_
    refine AC_of Tryd.func106 rfl Tryd.ntmps106 rfl rfl ?_
    repeat' (first | (apply AL_callPw (hH); kernel_rfl; (iterate 4 exact rfl)) | (apply AL_sliceS ttok; (iterate 4 exact rfl); exact .lit _ _ _ _ rfl (Int.natCast_nonneg _); exact .dft _; exact hq; exact Nat.le_refl _; exact hs2) | (apply AL_move; exact rfl; exact rfl) | (apply AL_assign; exact rfl; exact rfl) | (apply AL_not; exact rfl; exact rfl) | refine AL_nil ?_ | refine AW_region ?_ | refine AW_seq' ?_ | (apply AW_condB; exact rfl; (first | with_reducible assumption | decide +kernel)) | refine then_norm ?_ | refine AW_ret ?_ | (apply AL_lens ttok; (iterate 4 exact rfl)) | refine AW_skip ?_)
    all_goals (apply endQ []; (repeat (first | exact ResL.nil | (apply ResL.cons; first | exact .tmp _ _ rfl | (apply res_n ttok; (iterate 6 exact rfl)) | (apply res_1 ttok; (iterate 5 exact rfl))))); (iterate 4 exact rfl))
    all_goals rfl
  refine AP.ofA ?_
  refine AC_of Tryd.func72 rfl Tryd.ntmps72 rfl rfl ?_
  repeat' (first | (apply AL_callPw (hC); kernel_rfl; (iterate 4 exact rfl)) | (apply AL_move; exact rfl; exact rfl) | (apply AL_assign; exact rfl; exact rfl) | (apply AL_extract; (iterate 3 exact rfl)) | refine AL_nil ?_ | refine AW_region ?_ | refine AW_seq' ?_ | refine then_norm ?_ | refine AW_ret ?_)
  all_goals (apply endQ []; (repeat (first | exact ResL.nil | (apply ResL.cons; first | exact .tmp _ _ rfl | (apply res_n ttok; (iterate 6 exact rfl)) | (apply res_1 ttok; (iterate 5 exact rfl))))); (iterate 4 exact rfl))
  all_goals rfl
theorem av_cutPreN [Known] (s p : List UInt8) (hs : s.length ≤ 4611686018427387904) (hp : p.length ≤ 4611686018427387904) (h : (s.take p.length == p) = false) : AP Tryd.prog 72 [.str s, .str p] (.tup [.str s, .bool false]) [] := by
  have hH := av_hasPre s p hs hp
  rw [h] at hH
  have hC : AP Tryd.prog 106 [.str s, .str p] (.tup [.str s, .bool false]) [] := by
    refine AP.ofA ?_
    refine AC_of Tryd.func106 rfl Tryd.ntmps106 rfl rfl ?_
    repeat' (first | (apply AL_callPw (hH); kernel_rfl; (iterate 4 exact rfl)) | (apply AL_move; exact rfl; exact rfl) | (apply AL_assign; exact rfl; exact rfl) | (apply AL_not; exact rfl; exact rfl) | refine AL_nil ?_ | refine AW_region ?_ | refine AW_seq' ?_ | (apply AW_condA; exact rfl; (first | with_reducible assumption | decide +kernel)) | refine then_norm ?_ | refine AW_ret ?_ | refine then_ret ?_)
    all_goals (apply endQ []; (repeat (first | exact ResL.nil | (apply ResL.cons; first | exact .tmp _ _ rfl | (apply res_n ttok; (iterate 6 exact rfl)) | (apply res_1 ttok; (iterate 5 exact rfl))))); (iterate 4 exact rfl))
    all_goals rfl
  refine AP.ofA ?_
  refine AC_of Tryd.func72 rfl Tryd.ntmps72 rfl rfl ?_
  repeat' (first | (apply AL_callPw (hC); kernel_rfl; (iterate 4 exact rfl)) | (apply AL_move; exact rfl; exact rfl) | (apply AL_assign; exact rfl; exact rfl) | (apply AL_extract; (iterate 3 exact rfl)) | refine AL_nil ?_ | refine AW_region ?_ | refine AW_seq' ?_ | refine then_norm ?_ | refine AW_ret ?_)
  all_goals (apply endQ []; (repeat (first | exact ResL.nil | (apply ResL.cons; first | exact .tmp _ _ rfl | (apply res_n ttok; (iterate 6 exact rfl)) | (apply res_1 ttok; (iterate 5 exact rfl))))); (iterate 4 exact rfl))
  all_goals rfl
theorem pre_cases (s p : List UInt8) : (∃ r, s = p ++ r) ∨ (s.take p.length == p) = false := by
  cases h : s.take p.length == p with
  | true =>
    refine .inl ⟨s.drop p.length, ?_⟩
    have := beq_iff_eq.1 h
    conv => lhs; rw [← List.take_append_drop p.length s, this]
  | false => exact .inr rfl
theorem ixb_no : ∀ {l : List UInt8} {c : UInt8}, c ∉ l → Lib.indexByte l c = -1
  | [], _, _ => rfl
  | x :: l, c, h => by
    have h1 : ¬ x = c := fun e => h (by rw [e]; exact List.mem_cons_self ..)
    have h2 := ixb_no (l := l) (c := c) fun hm => h (List.mem_cons_of_mem _ hm)
    simp [Lib.indexByte, h1, h2]
theorem ixb_yes : ∀ {a b : List UInt8} {c : UInt8}, c ∉ a → Lib.indexByte (a ++ c :: b) c = (a.length : Int)
  | [], b, c, _ => by simp [Lib.indexByte]
  | x :: a, b, c, h => by
    have h1 : ¬ x = c := fun e => h (by rw [e]; exact List.mem_cons_self ..)
    have h2 := ixb_yes (a := a) (b := b) (c := c) fun hm => h (List.mem_cons_of_mem _ hm)
    rw [List.cons_append]
    simp only [Lib.indexByte, h2, List.length_cons, beq_iff_eq, h1, if_false]
    (repeat' split) <;> omega
theorem av_index1 [Known] (s : List UInt8) (c : UInt8) : AP Tryd.prog 140 [.str s, .str [c]] (.int .i64 (Lib.indexByte s c)) [] := by
  have hI := av_ixb s (c.toNat : Int)
  have e : ((c.toNat : Int)).toNat.toUInt8 = c := by rw [Int.toNat_natCast]; simp
  rw [e] at hI
  have t0 : ((([c] : List UInt8).length : Int) == 0) = false := rfl
  have t1 : ((([c] : List UInt8).length : Int) == 1) = true := rfl
  by_cases hs : [c] = s
  · subst hs
    have t2 : ([c] == [c]) = true := by simp
    have e0 : Lib.indexByte [c] c = 0 := by simp [Lib.indexByte]
    rw [e0]
    refine AP.ofA ?_
    refine AC_of Tryd.func140 rfl Tryd.ntmps140 rfl rfl ?_
    repeat' (first | (apply AL_move; exact rfl; exact rfl) | (apply AL_assign; exact rfl; exact rfl) | (apply AL_bin; (iterate 5 exact rfl)) | refine AL_nil ?_ | (apply AL_guardT; (iterate 3 exact rfl); (first | with_reducible assumption | decide +kernel)) | (apply AL_pickF; exact rfl; (first | with_reducible assumption | decide +kernel); exact rfl; exact rfl) | refine AW_region ?_ | refine AW_seq' ?_ | (apply AW_condA; exact rfl; (first | with_reducible assumption | decide +kernel)) | refine then_norm ?_ | refine AW_block ?_ | refine AW_ret ?_ | refine then_ret ?_ | refine blk_ret ?_ | (apply AL_lens ttok; (iterate 4 exact rfl)) | (apply AL_str; (iterate 5 exact rfl)))
    all_goals (apply endQ []; (repeat (first | exact ResL.nil | (apply ResL.cons; first | exact .tmp _ _ rfl | (apply res_n ttok; (iterate 6 exact rfl)) | (apply res_1 ttok; (iterate 5 exact rfl))))); (iterate 4 exact rfl))
    all_goals rfl
  · have t2 : ([c] == s) = false := by simpa using hs
    refine AP.ofA ?_
    refine AC_of Tryd.func140 rfl Tryd.ntmps140 rfl rfl ?_
    repeat' (first | (apply AL_callPw (hI); kernel_rfl; (iterate 4 exact rfl)) | (apply AL_idxs ttok; (iterate 5 exact rfl); decide +kernel; exact rfl) | (apply AL_move; exact rfl; exact rfl) | (apply AL_assign; exact rfl; exact rfl) | (apply AL_bin; (iterate 5 exact rfl)) | refine AL_nil ?_ | (apply AL_guardT; (iterate 3 exact rfl); (first | with_reducible assumption | decide +kernel)) | (apply AL_pickF; exact rfl; (first | with_reducible assumption | decide +kernel); exact rfl; exact rfl) | refine AW_region ?_ | refine AW_seq' ?_ | (apply AW_condA; exact rfl; (first | with_reducible assumption | decide +kernel)) | (apply AW_condB; exact rfl; (first | with_reducible assumption | decide +kernel)) | refine then_norm ?_ | refine AW_block ?_ | refine AW_ret ?_ | refine then_ret ?_ | refine blk_ret ?_ | (apply AL_lens ttok; (iterate 4 exact rfl)) | (apply AL_str; (iterate 5 exact rfl)))
    all_goals (apply endQ []; (repeat (first | exact ResL.nil | (apply ResL.cons; first | exact .tmp _ _ rfl | (apply res_n ttok; (iterate 6 exact rfl)) | (apply res_1 ttok; (iterate 5 exact rfl))))); (iterate 4 exact rfl))
    all_goals rfl
theorem av_cutN [Known] (s : List UInt8) (c : UInt8) (h : c ∉ s) : AP Tryd.prog 107 [.str s, .str [c]] (.tup [.str s, .str [], .bool false]) [] := by
  have hI := av_index1 s c
  rw [ixb_no h] at hI
  have hC : AP Tryd.prog 129 [.str s, .str [c]] (.tup [.str s, .str [], .bool false]) [] := by
    refine AP.ofA ?_
    refine AC_of Tryd.func129 rfl Tryd.ntmps129 rfl rfl ?_
    repeat' (first | (apply AL_callPw (hI); kernel_rfl; (iterate 4 exact rfl)) | (apply AL_move; exact rfl; exact rfl) | (apply AL_assign; exact rfl; exact rfl) | (apply AL_bin; (iterate 5 exact rfl)) | refine AL_nil ?_ | refine AW_region ?_ | refine AW_seq' ?_ | (apply AW_condB; exact rfl; (first | with_reducible assumption | decide +kernel)) | refine then_norm ?_ | refine AW_ret ?_ | refine AW_skip ?_)
    all_goals (apply endQ []; (repeat (first | exact ResL.nil | (apply ResL.cons; first | exact .tmp _ _ rfl | (apply res_n ttok; (iterate 6 exact rfl)) | (apply res_1 ttok; (iterate 5 exact rfl))))); (iterate 4 exact rfl))
    all_goals rfl
  refine AP.ofA ?_
  refine AC_of Tryd.func107 rfl Tryd.ntmps107 rfl rfl ?_
  repeat' (first | (apply AL_callPw (hC); kernel_rfl; (iterate 4 exact rfl)) | (apply AL_move; exact rfl; exact rfl) | (apply AL_assign; exact rfl; exact rfl) | (apply AL_extract; (iterate 3 exact rfl)) | refine AL_nil ?_ | refine AW_region ?_ | refine AW_seq' ?_ | refine then_norm ?_ | refine AW_ret ?_)
  all_goals (apply endQ []; (repeat (first | exact ResL.nil | (apply ResL.cons; first | exact .tmp _ _ rfl | (apply res_n ttok; (iterate 6 exact rfl)) | (apply res_1 ttok; (iterate 5 exact rfl))))); (iterate 4 exact rfl))
  all_goals rfl
theorem av_cutY [Known] (a b : List UInt8) (c : UInt8) (h : c ∉ a) (hl : (a ++ c :: b).length ≤ 4611686018427387904) : AP Tryd.prog 107 [.str (a ++ c :: b), .str [c]] (.tup [.str a, .str b, .bool true]) [] := by
  have hI := av_index1 (a ++ c :: b) c
  rw [ixb_yes h] at hI
  have hal : a.length + 1 ≤ (a ++ c :: b).length := by rw [List.length_append, List.length_cons]; omega
  have t1 : decide ((a.length : Int) ≥ 0) = true := decide_eq_true (by omega)
  have e1 : IntKind.i64.wrap ((a.length : Int) + (([c] : List UInt8).length : Int)) = ((a.length + 1 : Nat) : Int) := by
    rw [IntWalk.i64_in _ (by simp; omega)]; simp
  have q1 : ((a.length : Nat) : Int).toNat ≤ (a ++ c :: b).length := by rw [Int.toNat_natCast]; omega
  have q2 : ((a.length + 1 : Nat) : Int).toNat ≤ (a ++ c :: b).length := by rw [Int.toNat_natCast]; omega
  have s1 : ((a ++ c :: b).take ((a.length : Nat) : Int).toNat).drop 0 = a := by rw [Int.toNat_natCast, List.drop_zero, List.take_left]
  have s2 : ((a ++ c :: b).take (a ++ c :: b).length).drop ((a.length + 1 : Nat) : Int).toNat = b := by
    rw [Int.toNat_natCast, List.take_length, show a.length + 1 = (a ++ [c]).length by simp, show a ++ c :: b = (a ++ [c]) ++ b by simp, List.drop_left]
  have hC : AP Tryd.prog 129 [.str (a ++ c :: b), .str [c]] (.tup [.str a, .str b, .bool true]) [] := by
    generalize a ++ c :: b = s at *
    refine AP.ofA ?_
    refine AC_of Tryd.func129 rfl Tryd.ntmps129 rfl rfl ?_
    repeat' (first | rw [e1] | (apply AL_callPw (hI); kernel_rfl; (iterate 4 exact rfl)) | (apply AL_sliceS ttok; (iterate 4 exact rfl); exact .dft _; exact .lit _ _ _ _ rfl (Int.natCast_nonneg _); exact Nat.zero_le _; exact q1; exact s1) | (apply AL_sliceS ttok; (iterate 4 exact rfl); exact .lit _ _ _ _ rfl (Int.natCast_nonneg _); exact .dft _; exact q2; exact Nat.le_refl _; exact s2) | (apply AL_move; exact rfl; exact rfl) | (apply AL_assign; exact rfl; exact rfl) | (apply AL_bin; (iterate 5 exact rfl)) | refine AL_nil ?_ | refine AW_region ?_ | refine AW_seq' ?_ | (apply AW_condA; exact rfl; (first | with_reducible assumption | decide +kernel)) | refine then_norm ?_ | refine AW_ret ?_ | refine then_ret ?_ | (apply AL_lens ttok; (iterate 4 exact rfl)) | (apply AW_drawE 10 hmix; (decide +kernel); (kernel_rfl); (kernel_rfl); (kernel_rfl); exact rfl; exact rfl) | (apply AE_consZ; (iterate 4 exact rfl)) | exact AE.nil _ _ _ _ | (apply AEk_puT; exact rfl) | (apply AOt_mk; exact rfl; exact rfl; (decide +kernel); exact rfl) | (apply AO_puT; exact rfl) | exact AO.nil _ _ _ | (apply AOs_skip; (decide +kernel)) | exact AOs.nil | exact qY_ok rfl rfl)
    all_goals (apply endQ []; (repeat (first | exact ResL.nil | (apply ResL.cons; first | exact .tmp _ _ rfl | (apply res_n ttok; (iterate 6 exact rfl)) | (apply res_1 ttok; (iterate 5 exact rfl))))); (iterate 4 exact rfl))
    all_goals rfl
  refine AP.ofA ?_
  refine AC_of Tryd.func107 rfl Tryd.ntmps107 rfl rfl ?_
  repeat' (first | (apply AL_callPw (hC); kernel_rfl; (iterate 4 exact rfl)) | (apply AL_move; exact rfl; exact rfl) | (apply AL_assign; exact rfl; exact rfl) | (apply AL_extract; (iterate 3 exact rfl)) | refine AL_nil ?_ | refine AW_region ?_ | refine AW_seq' ?_ | refine then_norm ?_ | refine AW_ret ?_)
  all_goals (apply endQ []; (repeat (first | exact ResL.nil | (apply ResL.cons; first | exact .tmp _ _ rfl | (apply res_n ttok; (iterate 6 exact rfl)) | (apply res_1 ttok; (iterate 5 exact rfl))))); (iterate 4 exact rfl))
  all_goals rfl
theorem cut_cases (c : UInt8) : ∀ s : List UInt8, (c ∉ s) ∨ ∃ a b, s = a ++ c :: b ∧ c ∉ a
  | [] => .inl (by simp)
  | x :: s => by
    by_cases e : x = c
    · subst e; exact .inr ⟨[], s, rfl, by simp⟩
    · rcases cut_cases c s with h | ⟨a, b, rfl, h⟩
      · refine .inl fun hm => ?_
        rcases List.mem_cons.1 hm with h2 | h2
        · exact e h2.symm
        · exact h h2
      · refine .inr ⟨x :: a, b, rfl, fun hm => ?_⟩
        rcases List.mem_cons.1 hm with h2 | h2
        · exact e h2.symm
        · exact h h2
end Go.Proofs.YtnihobjehelagaaDoor
end
/- Interface values that are not nil, held against nil. -/
section
open Go.RowKit Go.Pl
namespace Go.Av
set_option linter.unusedSimpArgs false
set_option linter.unusedVariables false
section
variable {P : Program} {Q : X → St → Prop} {n : Nat} {ee : Nat × Nat} {tm : List (Nat × D)} {bx : List (List D)} {fr : List Fr}
variable {ops : Array Oper} {rest : List Oper} {t ty : Nat} {pos : String} {after : Array Edge}
theorem run_equal_iface_nil {ti : TypeId} {w : World} {ms : Array (String × TypeId)} (tp : TypeId) (v : Value) (hi : P.underlying ti = some (.interface ms)) : (Op.equal ti (.iface tp v) .nilIface).run P w = .ok false w := by
  have h : ∀ d : Nat, (Op.equalIn (d + 1) ti (.iface tp v) .nilIface).run P w = .ok false w := fun d => by simp [Op.equalIn, run_underlying hi]
  simp only [Op.equal]
  exact h _
theorem AL_ifnot [Known] [Dfr] {op : BinOp} {x : Operand} {xt yt : Nat} {d d0 : D} {t0 : TypeId} (hx : ev tm x = .iface t0 d0) (hu : P.underlying xt = some (.interface (P.methodsAt xt))) (hd : (match op with | .eql => some (D.bool false) | .neq => some (D.bool true) | _ => none) = some d) (htd : Nat.blt t n = true)
    (k : AL P ops rest ⟨n, (t, d) :: tm, bx, fr, ee⟩ Q) : AL P ops (⟨some t, .binOp op xt x (.const .nilIface) yt, ty, pos, after, none⟩ :: rest) ⟨n, tm, bx, fr, ee⟩ Q :=
  AL_val _ htd (fun g a w hi => by
    have h1 : V w g fr (ev tm x) (a.eval x) := hi.ev x
    rw [hx] at h1
    obtain ⟨v, h1⟩ : ∃ v, a.eval x = .iface t0 v := by
      generalize a.eval x = v at h1
      cases h1 with | iface _ _ v _ => exact ⟨v, rfl⟩
    have h2 : a.eval (.const .nilIface) = .nilIface := rfl
    have hrun : (Op.equal xt (.iface t0 v) .nilIface).run P w = .ok false w := run_equal_iface_nil t0 v hu
    cases op <;> simp at hd <;> subst hd <;> first | exact ⟨.bool false, by simp [execOp, h1, h2, eqGuard, binOp, Sem.run_bind, hrun], .bool _⟩ | exact ⟨.bool true, by simp [execOp, h1, h2, eqGuard, binOp, Sem.run_bind, hrun], .bool _⟩) k
end
end Go.Av
end
/- Package eid: a text's name. -/
section
open Go.RowKit Go.Pl Go.Av
namespace Go.Proofs.YtnihobjehelagaaDoor
set_option linter.unusedVariables false
set_option linter.unusedSimpArgs false
set_option maxHeartbeats 4000000
theorem cutV_len (c : UInt8) : ∀ s : List UInt8, (cutV c s).1.length ≤ s.length ∧ (cutV c s).2.1.length ≤ s.length
  | [] => ⟨Nat.le_refl _, Nat.le_refl _⟩
  | x :: s => by
    rw [cutV]
    have := cutV_len c s
    split
    · simp
    · simp; omega
theorem preV_len (p s : List UInt8) : (preV p s).1.length ≤ s.length := by
  unfold preV
  split
  · simp
  · exact Nat.le_refl _
theorem av_cut [Known] (s : List UInt8) (c : UInt8) (hl : s.length ≤ 4611686018427387904) : AP Tryd.prog 107 [.str s, .str [c]] (.tup [.str (cutV c s).1, .str (cutV c s).2.1, .bool (cutV c s).2.2]) [] := by
  rcases cut_cases c s with h | ⟨a, b, rfl, h⟩
  · rw [cutV_no h]; exact av_cutN s c h
  · rw [cutV_yes h]; exact av_cutY a b c h hl
theorem av_cutPre [Known] (s p : List UInt8) (hs : s.length ≤ 4611686018427387904) (hp : p.length ≤ 4611686018427387904) : AP Tryd.prog 72 [.str s, .str p] (.tup [.str (preV p s).1, .bool (preV p s).2]) [] := by
  rcases pre_cases s p with ⟨r, rfl⟩ | h
  · rw [preV_app]; exact av_cutPreY p r hs
  · rw [preV_no h]; exact av_cutPreN s p hs hp h
theorem av_pp [Known] (s : List UInt8) (hs : s.length ≤ 140737488351232) : AP Tryd.prog 74 [.str s] (.tup [.agg (eC (ppV s).1), .bool (ppV s).2]) [] := by
  have hP := av_cutPre s [47, 47] (by omega) (by decide)
  have hl := preV_len [47, 47] s
  unfold ppV
  dsimp only
  generalize (preV [47, 47] s).1 = r at *
  generalize (preV [47, 47] s).2 = ok at *
  have hC := av_cut r 47 (by omega)
  generalize (cutV 47 r).1 = a at *
  generalize (cutV 47 r).2.1 = b at *
  generalize (cutV 47 r).2.2 = k at *
  have hR := av_eRight ⟨false, 0, 0, a, b⟩
  generalize eRight ⟨false, 0, 0, a, b⟩ = R at *
  replace hR : AP Tryd.prog _ [.agg [.bool false, .int .u64 0, .int .u64 0, .str a, .str b]] (.bool R) [] := hR
  show AP Tryd.prog _ _ (.tup [.agg [.bool false, .int .u64 0, .int .u64 0, .str a, .str b], _]) _
  obtain ⟨ne, h1⟩ : ∃ ne, (a != []) = ne := ⟨_, rfl⟩
  rw [h1]
  cases ok with
  | false =>
    refine AP.ofA ?_
    refine AC_of Tryd.func74 rfl Tryd.ntmps74 rfl rfl ?_
    repeat' (first | (apply AL_callPw (hP); kernel_rfl; (iterate 4 exact rfl)) | (apply AL_callPw (hC); kernel_rfl; (iterate 4 exact rfl)) | (apply AL_move; exact rfl; exact rfl) | (apply AL_assign; exact rfl; exact rfl) | (apply AL_loadn ttok; (iterate 7 exact rfl)) | (apply AL_store ttok; (iterate 8 exact rfl)) | (apply AL_extract; (iterate 3 exact rfl)) | refine AL_nil ?_ | (apply AL_guardFt; (iterate 3 exact rfl); (first | with_reducible assumption | decide +kernel)) | (apply AL_pickF; exact rfl; (first | with_reducible assumption | decide +kernel); exact rfl; exact rfl) | refine AW_region ?_ | refine AW_seq' ?_ | refine then_norm ?_ | refine AW_ret ?_ | (apply AL_build ttok; (iterate 6 exact rfl)) | (apply AL_allocZ ttok; (iterate 4 exact rfl)) | (apply AW_drawE 14 hmix; (decide +kernel); (kernel_rfl); (kernel_rfl); (kernel_rfl); exact rfl; exact rfl) | (apply AE_consZ; (iterate 4 exact rfl)) | exact AE.nil _ _ _ _ | (apply AEk_puT; exact rfl) | (apply AEk_ef; exact rfl) | (apply AOt_mk; exact rfl; exact rfl; (decide +kernel); exact rfl) | (apply AO_puT; exact rfl) | (apply AO_ef; exact rfl) | exact AO.nil _ _ _ | (apply AOs_skip; (decide +kernel)) | (apply AOs_goZ; (iterate 3 exact rfl)) | exact AOs.nil | exact qY_ok rfl rfl | exact qY_efn rfl)
    all_goals (apply endQ []; (repeat (first | exact ResL.nil | (apply ResL.cons; first | exact .tmp _ _ rfl | (apply res_n ttok; (iterate 6 exact rfl)) | (apply res_1 ttok; (iterate 5 exact rfl))))); (iterate 4 exact rfl))
    all_goals rfl
  | true =>
    cases k with
    | false =>
      refine AP.ofA ?_
      refine AC_of Tryd.func74 rfl Tryd.ntmps74 rfl rfl ?_
      repeat' (first | (apply AL_callPw (hP); kernel_rfl; (iterate 4 exact rfl)) | (apply AL_callPw (hC); kernel_rfl; (iterate 4 exact rfl)) | (apply AL_move; exact rfl; exact rfl) | (apply AL_assign; exact rfl; exact rfl) | (apply AL_loadn ttok; (iterate 7 exact rfl)) | (apply AL_store ttok; (iterate 8 exact rfl)) | (apply AL_extract; (iterate 3 exact rfl)) | refine AL_nil ?_ | (apply AL_guardT; (iterate 3 exact rfl); (first | with_reducible assumption | decide +kernel)) | (apply AL_guardFt; (iterate 3 exact rfl); (first | with_reducible assumption | decide +kernel)) | (apply AL_pickT; exact rfl; (first | with_reducible assumption | decide +kernel); exact rfl; exact rfl) | (apply AL_pickF; exact rfl; (first | with_reducible assumption | decide +kernel); exact rfl; exact rfl) | refine AW_region ?_ | refine AW_seq' ?_ | refine then_norm ?_ | refine AW_ret ?_ | (apply AL_build ttok; (iterate 6 exact rfl)) | (apply AL_allocZ ttok; (iterate 4 exact rfl)) | (apply AW_drawE 14 hmix; (decide +kernel); (kernel_rfl); (kernel_rfl); (kernel_rfl); exact rfl; exact rfl) | (apply AE_consZ; (iterate 4 exact rfl)) | exact AE.nil _ _ _ _ | (apply AEk_puT; exact rfl) | (apply AEk_ef; exact rfl) | (apply AOt_mk; exact rfl; exact rfl; (decide +kernel); exact rfl) | (apply AO_puT; exact rfl) | (apply AO_ef; exact rfl) | exact AO.nil _ _ _ | (apply AOs_skip; (decide +kernel)) | (apply AOs_goZ; (iterate 3 exact rfl)) | exact AOs.nil | exact qY_ok rfl rfl | exact qY_efn rfl)
      all_goals (apply endQ []; (repeat (first | exact ResL.nil | (apply ResL.cons; first | exact .tmp _ _ rfl | (apply res_n ttok; (iterate 6 exact rfl)) | (apply res_1 ttok; (iterate 5 exact rfl))))); (iterate 4 exact rfl))
      all_goals rfl
    | true =>
      cases ne <;> cases R
      all_goals
        refine AP.ofA ?_
        refine AC_of Tryd.func74 rfl Tryd.ntmps74 rfl rfl ?_
        repeat' (first | rw [h1] | (apply AL_callPw (hP); kernel_rfl; (iterate 4 exact rfl)) | (apply AL_callPw (hC); kernel_rfl; (iterate 4 exact rfl)) | (apply AL_callPw (hR); kernel_rfl; (iterate 4 exact rfl)) | (apply AL_move; exact rfl; exact rfl) | (apply AL_assign; exact rfl; exact rfl) | (apply AL_loadn ttok; (iterate 7 exact rfl)) | (apply AL_store ttok; (iterate 8 exact rfl)) | (apply AL_extract; (iterate 3 exact rfl)) | refine AL_nil ?_ | (apply AL_guardT; (iterate 3 exact rfl); (first | with_reducible assumption | decide +kernel)) | (apply AL_guardFt; (iterate 3 exact rfl); (first | with_reducible assumption | decide +kernel)) | (apply AL_pickT; exact rfl; (first | with_reducible assumption | decide +kernel); exact rfl; exact rfl) | (apply AL_pickF; exact rfl; (first | with_reducible assumption | decide +kernel); exact rfl; exact rfl) | refine AW_region ?_ | refine AW_seq' ?_ | refine then_norm ?_ | refine AW_ret ?_ | (apply AL_build ttok; (iterate 6 exact rfl)) | (apply AL_allocZ ttok; (iterate 4 exact rfl)) | (apply AL_str; (iterate 5 exact rfl)) | (apply AW_drawE 14 hmix; (decide +kernel); (kernel_rfl); (kernel_rfl); (kernel_rfl); exact rfl; exact rfl) | (apply AE_consZ; (iterate 4 exact rfl)) | exact AE.nil _ _ _ _ | (apply AEk_puT; exact rfl) | (apply AEk_ef; exact rfl) | (apply AOt_mk; exact rfl; exact rfl; (decide +kernel); exact rfl) | (apply AO_puT; exact rfl) | (apply AO_ef; exact rfl) | exact AO.nil _ _ _ | (apply AOs_skip; (decide +kernel)) | (apply AOs_goZ; (iterate 3 exact rfl)) | exact AOs.nil | exact qY_ok rfl rfl | exact qY_efn rfl)
        all_goals (apply endQ []; (repeat (first | exact ResL.nil | (apply ResL.cons; first | exact .tmp _ _ rfl | (apply res_n ttok; (iterate 6 exact rfl)) | (apply res_1 ttok; (iterate 5 exact rfl))))); (iterate 4 exact rfl))
        all_goals rfl
end Go.Proofs.YtnihobjehelagaaDoor
end
/- Package eid: the name of two numbers. -/
section
open Go.RowKit Go.Pl Go.Av
namespace Go.Proofs.YtnihobjehelagaaDoor
set_option linter.unusedVariables false
set_option linter.unusedSimpArgs false
set_option maxHeartbeats 4000000
theorem err_u : Tryd.prog.underlying 153 = some (.interface (Tryd.prog.methodsAt 153)) := by kernel_rfl
theorem pn_c4 [Known] (s a b da db : List UInt8) (n m : Nat) (R : Bool) (hC : AP Tryd.prog 107 [.str s, .str [46]] (.tup [.str a, .str b, .bool false]) [])
    (hA : AP Tryd.prog 108 [.str a, .int .i64 10, .int .i64 32] (.tup [.int .u64 (n : Int), .nili]) []) (hB : AP Tryd.prog 108 [.str b, .int .i64 10, .int .i64 32] (.tup [.int .u64 (m : Int), .nili]) [])
    (hF1 : AP Tryd.prog 70 [.int .u64 (n : Int), .int .i64 10] (.str da) []) (hF2 : AP Tryd.prog 70 [.int .u64 (m : Int), .int .i64 10] (.str db) [])
    (hR : AP Tryd.prog 33 [.agg [.bool true, .int .u64 (n : Int), .int .u64 (m : Int), .str [], .str []]] (.bool R) []) : AP Tryd.prog 73 [.str s] (.tup [.agg [.bool true, .int .u64 (n : Int), .int .u64 (m : Int), .str [], .str []], .bool false]) [] := by
  all_goals
    refine AP.ofA ?_
    refine AC_of Tryd.func73 rfl Tryd.ntmps73 rfl rfl ?_
    repeat' (first | (apply AL_callPw (hC); kernel_rfl; (iterate 4 exact rfl)) | (apply AL_callPw (hA); kernel_rfl; (iterate 4 exact rfl)) | (apply AL_callPw (hB); kernel_rfl; (iterate 4 exact rfl)) | (apply AL_move; exact rfl; exact rfl) | (apply AL_assign; exact rfl; exact rfl) | (apply AL_loadn ttok; (iterate 7 exact rfl)) | (apply AL_store ttok; (iterate 8 exact rfl)) | (apply AL_extract; (iterate 3 exact rfl)) | refine AL_nil ?_ | (apply AL_guardFt; (iterate 3 exact rfl); (first | with_reducible assumption | decide +kernel)) | (apply AL_pickF; exact rfl; (first | with_reducible assumption | decide +kernel); exact rfl; exact rfl) | refine AW_region ?_ | refine AW_seq' ?_ | refine then_norm ?_ | refine AW_ret ?_ | (apply AL_build ttok; (iterate 6 exact rfl)) | (apply AL_allocZ ttok; (iterate 4 exact rfl)) | (apply AW_drawE 27 hmix; (decide +kernel); (kernel_rfl); (kernel_rfl); (kernel_rfl); exact rfl; exact rfl) | (apply AE_consZ; (iterate 4 exact rfl)) | exact AE.nil _ _ _ _ | (apply AEk_puT; exact rfl) | (apply AEk_ef; exact rfl) | (apply AOt_mk; exact rfl; exact rfl; (decide +kernel); exact rfl) | (apply AO_puT; exact rfl) | (apply AO_ef; exact rfl) | exact AO.nil _ _ _ | (apply AOs_skip; (decide +kernel)) | (apply AOs_goZ; (iterate 3 exact rfl)) | exact AOs.nil | exact qY_ok rfl rfl | exact qY_efn rfl)
    all_goals (apply endQ []; (repeat (first | exact ResL.nil | (apply ResL.cons; first | exact .tmp _ _ rfl | (apply res_n ttok; (iterate 6 exact rfl)) | (apply res_1 ttok; (iterate 5 exact rfl))))); (iterate 4 exact rfl))
    all_goals rfl
theorem pn_c5 [Known] (s a b da db : List UInt8) (n m : Nat) (hC : AP Tryd.prog 107 [.str s, .str [46]] (.tup [.str a, .str b, .bool true]) [])
    (hA : AP Tryd.prog 108 [.str a, .int .i64 10, .int .i64 32] (.tup [.int .u64 (n : Int), .nili]) []) (hB : AP Tryd.prog 108 [.str b, .int .i64 10, .int .i64 32] (.tup [.int .u64 (m : Int), .nili]) [])
    (hF1 : AP Tryd.prog 70 [.int .u64 (n : Int), .int .i64 10] (.str da) []) (hF2 : AP Tryd.prog 70 [.int .u64 (m : Int), .int .i64 10] (.str db) [])
    (hR : AP Tryd.prog 33 [.agg [.bool true, .int .u64 (n : Int), .int .u64 (m : Int), .str [], .str []]] (.bool false) []) : AP Tryd.prog 73 [.str s] (.tup [.agg [.bool true, .int .u64 (n : Int), .int .u64 (m : Int), .str [], .str []], .bool false]) [] := by
  all_goals
    refine AP.ofA ?_
    refine AC_of Tryd.func73 rfl Tryd.ntmps73 rfl rfl ?_
    repeat' (first | (apply AL_callPw (hC); kernel_rfl; (iterate 4 exact rfl)) | (apply AL_callPw (hA); kernel_rfl; (iterate 4 exact rfl)) | (apply AL_callPw (hB); kernel_rfl; (iterate 4 exact rfl)) | (apply AL_callPw (hR); kernel_rfl; (iterate 4 exact rfl)) | (apply AL_ifnil; exact rfl; exact err_u; exact rfl; exact rfl) | (apply AL_move; exact rfl; exact rfl) | (apply AL_assign; exact rfl; exact rfl) | (apply AL_loadn ttok; (iterate 7 exact rfl)) | (apply AL_store ttok; (iterate 8 exact rfl)) | (apply AL_extract; (iterate 3 exact rfl)) | refine AL_nil ?_ | (apply AL_guardT; (iterate 3 exact rfl); (first | with_reducible assumption | decide +kernel)) | (apply AL_guardFt; (iterate 3 exact rfl); (first | with_reducible assumption | decide +kernel)) | (apply AL_pickT; exact rfl; (first | with_reducible assumption | decide +kernel); exact rfl; exact rfl) | (apply AL_pickF; exact rfl; (first | with_reducible assumption | decide +kernel); exact rfl; exact rfl) | refine AW_region ?_ | refine AW_seq' ?_ | refine then_norm ?_ | refine AW_ret ?_ | (apply AL_build ttok; (iterate 6 exact rfl)) | (apply AL_allocZ ttok; (iterate 4 exact rfl)) | (apply AW_drawE 27 hmix; (decide +kernel); (kernel_rfl); (kernel_rfl); (kernel_rfl); exact rfl; exact rfl) | (apply AE_consZ; (iterate 4 exact rfl)) | exact AE.nil _ _ _ _ | (apply AEk_puT; exact rfl) | (apply AEk_ef; exact rfl) | (apply AOt_mk; exact rfl; exact rfl; (decide +kernel); exact rfl) | (apply AO_puT; exact rfl) | (apply AO_ef; exact rfl) | exact AO.nil _ _ _ | (apply AOs_skip; (decide +kernel)) | (apply AOs_goZ; (iterate 3 exact rfl)) | exact AOs.nil | exact qY_ok rfl rfl | exact qY_efn rfl)
    all_goals (apply endQ []; (repeat (first | exact ResL.nil | (apply ResL.cons; first | exact .tmp _ _ rfl | (apply res_n ttok; (iterate 6 exact rfl)) | (apply res_1 ttok; (iterate 5 exact rfl))))); (iterate 4 exact rfl))
    all_goals rfl
end Go.Proofs.YtnihobjehelagaaDoor
end
/- Package eid: the name of two numbers. -/
section
open Go.RowKit Go.Pl Go.Av
namespace Go.Proofs.YtnihobjehelagaaDoor
set_option linter.unusedVariables false
set_option linter.unusedSimpArgs false
set_option maxHeartbeats 4000000
theorem pn_c1 [Known] (s a b da db : List UInt8) (n m : Nat) (k : Bool) (R : Bool) (hC : AP Tryd.prog 107 [.str s, .str [46]] (.tup [.str a, .str b, .bool k]) [])
    (hA : AP Tryd.prog 108 [.str a, .int .i64 10, .int .i64 32] (.tup [.int .u64 (n : Int), (.iface 199 .junk)]) []) (hB : AP Tryd.prog 108 [.str b, .int .i64 10, .int .i64 32] (.tup [.int .u64 (m : Int), (.iface 199 .junk)]) [])
    (hF1 : AP Tryd.prog 70 [.int .u64 (n : Int), .int .i64 10] (.str da) []) (hF2 : AP Tryd.prog 70 [.int .u64 (m : Int), .int .i64 10] (.str db) [])
    (hR : AP Tryd.prog 33 [.agg [.bool true, .int .u64 (n : Int), .int .u64 (m : Int), .str [], .str []]] (.bool R) []) : AP Tryd.prog 73 [.str s] (.tup [.agg [.bool true, .int .u64 (n : Int), .int .u64 (m : Int), .str [], .str []], .bool false]) [] := by
  cases k
  all_goals
    refine AP.ofA ?_
    refine AC_of Tryd.func73 rfl Tryd.ntmps73 rfl rfl ?_
    repeat' (first | (apply AL_callPw (hC); kernel_rfl; (iterate 4 exact rfl)) | (apply AL_callPw (hA); kernel_rfl; (iterate 4 exact rfl)) | (apply AL_callPw (hB); kernel_rfl; (iterate 4 exact rfl)) | (apply AL_ifnot; exact rfl; exact err_u; exact rfl; exact rfl) | (apply AL_move; exact rfl; exact rfl) | (apply AL_assign; exact rfl; exact rfl) | (apply AL_loadn ttok; (iterate 7 exact rfl)) | (apply AL_store ttok; (iterate 8 exact rfl)) | (apply AL_extract; (iterate 3 exact rfl)) | refine AL_nil ?_ | (apply AL_guardT; (iterate 3 exact rfl); (first | with_reducible assumption | decide +kernel)) | (apply AL_guardFt; (iterate 3 exact rfl); (first | with_reducible assumption | decide +kernel)) | (apply AL_pickT; exact rfl; (first | with_reducible assumption | decide +kernel); exact rfl; exact rfl) | (apply AL_pickF; exact rfl; (first | with_reducible assumption | decide +kernel); exact rfl; exact rfl) | refine AW_region ?_ | refine AW_seq' ?_ | refine then_norm ?_ | refine AW_ret ?_ | (apply AL_build ttok; (iterate 6 exact rfl)) | (apply AL_allocZ ttok; (iterate 4 exact rfl)) | (apply AW_drawE 27 hmix; (decide +kernel); (kernel_rfl); (kernel_rfl); (kernel_rfl); exact rfl; exact rfl) | (apply AE_consZ; (iterate 4 exact rfl)) | exact AE.nil _ _ _ _ | (apply AEk_puT; exact rfl) | (apply AEk_ef; exact rfl) | (apply AOt_mk; exact rfl; exact rfl; (decide +kernel); exact rfl) | (apply AO_puT; exact rfl) | (apply AO_ef; exact rfl) | exact AO.nil _ _ _ | (apply AOs_skip; (decide +kernel)) | (apply AOs_goZ; (iterate 3 exact rfl)) | exact AOs.nil | exact qY_ok rfl rfl | exact qY_efn rfl)
    all_goals (apply endQ []; (repeat (first | exact ResL.nil | (apply ResL.cons; first | exact .tmp _ _ rfl | (apply res_n ttok; (iterate 6 exact rfl)) | (apply res_1 ttok; (iterate 5 exact rfl))))); (iterate 4 exact rfl))
    all_goals rfl
theorem pn_c2 [Known] (s a b da db : List UInt8) (n m : Nat) (k : Bool) (R : Bool) (hC : AP Tryd.prog 107 [.str s, .str [46]] (.tup [.str a, .str b, .bool k]) [])
    (hA : AP Tryd.prog 108 [.str a, .int .i64 10, .int .i64 32] (.tup [.int .u64 (n : Int), (.iface 199 .junk)]) []) (hB : AP Tryd.prog 108 [.str b, .int .i64 10, .int .i64 32] (.tup [.int .u64 (m : Int), .nili]) [])
    (hF1 : AP Tryd.prog 70 [.int .u64 (n : Int), .int .i64 10] (.str da) []) (hF2 : AP Tryd.prog 70 [.int .u64 (m : Int), .int .i64 10] (.str db) [])
    (hR : AP Tryd.prog 33 [.agg [.bool true, .int .u64 (n : Int), .int .u64 (m : Int), .str [], .str []]] (.bool R) []) : AP Tryd.prog 73 [.str s] (.tup [.agg [.bool true, .int .u64 (n : Int), .int .u64 (m : Int), .str [], .str []], .bool false]) [] := by
  cases k
  all_goals
    refine AP.ofA ?_
    refine AC_of Tryd.func73 rfl Tryd.ntmps73 rfl rfl ?_
    repeat' (first | (apply AL_callPw (hC); kernel_rfl; (iterate 4 exact rfl)) | (apply AL_callPw (hA); kernel_rfl; (iterate 4 exact rfl)) | (apply AL_callPw (hB); kernel_rfl; (iterate 4 exact rfl)) | (apply AL_ifnot; exact rfl; exact err_u; exact rfl; exact rfl) | (apply AL_move; exact rfl; exact rfl) | (apply AL_assign; exact rfl; exact rfl) | (apply AL_loadn ttok; (iterate 7 exact rfl)) | (apply AL_store ttok; (iterate 8 exact rfl)) | (apply AL_extract; (iterate 3 exact rfl)) | refine AL_nil ?_ | (apply AL_guardT; (iterate 3 exact rfl); (first | with_reducible assumption | decide +kernel)) | (apply AL_guardFt; (iterate 3 exact rfl); (first | with_reducible assumption | decide +kernel)) | (apply AL_pickT; exact rfl; (first | with_reducible assumption | decide +kernel); exact rfl; exact rfl) | (apply AL_pickF; exact rfl; (first | with_reducible assumption | decide +kernel); exact rfl; exact rfl) | refine AW_region ?_ | refine AW_seq' ?_ | refine then_norm ?_ | refine AW_ret ?_ | (apply AL_build ttok; (iterate 6 exact rfl)) | (apply AL_allocZ ttok; (iterate 4 exact rfl)) | (apply AW_drawE 27 hmix; (decide +kernel); (kernel_rfl); (kernel_rfl); (kernel_rfl); exact rfl; exact rfl) | (apply AE_consZ; (iterate 4 exact rfl)) | exact AE.nil _ _ _ _ | (apply AEk_puT; exact rfl) | (apply AEk_ef; exact rfl) | (apply AOt_mk; exact rfl; exact rfl; (decide +kernel); exact rfl) | (apply AO_puT; exact rfl) | (apply AO_ef; exact rfl) | exact AO.nil _ _ _ | (apply AOs_skip; (decide +kernel)) | (apply AOs_goZ; (iterate 3 exact rfl)) | exact AOs.nil | exact qY_ok rfl rfl | exact qY_efn rfl)
    all_goals (apply endQ []; (repeat (first | exact ResL.nil | (apply ResL.cons; first | exact .tmp _ _ rfl | (apply res_n ttok; (iterate 6 exact rfl)) | (apply res_1 ttok; (iterate 5 exact rfl))))); (iterate 4 exact rfl))
    all_goals rfl
end Go.Proofs.YtnihobjehelagaaDoor
end
/- Package eid: the name of two numbers. -/
section
open Go.RowKit Go.Pl Go.Av
namespace Go.Proofs.YtnihobjehelagaaDoor
set_option linter.unusedVariables false
set_option linter.unusedSimpArgs false
set_option maxHeartbeats 4000000
theorem pn_c3 [Known] (s a b da db : List UInt8) (n m : Nat) (k : Bool) (R : Bool) (hC : AP Tryd.prog 107 [.str s, .str [46]] (.tup [.str a, .str b, .bool k]) [])
    (hA : AP Tryd.prog 108 [.str a, .int .i64 10, .int .i64 32] (.tup [.int .u64 (n : Int), .nili]) []) (hB : AP Tryd.prog 108 [.str b, .int .i64 10, .int .i64 32] (.tup [.int .u64 (m : Int), (.iface 199 .junk)]) [])
    (hF1 : AP Tryd.prog 70 [.int .u64 (n : Int), .int .i64 10] (.str da) []) (hF2 : AP Tryd.prog 70 [.int .u64 (m : Int), .int .i64 10] (.str db) [])
    (hR : AP Tryd.prog 33 [.agg [.bool true, .int .u64 (n : Int), .int .u64 (m : Int), .str [], .str []]] (.bool R) []) : AP Tryd.prog 73 [.str s] (.tup [.agg [.bool true, .int .u64 (n : Int), .int .u64 (m : Int), .str [], .str []], .bool false]) [] := by
  cases k
  all_goals
    refine AP.ofA ?_
    refine AC_of Tryd.func73 rfl Tryd.ntmps73 rfl rfl ?_
    repeat' (first | (apply AL_callPw (hC); kernel_rfl; (iterate 4 exact rfl)) | (apply AL_callPw (hA); kernel_rfl; (iterate 4 exact rfl)) | (apply AL_callPw (hB); kernel_rfl; (iterate 4 exact rfl)) | (apply AL_ifnil; exact rfl; exact err_u; exact rfl; exact rfl) | (apply AL_ifnot; exact rfl; exact err_u; exact rfl; exact rfl) | (apply AL_move; exact rfl; exact rfl) | (apply AL_assign; exact rfl; exact rfl) | (apply AL_loadn ttok; (iterate 7 exact rfl)) | (apply AL_store ttok; (iterate 8 exact rfl)) | (apply AL_extract; (iterate 3 exact rfl)) | refine AL_nil ?_ | (apply AL_guardT; (iterate 3 exact rfl); (first | with_reducible assumption | decide +kernel)) | (apply AL_guardFt; (iterate 3 exact rfl); (first | with_reducible assumption | decide +kernel)) | (apply AL_pickT; exact rfl; (first | with_reducible assumption | decide +kernel); exact rfl; exact rfl) | (apply AL_pickF; exact rfl; (first | with_reducible assumption | decide +kernel); exact rfl; exact rfl) | refine AW_region ?_ | refine AW_seq' ?_ | refine then_norm ?_ | refine AW_ret ?_ | (apply AL_build ttok; (iterate 6 exact rfl)) | (apply AL_allocZ ttok; (iterate 4 exact rfl)) | (apply AW_drawE 27 hmix; (decide +kernel); (kernel_rfl); (kernel_rfl); (kernel_rfl); exact rfl; exact rfl) | (apply AE_consZ; (iterate 4 exact rfl)) | exact AE.nil _ _ _ _ | (apply AEk_puT; exact rfl) | (apply AEk_ef; exact rfl) | (apply AOt_mk; exact rfl; exact rfl; (decide +kernel); exact rfl) | (apply AO_puT; exact rfl) | (apply AO_ef; exact rfl) | exact AO.nil _ _ _ | (apply AOs_skip; (decide +kernel)) | (apply AOs_goZ; (iterate 3 exact rfl)) | exact AOs.nil | exact qY_ok rfl rfl | exact qY_efn rfl)
    all_goals (apply endQ []; (repeat (first | exact ResL.nil | (apply ResL.cons; first | exact .tmp _ _ rfl | (apply res_n ttok; (iterate 6 exact rfl)) | (apply res_1 ttok; (iterate 5 exact rfl))))); (iterate 4 exact rfl))
    all_goals rfl
end Go.Proofs.YtnihobjehelagaaDoor
end
/- Package eid: the name of two numbers. -/
section
open Go.RowKit Go.Pl Go.Av
namespace Go.Proofs.YtnihobjehelagaaDoor
set_option linter.unusedVariables false
set_option linter.unusedSimpArgs false
set_option maxHeartbeats 4000000
theorem pn_c6 [Known] (s a b da db : List UInt8) (n m : Nat) (f1 f2 : Bool) (hC : AP Tryd.prog 107 [.str s, .str [46]] (.tup [.str a, .str b, .bool true]) [])
    (hA : AP Tryd.prog 108 [.str a, .int .i64 10, .int .i64 32] (.tup [.int .u64 (n : Int), .nili]) []) (hB : AP Tryd.prog 108 [.str b, .int .i64 10, .int .i64 32] (.tup [.int .u64 (m : Int), .nili]) [])
    (hF1 : AP Tryd.prog 70 [.int .u64 (n : Int), .int .i64 10] (.str da) []) (hF2 : AP Tryd.prog 70 [.int .u64 (m : Int), .int .i64 10] (.str db) [])
    (hR : AP Tryd.prog 33 [.agg [.bool true, .int .u64 (n : Int), .int .u64 (m : Int), .str [], .str []]] (.bool true) []) (h1 : (da == a) = f1) (h2 : (db == b) = f2) : AP Tryd.prog 73 [.str s] (.tup [.agg [.bool true, .int .u64 (n : Int), .int .u64 (m : Int), .str [], .str []], .bool (f1 && f2)]) [] := by
  cases f1 <;> cases f2
  all_goals
    refine AP.ofA ?_
    refine AC_of Tryd.func73 rfl Tryd.ntmps73 rfl rfl ?_
    repeat' (first | rw [h1] | rw [h2] | (apply AL_callPw (hC); kernel_rfl; (iterate 4 exact rfl)) | (apply AL_callPw (hA); kernel_rfl; (iterate 4 exact rfl)) | (apply AL_callPw (hB); kernel_rfl; (iterate 4 exact rfl)) | (apply AL_callPw (hR); kernel_rfl; (iterate 4 exact rfl)) | (apply AL_callPw (hF1); kernel_rfl; (iterate 4 exact rfl)) | (apply AL_callPw (hF2); kernel_rfl; (iterate 4 exact rfl)) | (apply AL_ifnil; exact rfl; exact err_u; exact rfl; exact rfl) | (apply AL_move; exact rfl; exact rfl) | (apply AL_assign; exact rfl; exact rfl) | (apply AL_loadn ttok; (iterate 7 exact rfl)) | (apply AL_store ttok; (iterate 8 exact rfl)) | (apply AL_extract; (iterate 3 exact rfl)) | refine AL_nil ?_ | (apply AL_guardT; (iterate 3 exact rfl); (first | with_reducible assumption | decide +kernel)) | (apply AL_guardFt; (iterate 3 exact rfl); (first | with_reducible assumption | decide +kernel)) | (apply AL_pickT; exact rfl; (first | with_reducible assumption | decide +kernel); exact rfl; exact rfl) | (apply AL_pickF; exact rfl; (first | with_reducible assumption | decide +kernel); exact rfl; exact rfl) | refine AW_region ?_ | refine AW_seq' ?_ | refine then_norm ?_ | refine AW_ret ?_ | (apply AL_build ttok; (iterate 6 exact rfl)) | (apply AL_allocZ ttok; (iterate 4 exact rfl)) | (apply AL_str; (iterate 5 exact rfl)) | (apply AW_drawE 27 hmix; (decide +kernel); (kernel_rfl); (kernel_rfl); (kernel_rfl); exact rfl; exact rfl) | (apply AE_consZ; (iterate 4 exact rfl)) | exact AE.nil _ _ _ _ | (apply AEk_puT; exact rfl) | (apply AEk_ef; exact rfl) | (apply AOt_mk; exact rfl; exact rfl; (decide +kernel); exact rfl) | (apply AO_puT; exact rfl) | (apply AO_ef; exact rfl) | exact AO.nil _ _ _ | (apply AOs_skip; (decide +kernel)) | (apply AOs_goZ; (iterate 3 exact rfl)) | exact AOs.nil | exact qY_ok rfl rfl | exact qY_efn rfl)
    all_goals (apply endQ []; (repeat (first | exact ResL.nil | (apply ResL.cons; first | exact .tmp _ _ rfl | (apply res_n ttok; (iterate 6 exact rfl)) | (apply res_1 ttok; (iterate 5 exact rfl))))); (iterate 4 exact rfl))
    all_goals rfl
end Go.Proofs.YtnihobjehelagaaDoor
end
/- Package eid: the name of a text. -/
section
open Go.RowKit Go.Pl Go.Av
namespace Go.Proofs.YtnihobjehelagaaDoor
set_option linter.unusedVariables false
set_option linter.unusedSimpArgs false
set_option maxHeartbeats 4000000
theorem av_pn [Known] [KnownSc] [KnownPow] (s : List UInt8) (hs : s.length ≤ 1099511627776) : AP Tryd.prog 73 [.str s] (.tup [.agg (eC (pnV s).1), .bool (pnV s).2]) [] := by
  have hC := av_cut s 46 (by omega)
  have hl := cutV_len 46 s
  unfold pnV
  dsimp only
  generalize (cutV 46 s).1 = a at *
  generalize (cutV 46 s).2.1 = b at *
  generalize (cutV 46 s).2.2 = k at *
  have hA := av_parseU a (by omega)
  have hB := av_parseU b (by omega)
  rw [puD_eq] at hA hB
  have ha := puN_le a
  have hb := puN_le b
  have hF1 := av_fmtU (puN a) (by omega)
  have hF2 := av_fmtU (puN b) (by omega)
  have hR := av_eRight ⟨true, puN a, puN b, [], []⟩
  generalize eRight ⟨true, puN a, puN b, [], []⟩ = R at *
  generalize puN a = n at *
  generalize puN b = m at *
  generalize puB a = pa at *
  generalize puB b = pb at *
  generalize Lib.decDigits n = da at *
  generalize Lib.decDigits m = db at *
  replace hR : AP Tryd.prog _ [.agg [.bool true, .int .u64 (n : Int), .int .u64 (m : Int), .str [], .str []]] (.bool R) [] := hR
  show AP Tryd.prog _ _ (.tup [.agg [.bool true, .int .u64 (n : Int), .int .u64 (m : Int), .str [], .str []], _]) _
  clear ha hb hl
  have hf1 : ∃ f1, (da == a) = f1 := ⟨_, rfl⟩
  have hf2 : ∃ f2, (db == b) = f2 := ⟨_, rfl⟩
  obtain ⟨f1, h1⟩ := hf1
  obtain ⟨f2, h2⟩ := hf2
  rw [h1, h2]
  cases pa with
  | false =>
    rw [show (k && (false && (pb && (R && (f1 && f2))))) = false by simp]
    cases pb with
    | false => exact pn_c1 s a b da db n m k R hC hA hB hF1 hF2 hR
    | true => exact pn_c2 s a b da db n m k R hC hA hB hF1 hF2 hR
  | true =>
    cases pb with
    | false =>
      rw [show (k && (true && (false && (R && (f1 && f2))))) = false by simp]
      exact pn_c3 s a b da db n m k R hC hA hB hF1 hF2 hR
    | true =>
      cases k with
      | false => exact pn_c4 s a b da db n m R hC hA hB hF1 hF2 hR
      | true =>
        cases R with
        | false => exact pn_c5 s a b da db n m hC hA hB hF1 hF2 hR
        | true => exact pn_c6 s a b da db n m f1 f2 hC hA hB hF1 hF2 hR h1 h2
theorem av_parse [Known] [KnownSc] [KnownPow] (s : List UInt8) (hs : s.length ≤ 1099511627776) : AP Tryd.prog 37 [.str s] (.tup [.agg (eC (if (parseE s).2 then (parseE s).1 else eidZ)), .int .i64 (if (parseE s).2 then 0 else 3)]) [] := by
  have hI := av_cutPre s ipnT (by omega) (by decide)
  have hD := av_cutPre s dtnT (by omega) (by decide)
  have l1 := preV_len ipnT s
  have l2 := preV_len dtnT s
  have hN := av_pn (preV ipnT s).1 (by omega)
  have hP := av_pp (preV dtnT s).1 (by omega)
  unfold parseE
  generalize pnV (preV ipnT s).1 = xn at *
  generalize ppV (preV dtnT s).1 = xp at *
  obtain ⟨⟨ni, nn, ns, nh, nd⟩, nb⟩ := xn
  obtain ⟨⟨qi, qn, qs, qh, qd⟩, qb⟩ := xp
  generalize (preV ipnT s).1 = r1 at *
  generalize (preV ipnT s).2 = k1 at *
  generalize (preV dtnT s).1 = r2 at *
  generalize (preV dtnT s).2 = k2 at *
  obtain ⟨z, h0⟩ : ∃ z, (s == noneT) = z := ⟨_, rfl⟩
  rw [h0]
  replace h0 : (s == [100, 116, 110, 58, 110, 111, 110, 101]) = z := h0
  replace hI : AP Tryd.prog _ [.str s, .str [105, 112, 110, 58]] _ [] := hI
  replace hD : AP Tryd.prog _ [.str s, .str [100, 116, 110, 58]] _ [] := hD
  replace hN : AP Tryd.prog _ [.str r1] (.tup [.agg [.bool ni, .int .u64 (nn : Int), .int .u64 (ns : Int), .str nh, .str nd], .bool nb]) [] := hN
  replace hP : AP Tryd.prog _ [.str r2] (.tup [.agg [.bool qi, .int .u64 (qn : Int), .int .u64 (qs : Int), .str qh, .str qd], .bool qb]) [] := hP
  cases z with
  | true =>
    refine AP.ofA ?_
    refine AC_of Tryd.func37 rfl Tryd.ntmps37 rfl rfl ?_
    repeat' (first | (apply AL_move; exact rfl; exact rfl) | (apply AL_assign; exact rfl; exact rfl) | (apply AL_store ttok; (iterate 8 exact rfl)) | refine AL_nil ?_ | refine AW_region ?_ | refine AW_seq' ?_ | (apply AW_condA; exact rfl; (first | with_reducible assumption | decide +kernel)) | refine then_norm ?_ | refine AW_ret ?_ | refine then_ret ?_ | (apply AL_build ttok; (iterate 6 exact rfl)) | (apply AL_allocZ ttok; (iterate 4 exact rfl)) | (apply AL_str; (iterate 5 exact rfl)))
    all_goals (apply endQ []; (repeat (first | exact ResL.nil | (apply ResL.cons; first | exact .tmp _ _ rfl | (apply res_n ttok; (iterate 6 exact rfl)) | (apply res_1 ttok; (iterate 5 exact rfl))))); (iterate 4 exact rfl))
    all_goals rfl
  | false =>
    cases k1 with
    | true =>
      cases nb
      all_goals
        refine AP.ofA ?_
        refine AC_of Tryd.func37 rfl Tryd.ntmps37 rfl rfl ?_
        repeat' (first | (apply AL_callPw (hI); kernel_rfl; (iterate 4 exact rfl)) | (apply AL_callPw (hN); kernel_rfl; (iterate 4 exact rfl)) | (apply AL_move; exact rfl; exact rfl) | (apply AL_assign; exact rfl; exact rfl) | (apply AL_loadn ttok; (iterate 7 exact rfl)) | (apply AL_store ttok; (iterate 8 exact rfl)) | (apply AL_not; exact rfl; exact rfl) | (apply AL_extract; (iterate 3 exact rfl)) | refine AL_nil ?_ | refine AW_region ?_ | refine AW_seq' ?_ | (apply AW_condA; exact rfl; (first | with_reducible assumption | decide +kernel)) | (apply AW_condB; exact rfl; (first | with_reducible assumption | decide +kernel)) | refine then_norm ?_ | refine AW_ret ?_ | refine then_ret ?_ | (apply AL_build ttok; (iterate 6 exact rfl)) | (apply AL_allocZ ttok; (iterate 4 exact rfl)) | (apply AL_str; (iterate 5 exact rfl)) | refine AW_skip ?_)
        all_goals (apply endQ []; (repeat (first | exact ResL.nil | (apply ResL.cons; first | exact .tmp _ _ rfl | (apply res_n ttok; (iterate 6 exact rfl)) | (apply res_1 ttok; (iterate 5 exact rfl))))); (iterate 4 exact rfl))
        all_goals rfl
    | false =>
      cases k2 with
      | false =>
        refine AP.ofA ?_
        refine AC_of Tryd.func37 rfl Tryd.ntmps37 rfl rfl ?_
        repeat' (first | (apply AL_callPw (hI); kernel_rfl; (iterate 4 exact rfl)) | (apply AL_callPw (hD); kernel_rfl; (iterate 4 exact rfl)) | (apply AL_move; exact rfl; exact rfl) | (apply AL_assign; exact rfl; exact rfl) | (apply AL_store ttok; (iterate 8 exact rfl)) | (apply AL_not; exact rfl; exact rfl) | (apply AL_extract; (iterate 3 exact rfl)) | refine AL_nil ?_ | refine AW_region ?_ | refine AW_seq' ?_ | (apply AW_condA; exact rfl; (first | with_reducible assumption | decide +kernel)) | (apply AW_condB; exact rfl; (first | with_reducible assumption | decide +kernel)) | refine then_norm ?_ | refine AW_ret ?_ | refine then_ret ?_ | (apply AL_build ttok; (iterate 6 exact rfl)) | (apply AL_allocZ ttok; (iterate 4 exact rfl)) | (apply AL_str; (iterate 5 exact rfl)) | refine AW_skip ?_)
        all_goals (apply endQ []; (repeat (first | exact ResL.nil | (apply ResL.cons; first | exact .tmp _ _ rfl | (apply res_n ttok; (iterate 6 exact rfl)) | (apply res_1 ttok; (iterate 5 exact rfl))))); (iterate 4 exact rfl))
        all_goals rfl
      | true =>
        cases qb
        all_goals
          refine AP.ofA ?_
          refine AC_of Tryd.func37 rfl Tryd.ntmps37 rfl rfl ?_
          repeat' (first | (apply AL_callPw (hI); kernel_rfl; (iterate 4 exact rfl)) | (apply AL_callPw (hD); kernel_rfl; (iterate 4 exact rfl)) | (apply AL_callPw (hP); kernel_rfl; (iterate 4 exact rfl)) | (apply AL_move; exact rfl; exact rfl) | (apply AL_assign; exact rfl; exact rfl) | (apply AL_loadn ttok; (iterate 7 exact rfl)) | (apply AL_store ttok; (iterate 8 exact rfl)) | (apply AL_not; exact rfl; exact rfl) | (apply AL_extract; (iterate 3 exact rfl)) | refine AL_nil ?_ | refine AW_region ?_ | refine AW_seq' ?_ | (apply AW_condA; exact rfl; (first | with_reducible assumption | decide +kernel)) | (apply AW_condB; exact rfl; (first | with_reducible assumption | decide +kernel)) | refine then_norm ?_ | refine AW_ret ?_ | refine then_ret ?_ | (apply AL_build ttok; (iterate 6 exact rfl)) | (apply AL_allocZ ttok; (iterate 4 exact rfl)) | (apply AL_str; (iterate 5 exact rfl)) | refine AW_skip ?_)
          all_goals (apply endQ []; (repeat (first | exact ResL.nil | (apply ResL.cons; first | exact .tmp _ _ rfl | (apply res_n ttok; (iterate 6 exact rfl)) | (apply res_1 ttok; (iterate 5 exact rfl))))); (iterate 4 exact rfl))
          all_goals rfl
end Go.Proofs.YtnihobjehelagaaDoor
end
/- Fixed calls of package eid, the rest; what must come of them. -/
section
open Go.RowKit Go.Pl Go.Av
namespace Go.Proofs.YtnihobjehelagaaDoor
set_option linter.unusedVariables false
set_option linter.unusedSimpArgs false
set_option maxHeartbeats 4000000
def eLoft : EidV := ⟨false, 0, 0, [108, 111, 102, 116], [105, 110]⟩
theorem cl_pu07 [Known] : AP Tryd.prog 108 [.str [48, 55], .int .i64 10, .int .i64 32] (.tup [.int .u64 7, .nili]) [] := by
  refine AP.ofA ?_
  refine AC_of Tryd.func108 rfl Tryd.ntmps108 rfl rfl ?_
  repeat' (first | (apply AL_inZ Tryd.func130 Tryd.ntmps130; exact rfl; exact rfl; kernel_rfl; (iterate 6 exact rfl)) | (apply in_ret; (repeat (first | exact ResL.nil | (apply ResL.cons; first | exact .tmp _ _ rfl | (apply res_n ttok; (iterate 6 exact rfl)) | (apply res_1 ttok; (iterate 5 exact rfl))))); exact rfl) | refine AW_loopN 80 ?_ | refine AN_succ ?_ | (apply AL_s2b ttok; (iterate 8 exact rfl)) | (apply AL_ifnil; exact rfl; kernel_rfl; exact rfl; exact rfl) | (apply AL_move; exact rfl; exact rfl) | (apply AL_assign; exact rfl; exact rfl) | (apply AL_bin; (iterate 5 exact rfl)) | (apply AL_convT ttok; (iterate 5 exact rfl)) | (apply AL_extract; (iterate 3 exact rfl)) | refine AL_nil ?_ | (apply AL_guardT; (iterate 3 exact rfl); (first | with_reducible assumption | decide +kernel)) | (apply AL_guardFt; (iterate 3 exact rfl); (first | with_reducible assumption | decide +kernel)) | (apply AL_pickT; exact rfl; (first | with_reducible assumption | decide +kernel); exact rfl; exact rfl) | (apply AL_pickF; exact rfl; (first | with_reducible assumption | decide +kernel); exact rfl; exact rfl) | refine AW_region ?_ | refine AW_seq' ?_ | (apply AW_condA; exact rfl; (first | with_reducible assumption | decide +kernel)) | (apply AW_condB; exact rfl; (first | with_reducible assumption | decide +kernel)) | refine then_norm ?_ | refine AW_block ?_ | refine AW_exit ?_ | refine AW_ret ?_ | (apply AL_len ttok; (iterate 4 exact rfl)) | (apply AL_eload1 ttok; (iterate 6 exact rfl)) | (apply AL_str; (iterate 5 exact rfl)) | refine AW_skip ?_ | (apply AL_idx ttok; (iterate 6 exact rfl); (first | with_reducible assumption | decide +kernel | exact Int.natCast_nonneg _ | (guard_target = (0:Int) ≤ (OfNat.ofNat _ : Int); decide) | rotate_left); (first | with_reducible assumption | decide +kernel | exact rfl); (first | exact uniB_ok rfl | with_reducible assumption | decide +kernel | rotate_left)) | (apply AL_shl; exact rfl; exact rfl; (first | with_reducible assumption | decide +kernel | exact Int.natCast_nonneg _ | (exact (by decide)) | rotate_left); exact rfl))
  all_goals (apply endQ []; (repeat (first | exact ResL.nil | (apply ResL.cons; first | exact .tmp _ _ rfl | (apply res_n ttok; (iterate 6 exact rfl)) | (apply res_1 ttok; (iterate 5 exact rfl))))); (iterate 4 exact rfl))
  all_goals rfl
theorem cl_pn07 [Known] : AP Tryd.prog 73 [.str [48, 55, 46, 49]] (.tup [.agg (eC e71), .bool false]) [] := by
  refine AP.ofA ?_
  refine AC_of Tryd.func73 rfl Tryd.ntmps73 rfl rfl ?_
  repeat' (first | (apply AL_callPw (cl_pu07); kernel_rfl; (iterate 4 exact rfl)) | (apply AL_callPw (cl_pu1); kernel_rfl; (iterate 4 exact rfl)) | (apply AL_callPw (av_ixb _ _); kernel_rfl; (iterate 4 exact rfl)) | (apply AL_callPw (av_eRight e71); kernel_rfl; (iterate 4 exact rfl)) | (apply AL_inZ Tryd.func107 Tryd.ntmps107; exact rfl; exact rfl; kernel_rfl; (iterate 6 exact rfl)) | (apply AL_inZ Tryd.func129 Tryd.ntmps129; exact rfl; exact rfl; kernel_rfl; (iterate 6 exact rfl)) | (apply AL_inZ Tryd.func140 Tryd.ntmps140; exact rfl; exact rfl; kernel_rfl; (iterate 6 exact rfl)) | (apply AL_inZ Tryd.func70 Tryd.ntmps70; exact rfl; exact rfl; kernel_rfl; (iterate 6 exact rfl)) | (apply AL_inZ Tryd.func105 Tryd.ntmps105; exact rfl; exact rfl; kernel_rfl; (iterate 6 exact rfl)) | (apply AL_inZ Tryd.func124 Tryd.ntmps124; exact rfl; exact rfl; kernel_rfl; (iterate 6 exact rfl)) | (apply in_ret; (repeat (first | exact ResL.nil | (apply ResL.cons; first | exact .tmp _ _ rfl | (apply res_n ttok; (iterate 6 exact rfl)) | (apply res_1 ttok; (iterate 5 exact rfl))))); exact rfl) | (apply AL_ifnil; exact rfl; kernel_rfl; exact rfl; exact rfl) | (apply AL_idxs ttok; (iterate 5 exact rfl); (first | exact Int.natCast_nonneg _ | decide +kernel); exact rfl) | (apply AL_sliceS ttok; (iterate 4 exact rfl); (first | exact .dft _ | exact .lit _ _ _ _ rfl (by decide +kernel)); (first | exact .dft _ | exact .lit _ _ _ _ rfl (by decide +kernel)); decide +kernel; decide +kernel; exact rfl) | (apply AL_move; exact rfl; exact rfl) | (apply AL_assign; exact rfl; exact rfl) | (apply AL_bin; (iterate 5 exact rfl)) | (apply AL_loadn ttok; (iterate 7 exact rfl)) | (apply AL_store ttok; (iterate 8 exact rfl)) | (apply AL_convT ttok; (iterate 5 exact rfl)) | (apply AL_extract; (iterate 3 exact rfl)) | refine AL_nil ?_ | (apply AL_guardT; (iterate 3 exact rfl); (first | with_reducible assumption | decide +kernel)) | (apply AL_guardFt; (iterate 3 exact rfl); (first | with_reducible assumption | decide +kernel)) | (apply AL_pickT; exact rfl; (first | with_reducible assumption | decide +kernel); exact rfl; exact rfl) | (apply AL_pickF; exact rfl; (first | with_reducible assumption | decide +kernel); exact rfl; exact rfl) | refine AW_region ?_ | refine AW_seq' ?_ | (apply AW_condA; exact rfl; (first | with_reducible assumption | decide +kernel)) | (apply AW_condB; exact rfl; (first | with_reducible assumption | decide +kernel)) | refine then_norm ?_ | refine AW_block ?_ | refine AW_ret ?_ | (apply AL_lens ttok; (iterate 4 exact rfl)) | (apply AL_build ttok; (iterate 6 exact rfl)) | (apply AL_allocZ ttok; (iterate 4 exact rfl)) | (apply AL_str; (iterate 5 exact rfl)) | (apply AW_drawE 10 hmix; (decide +kernel); (kernel_rfl); (kernel_rfl); (kernel_rfl); exact rfl; exact rfl) | (apply AW_drawE 27 hmix; (decide +kernel); (kernel_rfl); (kernel_rfl); (kernel_rfl); exact rfl; exact rfl) | (apply AE_consZ; (iterate 4 exact rfl)) | exact AE.nil _ _ _ _ | (apply AEk_puT; exact rfl) | (apply AEk_ef; exact rfl) | (apply AOt_mk; exact rfl; exact rfl; (decide +kernel); exact rfl) | (apply AO_puT; exact rfl) | (apply AO_ef; exact rfl) | exact AO.nil _ _ _ | (apply AOs_skip; (decide +kernel)) | (apply AOs_goZ; (iterate 3 exact rfl)) | exact AOs.nil | exact qY_ok rfl rfl | exact qY_efn rfl)
  all_goals (apply endQ []; (repeat (first | exact ResL.nil | (apply ResL.cons; first | exact .tmp _ _ rfl | (apply res_n ttok; (iterate 6 exact rfl)) | (apply res_1 ttok; (iterate 5 exact rfl))))); (iterate 4 exact rfl))
  all_goals rfl
theorem cl_parse07 [Known] : AP Tryd.prog 37 [.str [105, 112, 110, 58, 48, 55, 46, 49]] (.tup [.agg (eC eidZ), .int .i64 3]) [] := by
  refine AP.ofA ?_
  refine AC_of Tryd.func37 rfl Tryd.ntmps37 rfl rfl ?_
  repeat' (first | (apply AL_callPw (cl_pn07); kernel_rfl; (iterate 4 exact rfl)) | (apply AL_inZ Tryd.func72 Tryd.ntmps72; exact rfl; exact rfl; kernel_rfl; (iterate 6 exact rfl)) | (apply AL_inZ Tryd.func106 Tryd.ntmps106; exact rfl; exact rfl; kernel_rfl; (iterate 6 exact rfl)) | (apply AL_inZ Tryd.func128 Tryd.ntmps128; exact rfl; exact rfl; kernel_rfl; (iterate 6 exact rfl)) | (apply in_ret; (repeat (first | exact ResL.nil | (apply ResL.cons; first | exact .tmp _ _ rfl | (apply res_n ttok; (iterate 6 exact rfl)) | (apply res_1 ttok; (iterate 5 exact rfl))))); exact rfl) | (apply AL_sliceS ttok; (iterate 4 exact rfl); (first | exact .dft _ | exact .lit _ _ _ _ rfl (by decide +kernel)); (first | exact .dft _ | exact .lit _ _ _ _ rfl (by decide +kernel)); decide +kernel; decide +kernel; exact rfl) | (apply AL_move; exact rfl; exact rfl) | (apply AL_assign; exact rfl; exact rfl) | (apply AL_bin; (iterate 5 exact rfl)) | (apply AL_store ttok; (iterate 8 exact rfl)) | (apply AL_not; exact rfl; exact rfl) | (apply AL_extract; (iterate 3 exact rfl)) | refine AL_nil ?_ | (apply AL_guardT; (iterate 3 exact rfl); (first | with_reducible assumption | decide +kernel)) | (apply AL_pickT; exact rfl; (first | with_reducible assumption | decide +kernel); exact rfl; exact rfl) | refine AW_region ?_ | refine AW_seq' ?_ | (apply AW_condA; exact rfl; (first | with_reducible assumption | decide +kernel)) | (apply AW_condB; exact rfl; (first | with_reducible assumption | decide +kernel)) | refine then_norm ?_ | refine AW_ret ?_ | refine then_ret ?_ | (apply AL_lens ttok; (iterate 4 exact rfl)) | (apply AL_build ttok; (iterate 6 exact rfl)) | (apply AL_allocZ ttok; (iterate 4 exact rfl)) | (apply AL_str; (iterate 5 exact rfl)) | refine AW_skip ?_)
  all_goals (apply endQ []; (repeat (first | exact ResL.nil | (apply ResL.cons; first | exact .tmp _ _ rfl | (apply res_n ttok; (iterate 6 exact rfl)) | (apply res_1 ttok; (iterate 5 exact rfl))))); (iterate 4 exact rfl))
  all_goals rfl
theorem cl_parseNone [Known] : AP Tryd.prog 37 [.str [100, 116, 110, 58, 110, 111, 110, 101]] (.tup [.agg (eC eidZ), .int .i64 0]) [] := by
  refine AP.ofA ?_
  refine AC_of Tryd.func37 rfl Tryd.ntmps37 rfl rfl ?_
  repeat' (first | (apply AL_move; exact rfl; exact rfl) | (apply AL_assign; exact rfl; exact rfl) | (apply AL_store ttok; (iterate 8 exact rfl)) | refine AL_nil ?_ | refine AW_region ?_ | refine AW_seq' ?_ | (apply AW_condA; exact rfl; (first | with_reducible assumption | decide +kernel)) | refine then_norm ?_ | refine AW_ret ?_ | refine then_ret ?_ | (apply AL_build ttok; (iterate 6 exact rfl)) | (apply AL_allocZ ttok; (iterate 4 exact rfl)) | (apply AL_str; (iterate 5 exact rfl)))
  all_goals (apply endQ []; (repeat (first | exact ResL.nil | (apply ResL.cons; first | exact .tmp _ _ rfl | (apply res_n ttok; (iterate 6 exact rfl)) | (apply res_1 ttok; (iterate 5 exact rfl))))); (iterate 4 exact rfl))
  all_goals rfl
theorem cl_textLoft [Known] : AP Tryd.prog 36 [.agg (eC eLoft)] (.tup [.str [100, 116, 110, 58, 47, 47, 108, 111, 102, 116, 47, 105, 110], .int .i64 0]) [] := by
  refine AP.ofA ?_
  refine AC_of Tryd.func36 rfl Tryd.ntmps36 rfl rfl ?_
  repeat' (first | (apply AL_callPw (av_eRight eLoft); kernel_rfl; (iterate 4 exact rfl)) | (apply AL_cat; exact rfl; exact rfl; decide; exact rfl) | (apply AL_inZ Tryd.func71 Tryd.ntmps71; exact rfl; exact rfl; kernel_rfl; (iterate 6 exact rfl)) | (apply in_ret; (repeat (first | exact ResL.nil | (apply ResL.cons; first | exact .tmp _ _ rfl | (apply res_n ttok; (iterate 6 exact rfl)) | (apply res_1 ttok; (iterate 5 exact rfl))))); exact rfl) | (apply AL_assign; exact rfl; exact rfl) | (apply AL_load1 ttok; (iterate 6 exact rfl)) | (apply AL_loadn ttok; (iterate 7 exact rfl)) | (apply AL_fieldAddr ttok; (iterate 7 exact rfl)) | (apply AL_boxZ; (iterate 5 exact rfl)) | (apply AL_not; exact rfl; exact rfl) | refine AL_nil ?_ | refine AW_region ?_ | refine AW_seq' ?_ | (apply AW_condB; exact rfl; (first | with_reducible assumption | decide +kernel)) | refine then_norm ?_ | refine AW_block ?_ | refine AW_ret ?_ | (apply AL_build ttok; (iterate 6 exact rfl)) | (apply AL_eqS ttok; (iterate 4 exact rfl); (kernel_rfl); (kernel_rfl); (iterate 3 exact rfl)) | refine AW_skip ?_)
  all_goals (apply endQ []; (repeat (first | exact ResL.nil | (apply ResL.cons; first | exact .tmp _ _ rfl | (apply res_n ttok; (iterate 6 exact rfl)) | (apply res_1 ttok; (iterate 5 exact rfl))))); (iterate 4 exact rfl))
  all_goals rfl
end Go.Proofs.YtnihobjehelagaaDoor
end
/- Which name is less: an order. -/
section
open Go.RowKit Go.Pl Go.Av
namespace Go.Proofs.YtnihobjehelagaaDoor
set_option linter.unusedVariables false
set_option linter.unusedSimpArgs false
/-! texts -/
theorem bl_irr : ∀ x : List UInt8, Op.bytesLess x x = false
  | [] => rfl
  | a :: x => by simp [Op.bytesLess, bl_irr x]
theorem bl_tri : ∀ x y : List UInt8, x ≠ y → (Op.bytesLess x y = true ∧ Op.bytesLess y x = false) ∨ (Op.bytesLess x y = false ∧ Op.bytesLess y x = true)
  | [], [], h => (h rfl).elim
  | [], b :: y, _ => .inl ⟨rfl, rfl⟩
  | a :: x, [], _ => .inr ⟨rfl, rfl⟩
  | a :: x, b :: y, h => by
    simp only [Op.bytesLess]
    by_cases hab : a = b
    · subst hab
      have := bl_tri x y (fun e => h (by rw [e]))
      simpa using this
    · have h1 : (a == b) = false := by simpa using hab
      have h2 : (b == a) = false := by simpa using fun e : b = a => hab e.symm
      simp only [h1, h2, Bool.false_and, Bool.or_false]
      by_cases hlt : a < b
      · exact .inl ⟨by simpa using hlt, by simpa using UInt8.le_of_lt hlt⟩
      · exact .inr ⟨by simpa using hlt, by
          rw [UInt8.not_lt] at hlt
          simpa using UInt8.lt_of_le_of_ne hlt (fun e => hab e.symm)⟩
theorem bl_trans : ∀ x y z : List UInt8, Op.bytesLess x y = true → Op.bytesLess y z = true → Op.bytesLess x z = true
  | _, [], _, h, _ => by simp [Op.bytesLess] at h
  | _, _ :: _, [], _, h => by simp [Op.bytesLess] at h
  | [], _ :: _, _ :: _, _, _ => rfl
  | a :: x, b :: y, c :: z, h1, h2 => by
    simp only [Op.bytesLess, Bool.or_eq_true, Bool.and_eq_true, decide_eq_true_eq, beq_iff_eq] at h1 h2 ⊢
    rcases h1 with h1 | ⟨rfl, h1⟩
    · rcases h2 with h2 | ⟨rfl, h2⟩
      · exact .inl (UInt8.lt_trans h1 h2)
      · exact .inl h1
    · rcases h2 with h2 | ⟨rfl, h2⟩
      · exact .inl h2
      · exact .inr ⟨rfl, bl_trans x y z h1 h2⟩
/-- a strict order on keys -/
structure Key where
  t : Nat
  q : Nat
  c : Int
  n : Nat
  s : Nat
  h : List UInt8
  d : List UInt8
def keyOf (x : EidV) (t q : Nat) : Key := ⟨t, q, classN x, x.n, x.s, x.h, x.d⟩
/-- less, said plainly -/
def KLt (a b : Key) : Prop :=
  a.t < b.t ∨ (a.t = b.t ∧ (a.q < b.q ∨ (a.q = b.q ∧ (a.c < b.c ∨ (a.c = b.c ∧ (a.n < b.n ∨ (a.n = b.n ∧ (a.s < b.s ∨ (a.s = b.s ∧ ((a.h ≠ b.h ∧ Op.bytesLess a.h b.h = true) ∨ (a.h = b.h ∧ Op.bytesLess a.d b.d = true)))))))))))
theorem less_iff (a b : EidV) : lessE a b = true ↔ KLt (keyOf a 0 0) (keyOf b 0 0) := by
  unfold KLt keyOf lessE
  dsimp only
  by_cases h3 : classN a = classN b
  · by_cases h4 : a.n = b.n
    · by_cases h5 : a.s = b.s
      · by_cases h6 : a.h = b.h
        · simp [h3, h4, h5, h6]
        · simp [h3, h4, h5, h6]
      · have : ¬ (a.s : Int) = b.s := by omega
        simp [h3, h4, h5, this]
    · have : ¬ (a.n : Int) = b.n := by omega
      simp [h3, h4, this]
  · simp [h3]
theorem klt_irr (a : Key) : ¬ KLt a a := by
  unfold KLt
  simp [bl_irr]
theorem klt_asym {a b : Key} (h : KLt a b) : ¬ KLt b a := by
  unfold KLt at h ⊢
  intro k
  rcases h with h | ⟨h1, h | ⟨h2, h | ⟨h3, h | ⟨h4, h | ⟨h5, ⟨h6, h⟩ | ⟨h6, h⟩⟩⟩⟩⟩⟩
  · omega
  · omega
  · omega
  · omega
  · omega
  · rcases bl_tri _ _ h6 with ⟨_, e⟩ | ⟨e, _⟩
    · simp only [h1, h2, h3, h4, h5] at k
      simp only [Nat.lt_irrefl, Int.lt_irrefl, false_or, true_and] at k
      rcases k with ⟨_, k⟩ | ⟨k, _⟩
      · rw [e] at k; cases k
      · exact h6 k.symm
    · rw [e] at h; cases h
  · have hd : a.d ≠ b.d := fun e => by rw [e, bl_irr] at h; cases h
    simp only [h1, h2, h3, h4, h5, h6] at k
    simp only [Nat.lt_irrefl, Int.lt_irrefl, false_or, true_and, ne_eq, not_true_eq_false, false_and] at k
    rcases bl_tri _ _ hd with ⟨_, e⟩ | ⟨e, _⟩
    · rw [e] at k; cases k
    · rw [e] at h; cases h
theorem klt_tri (a b : Key) (h : a ≠ b) : KLt a b ∨ KLt b a := by
  unfold KLt
  by_cases h1 : a.t = b.t
  · by_cases h2 : a.q = b.q
    · by_cases h3 : a.c = b.c
      · by_cases h4 : a.n = b.n
        · by_cases h5 : a.s = b.s
          · by_cases h6 : a.h = b.h
            · have hd : a.d ≠ b.d := fun h7 => h (by cases a; cases b; simp_all)
              rcases bl_tri _ _ hd with ⟨e, _⟩ | ⟨_, e⟩ <;> simp [h1, h2, h3, h4, h5, h6, e]
            · have h6' : ¬ b.h = a.h := fun e => h6 e.symm
              rcases bl_tri _ _ h6 with ⟨e, _⟩ | ⟨_, e⟩ <;> simp [h1, h2, h3, h4, h5, h6, h6', e]
          · omega
        · omega
      · omega
    · omega
  · omega
theorem klt_trans {a b c : Key} (h : KLt a b) (k : KLt b c) : KLt a c := by
  unfold KLt at *
  rcases h with h | ⟨h1, h | ⟨h2, h | ⟨h3, h | ⟨h4, h | ⟨h5, ⟨h6, h⟩ | ⟨h6, h⟩⟩⟩⟩⟩⟩
  · omega
  · omega
  · omega
  · omega
  · omega
  · rcases k with k | ⟨k1, k | ⟨k2, k | ⟨k3, k | ⟨k4, k | ⟨k5, ⟨k6, k⟩ | ⟨k6, k⟩⟩⟩⟩⟩⟩
    · omega
    · omega
    · omega
    · omega
    · omega
    · have e := bl_trans _ _ _ h k
      have hne : a.h ≠ c.h := fun e2 => by rw [e2, bl_irr] at e; cases e
      exact .inr ⟨h1.trans k1, .inr ⟨h2.trans k2, .inr ⟨h3.trans k3, .inr ⟨h4.trans k4, .inr ⟨h5.trans k5, .inl ⟨hne, e⟩⟩⟩⟩⟩⟩
    · exact .inr ⟨h1.trans k1, .inr ⟨h2.trans k2, .inr ⟨h3.trans k3, .inr ⟨h4.trans k4, .inr ⟨h5.trans k5, .inl (by rw [← k6]; exact ⟨h6, h⟩)⟩⟩⟩⟩⟩
  · rcases k with k | ⟨k1, k | ⟨k2, k | ⟨k3, k | ⟨k4, k | ⟨k5, ⟨k6, k⟩ | ⟨k6, k⟩⟩⟩⟩⟩⟩
    · omega
    · omega
    · omega
    · omega
    · omega
    · exact .inr ⟨h1.trans k1, .inr ⟨h2.trans k2, .inr ⟨h3.trans k3, .inr ⟨h4.trans k4, .inr ⟨h5.trans k5, .inl (by rw [h6]; exact ⟨k6, k⟩)⟩⟩⟩⟩⟩
    · exact .inr ⟨h1.trans k1, .inr ⟨h2.trans k2, .inr ⟨h3.trans k3, .inr ⟨h4.trans k4, .inr ⟨h5.trans k5, .inr ⟨h6.trans k6, bl_trans _ _ _ h k⟩⟩⟩⟩⟩⟩
/-- the cells are the key's -/
theorem key_inj {a b : EidV} {t q t' q' : Nat} (h : keyOf a t q = keyOf b t' q') : a = b ∧ t = t' ∧ q = q' := by
  obtain ⟨i, n, s, hh, d⟩ := a
  obtain ⟨i', n', s', hh', d'⟩ := b
  simp only [keyOf, Key.mk.injEq] at h
  obtain ⟨h1, h2, h3, rfl, rfl, rfl, rfl⟩ := h
  refine ⟨?_, h1, h2⟩
  have : i = i' := by
    cases i <;> cases i' <;> simp [classN, isZ] at h3 ⊢
    · split at h3 <;> cases h3
    · split at h3 <;> cases h3
  rw [this]
end Go.Proofs.YtnihobjehelagaaDoor
end
/- Package eid: what must come of the law's fixed calls; the order of names. -/
section
open Go.RowKit Go.Pl Go.Av
namespace Go.Proofs.YtnihobjehelagaaDoor
set_option linter.unusedVariables false
set_option linter.unusedSimpArgs false
set_option maxHeartbeats 4000000
theorem av_aliveE [Known] : AP Tryd.prog 34 [] (.bool true) [] := by
  have h1 := cl_parse71
  have h2 := cl_textLoft
  have h3 := cl_parse07
  have h4 := cl_parseNone
  have h5 := av_eWrite e71
  have h6 := av_less eidZ e71
  rw [show lessE eidZ e71 = true by decide] at h6
  replace h1 : AP Tryd.prog _ [.str [105, 112, 110, 58, 55, 46, 49]] (.tup [.agg [.bool true, .int .u64 7, .int .u64 1, .str [], .str []], .int .i64 0]) [] := h1
  replace h3 : AP Tryd.prog _ [.str [105, 112, 110, 58, 48, 55, 46, 49]] (.tup [.agg [.bool false, .int .u64 0, .int .u64 0, .str [], .str []], .int .i64 3]) [] := h3
  replace h4 : AP Tryd.prog _ [.str [100, 116, 110, 58, 110, 111, 110, 101]] (.tup [.agg [.bool false, .int .u64 0, .int .u64 0, .str [], .str []], .int .i64 0]) [] := h4
  rw [show eRight e71 = true by decide, if_pos rfl, if_pos rfl] at h5
  replace h5 : AP Tryd.prog _ [.agg [.bool true, .int .u64 7, .int .u64 1, .str [], .str []]] (.tup [.agg [.int .i64 4, .int .u64 0, .sl .ext [], .sl .ext [.agg [.int .i64 0, .int .u64 2, .sl [], .sl []], .agg [.int .i64 4, .int .u64 0, .sl [], .sl [.agg [.int .i64 0, .int .u64 7, .sl [], .sl []], .agg [.int .i64 0, .int .u64 1, .sl [], .sl []]]]]], .int .i64 0]) [] := h5
  replace h6 : AP Tryd.prog _ [.agg [.bool false, .int .u64 0, .int .u64 0, .str [], .str []], .agg [.bool true, .int .u64 7, .int .u64 1, .str [], .str []]] (.bool true) [] := h6
  refine AP.ofA ?_
  refine AC_of Tryd.func34 rfl Tryd.ntmps34 rfl rfl ?_
  repeat' (first | (apply AL_callPw (h1); kernel_rfl; (iterate 4 exact rfl)) | (apply AL_callPw (h2); kernel_rfl; (iterate 4 exact rfl)) | (apply AL_callPw (h3); kernel_rfl; (iterate 4 exact rfl)) | (apply AL_callPw (h4); kernel_rfl; (iterate 4 exact rfl)) | (apply AL_callPw (h5); kernel_rfl; (iterate 4 exact rfl)) | (apply AL_callPw (h6); kernel_rfl; (iterate 4 exact rfl)) | (apply AL_move; exact rfl; exact rfl) | (apply AL_assign; exact rfl; exact rfl) | (apply AL_bin; (iterate 5 exact rfl)) | (apply AL_load1 ttok; (iterate 6 exact rfl)) | (apply AL_loadn ttok; (iterate 7 exact rfl)) | (apply AL_fieldAddr ttok; (iterate 7 exact rfl)) | (apply AL_store ttok; (iterate 8 exact rfl)) | (apply AL_extract; (iterate 3 exact rfl)) | refine AL_nil ?_ | (apply AL_guardT; (iterate 3 exact rfl); (first | with_reducible assumption | decide +kernel)) | (apply AL_pickT; exact rfl; (first | with_reducible assumption | decide +kernel); exact rfl; exact rfl) | refine AW_region ?_ | refine AW_seq' ?_ | refine then_norm ?_ | refine AW_ret ?_ | (apply AL_len ttok; (iterate 4 exact rfl)) | (apply AL_build ttok; (iterate 6 exact rfl)) | (apply AL_allocZ ttok; (iterate 4 exact rfl)) | (apply AL_str; (iterate 5 exact rfl)) | (apply AL_eqS ttok; (iterate 4 exact rfl); (kernel_rfl); (kernel_rfl); (iterate 3 exact rfl)))
  all_goals (apply endQ []; (repeat (first | exact ResL.nil | (apply ResL.cons; first | exact .tmp _ _ rfl | (apply res_n ttok; (iterate 6 exact rfl)) | (apply res_1 ttok; (iterate 5 exact rfl))))); (iterate 4 exact rfl))
  all_goals rfl
end Go.Proofs.YtnihobjehelagaaDoor
end
/- Arguments: structs of five fields; names and numbers of bundles. -/
section
open Go.RowKit Go.Pl
namespace Go.Pl
set_option linter.unusedSimpArgs false
set_option linter.unusedVariables false
variable {P : Program} {t : TypeId}
theorem opens_prod5 {α β γ δ ε : Type} {R0 : Rep α} {R1 : Rep β} {R2 : Rep γ} {R3 : Rep δ} {R4 : Rep ε} {fs : Array Field} {f0 f1 f2 f3 f4 : Field} (hs : P.underlying t = some (.struct fs)) (hfs : fs = #[f0, f1, f2, f3, f4])
    (h00 : f0.offset = 0) (h01 : f1.offset = R0.n) (h02 : f2.offset = R0.n + R1.n) (h03 : f3.offset = R0.n + R1.n + R2.n) (h04 : f4.offset = R0.n + R1.n + R2.n + R3.n)
    (hc0 : P.cellsOf f0.type = R0.n) (hc1 : P.cellsOf f1.type = R1.n) (hc2 : P.cellsOf f2.type = R2.n) (hc3 : P.cellsOf f3.type = R3.n) (hc4 : P.cellsOf f4.type = R4.n) (hc : P.cellsOf t = R0.n + (R1.n + (R2.n + (R3.n + R4.n))))
    (h0 : Opens P f0.type R0) (h1 : Opens P f1.type R1) (h2 : Opens P f2.type R2) (h3 : Opens P f3.type R3) (h4 : Opens P f4.type R4) : Opens P t (R0.prod (R1.prod (R2.prod (R3.prod R4)))) := by
  intro H enc W spare held fuel cs y h
  obtain ⟨xs, n, _, _, hl, hxl, hg⟩ := DataW.trod_struct hs h
  subst hfs
  have e0 := hg 0 f0 rfl
  have e1 := hg 1 f1 rfl
  have e2 := hg 2 f2 rfl
  have e3 := hg 3 f3 rfl
  have e4 := hg 4 f4 rfl
  rw [h00, hc0, List.drop_zero] at e0
  rw [h01, hc1] at e1
  rw [h02, hc2] at e2
  rw [h03, hc3] at e3
  rw [h04, hc4] at e4
  have hn : xs.length = 5 := hxl
  have hx0 : xs[0]? = some (xs[0]'(by omega)) := List.getElem?_eq_getElem (by omega)
  have hx1 : xs[1]? = some (xs[1]'(by omega)) := List.getElem?_eq_getElem (by omega)
  have hx2 : xs[2]? = some (xs[2]'(by omega)) := List.getElem?_eq_getElem (by omega)
  have hx3 : xs[3]? = some (xs[3]'(by omega)) := List.getElem?_eq_getElem (by omega)
  have hx4 : xs[4]? = some (xs[4]'(by omega)) := List.getElem?_eq_getElem (by omega)
  obtain ⟨x0, k0⟩ := h0 H enc W spare held n _ _ (e0.trans hx0)
  obtain ⟨x1, k1⟩ := h1 H enc W spare held n _ _ (e1.trans hx1)
  obtain ⟨x2, k2⟩ := h2 H enc W spare held n _ _ (e2.trans hx2)
  obtain ⟨x3, k3⟩ := h3 H enc W spare held n _ _ (e3.trans hx3)
  obtain ⟨x4, k4⟩ := h4 H enc W spare held n _ _ (e4.trans hx4)
  refine ⟨(x0, x1, x2, x3, x4), cs.take R0.n, cs.drop R0.n, (List.take_append_drop _ _).symm, k0, (cs.drop R0.n).take R1.n, (cs.drop R0.n).drop R1.n, (List.take_append_drop _ _).symm, k1,
    ((cs.drop R0.n).drop R1.n).take R2.n, ((cs.drop R0.n).drop R1.n).drop R2.n, (List.take_append_drop _ _).symm, ?_, (((cs.drop R0.n).drop R1.n).drop R2.n).take R3.n, (((cs.drop R0.n).drop R1.n).drop R2.n).drop R3.n, (List.take_append_drop _ _).symm, ?_, ?_⟩
  · rw [List.drop_drop]; exact k2
  · rw [List.drop_drop, List.drop_drop, show R0.n + (R1.n + R2.n) = R0.n + R1.n + R2.n from by omega]; exact k3
  · rw [List.drop_drop, List.drop_drop, List.drop_drop, show R0.n + (R1.n + (R2.n + R3.n)) = R0.n + R1.n + R2.n + R3.n from by omega]
    rw [List.take_of_length_le (i := R4.n) (by rw [List.length_drop]; omega)] at k4
    exact k4
/-- a name's cells -/
abbrev RE : Rep (Bool × Nat × Nat × List UInt8 × List UInt8) := Rep.bool.prod (Rep.u64.prod (Rep.u64.prod (Rep.str.prod Rep.str)))
/-- a number's cells -/
abbrev RI : Rep ((Bool × Nat × Nat × List UInt8 × List UInt8) × Nat × Nat) := RE.prod (Rep.u64.prod Rep.u64)
end Go.Pl
end
/- Arguments of this seat: names and numbers of bundles, opened. -/
section
open Go.RowKit Go.Pl
namespace Go.Proofs.YtnihobjehelagaaDoor
theorem openE : Opens Tryd.prog 51 RE :=
  opens_prod5 Tryd.underlying51 rfl rfl rfl rfl rfl rfl (by kernel_rfl) (by kernel_rfl) (by kernel_rfl) (by kernel_rfl) (by kernel_rfl) (by kernel_rfl) (opens_bool Tryd.underlying4) (opens_u64 Tryd.underlying22) (opens_u64 Tryd.underlying22) (opens_str Tryd.underlying9) (opens_str Tryd.underlying9)
theorem openI : Opens Tryd.prog 53 RI :=
  opens_prod3 Tryd.underlying53 rfl (by kernel_rfl) rfl rfl rfl (by kernel_rfl) (by kernel_rfl) (by kernel_rfl) openE (opens_u64 Tryd.underlying22) (opens_u64 Tryd.underlying22)
end Go.Proofs.YtnihobjehelagaaDoor
end
/- EidOrder: the law's walk. -/
section
open Go.RowKit Go.Pl Go.Av
namespace Go.Proofs.YtnihobjehelagaaDoor
set_option linter.unusedVariables false
set_option linter.unusedSimpArgs false
set_option maxHeartbeats 4000000
abbrev eqE (a b : EidV) : Bool := a.i == b.i && ((a.n : Int) == (b.n : Int) && ((a.s : Int) == (b.s : Int) && (a.h == b.h && (a.d == b.d && true))))
theorem eqE_iff {a b : EidV} : eqE a b = true ↔ a = b := by
  obtain ⟨i, n, s, h, d⟩ := a
  obtain ⟨i', n', s', h', d'⟩ := b
  simp only [eqE, Bool.and_eq_true, beq_iff_eq, EidV.mk.injEq]
  constructor
  · rintro ⟨h1, h2, h3, h4, h5, _⟩
    exact ⟨h1, by omega, by omega, h4, h5⟩
  · rintro ⟨h1, h2, h3, h4, h5⟩
    exact ⟨h1, by omega, by omega, h4, h5, trivial⟩
theorem less_irr (a : EidV) : lessE a a = false := by
  cases h : lessE a a with
  | false => rfl
  | true => exact (klt_irr _ ((less_iff a a).1 h)).elim
theorem less_asym {a b : EidV} (h : lessE a b = true) : lessE b a = false := by
  cases k : lessE b a with
  | false => rfl
  | true => exact (klt_asym ((less_iff _ _).1 h) ((less_iff _ _).1 k)).elim
theorem less_trans {a b c : EidV} (h : lessE a b = true) (k : lessE b c = true) : lessE a c = true :=
  (less_iff _ _).2 (klt_trans ((less_iff _ _).1 h) ((less_iff _ _).1 k))
theorem less_eq {a b : EidV} : (lessE a b != lessE b a) = !(eqE a b) := by
  cases he : eqE a b with
  | true =>
    obtain rfl := eqE_iff.1 he
    simp
  | false =>
    have hne : keyOf a 0 0 ≠ keyOf b 0 0 := fun e => by
      have := (key_inj e).1
      rw [eqE_iff.2 this] at he
      cases he
    rcases klt_tri _ _ hne with h | h
    · have h1 := (less_iff _ _).2 h
      rw [h1, less_asym h1]; rfl
    · have h1 := (less_iff _ _).2 h
      rw [h1, less_asym h1]; rfl
theorem av_eidOrder [Known] (x y z : EidV) : AP Tryd.prog 8 [.agg (eC x), .agg (eC y), .agg (eC z)] (.bool true) [] := by
  refine AP.ofA ?_
  refine AC_of Tryd.func8 rfl Tryd.ntmps8 rfl rfl ?_
  obtain ⟨A, hA⟩ : ∃ A, lessE x y = A := ⟨_, rfl⟩
  obtain ⟨B, hB⟩ : ∃ B, lessE y x = B := ⟨_, rfl⟩
  obtain ⟨C, hC⟩ : ∃ C, lessE y z = C := ⟨_, rfl⟩
  obtain ⟨E, hE⟩ : ∃ E, lessE x z = E := ⟨_, rfl⟩
  have hX := less_irr x
  have F1 : ((!(A == B)) == (!(eqE x y))) = true := by
    have := @less_eq x y
    rw [hA, hB] at this
    show ((A != B) == _) = true
    rw [this]; simp
  have F2 : A = true → B = false := fun h => by rw [← hB]; exact less_asym (hA.trans h)
  have F3 : A = true → C = true → E = true := fun h k => by rw [← hE]; exact less_trans (hA.trans h) (hC.trans k)
  have c1 := av_less x y
  have c2 := av_less y x
  have c3 := av_less y z
  have c4 := av_less x z
  have c5 := av_less x x
  rw [hA] at c1
  rw [hB] at c2
  rw [hC] at c3
  rw [hE] at c4
  rw [hX] at c5
  clear hA hB hC hE hX
  cases A with
  | false =>
    repeat' (first | (apply AL_callPw (av_aliveE); kernel_rfl; (iterate 4 exact rfl)) | (apply AL_callPw (av_eRight x); kernel_rfl; (iterate 4 exact rfl)) | (apply AL_callPw (av_eRight y); kernel_rfl; (iterate 4 exact rfl)) | (apply AL_callPw (av_eRight z); kernel_rfl; (iterate 4 exact rfl)) | (apply AL_callPw (c1); kernel_rfl; (iterate 4 exact rfl)) | (apply AL_callPw (c2); kernel_rfl; (iterate 4 exact rfl)) | (apply AL_callPw (c3); kernel_rfl; (iterate 4 exact rfl)) | (apply AL_callPw (c5); kernel_rfl; (iterate 4 exact rfl)) | (apply AL_move; exact rfl; exact rfl) | (apply AL_assign; exact rfl; exact rfl) | (apply AL_bin; (iterate 5 exact rfl)) | (apply AL_load1 ttok; (iterate 6 exact rfl)) | (apply AL_loadn ttok; (iterate 7 exact rfl)) | (apply AL_fieldAddr ttok; (iterate 7 exact rfl)) | (apply AL_box; (iterate 5 exact rfl)) | (apply AL_not; exact rfl; exact rfl) | refine AL_nil ?_ | (apply AL_guardT; (iterate 3 exact rfl); (first | with_reducible assumption | (guard_target =ₛ true = true; rfl) | (guard_target =ₛ false = false; rfl) | (guard_target =ₛ (!true) = false; rfl) | (guard_target =ₛ (!false) = true; rfl))) | (apply AL_guardFt; (iterate 3 exact rfl); (first | with_reducible assumption | (guard_target =ₛ true = true; rfl) | (guard_target =ₛ false = false; rfl) | (guard_target =ₛ (!true) = false; rfl) | (guard_target =ₛ (!false) = true; rfl))) | (apply AL_guardFf; (iterate 3 exact rfl); (first | with_reducible assumption | (guard_target =ₛ true = true; rfl) | (guard_target =ₛ false = false; rfl) | (guard_target =ₛ (!true) = false; rfl) | (guard_target =ₛ (!false) = true; rfl))) | (apply AL_guardS; exact rfl; exact rfl; all_goals intro hb) | (apply AL_pickT; exact rfl; (first | with_reducible assumption | (guard_target =ₛ true = true; rfl) | (guard_target =ₛ false = false; rfl) | (guard_target =ₛ (!true) = false; rfl) | (guard_target =ₛ (!false) = true; rfl)); exact rfl; exact rfl) | (apply AL_pickF; exact rfl; (first | with_reducible assumption | (guard_target =ₛ true = true; rfl) | (guard_target =ₛ false = false; rfl) | (guard_target =ₛ (!true) = false; rfl) | (guard_target =ₛ (!false) = true; rfl)); exact rfl; exact rfl) | refine AW_region ?_ | refine AW_seq' ?_ | (apply AW_condA; exact rfl; (first | with_reducible assumption | (guard_target =ₛ true = true; rfl) | (guard_target =ₛ false = false; rfl) | (guard_target =ₛ (!true) = false; rfl) | (guard_target =ₛ (!false) = true; rfl))) | (apply AW_cond'; exact rfl; all_goals intro hb) | refine then_norm ?_ | refine AW_ret ?_ | refine then_ret ?_ | (apply AL_lens ttok; (iterate 4 exact rfl)) | (apply AL_beq ttok; (iterate 6 exact rfl)) | (apply AL_eqS ttok; (iterate 4 exact rfl); (kernel_rfl); (kernel_rfl); (iterate 3 exact rfl)) | (apply AW_drawM 8 hmix; (decide +kernel); (kernel_rfl); (kernel_rfl); exact rfl; exact rfl) | (apply AD_cons; (iterate 3 exact rfl)) | refine AD.nil _ | exact qp_ok rfl | refine AW_skip ?_)
    all_goals (apply endQ []; (repeat (first | exact ResL.nil | (apply ResL.cons; first | exact .tmp _ _ rfl | (apply res_n ttok; (iterate 6 exact rfl)) | (apply res_1 ttok; (iterate 5 exact rfl))))); (iterate 4 exact rfl))
    all_goals rfl
  | true =>
    obtain rfl := F2 rfl
    cases C with
    | false =>
      repeat' (first | (apply AL_callPw (av_aliveE); kernel_rfl; (iterate 4 exact rfl)) | (apply AL_callPw (av_eRight x); kernel_rfl; (iterate 4 exact rfl)) | (apply AL_callPw (av_eRight y); kernel_rfl; (iterate 4 exact rfl)) | (apply AL_callPw (av_eRight z); kernel_rfl; (iterate 4 exact rfl)) | (apply AL_callPw (c1); kernel_rfl; (iterate 4 exact rfl)) | (apply AL_callPw (c2); kernel_rfl; (iterate 4 exact rfl)) | (apply AL_callPw (c3); kernel_rfl; (iterate 4 exact rfl)) | (apply AL_callPw (c5); kernel_rfl; (iterate 4 exact rfl)) | (apply AL_move; exact rfl; exact rfl) | (apply AL_assign; exact rfl; exact rfl) | (apply AL_bin; (iterate 5 exact rfl)) | (apply AL_load1 ttok; (iterate 6 exact rfl)) | (apply AL_loadn ttok; (iterate 7 exact rfl)) | (apply AL_fieldAddr ttok; (iterate 7 exact rfl)) | (apply AL_box; (iterate 5 exact rfl)) | (apply AL_not; exact rfl; exact rfl) | refine AL_nil ?_ | (apply AL_guardT; (iterate 3 exact rfl); (first | with_reducible assumption | (guard_target =ₛ true = true; rfl) | (guard_target =ₛ false = false; rfl) | (guard_target =ₛ (!true) = false; rfl) | (guard_target =ₛ (!false) = true; rfl))) | (apply AL_guardFf; (iterate 3 exact rfl); (first | with_reducible assumption | (guard_target =ₛ true = true; rfl) | (guard_target =ₛ false = false; rfl) | (guard_target =ₛ (!true) = false; rfl) | (guard_target =ₛ (!false) = true; rfl))) | (apply AL_guardS; exact rfl; exact rfl; all_goals intro hb) | (apply AL_pickT; exact rfl; (first | with_reducible assumption | (guard_target =ₛ true = true; rfl) | (guard_target =ₛ false = false; rfl) | (guard_target =ₛ (!true) = false; rfl) | (guard_target =ₛ (!false) = true; rfl)); exact rfl; exact rfl) | (apply AL_pickF; exact rfl; (first | with_reducible assumption | (guard_target =ₛ true = true; rfl) | (guard_target =ₛ false = false; rfl) | (guard_target =ₛ (!true) = false; rfl) | (guard_target =ₛ (!false) = true; rfl)); exact rfl; exact rfl) | refine AW_region ?_ | refine AW_seq' ?_ | (apply AW_condA; exact rfl; (first | with_reducible assumption | (guard_target =ₛ true = true; rfl) | (guard_target =ₛ false = false; rfl) | (guard_target =ₛ (!true) = false; rfl) | (guard_target =ₛ (!false) = true; rfl))) | (apply AW_cond'; exact rfl; all_goals intro hb) | refine then_norm ?_ | refine AW_ret ?_ | refine then_ret ?_ | (apply AL_lens ttok; (iterate 4 exact rfl)) | (apply AL_beq ttok; (iterate 6 exact rfl)) | (apply AL_eqS ttok; (iterate 4 exact rfl); (kernel_rfl); (kernel_rfl); (iterate 3 exact rfl)) | (apply AW_drawM 8 hmix; (decide +kernel); (kernel_rfl); (kernel_rfl); exact rfl; exact rfl) | (apply AD_cons; (iterate 3 exact rfl)) | refine AD.nil _ | exact qp_ok rfl | refine AW_skip ?_)
      all_goals (apply endQ []; (repeat (first | exact ResL.nil | (apply ResL.cons; first | exact .tmp _ _ rfl | (apply res_n ttok; (iterate 6 exact rfl)) | (apply res_1 ttok; (iterate 5 exact rfl))))); (iterate 4 exact rfl))
      all_goals rfl
    | true =>
      obtain rfl := F3 rfl rfl
      repeat' (first | (apply AL_callPw (av_aliveE); kernel_rfl; (iterate 4 exact rfl)) | (apply AL_callPw (av_eRight x); kernel_rfl; (iterate 4 exact rfl)) | (apply AL_callPw (av_eRight y); kernel_rfl; (iterate 4 exact rfl)) | (apply AL_callPw (av_eRight z); kernel_rfl; (iterate 4 exact rfl)) | (apply AL_callPw (c1); kernel_rfl; (iterate 4 exact rfl)) | (apply AL_callPw (c2); kernel_rfl; (iterate 4 exact rfl)) | (apply AL_callPw (c3); kernel_rfl; (iterate 4 exact rfl)) | (apply AL_callPw (c4); kernel_rfl; (iterate 4 exact rfl)) | (apply AL_callPw (c5); kernel_rfl; (iterate 4 exact rfl)) | (apply AL_move; exact rfl; exact rfl) | (apply AL_assign; exact rfl; exact rfl) | (apply AL_bin; (iterate 5 exact rfl)) | (apply AL_load1 ttok; (iterate 6 exact rfl)) | (apply AL_loadn ttok; (iterate 7 exact rfl)) | (apply AL_fieldAddr ttok; (iterate 7 exact rfl)) | (apply AL_box; (iterate 5 exact rfl)) | (apply AL_not; exact rfl; exact rfl) | refine AL_nil ?_ | (apply AL_guardT; (iterate 3 exact rfl); (first | with_reducible assumption | (guard_target =ₛ true = true; rfl) | (guard_target =ₛ false = false; rfl) | (guard_target =ₛ (!true) = false; rfl) | (guard_target =ₛ (!false) = true; rfl))) | (apply AL_guardFf; (iterate 3 exact rfl); (first | with_reducible assumption | (guard_target =ₛ true = true; rfl) | (guard_target =ₛ false = false; rfl) | (guard_target =ₛ (!true) = false; rfl) | (guard_target =ₛ (!false) = true; rfl))) | (apply AL_guardS; exact rfl; exact rfl; all_goals intro hb) | (apply AL_pickT; exact rfl; (first | with_reducible assumption | (guard_target =ₛ true = true; rfl) | (guard_target =ₛ false = false; rfl) | (guard_target =ₛ (!true) = false; rfl) | (guard_target =ₛ (!false) = true; rfl)); exact rfl; exact rfl) | (apply AL_pickF; exact rfl; (first | with_reducible assumption | (guard_target =ₛ true = true; rfl) | (guard_target =ₛ false = false; rfl) | (guard_target =ₛ (!true) = false; rfl) | (guard_target =ₛ (!false) = true; rfl)); exact rfl; exact rfl) | refine AW_region ?_ | refine AW_seq' ?_ | (apply AW_condA; exact rfl; (first | with_reducible assumption | (guard_target =ₛ true = true; rfl) | (guard_target =ₛ false = false; rfl) | (guard_target =ₛ (!true) = false; rfl) | (guard_target =ₛ (!false) = true; rfl))) | (apply AW_cond'; exact rfl; all_goals intro hb) | refine then_norm ?_ | refine AW_ret ?_ | refine then_ret ?_ | (apply AL_lens ttok; (iterate 4 exact rfl)) | (apply AL_beq ttok; (iterate 6 exact rfl)) | (apply AL_eqS ttok; (iterate 4 exact rfl); (kernel_rfl); (kernel_rfl); (iterate 3 exact rfl)) | (apply AW_drawM 8 hmix; (decide +kernel); (kernel_rfl); (kernel_rfl); exact rfl; exact rfl) | (apply AD_cons; (iterate 3 exact rfl)) | refine AD.nil _ | exact qp_ok rfl | refine AW_skip ?_)
      all_goals (apply endQ []; (repeat (first | exact ResL.nil | (apply ResL.cons; first | exact .tmp _ _ rfl | (apply res_n ttok; (iterate 6 exact rfl)) | (apply res_1 ttok; (iterate 5 exact rfl))))); (iterate 4 exact rfl))
      all_goals rfl
theorem toE_eid : ToE RE (fun x => .agg [.bool x.1, .int .u64 (x.2.1 : Int), .int .u64 (x.2.2.1 : Int), .str x.2.2.2.1, .str x.2.2.2.2]) :=
  ToE.bool.prod (ToE.u64.prod (ToE.u64.prod (ToE.str.prod ToE.str)))
abbrev XE := Bool × Nat × Nat × List UInt8 × List UInt8
def XE.v (x : XE) : EidV := ⟨x.1, x.2.1, x.2.2.1, x.2.2.2.1, x.2.2.2.2⟩
theorem eid_V [Known] {W : World} {cs : List Value} {x : XE} (h : RE.ok W (· < W.heap.size) cs x) : V W (g0 W) [] (.agg (eC x.v)) (.agg cs.toArray) :=
  toE_eid.agg (l := [.bool x.1, .int .u64 (x.2.1 : Int), .int .u64 (x.2.2.1 : Int), .str x.2.2.2.1, .str x.2.2.2.2]) rfl h
end Go.Proofs.YtnihobjehelagaaDoor
end
