/- Package eid: an item's name. -/
import Derived.Test.YtihkbilhgbmbhaaDoorG29
import Derived.Test.YtihkbilhgbmbhaaDoorG30
set_option linter.unusedVariables false
set_option linter.unusedSimpArgs false
section
open Go.RowKit Go.Pl Go.Av
namespace Go.Proofs.YtihkbilhgbmbhaaDoor
set_option maxHeartbeats 4000000
def readV2 (s r : It) : EidV × Bool :=
 match isNum 1 s with
 | true => (match isNum 0 r with
  | true => (eidZ, true)
  | false => (match r.k == 3 with
   | true => ppV r.b
   | false => (eidZ, false)))
 | false => (match isNum 2 s with
  | true => (match numsV r with
   | some (a, c) => (⟨true, a, c, [], []⟩, eRight ⟨true, a, c, [], []⟩)
   | none => (eidZ, false))
  | false => (eidZ, false))
def readV (x : It) : EidV × Bool := match rightI x, x with
 | true, .mk k _ _ [s, r] => if k = 4 then readV2 s r else (eidZ, false)
 | _, _ => (eidZ, false)
abbrev resE (x : EidV × Bool) : D := .tup [.agg (eC (match x.2 with | true => x.1 | false => eidZ)), .int .i64 (match x.2 with | true => 0 | false => 3)]
theorem rd_not [Known] [KnownU8] (x : It) (hw : wfI x) (h : rightI x = false \/ x.k ≠ 4 \/ x.l.length ≠ 2) : AP Tryd.prog 58 [itD x] (resE (eidZ, false)) [] := by
 have hR := av_rightI x hw
 show AP Tryd.prog _ _ (.tup [.agg [.bool false, .int .u64 0, .int .u64 0, .str [], .str []], .int .i64 3]) []
 cases hr : rightI x with
 | false =>
  rw [hr] at hR
  obtain ⟨k, n, b, l⟩ := x
  refine AP.ofA ?_
  refine AC_of Tryd.func58 rfl Tryd.ntmps58 rfl rfl ?_
  repeat' (first | (apply AL_callPw (hR); kernel_rfl; (iterate 4 exact rfl)) | (apply AL_move; exact rfl; exact rfl) | (apply AL_assign; exact rfl; exact rfl) | (apply AL_loadn ttok; (iterate 7 exact rfl)) | (apply AL_boxZ; (iterate 5 exact rfl)) | (apply AL_store ttok; (iterate 8 exact rfl)) | (apply AL_not; exact rfl; exact rfl) | refine AL_nil ?_ | (apply AL_guardFf; (iterate 3 exact rfl); (first | with_reducible assumption | decide +kernel)) | (apply AL_pickT; exact rfl; (first | with_reducible assumption | decide +kernel); exact rfl; exact rfl) | refine AW_region ?_ | refine AW_seq' ?_ | (apply AW_condA; exact rfl; (first | with_reducible assumption | decide +kernel)) | refine then_norm ?_ | refine AW_ret ?_ | refine then_ret ?_ | (apply AL_build ttok; (iterate 6 exact rfl)) | (apply AL_allocZ ttok; (iterate 4 exact rfl)))
  all_goals (apply endQ []; (repeat (first | exact ResL.nil | (apply ResL.cons; first | exact .tmp _ _ rfl | (apply res_n ttok; (iterate 6 exact rfl)) | (apply res_1 ttok; (iterate 5 exact rfl))))); (iterate 4 exact rfl))
  all_goals rfl
 | true =>
  rw [hr] at hR h
  obtain ⟨k, n, b, l⟩ := x
  simp only [It.k, It.l] at h
  by_cases hk : k = 4
  ·have t1 : (k != 4) = false := by simpa using hk
   have hl : l.length ≠ 2 := by
    rcases h with h | h | h
    ·cases h
    ·exact absurd hk h
    ·exact h
   have t2 : (((itEs l).length : Int) != 2) = true := by rw [itEs_len]; simp; omega
   refine AP.ofA ?_
   refine AC_of Tryd.func58 rfl Tryd.ntmps58 rfl rfl ?_
   repeat' (first | (apply AL_callPw (hR); kernel_rfl; (iterate 4 exact rfl)) | (apply AL_move; exact rfl; exact rfl) | (apply AL_assign; exact rfl; exact rfl) | (apply AL_bin; (iterate 5 exact rfl)) | (apply AL_load1 ttok; (iterate 6 exact rfl)) | (apply AL_loadn ttok; (iterate 7 exact rfl)) | (apply AL_fieldAddr ttok; (iterate 7 exact rfl)) | (apply AL_boxZ; (iterate 5 exact rfl)) | (apply AL_store ttok; (iterate 8 exact rfl)) | (apply AL_not; exact rfl; exact rfl) | refine AL_nil ?_ | (apply AL_guardT; (iterate 3 exact rfl); (first | with_reducible assumption | decide +kernel)) | (apply AL_pickF; exact rfl; (first | with_reducible assumption | decide +kernel); exact rfl; exact rfl) | refine AW_region ?_ | refine AW_seq' ?_ | (apply AW_condA; exact rfl; (first | with_reducible assumption | decide +kernel)) | refine then_norm ?_ | refine AW_ret ?_ | refine then_ret ?_ | (apply AL_len ttok; (iterate 4 exact rfl)) | (apply AL_build ttok; (iterate 6 exact rfl)) | (apply AL_allocZ ttok; (iterate 4 exact rfl)))
   all_goals (apply endQ []; (repeat (first | exact ResL.nil | (apply ResL.cons; first | exact .tmp _ _ rfl | (apply res_n ttok; (iterate 6 exact rfl)) | (apply res_1 ttok; (iterate 5 exact rfl))))); (iterate 4 exact rfl))
   all_goals rfl
  ·have t1 : (k != 4) = true := by simpa using hk
   refine AP.ofA ?_
   refine AC_of Tryd.func58 rfl Tryd.ntmps58 rfl rfl ?_
   repeat' (first | (apply AL_callPw (hR); kernel_rfl; (iterate 4 exact rfl)) | (apply AL_move; exact rfl; exact rfl) | (apply AL_assign; exact rfl; exact rfl) | (apply AL_bin; (iterate 5 exact rfl)) | (apply AL_load1 ttok; (iterate 6 exact rfl)) | (apply AL_loadn ttok; (iterate 7 exact rfl)) | (apply AL_fieldAddr ttok; (iterate 7 exact rfl)) | (apply AL_boxZ; (iterate 5 exact rfl)) | (apply AL_store ttok; (iterate 8 exact rfl)) | (apply AL_not; exact rfl; exact rfl) | refine AL_nil ?_ | (apply AL_guardT; (iterate 3 exact rfl); (first | with_reducible assumption | decide +kernel)) | (apply AL_guardFf; (iterate 3 exact rfl); (first | with_reducible assumption | decide +kernel)) | (apply AL_pickT; exact rfl; (first | with_reducible assumption | decide +kernel); exact rfl; exact rfl) | (apply AL_pickF; exact rfl; (first | with_reducible assumption | decide +kernel); exact rfl; exact rfl) | refine AW_region ?_ | refine AW_seq' ?_ | (apply AW_condA; exact rfl; (first | with_reducible assumption | decide +kernel)) | refine then_norm ?_ | refine AW_ret ?_ | refine then_ret ?_ | (apply AL_build ttok; (iterate 6 exact rfl)) | (apply AL_allocZ ttok; (iterate 4 exact rfl)))
   all_goals (apply endQ []; (repeat (first | exact ResL.nil | (apply ResL.cons; first | exact .tmp _ _ rfl | (apply res_n ttok; (iterate 6 exact rfl)) | (apply res_1 ttok; (iterate 5 exact rfl))))); (iterate 4 exact rfl))
   all_goals rfl
theorem rd_one [Known] [KnownU8] (n : Nat) (b : List UInt8) (s r : It) (hw : wfI (.mk 4 n b [s, r])) (hr : rightI (.mk 4 n b [s, r]) = true) (h1 : isNum 1 s = true) : AP Tryd.prog 58 [itD (.mk 4 n b [s, r])] (resE (readV2 s r)) [] := by
 have hR := av_rightI _ hw
 rw [hr] at hR
 obtain ⟨_, _, _, hws, hwr, _⟩ := hw
 have e1 : s = .mk 0 1 [] [] := It.beq_iff.1 h1
 have hS1 := av_isNum s hws 1 (by omega)
 have hS2 := av_isNum s hws 2 (by omega)
 have hR0 := av_isNum r hwr 0 (by omega)
 have n0 := av_numA 0
 have n1 := av_numA 1
 have n2 := av_numA 2
 replace n0 : AP Tryd.prog _ [.int .u64 0] (.agg [.int .i64 0, .int .u64 0, .sl .ext [], .sl .ext []]) [] := n0
 replace n1 : AP Tryd.prog _ [.int .u64 1] (.agg [.int .i64 0, .int .u64 1, .sl .ext [], .sl .ext []]) [] := n1
 replace n2 : AP Tryd.prog _ [.int .u64 2] (.agg [.int .i64 0, .int .u64 2, .sl .ext [], .sl .ext []]) [] := n2
 have h2 : isNum 2 s = false := by rw [e1]; rfl
 rw [h1] at hS1
 rw [h2] at hS2
 have hU := uniI [s, r]
 unfold readV2
 rw [h1]
 dsimp only
 have hbl : r.b.length <= 140737488351232 := by obtain ⟨kr, nr, br, lr⟩ := r; exact hwr.2.1
 have hP := av_pp r.b hbl
 obtain ⟨ks, ns, bs, ls⟩ := s
 obtain ⟨kr, nr, br, lr⟩ := r
 simp only [It.b, It.k] at hP ⊢
 have t2 : (((itEs [It.mk ks ns bs ls, It.mk kr nr br lr]).length : Int) != 2) = false := rfl
 cases h0 : isNum 0 (.mk kr nr br lr) with
 | true =>
  rw [h0] at hR0
  show AP Tryd.prog _ _ (.tup [.agg [.bool false, .int .u64 0, .int .u64 0, .str [], .str []], .int .i64 0]) []
  refine AP.ofA ?_
  refine AC_of Tryd.func58 rfl Tryd.ntmps58 rfl rfl ?_
  repeat' (first | (apply AW_drawW 11 ttok hmix; (decide +kernel); (kernel_rfl); (kernel_rfl); (kernel_rfl); exact rfl; exact rfl) | exact AV.nil _ _ | (apply AV_al; exact rfl; exact rfl) | (apply AV_st; (iterate 4 exact rfl)) | (apply AV_pu; (iterate 4 exact rfl)) | (apply AWk_mk; (iterate 4 exact rfl)) | (apply AL_callPw (hR); kernel_rfl; (iterate 4 exact rfl)) | (apply AL_callPw (hS1); kernel_rfl; (iterate 4 exact rfl)) | (apply AL_callPw (hR0); kernel_rfl; (iterate 4 exact rfl)) | (apply AL_callPw (n0); kernel_rfl; (iterate 4 exact rfl)) | (apply AL_callPw (n1); kernel_rfl; (iterate 4 exact rfl)) | (apply AL_move; exact rfl; exact rfl) | (apply AL_assign; exact rfl; exact rfl) | (apply AL_bin; (iterate 5 exact rfl)) | (apply AL_load1 ttok; (iterate 6 exact rfl)) | (apply AL_loadn ttok; (iterate 7 exact rfl)) | (apply AL_fieldAddr ttok; (iterate 7 exact rfl)) | (apply AL_boxZ; (iterate 5 exact rfl)) | (apply AL_store ttok; (iterate 8 exact rfl)) | (apply AL_not; exact rfl; exact rfl) | refine AL_nil ?_ | (apply AL_guardT; (iterate 3 exact rfl); (first | with_reducible assumption | decide +kernel)) | (apply AL_pickT; exact rfl; (first | with_reducible assumption | decide +kernel); exact rfl; exact rfl) | (apply AL_pickF; exact rfl; (first | with_reducible assumption | decide +kernel); exact rfl; exact rfl) | refine AW_region ?_ | refine AW_seq' ?_ | (apply AW_condA; exact rfl; (first | with_reducible assumption | decide +kernel)) | (apply AW_condB; exact rfl; (first | with_reducible assumption | decide +kernel)) | refine then_norm ?_ | refine AW_block ?_ | refine AW_ret ?_ | refine then_ret ?_ | refine blk_ret ?_ | (apply AL_len ttok; (iterate 4 exact rfl)) | (apply AL_eloadn ttok; (iterate 6 exact rfl)) | (apply AL_build ttok; (iterate 6 exact rfl)) | (apply AL_allocZ ttok; (iterate 4 exact rfl)) | (apply AW_drawE 6 hmix; (decide +kernel); (kernel_rfl); (kernel_rfl); (kernel_rfl); exact rfl; exact rfl) | (apply AE_consZ; (iterate 4 exact rfl)) | exact AE.nil _ _ _ _ | (apply AEk_puT; exact rfl) | (apply AOt_mk; exact rfl; exact rfl; (decide +kernel); exact rfl) | (apply AO_puT; exact rfl) | exact AO.nil _ _ _ | (apply AOs_skip; (decide +kernel)) | exact AOs.nil | exact qY_ok rfl rfl | refine AW_skip ?_ | (apply AL_idx ttok; (iterate 6 exact rfl); (first | with_reducible assumption | decide +kernel | exact Int.natCast_nonneg _ | (guard_target = (0:Int) <= (OfNat.ofNat _ : Int); decide) | rotate_left); (first | with_reducible assumption | decide +kernel | exact rfl); (first | exact uniB_ok rfl | with_reducible assumption | decide +kernel | rotate_left)))
  all_goals (apply endQ []; (repeat (first | exact ResL.nil | (apply ResL.cons; first | exact .tmp _ _ rfl | (apply res_n ttok; (iterate 6 exact rfl)) | (apply res_1 ttok; (iterate 5 exact rfl))))); (iterate 4 exact rfl))
  all_goals rfl
 | false =>
  rw [h0] at hR0
  generalize ppV br = xp at *
  obtain ⟨⟨qi, qn, qs, qh, qd⟩, qb⟩ := xp
  replace hP : AP Tryd.prog _ [.str br] (.tup [.agg [.bool qi, .int .u64 (qn : Int), .int .u64 (qs : Int), .str qh, .str qd], .bool qb]) [] := hP
  cases hk : kr == 3 with
  | true =>
   cases qb
   all_goals
    refine AP.ofA ?_
    refine AC_of Tryd.func58 rfl Tryd.ntmps58 rfl rfl ?_
    repeat' (first | (apply AW_drawW 11 ttok hmix; (decide +kernel); (kernel_rfl); (kernel_rfl); (kernel_rfl); exact rfl; exact rfl) | exact AV.nil _ _ | (apply AV_al; exact rfl; exact rfl) | (apply AV_st; (iterate 4 exact rfl)) | (apply AV_pu; (iterate 4 exact rfl)) | (apply AWk_mk; (iterate 4 exact rfl)) | (apply AL_callPw (hR); kernel_rfl; (iterate 4 exact rfl)) | (apply AL_callPw (hS1); kernel_rfl; (iterate 4 exact rfl)) | (apply AL_callPw (hR0); kernel_rfl; (iterate 4 exact rfl)) | (apply AL_callPw (n0); kernel_rfl; (iterate 4 exact rfl)) | (apply AL_callPw (n1); kernel_rfl; (iterate 4 exact rfl)) | (apply AL_callPw (hP); kernel_rfl; (iterate 4 exact rfl)) | (apply AL_move; exact rfl; exact rfl) | (apply AL_assign; exact rfl; exact rfl) | (apply AL_bin; (iterate 5 exact rfl)) | (apply AL_load1 ttok; (iterate 6 exact rfl)) | (apply AL_loadn ttok; (iterate 7 exact rfl)) | (apply AL_fieldAddr ttok; (iterate 7 exact rfl)) | (apply AL_boxZ; (iterate 5 exact rfl)) | (apply AL_store ttok; (iterate 8 exact rfl)) | (apply AL_not; exact rfl; exact rfl) | (apply AL_extract; (iterate 3 exact rfl)) | refine AL_nil ?_ | (apply AL_guardT; (iterate 3 exact rfl); (first | with_reducible assumption | decide +kernel)) | (apply AL_pickT; exact rfl; (first | with_reducible assumption | decide +kernel); exact rfl; exact rfl) | (apply AL_pickF; exact rfl; (first | with_reducible assumption | decide +kernel); exact rfl; exact rfl) | refine AW_region ?_ | refine AW_seq' ?_ | (apply AW_condA; exact rfl; (first | with_reducible assumption | decide +kernel)) | (apply AW_condB; exact rfl; (first | with_reducible assumption | decide +kernel)) | refine then_norm ?_ | refine AW_block ?_ | refine AW_ret ?_ | refine then_ret ?_ | (apply AL_len ttok; (iterate 4 exact rfl)) | (apply AL_eloadn ttok; (iterate 6 exact rfl)) | (apply AL_build ttok; (iterate 6 exact rfl)) | (apply AL_allocZ ttok; (iterate 4 exact rfl)) | (apply AW_drawE 2 hmix; (decide +kernel); (kernel_rfl); (kernel_rfl); (kernel_rfl); exact rfl; exact rfl) | (apply AW_drawE 6 hmix; (decide +kernel); (kernel_rfl); (kernel_rfl); (kernel_rfl); exact rfl; exact rfl) | (apply AE_consZ; (iterate 4 exact rfl)) | exact AE.nil _ _ _ _ | (apply AEk_puT; exact rfl) | (apply AOt_mk; exact rfl; exact rfl; (decide +kernel); exact rfl) | (apply AO_puT; exact rfl) | exact AO.nil _ _ _ | (apply AOs_skip; (decide +kernel)) | exact AOs.nil | exact qY_ok rfl rfl | refine AW_skip ?_ | (apply AL_idx ttok; (iterate 6 exact rfl); (first | with_reducible assumption | decide +kernel | exact Int.natCast_nonneg _ | (guard_target = (0:Int) <= (OfNat.ofNat _ : Int); decide) | rotate_left); (first | with_reducible assumption | decide +kernel | exact rfl); (first | exact uniB_ok rfl | with_reducible assumption | decide +kernel | rotate_left)) | (apply AL_b2s ttok; (iterate 9 exact rfl)))
    all_goals (apply endQ []; (repeat (first | exact ResL.nil | (apply ResL.cons; first | exact .tmp _ _ rfl | (apply res_n ttok; (iterate 6 exact rfl)) | (apply res_1 ttok; (iterate 5 exact rfl))))); (iterate 4 exact rfl))
    all_goals rfl
  | false =>
   refine AP.ofA ?_
   refine AC_of Tryd.func58 rfl Tryd.ntmps58 rfl rfl ?_
   repeat' (first | (apply AW_drawW 11 ttok hmix; (decide +kernel); (kernel_rfl); (kernel_rfl); (kernel_rfl); exact rfl; exact rfl) | exact AV.nil _ _ | (apply AV_al; exact rfl; exact rfl) | (apply AV_st; (iterate 4 exact rfl)) | (apply AV_pu; (iterate 4 exact rfl)) | (apply AWk_mk; (iterate 4 exact rfl)) | (apply AL_callPw (hR); kernel_rfl; (iterate 4 exact rfl)) | (apply AL_callPw (hS1); kernel_rfl; (iterate 4 exact rfl)) | (apply AL_callPw (hS2); kernel_rfl; (iterate 4 exact rfl)) | (apply AL_callPw (hR0); kernel_rfl; (iterate 4 exact rfl)) | (apply AL_callPw (n0); kernel_rfl; (iterate 4 exact rfl)) | (apply AL_callPw (n1); kernel_rfl; (iterate 4 exact rfl)) | (apply AL_callPw (n2); kernel_rfl; (iterate 4 exact rfl)) | (apply AL_move; exact rfl; exact rfl) | (apply AL_assign; exact rfl; exact rfl) | (apply AL_bin; (iterate 5 exact rfl)) | (apply AL_load1 ttok; (iterate 6 exact rfl)) | (apply AL_loadn ttok; (iterate 7 exact rfl)) | (apply AL_fieldAddr ttok; (iterate 7 exact rfl)) | (apply AL_boxZ; (iterate 5 exact rfl)) | (apply AL_store ttok; (iterate 8 exact rfl)) | (apply AL_not; exact rfl; exact rfl) | refine AL_nil ?_ | (apply AL_guardT; (iterate 3 exact rfl); (first | with_reducible assumption | decide +kernel)) | (apply AL_pickT; exact rfl; (first | with_reducible assumption | decide +kernel); exact rfl; exact rfl) | (apply AL_pickF; exact rfl; (first | with_reducible assumption | decide +kernel); exact rfl; exact rfl) | refine AW_region ?_ | refine AW_seq' ?_ | (apply AW_condA; exact rfl; (first | with_reducible assumption | decide +kernel)) | (apply AW_condB; exact rfl; (first | with_reducible assumption | decide +kernel)) | refine then_norm ?_ | refine AW_block ?_ | refine AW_ret ?_ | refine then_ret ?_ | (apply AL_len ttok; (iterate 4 exact rfl)) | (apply AL_eloadn ttok; (iterate 6 exact rfl)) | (apply AL_build ttok; (iterate 6 exact rfl)) | (apply AL_allocZ ttok; (iterate 4 exact rfl)) | (apply AW_drawE 2 hmix; (decide +kernel); (kernel_rfl); (kernel_rfl); (kernel_rfl); exact rfl; exact rfl) | (apply AW_drawE 6 hmix; (decide +kernel); (kernel_rfl); (kernel_rfl); (kernel_rfl); exact rfl; exact rfl) | (apply AE_consZ; (iterate 4 exact rfl)) | exact AE.nil _ _ _ _ | (apply AEk_puT; exact rfl) | (apply AOt_mk; exact rfl; exact rfl; (decide +kernel); exact rfl) | (apply AO_puT; exact rfl) | exact AO.nil _ _ _ | (apply AOs_skip; (decide +kernel)) | exact AOs.nil | exact qY_ok rfl rfl | refine AW_skip ?_ | (apply AL_idx ttok; (iterate 6 exact rfl); (first | with_reducible assumption | decide +kernel | exact Int.natCast_nonneg _ | (guard_target = (0:Int) <= (OfNat.ofNat _ : Int); decide) | rotate_left); (first | with_reducible assumption | decide +kernel | exact rfl); (first | exact uniB_ok rfl | with_reducible assumption | decide +kernel | rotate_left)))
   all_goals (apply endQ []; (repeat (first | exact ResL.nil | (apply ResL.cons; first | exact .tmp _ _ rfl | (apply res_n ttok; (iterate 6 exact rfl)) | (apply res_1 ttok; (iterate 5 exact rfl))))); (iterate 4 exact rfl))
   all_goals rfl
end Go.Proofs.YtihkbilhgbmbhaaDoor
end
section
open Go.RowKit Go.Pl Go.Av
namespace Go.Proofs.YtihkbilhgbmbhaaDoor
set_option maxHeartbeats 4000000
theorem rd_two [Known] [KnownU8] (n : Nat) (b : List UInt8) (s r : It) (hw : wfI (.mk 4 n b [s, r])) (hr : rightI (.mk 4 n b [s, r]) = true) (h1 : isNum 1 s = false) : AP Tryd.prog 58 [itD (.mk 4 n b [s, r])] (resE (readV2 s r)) [] := by
 have hR := av_rightI _ hw
 rw [hr] at hR
 obtain ⟨_, _, _, hws, hwr, _⟩ := hw
 have hS1 := av_isNum s hws 1 (by omega)
 have hS2 := av_isNum s hws 2 (by omega)
 have hN := av_nums r hwr
 have n1 := av_numA 1
 have n2 := av_numA 2
 replace n1 : AP Tryd.prog _ [.int .u64 1] (.agg [.int .i64 0, .int .u64 1, .sl .ext [], .sl .ext []]) [] := n1
 replace n2 : AP Tryd.prog _ [.int .u64 2] (.agg [.int .i64 0, .int .u64 2, .sl .ext [], .sl .ext []]) [] := n2
 rw [h1] at hS1
 have hU := uniI [s, r]
 unfold readV2
 rw [h1]
 dsimp only
 obtain ⟨ks, ns, bs, ls⟩ := s
 obtain ⟨kr, nr, br, lr⟩ := r
 have t2 : (((itEs [It.mk ks ns bs ls, It.mk kr nr br lr]).length : Int) != 2) = false := rfl
 cases h2 : isNum 2 (.mk ks ns bs ls) with
 | false =>
  rw [h2] at hS2
  show AP Tryd.prog _ _ (.tup [.agg [.bool false, .int .u64 0, .int .u64 0, .str [], .str []], .int .i64 3]) []
  refine AP.ofA ?_
  refine AC_of Tryd.func58 rfl Tryd.ntmps58 rfl rfl ?_
  repeat' (first | (apply AW_drawW 11 ttok hmix; (decide +kernel); (kernel_rfl); (kernel_rfl); (kernel_rfl); exact rfl; exact rfl) | exact AV.nil _ _ | (apply AV_al; exact rfl; exact rfl) | (apply AV_st; (iterate 4 exact rfl)) | (apply AV_pu; (iterate 4 exact rfl)) | (apply AWk_mk; (iterate 4 exact rfl)) | (apply AL_callPw (hR); kernel_rfl; (iterate 4 exact rfl)) | (apply AL_callPw (hS1); kernel_rfl; (iterate 4 exact rfl)) | (apply AL_callPw (hS2); kernel_rfl; (iterate 4 exact rfl)) | (apply AL_callPw (n1); kernel_rfl; (iterate 4 exact rfl)) | (apply AL_callPw (n2); kernel_rfl; (iterate 4 exact rfl)) | (apply AL_move; exact rfl; exact rfl) | (apply AL_assign; exact rfl; exact rfl) | (apply AL_bin; (iterate 5 exact rfl)) | (apply AL_load1 ttok; (iterate 6 exact rfl)) | (apply AL_loadn ttok; (iterate 7 exact rfl)) | (apply AL_fieldAddr ttok; (iterate 7 exact rfl)) | (apply AL_boxZ; (iterate 5 exact rfl)) | (apply AL_store ttok; (iterate 8 exact rfl)) | (apply AL_not; exact rfl; exact rfl) | refine AL_nil ?_ | (apply AL_guardT; (iterate 3 exact rfl); (first | with_reducible assumption | decide +kernel)) | (apply AL_guardFt; (iterate 3 exact rfl); (first | with_reducible assumption | decide +kernel)) | (apply AL_pickF; exact rfl; (first | with_reducible assumption | decide +kernel); exact rfl; exact rfl) | refine AW_region ?_ | refine AW_seq' ?_ | (apply AW_condA; exact rfl; (first | with_reducible assumption | decide +kernel)) | (apply AW_condB; exact rfl; (first | with_reducible assumption | decide +kernel)) | refine then_norm ?_ | refine AW_block ?_ | refine AW_ret ?_ | refine then_ret ?_ | (apply AL_len ttok; (iterate 4 exact rfl)) | (apply AL_eloadn ttok; (iterate 6 exact rfl)) | (apply AL_build ttok; (iterate 6 exact rfl)) | (apply AL_allocZ ttok; (iterate 4 exact rfl)) | (apply AW_drawE 2 hmix; (decide +kernel); (kernel_rfl); (kernel_rfl); (kernel_rfl); exact rfl; exact rfl) | (apply AW_drawE 6 hmix; (decide +kernel); (kernel_rfl); (kernel_rfl); (kernel_rfl); exact rfl; exact rfl) | (apply AE_consZ; (iterate 4 exact rfl)) | exact AE.nil _ _ _ _ | (apply AEk_puT; exact rfl) | (apply AOt_mk; exact rfl; exact rfl; (decide +kernel); exact rfl) | (apply AO_puT; exact rfl) | exact AO.nil _ _ _ | (apply AOs_skip; (decide +kernel)) | exact AOs.nil | exact qY_ok rfl rfl | refine AW_skip ?_ | (apply AL_idx ttok; (iterate 6 exact rfl); (first | with_reducible assumption | decide +kernel | exact Int.natCast_nonneg _ | (guard_target = (0:Int) <= (OfNat.ofNat _ : Int); decide) | rotate_left); (first | with_reducible assumption | decide +kernel | exact rfl); (first | exact uniB_ok rfl | with_reducible assumption | decide +kernel | rotate_left)))
  all_goals (apply endQ []; (repeat (first | exact ResL.nil | (apply ResL.cons; first | exact .tmp _ _ rfl | (apply res_n ttok; (iterate 6 exact rfl)) | (apply res_1 ttok; (iterate 5 exact rfl))))); (iterate 4 exact rfl))
  all_goals rfl
 | true =>
  rw [h2] at hS2
  dsimp only
  cases hq : numsV (.mk kr nr br lr) with
  | none =>
   rw [hq] at hN
   replace hN : AP Tryd.prog _ _ (.tup [.sl .ext [], .bool false]) [] := hN
   show AP Tryd.prog _ _ (.tup [.agg [.bool false, .int .u64 0, .int .u64 0, .str [], .str []], .int .i64 3]) []
   refine AP.ofA ?_
   refine AC_of Tryd.func58 rfl Tryd.ntmps58 rfl rfl ?_
   repeat' (first | (apply AW_drawW 11 ttok hmix; (decide +kernel); (kernel_rfl); (kernel_rfl); (kernel_rfl); exact rfl; exact rfl) | exact AV.nil _ _ | (apply AV_al; exact rfl; exact rfl) | (apply AV_st; (iterate 4 exact rfl)) | (apply AV_pu; (iterate 4 exact rfl)) | (apply AWk_mk; (iterate 4 exact rfl)) | (apply AL_callPw (hR); kernel_rfl; (iterate 4 exact rfl)) | (apply AL_callPw (hS1); kernel_rfl; (iterate 4 exact rfl)) | (apply AL_callPw (hS2); kernel_rfl; (iterate 4 exact rfl)) | (apply AL_callPw (n1); kernel_rfl; (iterate 4 exact rfl)) | (apply AL_callPw (n2); kernel_rfl; (iterate 4 exact rfl)) | (apply AL_callPw (hN); kernel_rfl; (iterate 4 exact rfl)) | (apply AL_move; exact rfl; exact rfl) | (apply AL_assign; exact rfl; exact rfl) | (apply AL_bin; (iterate 5 exact rfl)) | (apply AL_load1 ttok; (iterate 6 exact rfl)) | (apply AL_loadn ttok; (iterate 7 exact rfl)) | (apply AL_fieldAddr ttok; (iterate 7 exact rfl)) | (apply AL_boxZ; (iterate 5 exact rfl)) | (apply AL_store ttok; (iterate 8 exact rfl)) | (apply AL_not; exact rfl; exact rfl) | (apply AL_extract; (iterate 3 exact rfl)) | refine AL_nil ?_ | (apply AL_guardT; (iterate 3 exact rfl); (first | with_reducible assumption | decide +kernel)) | (apply AL_guardFt; (iterate 3 exact rfl); (first | with_reducible assumption | decide +kernel)) | (apply AL_pickF; exact rfl; (first | with_reducible assumption | decide +kernel); exact rfl; exact rfl) | refine AW_region ?_ | refine AW_seq' ?_ | (apply AW_condA; exact rfl; (first | with_reducible assumption | decide +kernel)) | (apply AW_condB; exact rfl; (first | with_reducible assumption | decide +kernel)) | refine then_norm ?_ | refine AW_block ?_ | refine AW_ret ?_ | refine then_ret ?_ | (apply AL_len ttok; (iterate 4 exact rfl)) | (apply AL_eloadn ttok; (iterate 6 exact rfl)) | (apply AL_build ttok; (iterate 6 exact rfl)) | (apply AL_allocZ ttok; (iterate 4 exact rfl)) | (apply AW_drawE 2 hmix; (decide +kernel); (kernel_rfl); (kernel_rfl); (kernel_rfl); exact rfl; exact rfl) | (apply AW_drawE 6 hmix; (decide +kernel); (kernel_rfl); (kernel_rfl); (kernel_rfl); exact rfl; exact rfl) | (apply AE_consZ; (iterate 4 exact rfl)) | exact AE.nil _ _ _ _ | (apply AEk_puT; exact rfl) | (apply AOt_mk; exact rfl; exact rfl; (decide +kernel); exact rfl) | (apply AO_puT; exact rfl) | exact AO.nil _ _ _ | (apply AOs_skip; (decide +kernel)) | exact AOs.nil | exact qY_ok rfl rfl | refine AW_skip ?_ | (apply AL_idx ttok; (iterate 6 exact rfl); (first | with_reducible assumption | decide +kernel | exact Int.natCast_nonneg _ | (guard_target = (0:Int) <= (OfNat.ofNat _ : Int); decide) | rotate_left); (first | with_reducible assumption | decide +kernel | exact rfl); (first | exact uniB_ok rfl | with_reducible assumption | decide +kernel | rotate_left)))
   all_goals (apply endQ []; (repeat (first | exact ResL.nil | (apply ResL.cons; first | exact .tmp _ _ rfl | (apply res_n ttok; (iterate 6 exact rfl)) | (apply res_1 ttok; (iterate 5 exact rfl))))); (iterate 4 exact rfl))
   all_goals rfl
  | some ac =>
   obtain ⟨a, c⟩ := ac
   rw [hq] at hN
   replace hN : AP Tryd.prog _ _ (.tup [.sl .ext [.int .u64 (a : Int), .int .u64 (c : Int)], .bool true]) [] := hN
   have hE := av_eRight ⟨true, a, c, [], []⟩
   dsimp only
   generalize eRight ⟨true, a, c, [], []⟩ = R at *
   replace hE : AP Tryd.prog _ [.agg [.bool true, .int .u64 (a : Int), .int .u64 (c : Int), .str [], .str []]] (.bool R) [] := hE
   cases R
   all_goals
    refine AP.ofA ?_
    refine AC_of Tryd.func58 rfl Tryd.ntmps58 rfl rfl ?_
    repeat' (first | (apply AW_drawW 11 ttok hmix; (decide +kernel); (kernel_rfl); (kernel_rfl); (kernel_rfl); exact rfl; exact rfl) | exact AV.nil _ _ | (apply AV_al; exact rfl; exact rfl) | (apply AV_st; (iterate 4 exact rfl)) | (apply AV_pu; (iterate 4 exact rfl)) | (apply AWk_mk; (iterate 4 exact rfl)) | (apply AL_callPw (hR); kernel_rfl; (iterate 4 exact rfl)) | (apply AL_callPw (hS1); kernel_rfl; (iterate 4 exact rfl)) | (apply AL_callPw (hS2); kernel_rfl; (iterate 4 exact rfl)) | (apply AL_callPw (n1); kernel_rfl; (iterate 4 exact rfl)) | (apply AL_callPw (n2); kernel_rfl; (iterate 4 exact rfl)) | (apply AL_callPw (hN); kernel_rfl; (iterate 4 exact rfl)) | (apply AL_callPw (hE); kernel_rfl; (iterate 4 exact rfl)) | (apply AL_move; exact rfl; exact rfl) | (apply AL_assign; exact rfl; exact rfl) | (apply AL_bin; (iterate 5 exact rfl)) | (apply AL_load1 ttok; (iterate 6 exact rfl)) | (apply AL_loadn ttok; (iterate 7 exact rfl)) | (apply AL_fieldAddr ttok; (iterate 7 exact rfl)) | (apply AL_boxZ; (iterate 5 exact rfl)) | (apply AL_store ttok; (iterate 8 exact rfl)) | (apply AL_not; exact rfl; exact rfl) | (apply AL_extract; (iterate 3 exact rfl)) | refine AL_nil ?_ | (apply AL_guardT; (iterate 3 exact rfl); (first | with_reducible assumption | decide +kernel)) | (apply AL_guardFt; (iterate 3 exact rfl); (first | with_reducible assumption | decide +kernel)) | (apply AL_pickF; exact rfl; (first | with_reducible assumption | decide +kernel); exact rfl; exact rfl) | refine AW_region ?_ | refine AW_seq' ?_ | (apply AW_condA; exact rfl; (first | with_reducible assumption | decide +kernel)) | (apply AW_condB; exact rfl; (first | with_reducible assumption | decide +kernel)) | refine then_norm ?_ | refine AW_block ?_ | refine AW_ret ?_ | refine then_ret ?_ | (apply AL_len ttok; (iterate 4 exact rfl)) | (apply AL_eload1 ttok; (iterate 6 exact rfl)) | (apply AL_eloadn ttok; (iterate 6 exact rfl)) | (apply AL_build ttok; (iterate 6 exact rfl)) | (apply AL_allocZ ttok; (iterate 4 exact rfl)) | (apply AW_drawE 2 hmix; (decide +kernel); (kernel_rfl); (kernel_rfl); (kernel_rfl); exact rfl; exact rfl) | (apply AW_drawE 6 hmix; (decide +kernel); (kernel_rfl); (kernel_rfl); (kernel_rfl); exact rfl; exact rfl) | (apply AE_consZ; (iterate 4 exact rfl)) | exact AE.nil _ _ _ _ | (apply AEk_puT; exact rfl) | (apply AOt_mk; exact rfl; exact rfl; (decide +kernel); exact rfl) | (apply AO_puT; exact rfl) | exact AO.nil _ _ _ | (apply AOs_skip; (decide +kernel)) | exact AOs.nil | exact qY_ok rfl rfl | refine AW_skip ?_ | (apply AL_idx ttok; (iterate 6 exact rfl); (first | with_reducible assumption | decide +kernel | exact Int.natCast_nonneg _ | (guard_target = (0:Int) <= (OfNat.ofNat _ : Int); decide) | rotate_left); (first | with_reducible assumption | decide +kernel | exact rfl); (first | exact uniB_ok rfl | with_reducible assumption | decide +kernel | rotate_left)))
    all_goals (apply endQ []; (repeat (first | exact ResL.nil | (apply ResL.cons; first | exact .tmp _ _ rfl | (apply res_n ttok; (iterate 6 exact rfl)) | (apply res_1 ttok; (iterate 5 exact rfl))))); (iterate 4 exact rfl))
    all_goals rfl
theorem av_eRead [Known] [KnownU8] (x : It) (hw : wfI x) : AP Tryd.prog 58 [itD x] (resE (readV x)) [] := by
 cases hr : rightI x with
 | false =>
  have e : readV x = (eidZ, false) := by unfold readV; rw [hr]
  rw [e]
  exact rd_not x hw (.inl hr)
 | true =>
  obtain ⟨k, n, b, l⟩ := x
  by_cases hk : k = 4
  ·subst hk
   match l, hw, hr with
   | [s, r], hw, hr =>
    have e : readV (.mk 4 n b [s, r]) = readV2 s r := by unfold readV; rw [hr]; dsimp only; rw [if_pos rfl]
    rw [e]
    cases h1 : isNum 1 s with
    | true => exact rd_one n b s r hw hr h1
    | false => exact rd_two n b s r hw hr h1
   | [], hw, hr =>
    have e : readV (.mk 4 n b []) = (eidZ, false) := by unfold readV; rw [hr]
    rw [e]; exact rd_not _ hw (.inr (.inr (by simp [It.l])))
   | [s], hw, hr =>
    have e : readV (.mk 4 n b [s]) = (eidZ, false) := by unfold readV; rw [hr]
    rw [e]; exact rd_not _ hw (.inr (.inr (by simp [It.l])))
   | s :: r :: y :: l, hw, hr =>
    have e : readV (.mk 4 n b (s :: r :: y :: l)) = (eidZ, false) := by unfold readV; rw [hr]
    rw [e]; exact rd_not _ hw (.inr (.inr (by simp [It.l])))
  ·have e : readV (.mk k n b l) = (eidZ, false) := by
    unfold readV; rw [hr]
    match l with
    | [s, r] => dsimp only; rw [if_neg hk]
    | [] => rfl
    | [s] => rfl
    | s :: r :: y :: l => rfl
   rw [e]
   exact rd_not _ hw (.inr (.inl hk))
end Go.Proofs.YtihkbilhgbmbhaaDoor
end
