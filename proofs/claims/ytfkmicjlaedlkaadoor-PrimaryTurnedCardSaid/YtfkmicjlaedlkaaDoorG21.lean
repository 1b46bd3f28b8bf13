/- Package eid: an item's name. -/
import Derived.Test.YtfkmicjlaedlkaaDoorG19
import Derived.Test.YtfkmicjlaedlkaaDoorG20
import Derived.Test.YtfkmicjlaedlkaaDoorG15
import Derived.Test.YtfkmicjlaedlkaaDoorG09
import Derived.Test.YtfkmicjlaedlkaaDoorG11
import Derived.Test.YtfkmicjlaedlkaaDoorG18
set_option linter.unusedVariables false
set_option linter.unusedSimpArgs false
section
open Go.RowKit Go.Pl Go.Av
namespace Go.Proofs.YtfkmicjlaedlkaaDoor
set_option maxHeartbeats 4000000
def readV2 (s r : It) : EidV × Bool :=
 match isNum 1 s with
 | true => (match isNum 0 r with
  | true => (eidZ, true)
  | false => (match r.k == 3 with
   | true => ppV r.b
   | false => (eidZ, false)))
 | false => (match isNum 2 s with
  | true => (match numsV r with
   | some (a, c) => (⟨true, a, c, [], []⟩, eRight ⟨true, a, c, [], []⟩)
   | none => (eidZ, false))
  | false => (eidZ, false))
def readV (x : It) : EidV × Bool := match rightI x, x with
 | true, .mk k _ _ [s, r] => if k = 4 then readV2 s r else (eidZ, false)
 | _, _ => (eidZ, false)
abbrev resE (x : EidV × Bool) : D := .tup [.agg (eC (match x.2 with | true => x.1 | false => eidZ)), .int .i64 (match x.2 with | true => 0 | false => 3)]
theorem rd_not [Known] [KnownU8] (x : It) (hw : wfI x) (h : rightI x = false \/ x.k ≠ 4 \/ x.l.length ≠ 2) : AP Tryd.prog 56 [itD x] (resE (eidZ, false)) [] := by
 have hR := av_rightI x hw
 show AP Tryd.prog _ _ (.tup [.agg [.bool false, .int .u64 0, .int .u64 0, .str [], .str []], .int .i64 3]) []
 cases hr : rightI x with
 | false =>
  rw [hr] at hR
  obtain ⟨k, n, b, l⟩ := x
  refine AP.ofA ?_
  refine AC_of Tryd.func56 rfl Tryd.ntmps56 rfl rfl ?_
  repeat' (first | (apply AL_callPw (hR); kernel_rfl; (iterate 4 exact rfl)) | (apply AL_go ttok; exact rfl) | (apply AW_go ttok; exact rfl) | (apply K_go ttok; exact rfl) | (apply AL_guardFf; (iterate 3 exact rfl); (first | with_reducible assumption | decide +kernel)) | (apply AL_pickT; exact rfl; (first | with_reducible assumption | decide +kernel); exact rfl; exact rfl) | (apply AW_condA; exact rfl; (first | with_reducible assumption | decide +kernel)))
  all_goals (apply endQ []; (apply resG_ok ttok; exact rfl); (iterate 4 exact rfl))
  all_goals rfl
 | true =>
  rw [hr] at hR h
  obtain ⟨k, n, b, l⟩ := x
  simp only [It.k, It.l] at h
  by_cases hk : k = 4
  ·have t1 : (k != 4) = false := by simpa using hk
   have hl : l.length ≠ 2 := by
    rcases h with h | h | h
    ·cases h
    ·exact absurd hk h
    ·exact h
   have t2 : (((itEs l).length : Int) != 2) = true := by rw [itEs_len]; simp; omega
   refine AP.ofA ?_
   refine AC_of Tryd.func56 rfl Tryd.ntmps56 rfl rfl ?_
   repeat' (first | (apply AL_callPw (hR); kernel_rfl; (iterate 4 exact rfl)) | (apply AL_go ttok; exact rfl) | (apply AW_go ttok; exact rfl) | (apply K_go ttok; exact rfl) | (apply AL_guardT; (iterate 3 exact rfl); (first | with_reducible assumption | decide +kernel)) | (apply AL_pickF; exact rfl; (first | with_reducible assumption | decide +kernel); exact rfl; exact rfl) | (apply AW_condA; exact rfl; (first | with_reducible assumption | decide +kernel)) | (apply AL_len ttok; (iterate 4 exact rfl)))
   all_goals (apply endQ []; (apply resG_ok ttok; exact rfl); (iterate 4 exact rfl))
   all_goals rfl
  ·have t1 : (k != 4) = true := by simpa using hk
   refine AP.ofA ?_
   refine AC_of Tryd.func56 rfl Tryd.ntmps56 rfl rfl ?_
   repeat' (first | (apply AL_callPw (hR); kernel_rfl; (iterate 4 exact rfl)) | (apply AL_go ttok; exact rfl) | (apply AW_go ttok; exact rfl) | (apply K_go ttok; exact rfl) | (apply AL_guardT; (iterate 3 exact rfl); (first | with_reducible assumption | decide +kernel)) | (apply AL_guardFf; (iterate 3 exact rfl); (first | with_reducible assumption | decide +kernel)) | (apply AL_pickT; exact rfl; (first | with_reducible assumption | decide +kernel); exact rfl; exact rfl) | (apply AL_pickF; exact rfl; (first | with_reducible assumption | decide +kernel); exact rfl; exact rfl) | (apply AW_condA; exact rfl; (first | with_reducible assumption | decide +kernel)))
   all_goals (apply endQ []; (apply resG_ok ttok; exact rfl); (iterate 4 exact rfl))
   all_goals rfl
theorem rd_one [Known] [KnownU8] (n : Nat) (b : List UInt8) (s r : It) (hw : wfI (.mk 4 n b [s, r])) (hr : rightI (.mk 4 n b [s, r]) = true) (h1 : isNum 1 s = true) : AP Tryd.prog 56 [itD (.mk 4 n b [s, r])] (resE (readV2 s r)) [] := by
 have hR := av_rightI _ hw
 rw [hr] at hR
 obtain ⟨_, _, _, hws, hwr, _⟩ := hw
 have e1 : s = .mk 0 1 [] [] := It.beq_iff.1 h1
 have hS1 := av_isNum s hws 1 (by omega)
 have hS2 := av_isNum s hws 2 (by omega)
 have hR0 := av_isNum r hwr 0 (by omega)
 have n0 := av_numA 0
 have n1 := av_numA 1
 have n2 := av_numA 2
 replace n0 : AP Tryd.prog _ [.int .u64 0] (.agg [.int .i64 0, .int .u64 0, .sl .ext [], .sl .ext []]) [] := n0
 replace n1 : AP Tryd.prog _ [.int .u64 1] (.agg [.int .i64 0, .int .u64 1, .sl .ext [], .sl .ext []]) [] := n1
 replace n2 : AP Tryd.prog _ [.int .u64 2] (.agg [.int .i64 0, .int .u64 2, .sl .ext [], .sl .ext []]) [] := n2
 have h2 : isNum 2 s = false := by rw [e1]; rfl
 rw [h1] at hS1
 rw [h2] at hS2
 have hU := uniI [s, r]
 unfold readV2
 rw [h1]
 dsimp only
 have hbl : r.b.length <= 140737488351232 := by obtain ⟨kr, nr, br, lr⟩ := r; exact hwr.2.1
 have hP := av_pp r.b hbl
 obtain ⟨ks, ns, bs, ls⟩ := s
 obtain ⟨kr, nr, br, lr⟩ := r
 simp only [It.b, It.k] at hP ⊢
 have t2 : (((itEs [It.mk ks ns bs ls, It.mk kr nr br lr]).length : Int) != 2) = false := rfl
 cases h0 : isNum 0 (.mk kr nr br lr) with
 | true =>
  rw [h0] at hR0
  show AP Tryd.prog _ _ (.tup [.agg [.bool false, .int .u64 0, .int .u64 0, .str [], .str []], .int .i64 0]) []
  refine AP.ofA ?_
  refine AC_of Tryd.func56 rfl Tryd.ntmps56 rfl rfl ?_
  repeat' (first | (apply AW_drawW 11 ttok hmix; (decide +kernel); (kernel_rfl); (kernel_rfl); (kernel_rfl); exact rfl; exact rfl) | exact AV.nil _ _ | (apply AV_al; exact rfl; exact rfl) | (apply AV_st; (iterate 4 exact rfl)) | (apply AV_pu; (iterate 4 exact rfl)) | (apply AWk_mk; (iterate 4 exact rfl)) | (apply AL_callPw (hR); kernel_rfl; (iterate 4 exact rfl)) | (apply AL_callPw (hS1); kernel_rfl; (iterate 4 exact rfl)) | (apply AL_callPw (hR0); kernel_rfl; (iterate 4 exact rfl)) | (apply AL_callPw (n0); kernel_rfl; (iterate 4 exact rfl)) | (apply AL_callPw (n1); kernel_rfl; (iterate 4 exact rfl)) | (apply AL_go ttok; exact rfl) | (apply AW_go ttok; exact rfl) | (apply K_go ttok; exact rfl) | (apply AL_guardT; (iterate 3 exact rfl); (first | with_reducible assumption | decide +kernel)) | (apply AL_pickT; exact rfl; (first | with_reducible assumption | decide +kernel); exact rfl; exact rfl) | (apply AL_pickF; exact rfl; (first | with_reducible assumption | decide +kernel); exact rfl; exact rfl) | (apply AW_condA; exact rfl; (first | with_reducible assumption | decide +kernel)) | (apply AW_condB; exact rfl; (first | with_reducible assumption | decide +kernel)) | (apply AL_len ttok; (iterate 4 exact rfl)) | (apply AW_drawE 6 hmix; (decide +kernel); (kernel_rfl); (kernel_rfl); (kernel_rfl); exact rfl; exact rfl) | (apply AE_consZ; (iterate 4 exact rfl)) | exact AE.nil _ _ _ _ | (apply AEk_puT; exact rfl) | (apply AOt_mk; exact rfl; exact rfl; (decide +kernel); exact rfl) | (apply AO_puT; exact rfl) | exact AO.nil _ _ _ | (apply AOs_skip; (decide +kernel)) | exact AOs.nil | exact qY_ok rfl rfl | (apply AL_idx ttok; (iterate 6 exact rfl); (first | with_reducible assumption | decide +kernel | exact Int.natCast_nonneg _ | (guard_target = (0:Int) <= (OfNat.ofNat _ : Int); decide) | rotate_left); (first | with_reducible assumption | decide +kernel | exact rfl); (first | exact uniB_ok rfl | with_reducible assumption | decide +kernel | rotate_left)))
  all_goals (apply endQ []; (apply resG_ok ttok; exact rfl); (iterate 4 exact rfl))
  all_goals rfl
 | false =>
  rw [h0] at hR0
  generalize ppV br = xp at *
  obtain ⟨⟨qi, qn, qs, qh, qd⟩, qb⟩ := xp
  replace hP : AP Tryd.prog _ [.str br] (.tup [.agg [.bool qi, .int .u64 (qn : Int), .int .u64 (qs : Int), .str qh, .str qd], .bool qb]) [] := hP
  cases hk : kr == 3 with
  | true =>
   cases qb
   all_goals
    refine AP.ofA ?_
    refine AC_of Tryd.func56 rfl Tryd.ntmps56 rfl rfl ?_
    repeat' (first | (apply AW_drawW 11 ttok hmix; (decide +kernel); (kernel_rfl); (kernel_rfl); (kernel_rfl); exact rfl; exact rfl) | exact AV.nil _ _ | (apply AV_al; exact rfl; exact rfl) | (apply AV_st; (iterate 4 exact rfl)) | (apply AV_pu; (iterate 4 exact rfl)) | (apply AWk_mk; (iterate 4 exact rfl)) | (apply AL_callPw (hR); kernel_rfl; (iterate 4 exact rfl)) | (apply AL_callPw (hS1); kernel_rfl; (iterate 4 exact rfl)) | (apply AL_callPw (hR0); kernel_rfl; (iterate 4 exact rfl)) | (apply AL_callPw (n0); kernel_rfl; (iterate 4 exact rfl)) | (apply AL_callPw (n1); kernel_rfl; (iterate 4 exact rfl)) | (apply AL_callPw (hP); kernel_rfl; (iterate 4 exact rfl)) | (apply AL_go ttok; exact rfl) | (apply AW_go ttok; exact rfl) | (apply K_go ttok; exact rfl) | (apply AL_guardT; (iterate 3 exact rfl); (first | with_reducible assumption | decide +kernel)) | (apply AL_pickT; exact rfl; (first | with_reducible assumption | decide +kernel); exact rfl; exact rfl) | (apply AL_pickF; exact rfl; (first | with_reducible assumption | decide +kernel); exact rfl; exact rfl) | (apply AW_condA; exact rfl; (first | with_reducible assumption | decide +kernel)) | (apply AW_condB; exact rfl; (first | with_reducible assumption | decide +kernel)) | (apply AL_len ttok; (iterate 4 exact rfl)) | (apply AW_drawE 2 hmix; (decide +kernel); (kernel_rfl); (kernel_rfl); (kernel_rfl); exact rfl; exact rfl) | (apply AW_drawE 6 hmix; (decide +kernel); (kernel_rfl); (kernel_rfl); (kernel_rfl); exact rfl; exact rfl) | (apply AE_consZ; (iterate 4 exact rfl)) | exact AE.nil _ _ _ _ | (apply AEk_puT; exact rfl) | (apply AOt_mk; exact rfl; exact rfl; (decide +kernel); exact rfl) | (apply AO_puT; exact rfl) | exact AO.nil _ _ _ | (apply AOs_skip; (decide +kernel)) | exact AOs.nil | exact qY_ok rfl rfl | (apply AL_idx ttok; (iterate 6 exact rfl); (first | with_reducible assumption | decide +kernel | exact Int.natCast_nonneg _ | (guard_target = (0:Int) <= (OfNat.ofNat _ : Int); decide) | rotate_left); (first | with_reducible assumption | decide +kernel | exact rfl); (first | exact uniB_ok rfl | with_reducible assumption | decide +kernel | rotate_left)) | (apply AL_b2s ttok; (iterate 9 exact rfl)))
    all_goals (apply endQ []; (apply resG_ok ttok; exact rfl); (iterate 4 exact rfl))
    all_goals rfl
  | false =>
   refine AP.ofA ?_
   refine AC_of Tryd.func56 rfl Tryd.ntmps56 rfl rfl ?_
   repeat' (first | (apply AW_drawW 11 ttok hmix; (decide +kernel); (kernel_rfl); (kernel_rfl); (kernel_rfl); exact rfl; exact rfl) | exact AV.nil _ _ | (apply AV_al; exact rfl; exact rfl) | (apply AV_st; (iterate 4 exact rfl)) | (apply AV_pu; (iterate 4 exact rfl)) | (apply AWk_mk; (iterate 4 exact rfl)) | (apply AL_callPw (hR); kernel_rfl; (iterate 4 exact rfl)) | (apply AL_callPw (hS1); kernel_rfl; (iterate 4 exact rfl)) | (apply AL_callPw (hS2); kernel_rfl; (iterate 4 exact rfl)) | (apply AL_callPw (hR0); kernel_rfl; (iterate 4 exact rfl)) | (apply AL_callPw (n0); kernel_rfl; (iterate 4 exact rfl)) | (apply AL_callPw (n1); kernel_rfl; (iterate 4 exact rfl)) | (apply AL_callPw (n2); kernel_rfl; (iterate 4 exact rfl)) | (apply AL_go ttok; exact rfl) | (apply AW_go ttok; exact rfl) | (apply K_go ttok; exact rfl) | (apply AL_guardT; (iterate 3 exact rfl); (first | with_reducible assumption | decide +kernel)) | (apply AL_pickT; exact rfl; (first | with_reducible assumption | decide +kernel); exact rfl; exact rfl) | (apply AL_pickF; exact rfl; (first | with_reducible assumption | decide +kernel); exact rfl; exact rfl) | (apply AW_condA; exact rfl; (first | with_reducible assumption | decide +kernel)) | (apply AW_condB; exact rfl; (first | with_reducible assumption | decide +kernel)) | (apply AL_len ttok; (iterate 4 exact rfl)) | (apply AW_drawE 2 hmix; (decide +kernel); (kernel_rfl); (kernel_rfl); (kernel_rfl); exact rfl; exact rfl) | (apply AW_drawE 6 hmix; (decide +kernel); (kernel_rfl); (kernel_rfl); (kernel_rfl); exact rfl; exact rfl) | (apply AE_consZ; (iterate 4 exact rfl)) | exact AE.nil _ _ _ _ | (apply AEk_puT; exact rfl) | (apply AOt_mk; exact rfl; exact rfl; (decide +kernel); exact rfl) | (apply AO_puT; exact rfl) | exact AO.nil _ _ _ | (apply AOs_skip; (decide +kernel)) | exact AOs.nil | exact qY_ok rfl rfl | (apply AL_idx ttok; (iterate 6 exact rfl); (first | with_reducible assumption | decide +kernel | exact Int.natCast_nonneg _ | (guard_target = (0:Int) <= (OfNat.ofNat _ : Int); decide) | rotate_left); (first | with_reducible assumption | decide +kernel | exact rfl); (first | exact uniB_ok rfl | with_reducible assumption | decide +kernel | rotate_left)))
   all_goals (apply endQ []; (apply resG_ok ttok; exact rfl); (iterate 4 exact rfl))
   all_goals rfl
end Go.Proofs.YtfkmicjlaedlkaaDoor
end
section
open Go.RowKit Go.Pl Go.Av
namespace Go.Proofs.YtfkmicjlaedlkaaDoor
set_option maxHeartbeats 4000000
theorem rd_two [Known] [KnownU8] (n : Nat) (b : List UInt8) (s r : It) (hw : wfI (.mk 4 n b [s, r])) (hr : rightI (.mk 4 n b [s, r]) = true) (h1 : isNum 1 s = false) : AP Tryd.prog 56 [itD (.mk 4 n b [s, r])] (resE (readV2 s r)) [] := by
 have hR := av_rightI _ hw
 rw [hr] at hR
 obtain ⟨_, _, _, hws, hwr, _⟩ := hw
 have hS1 := av_isNum s hws 1 (by omega)
 have hS2 := av_isNum s hws 2 (by omega)
 have hN := av_nums r hwr
 have n1 := av_numA 1
 have n2 := av_numA 2
 replace n1 : AP Tryd.prog _ [.int .u64 1] (.agg [.int .i64 0, .int .u64 1, .sl .ext [], .sl .ext []]) [] := n1
 replace n2 : AP Tryd.prog _ [.int .u64 2] (.agg [.int .i64 0, .int .u64 2, .sl .ext [], .sl .ext []]) [] := n2
 rw [h1] at hS1
 have hU := uniI [s, r]
 unfold readV2
 rw [h1]
 dsimp only
 obtain ⟨ks, ns, bs, ls⟩ := s
 obtain ⟨kr, nr, br, lr⟩ := r
 have t2 : (((itEs [It.mk ks ns bs ls, It.mk kr nr br lr]).length : Int) != 2) = false := rfl
 cases h2 : isNum 2 (.mk ks ns bs ls) with
 | false =>
  rw [h2] at hS2
  show AP Tryd.prog _ _ (.tup [.agg [.bool false, .int .u64 0, .int .u64 0, .str [], .str []], .int .i64 3]) []
  refine AP.ofA ?_
  refine AC_of Tryd.func56 rfl Tryd.ntmps56 rfl rfl ?_
  repeat' (first | (apply AW_drawW 11 ttok hmix; (decide +kernel); (kernel_rfl); (kernel_rfl); (kernel_rfl); exact rfl; exact rfl) | exact AV.nil _ _ | (apply AV_al; exact rfl; exact rfl) | (apply AV_st; (iterate 4 exact rfl)) | (apply AV_pu; (iterate 4 exact rfl)) | (apply AWk_mk; (iterate 4 exact rfl)) | (apply AL_callPw (hR); kernel_rfl; (iterate 4 exact rfl)) | (apply AL_callPw (hS1); kernel_rfl; (iterate 4 exact rfl)) | (apply AL_callPw (hS2); kernel_rfl; (iterate 4 exact rfl)) | (apply AL_callPw (n1); kernel_rfl; (iterate 4 exact rfl)) | (apply AL_callPw (n2); kernel_rfl; (iterate 4 exact rfl)) | (apply AL_go ttok; exact rfl) | (apply AW_go ttok; exact rfl) | (apply K_go ttok; exact rfl) | (apply AL_guardT; (iterate 3 exact rfl); (first | with_reducible assumption | decide +kernel)) | (apply AL_guardFt; (iterate 3 exact rfl); (first | with_reducible assumption | decide +kernel)) | (apply AL_pickF; exact rfl; (first | with_reducible assumption | decide +kernel); exact rfl; exact rfl) | (apply AW_condA; exact rfl; (first | with_reducible assumption | decide +kernel)) | (apply AW_condB; exact rfl; (first | with_reducible assumption | decide +kernel)) | (apply AL_len ttok; (iterate 4 exact rfl)) | (apply AW_drawE 2 hmix; (decide +kernel); (kernel_rfl); (kernel_rfl); (kernel_rfl); exact rfl; exact rfl) | (apply AW_drawE 6 hmix; (decide +kernel); (kernel_rfl); (kernel_rfl); (kernel_rfl); exact rfl; exact rfl) | (apply AE_consZ; (iterate 4 exact rfl)) | exact AE.nil _ _ _ _ | (apply AEk_puT; exact rfl) | (apply AOt_mk; exact rfl; exact rfl; (decide +kernel); exact rfl) | (apply AO_puT; exact rfl) | exact AO.nil _ _ _ | (apply AOs_skip; (decide +kernel)) | exact AOs.nil | exact qY_ok rfl rfl | (apply AL_idx ttok; (iterate 6 exact rfl); (first | with_reducible assumption | decide +kernel | exact Int.natCast_nonneg _ | (guard_target = (0:Int) <= (OfNat.ofNat _ : Int); decide) | rotate_left); (first | with_reducible assumption | decide +kernel | exact rfl); (first | exact uniB_ok rfl | with_reducible assumption | decide +kernel | rotate_left)))
  all_goals (apply endQ []; (apply resG_ok ttok; exact rfl); (iterate 4 exact rfl))
  all_goals rfl
 | true =>
  rw [h2] at hS2
  dsimp only
  cases hq : numsV (.mk kr nr br lr) with
  | none =>
   rw [hq] at hN
   replace hN : AP Tryd.prog _ _ (.tup [.sl .ext [], .bool false]) [] := hN
   show AP Tryd.prog _ _ (.tup [.agg [.bool false, .int .u64 0, .int .u64 0, .str [], .str []], .int .i64 3]) []
   refine AP.ofA ?_
   refine AC_of Tryd.func56 rfl Tryd.ntmps56 rfl rfl ?_
   repeat' (first | (apply AW_drawW 11 ttok hmix; (decide +kernel); (kernel_rfl); (kernel_rfl); (kernel_rfl); exact rfl; exact rfl) | exact AV.nil _ _ | (apply AV_al; exact rfl; exact rfl) | (apply AV_st; (iterate 4 exact rfl)) | (apply AV_pu; (iterate 4 exact rfl)) | (apply AWk_mk; (iterate 4 exact rfl)) | (apply AL_callPw (hR); kernel_rfl; (iterate 4 exact rfl)) | (apply AL_callPw (hS1); kernel_rfl; (iterate 4 exact rfl)) | (apply AL_callPw (hS2); kernel_rfl; (iterate 4 exact rfl)) | (apply AL_callPw (n1); kernel_rfl; (iterate 4 exact rfl)) | (apply AL_callPw (n2); kernel_rfl; (iterate 4 exact rfl)) | (apply AL_callPw (hN); kernel_rfl; (iterate 4 exact rfl)) | (apply AL_go ttok; exact rfl) | (apply AW_go ttok; exact rfl) | (apply K_go ttok; exact rfl) | (apply AL_guardT; (iterate 3 exact rfl); (first | with_reducible assumption | decide +kernel)) | (apply AL_guardFt; (iterate 3 exact rfl); (first | with_reducible assumption | decide +kernel)) | (apply AL_pickF; exact rfl; (first | with_reducible assumption | decide +kernel); exact rfl; exact rfl) | (apply AW_condA; exact rfl; (first | with_reducible assumption | decide +kernel)) | (apply AW_condB; exact rfl; (first | with_reducible assumption | decide +kernel)) | (apply AL_len ttok; (iterate 4 exact rfl)) | (apply AW_drawE 2 hmix; (decide +kernel); (kernel_rfl); (kernel_rfl); (kernel_rfl); exact rfl; exact rfl) | (apply AW_drawE 6 hmix; (decide +kernel); (kernel_rfl); (kernel_rfl); (kernel_rfl); exact rfl; exact rfl) | (apply AE_consZ; (iterate 4 exact rfl)) | exact AE.nil _ _ _ _ | (apply AEk_puT; exact rfl) | (apply AOt_mk; exact rfl; exact rfl; (decide +kernel); exact rfl) | (apply AO_puT; exact rfl) | exact AO.nil _ _ _ | (apply AOs_skip; (decide +kernel)) | exact AOs.nil | exact qY_ok rfl rfl | (apply AL_idx ttok; (iterate 6 exact rfl); (first | with_reducible assumption | decide +kernel | exact Int.natCast_nonneg _ | (guard_target = (0:Int) <= (OfNat.ofNat _ : Int); decide) | rotate_left); (first | with_reducible assumption | decide +kernel | exact rfl); (first | exact uniB_ok rfl | with_reducible assumption | decide +kernel | rotate_left)))
   all_goals (apply endQ []; (apply resG_ok ttok; exact rfl); (iterate 4 exact rfl))
   all_goals rfl
  | some ac =>
   obtain ⟨a, c⟩ := ac
   rw [hq] at hN
   replace hN : AP Tryd.prog _ _ (.tup [.sl .ext [.int .u64 (a : Int), .int .u64 (c : Int)], .bool true]) [] := hN
   have hE := av_eRight ⟨true, a, c, [], []⟩
   dsimp only
   generalize eRight ⟨true, a, c, [], []⟩ = R at *
   replace hE : AP Tryd.prog _ [.agg [.bool true, .int .u64 (a : Int), .int .u64 (c : Int), .str [], .str []]] (.bool R) [] := hE
   cases R
   all_goals
    refine AP.ofA ?_
    refine AC_of Tryd.func56 rfl Tryd.ntmps56 rfl rfl ?_
    repeat' (first | (apply AW_drawW 11 ttok hmix; (decide +kernel); (kernel_rfl); (kernel_rfl); (kernel_rfl); exact rfl; exact rfl) | exact AV.nil _ _ | (apply AV_al; exact rfl; exact rfl) | (apply AV_st; (iterate 4 exact rfl)) | (apply AV_pu; (iterate 4 exact rfl)) | (apply AWk_mk; (iterate 4 exact rfl)) | (apply AL_callPw (hR); kernel_rfl; (iterate 4 exact rfl)) | (apply AL_callPw (hS1); kernel_rfl; (iterate 4 exact rfl)) | (apply AL_callPw (hS2); kernel_rfl; (iterate 4 exact rfl)) | (apply AL_callPw (n1); kernel_rfl; (iterate 4 exact rfl)) | (apply AL_callPw (n2); kernel_rfl; (iterate 4 exact rfl)) | (apply AL_callPw (hN); kernel_rfl; (iterate 4 exact rfl)) | (apply AL_callPw (hE); kernel_rfl; (iterate 4 exact rfl)) | (apply AL_go ttok; exact rfl) | (apply AW_go ttok; exact rfl) | (apply K_go ttok; exact rfl) | (apply AL_guardT; (iterate 3 exact rfl); (first | with_reducible assumption | decide +kernel)) | (apply AL_guardFt; (iterate 3 exact rfl); (first | with_reducible assumption | decide +kernel)) | (apply AL_pickF; exact rfl; (first | with_reducible assumption | decide +kernel); exact rfl; exact rfl) | (apply AW_condA; exact rfl; (first | with_reducible assumption | decide +kernel)) | (apply AW_condB; exact rfl; (first | with_reducible assumption | decide +kernel)) | (apply AL_len ttok; (iterate 4 exact rfl)) | (apply AW_drawE 2 hmix; (decide +kernel); (kernel_rfl); (kernel_rfl); (kernel_rfl); exact rfl; exact rfl) | (apply AW_drawE 6 hmix; (decide +kernel); (kernel_rfl); (kernel_rfl); (kernel_rfl); exact rfl; exact rfl) | (apply AE_consZ; (iterate 4 exact rfl)) | exact AE.nil _ _ _ _ | (apply AEk_puT; exact rfl) | (apply AOt_mk; exact rfl; exact rfl; (decide +kernel); exact rfl) | (apply AO_puT; exact rfl) | exact AO.nil _ _ _ | (apply AOs_skip; (decide +kernel)) | exact AOs.nil | exact qY_ok rfl rfl | (apply AL_idx ttok; (iterate 6 exact rfl); (first | with_reducible assumption | decide +kernel | exact Int.natCast_nonneg _ | (guard_target = (0:Int) <= (OfNat.ofNat _ : Int); decide) | rotate_left); (first | with_reducible assumption | decide +kernel | exact rfl); (first | exact uniB_ok rfl | with_reducible assumption | decide +kernel | rotate_left)))
    all_goals (apply endQ []; (apply resG_ok ttok; exact rfl); (iterate 4 exact rfl))
    all_goals rfl
theorem av_eRead [Known] [KnownU8] (x : It) (hw : wfI x) : AP Tryd.prog 56 [itD x] (resE (readV x)) [] := by
 cases hr : rightI x with
 | false =>
  have e : readV x = (eidZ, false) := by unfold readV; rw [hr]
  rw [e]
  exact rd_not x hw (.inl hr)
 | true =>
  obtain ⟨k, n, b, l⟩ := x
  by_cases hk : k = 4
  ·subst hk
   match l, hw, hr with
   | [s, r], hw, hr =>
    have e : readV (.mk 4 n b [s, r]) = readV2 s r := by unfold readV; rw [hr]; dsimp only; rw [if_pos rfl]
    rw [e]
    cases h1 : isNum 1 s with
    | true => exact rd_one n b s r hw hr h1
    | false => exact rd_two n b s r hw hr h1
   | [], hw, hr =>
    have e : readV (.mk 4 n b []) = (eidZ, false) := by unfold readV; rw [hr]
    rw [e]; exact rd_not _ hw (.inr (.inr (by simp [It.l])))
   | [s], hw, hr =>
    have e : readV (.mk 4 n b [s]) = (eidZ, false) := by unfold readV; rw [hr]
    rw [e]; exact rd_not _ hw (.inr (.inr (by simp [It.l])))
   | s :: r :: y :: l, hw, hr =>
    have e : readV (.mk 4 n b (s :: r :: y :: l)) = (eidZ, false) := by unfold readV; rw [hr]
    rw [e]; exact rd_not _ hw (.inr (.inr (by simp [It.l])))
  ·have e : readV (.mk k n b l) = (eidZ, false) := by
    unfold readV; rw [hr]
    match l with
    | [s, r] => dsimp only; rw [if_neg hk]
    | [] => rfl
    | [s] => rfl
    | s :: r :: y :: l => rfl
   rw [e]
   exact rd_not _ hw (.inr (.inl hk))
end Go.Proofs.YtfkmicjlaedlkaaDoor
end
section
open Go.RowKit Go.Pl Go.Av
namespace Go.Proofs.YtfkmicjlaedlkaaDoor
set_option maxHeartbeats 4000000
structure BlkV where
 ty : Nat
 num : Nat
 fl : Nat
 sum : Int
 data : List UInt8
end Go.Proofs.YtfkmicjlaedlkaaDoor
end
section
open Go.RowKit Go.Pl Go.Av
namespace Go.Proofs.YtfkmicjlaedlkaaDoor
set_option maxHeartbeats 4000000
end Go.Proofs.YtfkmicjlaedlkaaDoor
end
section
open Go.RowKit Go.Pl Go.Av
namespace Go.Proofs.YtfkmicjlaedlkaaDoor
set_option maxHeartbeats 4000000
end Go.Proofs.YtfkmicjlaedlkaaDoor
end
section
open Go.RowKit Go.Pl Go.Av
namespace Go.Proofs.YtfkmicjlaedlkaaDoor
set_option maxHeartbeats 4000000
end Go.Proofs.YtfkmicjlaedlkaaDoor
end
section
open Go.RowKit Go.Pl Go.Av
namespace Go.Proofs.YtfkmicjlaedlkaaDoor
set_option maxHeartbeats 4000000
end Go.Proofs.YtfkmicjlaedlkaaDoor
end
section
open Go.RowKit Go.Pl Go.Av
namespace Go.Proofs.YtfkmicjlaedlkaaDoor
set_option maxHeartbeats 4000000
end Go.Proofs.YtfkmicjlaedlkaaDoor
end
section
open Go.RowKit Go.Pl Go.Av
namespace Go.Proofs.YtfkmicjlaedlkaaDoor
set_option maxHeartbeats 4000000
end Go.Proofs.YtfkmicjlaedlkaaDoor
end
section
open Go.RowKit Go.Pl Go.Av
namespace Go.Proofs.YtfkmicjlaedlkaaDoor
set_option maxHeartbeats 4000000
abbrev hopI (n m : Nat) : It := .mk 4 0 [] [.mk 0 n [] [], .mk 0 m [] []]
end Go.Proofs.YtfkmicjlaedlkaaDoor
end
section
open Go.RowKit Go.Pl Go.Av
namespace Go.Proofs.YtfkmicjlaedlkaaDoor
set_option maxHeartbeats 4000000
theorem open_sub (x : It) (a : Int) : ∀ y ∈ (openV x a).1, y ∈ x.l := by
 obtain ⟨k, n, b, l⟩ := x
 unfold openV
 dsimp only [It.l]
 have hs : ∀ (m : Nat) (y : It), y ∈ l.take m -> y ∈ l := fun m y h => List.mem_of_mem_take h
 repeat' split
 all_goals first | exact hs _ | (intro y h; exact h) | (intro y h; exact absurd h (by simp))
theorem wf_z0 : wfI z0 := ⟨by decide, by simp, by simp, trivial⟩
theorem wf_outA (s : Nat) {l : List It} (hws : wfs l) (hl : l.length <= 1000000) : wfI (outL s l) := by
 refine ⟨by decide, by simp, by simp; omega, wfs_app hws ⟨⟨by decide, ?_, by simp, trivial⟩, trivial⟩⟩
 have : (sumB s (putI (zeroL s l))).length <= 4 := by
  unfold sumB
  split <;> simp
 omega
theorem wf_seal {l : List It} (a : Int) (hws : wfs l) (hl : l.length <= 1000000) : wfI (sealV l a).1 := by
 unfold sealV
 have h0 : wfI (.mk 4 0 [] l) := ⟨by decide, by simp, by omega, hws⟩
 repeat' split
 all_goals first | exact wf_z0 | exact h0 | exact wf_outA _ hws hl
end Go.Proofs.YtfkmicjlaedlkaaDoor
end
section
open Go.RowKit Go.Pl Go.Av
namespace Go.Proofs.YtfkmicjlaedlkaaDoor
set_option maxHeartbeats 4000000
end Go.Proofs.YtfkmicjlaedlkaaDoor
end
section
open Go.RowKit Go.Pl Go.Av
namespace Go.Proofs.YtfkmicjlaedlkaaDoor
set_option maxHeartbeats 4000000
end Go.Proofs.YtfkmicjlaedlkaaDoor
end
section
open Go.RowKit Go.Pl Go.Av
namespace Go.Proofs.YtfkmicjlaedlkaaDoor
set_option maxHeartbeats 4000000
end Go.Proofs.YtfkmicjlaedlkaaDoor
end
section
open Go.RowKit Go.Pl Go.Av
namespace Go.Proofs.YtfkmicjlaedlkaaDoor
set_option maxHeartbeats 4000000
end Go.Proofs.YtfkmicjlaedlkaaDoor
end
section
open Go.RowKit Go.Pl Go.Av
namespace Go.Proofs.YtfkmicjlaedlkaaDoor
end Go.Proofs.YtfkmicjlaedlkaaDoor
end
section
open Go.RowKit Go.Pl Go.Av
namespace Go.Proofs.YtfkmicjlaedlkaaDoor
set_option maxHeartbeats 4000000
def pathE (x : EidV) : List UInt8 := [47, 47] ++ x.h ++ [47] ++ x.d
theorem eRight_num {x : EidV} (h : eRight x = true) (hz : isZ x = false) (hi : x.i = true) : x.n <= 4294967295 /\ x.s <= 4294967295 /\ x.h = [] /\ x.d = [] /\ 1 <= x.n := by
 rw [eRight_I hz hi] at h
 simp only [Bool.and_eq_true, decide_eq_true_eq, beq_iff_eq] at h
 obtain ⟨⟨⟨⟨_, _, _, h1, h2, _⟩, h3⟩, h4⟩, h5⟩ := h
 exact ⟨by omega, by omega, h1, h2, by omega⟩
theorem eRight_txt {x : EidV} (h : eRight x = true) (hz : isZ x = false) (hi : x.i = false) : x.n = 0 /\ x.s = 0 /\ 1 <= x.h.length /\ x.h.length <= 16 /\ x.d.length <= 24 /\ x.h.all (okB 45) = true /\ x.d.all (okB 47) = true := by
 rw [eRight_T hz hi] at h
 simp only [Bool.and_eq_true, decide_eq_true_eq, beq_iff_eq] at h
 obtain ⟨⟨⟨⟨⟨⟨_, h1, h2, _⟩, h3⟩, h4⟩, h5⟩, h6⟩, h7⟩ := h
 exact ⟨by omega, by omega, by omega, by omega, by omega, h6, h7⟩
theorem av_path [Known] (x : EidV) (h1 : x.h.length <= 16) (h2 : x.d.length <= 24) : AP Tryd.prog 84 [.agg (eC x)] (.str (pathE x)) [] := by
 have l1 : [(47 : UInt8), 47].length + x.h.length <= maxLen := by simp; unfold maxLen; omega
 have l2 : ([(47 : UInt8), 47] ++ x.h).length + [(47 : UInt8)].length <= maxLen := by simp; unfold maxLen; omega
 have l3 : ([(47 : UInt8), 47] ++ x.h ++ [47]).length + x.d.length <= maxLen := by simp; unfold maxLen; omega
 refine AP.ofA ?_
 refine AC_of Tryd.func84 rfl Tryd.ntmps84 rfl rfl ?_
 repeat' (first | (apply AL_cat; exact rfl; exact rfl; (first | exact l1 | exact l2 | exact l3); exact rfl) | (apply AL_go ttok; exact rfl) | (apply AW_go ttok; exact rfl))
 all_goals (apply endQ []; (apply resG_ok ttok; exact rfl); (iterate 4 exact rfl))
 all_goals rfl
end Go.Proofs.YtfkmicjlaedlkaaDoor
end
section
open Go.RowKit Go.Pl Go.Av
namespace Go.Proofs.YtfkmicjlaedlkaaDoor
set_option maxHeartbeats 4000000
def itemE (x : EidV) : It :=
 if isZ x then .mk 4 0 [] [.mk 0 1 [] [], .mk 0 0 [] []]
 else if x.i then .mk 4 0 [] [.mk 0 2 [] [], .mk 4 0 [] [.mk 0 x.n [] [], .mk 0 x.s [] []]]
 else .mk 4 0 [] [.mk 0 1 [] [], .mk 3 0 (pathE x) []]
theorem av_eWrite [Known] (x : EidV) : AP Tryd.prog 54 [.agg (eC x)] (.tup [itD (if eRight x then itemE x else .mk 0 0 [] []), .int .i64 (if eRight x then 0 else 3)]) [] := by
 have hR := av_eRight x
 cases hr : eRight x with
 | false =>
  rw [hr] at hR
  refine AP.ofA ?_
  refine AC_of Tryd.func54 rfl Tryd.ntmps54 rfl rfl ?_
  repeat' (first | (apply AL_callPw (hR); kernel_rfl; (iterate 4 exact rfl)) | (apply AL_go ttok; exact rfl) | (apply AW_go ttok; exact rfl) | (apply K_go ttok; exact rfl) | (apply AW_condA; exact rfl; (first | with_reducible assumption | decide +kernel)))
  all_goals (apply endQ []; (apply resG_ok ttok; exact rfl); (iterate 4 exact rfl))
  all_goals rfl
 | true =>
  rw [hr] at hR
  rw [if_pos rfl, if_pos rfl]
  unfold itemE
  cases hz : isZ x with
  | true =>
   rw [if_pos rfl]
   have n1 := av_num 1
   have n0 := av_num 0
   have hL := av_list [.mk 0 1 [] [], .mk 0 0 [] []] (by decide) (by simp [wfI, wfs])
   replace n1 : AP Tryd.prog _ [.int .u64 1] (.agg [.int .i64 0, .int .u64 1, .sl .ext [], .sl .ext []]) [] := n1
   replace n0 : AP Tryd.prog _ [.int .u64 0] (.agg [.int .i64 0, .int .u64 0, .sl .ext [], .sl .ext []]) [] := n0
   unfold isZ at hz
   refine AP.ofA ?_
   refine AC_of Tryd.func54 rfl Tryd.ntmps54 rfl rfl ?_
   repeat' (first | (apply AL_callPw (hR); kernel_rfl; (iterate 4 exact rfl)) | (apply AL_callPw (n1); kernel_rfl; (iterate 4 exact rfl)) | (apply AL_callPw (n0); kernel_rfl; (iterate 4 exact rfl)) | (apply AL_callPw (hL); kernel_rfl; (iterate 4 exact rfl)) | (apply AL_go ttok; exact rfl) | (apply AW_go ttok; exact rfl) | (apply K_go ttok; exact rfl) | (apply AW_condA; exact rfl; (first | with_reducible assumption | decide +kernel)) | (apply AW_condB; exact rfl; (first | with_reducible assumption | decide +kernel)) | (apply AL_bsZ ttok; (iterate 12 exact rfl)) | (apply AL_eqS ttok; (iterate 4 exact rfl); (kernel_rfl); (kernel_rfl); (iterate 3 exact rfl)))
   all_goals (apply endQ []; (apply resG_ok ttok; exact rfl); (iterate 4 exact rfl))
   all_goals rfl
  | false =>
   rw [if_neg (by simp)]
   cases hi : x.i with
   | true =>
    obtain ⟨b1, b2, _⟩ := eRight_num hr hz hi
    rw [if_pos rfl]
    have n2 := av_num 2
    have nn := av_num x.n
    have ns := av_num x.s
    have hL1 := av_list [.mk 0 x.n [] [], .mk 0 x.s [] []] (by simp) (by simp [wfI, wfs]; omega)
    have hL := av_list [.mk 0 2 [] [], .mk 4 0 [] [.mk 0 x.n [] [], .mk 0 x.s [] []]] (by simp) (by simp [wfI, wfs]; omega)
    replace n2 : AP Tryd.prog _ [.int .u64 2] (.agg [.int .i64 0, .int .u64 2, .sl .ext [], .sl .ext []]) [] := n2
    replace nn : AP Tryd.prog _ [.int .u64 (x.n : Int)] (.agg [.int .i64 0, .int .u64 (x.n : Int), .sl .ext [], .sl .ext []]) [] := nn
    replace ns : AP Tryd.prog _ [.int .u64 (x.s : Int)] (.agg [.int .i64 0, .int .u64 (x.s : Int), .sl .ext [], .sl .ext []]) [] := ns
    replace hL1 : AP Tryd.prog _ _ (.agg [.int .i64 4, .int .u64 0, .sl .ext [], .sl .ext [.agg [.int .i64 0, .int .u64 (x.n : Int), .sl [], .sl []], .agg [.int .i64 0, .int .u64 (x.s : Int), .sl [], .sl []]]]) [] := hL1
    unfold isZ at hz
    refine AP.ofA ?_
    refine AC_of Tryd.func54 rfl Tryd.ntmps54 rfl rfl ?_
    repeat' (first | (apply AL_callPw (hR); kernel_rfl; (iterate 4 exact rfl)) | (apply AL_callPw (n2); kernel_rfl; (iterate 4 exact rfl)) | (apply AL_callPw (nn); kernel_rfl; (iterate 4 exact rfl)) | (apply AL_callPw (ns); kernel_rfl; (iterate 4 exact rfl)) | (apply AL_callPw (hL1); kernel_rfl; (iterate 4 exact rfl)) | (apply AL_callPw (hL); kernel_rfl; (iterate 4 exact rfl)) | (apply AL_go ttok; exact rfl) | (apply AW_go ttok; exact rfl) | (apply K_go ttok; exact rfl) | (apply AW_condA; exact rfl; (first | with_reducible assumption | decide +kernel)) | (apply AW_condB; exact rfl; (first | with_reducible assumption | decide +kernel)) | (apply AL_bsZ ttok; (iterate 12 exact rfl)) | (apply AL_eqS ttok; (iterate 4 exact rfl); (kernel_rfl); (kernel_rfl); (iterate 3 exact rfl)) | (apply AW_drawE 6 hmix; (decide +kernel); (kernel_rfl); (kernel_rfl); (kernel_rfl); exact rfl; exact rfl) | (apply AE_consZ; (iterate 4 exact rfl)) | exact AE.nil _ _ _ _ | (apply AEk_puT; exact rfl) | (apply AOt_mk; exact rfl; exact rfl; (decide +kernel); exact rfl) | (apply AO_puT; exact rfl) | exact AO.nil _ _ _ | (apply AOs_skip; (decide +kernel)) | exact AOs.nil | exact qY_ok rfl rfl)
    all_goals (apply endQ []; (apply resG_ok ttok; exact rfl); (iterate 4 exact rfl))
    all_goals rfl
   | false =>
    obtain ⟨_, _, _, b1, b2, _⟩ := eRight_txt hr hz hi
    rw [if_neg (by simp)]
    have n1 := av_num 1
    have hP := av_path x b1 b2
    have hT := av_text (pathE x)
    have hpl : (pathE x).length <= 1099511627776 := by unfold pathE; simp; omega
    generalize pathE x = p at *
    have hL := av_list [.mk 0 1 [] [], .mk 3 0 p []] (by simp) (by simp [wfI, wfs]; omega)
    replace n1 : AP Tryd.prog _ [.int .u64 1] (.agg [.int .i64 0, .int .u64 1, .sl .ext [], .sl .ext []]) [] := n1
    replace hT : AP Tryd.prog _ [.str p] (.agg [.int .i64 3, .int .u64 0, byE p, .sl .ext []]) [] := hT
    unfold isZ at hz
    refine AP.ofA ?_
    refine AC_of Tryd.func54 rfl Tryd.ntmps54 rfl rfl ?_
    repeat' (first | (apply AL_callPw (hR); kernel_rfl; (iterate 4 exact rfl)) | (apply AL_callPw (n1); kernel_rfl; (iterate 4 exact rfl)) | (apply AL_callPw (hP); kernel_rfl; (iterate 4 exact rfl)) | (apply AL_callPw (hT); kernel_rfl; (iterate 4 exact rfl)) | (apply AL_callPw (hL); kernel_rfl; (iterate 4 exact rfl)) | (apply AL_go ttok; exact rfl) | (apply AW_go ttok; exact rfl) | (apply K_go ttok; exact rfl) | (apply AW_condB; exact rfl; (first | with_reducible assumption | decide +kernel)) | (apply AL_bsZ ttok; (iterate 12 exact rfl)) | (apply AL_eqS ttok; (iterate 4 exact rfl); (kernel_rfl); (kernel_rfl); (iterate 3 exact rfl)) | (apply AW_drawE 2 hmix; (decide +kernel); (kernel_rfl); (kernel_rfl); (kernel_rfl); exact rfl; exact rfl) | (apply AE_consZ; (iterate 4 exact rfl)) | exact AE.nil _ _ _ _ | (apply AEk_puT; exact rfl) | (apply AOt_mk; exact rfl; exact rfl; (decide +kernel); exact rfl) | (apply AO_puT; exact rfl) | exact AO.nil _ _ _ | (apply AOs_skip; (decide +kernel)) | exact AOs.nil | exact qY_ok rfl rfl)
    all_goals (apply endQ []; (apply resG_ok ttok; exact rfl); (iterate 4 exact rfl))
    all_goals rfl
end Go.Proofs.YtfkmicjlaedlkaaDoor
end
section
open Go.RowKit Go.Pl Go.Av
namespace Go.Proofs.YtfkmicjlaedlkaaDoor
theorem wf_itemE {x : EidV} (h : eRight x = true) : wfI (itemE x) := by
 unfold itemE
 cases hz : isZ x with
 | true => rw [if_pos rfl]; simp [wfI, wfs]
 | false =>
  rw [if_neg (by simp)]
  cases hi : x.i with
  | true =>
   obtain ⟨b1, b2, b3, b4, b5⟩ := eRight_num h hz hi
   rw [if_pos rfl]
   simp [wfI, wfs]
   omega
  | false =>
   obtain ⟨b1, b2, b3, b4, b5, b6, b7⟩ := eRight_txt h hz hi
   rw [if_neg (by simp)]
   simp [wfI, wfs, pathE]
   omega
theorem okB_asc {m : Nat} (hm : m < 128) {c : UInt8} (h : okB m c = true) : c.toNat < 128 := by
 simp only [okB, Bool.or_eq_true, Bool.and_eq_true, decide_eq_true_eq, beq_iff_eq] at h
 omega
theorem right_itemE {x : EidV} (h : eRight x = true) : rightI (itemE x) = true := by
 unfold itemE
 cases hz : isZ x with
 | true => rw [if_pos rfl]; rfl
 | false =>
  rw [if_neg (by simp)]
  cases hi : x.i with
  | true => rw [if_pos rfl]; simp [rightI, walkI, walks, ownI]
  | false =>
   obtain ⟨b1, b2, b3, b4, b5, b6, b7⟩ := eRight_txt h hz hi
   rw [if_neg (by simp)]
   have hv : validU (pathE x) = true := by
    rw [validU_asc (pathE x).length (pathE x) (Nat.le_refl _) fun c hc => ?_, List.drop_length]
    ·rfl
    ·rw [List.take_length] at hc
     simp only [pathE, List.mem_append, List.mem_cons, List.not_mem_nil, or_false] at hc
     rcases hc with ((hc | hc) | hc) | hc
     ·rcases hc with hc | hc <;> rw [hc] <;> decide
     ·exact okB_asc (by decide) (List.all_eq_true.1 b6 c hc)
     ·rw [hc]; decide
     ·exact okB_asc (by decide) (List.all_eq_true.1 b7 c hc)
   simp [rightI, walkI, walks, ownI, hv]
end Go.Proofs.YtfkmicjlaedlkaaDoor
end
section
open Go.RowKit Go.Pl Go.Av
namespace Go.Proofs.YtfkmicjlaedlkaaDoor
theorem num_right (n : Nat) : rightI (.mk 0 n [] []) = true := by simp [rightI, walkI, ownI, walks]
theorem hop_right (n m : Nat) : rightI (hopI n m) = true := by simp [rightI, walkI, ownI, walks]
theorem put_small (k : Int) (n : Nat) (b : List UInt8) (l : List It) : (putI (.mk k n b l)).length <= 9 + (b.length + (puts l).length) := by
 rw [putI, List.length_append, List.length_append]
 split
 ·rename_i h
  have h1 := writeL_le h rfl
  have h2 : followN (It.mk k n b l).hn <= 8 := by
   unfold followN
   repeat' split
   all_goals omega
  dsimp only at h1
  omega
 ·simp
theorem num_len (n : Nat) : (putI (.mk 0 n [] [])).length <= 9 := by
 have := put_small 0 n [] []
 simpa [puts] using this
theorem hop_len (n m : Nat) : (putI (hopI n m)).length <= 27 := by
 have h0 := put_small 4 0 [] [.mk 0 n [] [], .mk 0 m [] []]
 have h1 := num_len n
 have h2 := num_len m
 simp only [puts, List.length_append, List.length_nil, Nat.add_zero, Nat.zero_add] at h0
 have e : hopI n m = .mk 4 0 [] [.mk 0 n [] [], .mk 0 m [] []] := rfl
 rw [e]
 omega
end Go.Proofs.YtfkmicjlaedlkaaDoor
end
section
open Go.RowKit Go.Pl Go.Av
namespace Go.Proofs.YtfkmicjlaedlkaaDoor
set_option maxHeartbeats 4000000
theorem lim_few {y : It} (h : (putI y).length <= 900000000) : ∀ s m, s = 1 \/ s = 2 -> (putI (zeroL s (y.l.take m))).length <= 1000000000 := by
 intro s m hs
 have h0 := put_small 4 0 [] (y.l.take m ++ [.mk 2 0 (List.replicate (2 * s) 0) []])
 have h1 := put_small 2 0 (List.replicate (2 * s) 0) []
 have h2 := puts_take_le y.l m
 have h3 : (puts y.l).length <= (putI y).length := by
  obtain ⟨k, n, b, l⟩ := y
  rw [putI, List.length_append, List.length_append]
  show (puts l).length <= _
  omega
 have h5 : ∀ (a c : List It), puts (a ++ c) = puts a ++ puts c := fun a c => by
  induction a with
  | nil => rfl
  | cons y a ih => rw [List.cons_append, puts, puts, ih, List.append_assoc]
 rw [h5] at h0
 simp only [puts, List.length_append, List.length_nil, List.length_replicate, Nat.add_zero, Nat.zero_add] at h0 h1
 show (putI (.mk 4 0 [] (y.l.take m ++ [.mk 2 0 (List.replicate (2 * s) 0) []]))).length <= _
 omega
end Go.Proofs.YtfkmicjlaedlkaaDoor
end
section
open Go.RowKit Go.Pl Go.Av
namespace Go.Proofs.YtfkmicjlaedlkaaDoor
set_option maxHeartbeats 4000000
def itemN (x : EidV) (t q : Nat) : It := .mk 4 0 [] [itemE x, .mk 4 0 [] [.mk 0 t [] [], .mk 0 q [] []]]
theorem iRight_iff {x : EidV} {t q : Nat} : iRight x t q = true ↔ eRight x = true /\ t <= 1099511627776 /\ q <= 1099511627776 := by
 unfold iRight
 simp only [Bool.and_eq_true, decide_eq_true_eq]
 rw [and_assoc]
 exact and_congr Iff.rfl (and_congr (by omega) (by omega))
theorem wf_itemN {x : EidV} {t q : Nat} (h : iRight x t q = true) : wfI (itemN x t q) := by
 obtain ⟨h1, h2, h3⟩ := iRight_iff.1 h
 have hw := wf_itemE h1
 unfold itemN
 generalize itemE x = y at *
 simp [wfI, wfs, hw]
 omega
theorem av_iWrite [Known] (x : EidV) (t q : Nat) : AP Tryd.prog 55 [.agg (iC x t q)] (.tup [itD (if iRight x t q then itemN x t q else .mk 0 0 [] []), .int .i64 (if iRight x t q then 0 else 3)]) [] := by
 have hR := av_iRight x t q
 cases hr : iRight x t q with
 | false =>
  rw [hr] at hR
  refine AP.ofA ?_
  refine AC_of Tryd.func55 rfl Tryd.ntmps55 rfl rfl ?_
  repeat' (first | (apply AL_callPw (hR); kernel_rfl; (iterate 4 exact rfl)) | (apply AL_go ttok; exact rfl) | (apply AW_go ttok; exact rfl) | (apply K_go ttok; exact rfl) | (apply AW_condA; exact rfl; (first | with_reducible assumption | decide +kernel)))
  all_goals (apply endQ []; (apply resG_ok ttok; exact rfl); (iterate 4 exact rfl))
  all_goals rfl
 | true =>
  rw [hr] at hR
  rw [if_pos rfl, if_pos rfl]
  obtain ⟨h1, h2, h3⟩ := iRight_iff.1 hr
  have hE := av_eWrite x
  rw [h1, if_pos rfl, if_pos rfl] at hE
  have hw := wf_itemE h1
  have nt := av_num t
  have nq := av_num q
  unfold itemN
  generalize itemE x = y at *
  have hL1 := av_list [.mk 0 t [] [], .mk 0 q [] []] (by simp) (by simp [wfI, wfs]; omega)
  have hL := av_list [y, .mk 4 0 [] [.mk 0 t [] [], .mk 0 q [] []]] (by simp) (by simp [wfI, wfs, hw]; omega)
  obtain ⟨k, n, b, l⟩ := y
  replace nt : AP Tryd.prog _ [.int .u64 (t : Int)] (.agg [.int .i64 0, .int .u64 (t : Int), .sl .ext [], .sl .ext []]) [] := nt
  replace nq : AP Tryd.prog _ [.int .u64 (q : Int)] (.agg [.int .i64 0, .int .u64 (q : Int), .sl .ext [], .sl .ext []]) [] := nq
  replace hE : AP Tryd.prog _ [.agg (eC x)] (.tup [.agg [.int .i64 k, .int .u64 (n : Int), byE b, .sl .ext (itEs l)], .int .i64 0]) [] := hE
  replace hL1 : AP Tryd.prog _ _ (.agg [.int .i64 4, .int .u64 0, .sl .ext [], .sl .ext [.agg [.int .i64 0, .int .u64 (t : Int), .sl [], .sl []], .agg [.int .i64 0, .int .u64 (q : Int), .sl [], .sl []]]]) [] := hL1
  refine AP.ofA ?_
  refine AC_of Tryd.func55 rfl Tryd.ntmps55 rfl rfl ?_
  repeat' (first | (apply AL_callPw (hR); kernel_rfl; (iterate 4 exact rfl)) | (apply AL_callPw (hE); kernel_rfl; (iterate 4 exact rfl)) | (apply AL_callPw (nt); kernel_rfl; (iterate 4 exact rfl)) | (apply AL_callPw (nq); kernel_rfl; (iterate 4 exact rfl)) | (apply AL_callPw (hL1); kernel_rfl; (iterate 4 exact rfl)) | (apply AL_callPw (hL); kernel_rfl; (iterate 4 exact rfl)) | (apply AL_go ttok; exact rfl) | (apply AW_go ttok; exact rfl) | (apply K_go ttok; exact rfl) | (apply AW_condB; exact rfl; (first | with_reducible assumption | decide +kernel)) | (apply AL_bsZ ttok; (iterate 12 exact rfl)) | (apply AW_drawE 13 hmix; (decide +kernel); (kernel_rfl); (kernel_rfl); (kernel_rfl); exact rfl; exact rfl) | (apply AE_consZ; (iterate 4 exact rfl)) | exact AE.nil _ _ _ _ | (apply AEk_puT; exact rfl) | (apply AEk_ef; exact rfl) | (apply AOt_mk; exact rfl; exact rfl; (decide +kernel); exact rfl) | (apply AO_puT; exact rfl) | (apply AO_ef; exact rfl) | exact AO.nil _ _ _ | (apply AOs_skip; (decide +kernel)) | (apply AOs_goZ; (iterate 3 exact rfl)) | exact AOs.nil | exact qY_ok rfl rfl | exact qY_wk rfl rfl rfl rfl rfl | exact qY_efn rfl)
  all_goals (apply endQ []; (apply resG_ok ttok; exact rfl); (iterate 4 exact rfl))
  all_goals rfl
end Go.Proofs.YtfkmicjlaedlkaaDoor
end
