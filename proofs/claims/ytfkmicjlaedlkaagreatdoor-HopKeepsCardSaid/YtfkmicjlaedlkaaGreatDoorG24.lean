/- Package eid: an item's name. -/
import Derived.Test.YtfkmicjlaedlkaaGreatDoorG22
import Derived.Test.YtfkmicjlaedlkaaGreatDoorG23
import Derived.Test.YtfkmicjlaedlkaaGreatDoorG21
import Derived.Test.YtfkmicjlaedlkaaGreatDoorG20
set_option linter.unusedVariables false
set_option linter.unusedSimpArgs false
section
open Go.RowKit Go.Pl Go.Av
namespace Go.Proofs.YtfkmicjlaedlkaaGreatDoor
set_option maxHeartbeats 4000000
def readV2 (s r : It) : EidV × Bool :=
 match isNum 1 s with
 | true => (match isNum 0 r with
  | true => (eidZ, true)
  | false => (match r.k == 3 with
   | true => ppV r.b
   | false => (eidZ, false)))
 | false => (match isNum 2 s with
  | true => (match numsV r with
   | some (a, c) => (⟨true, a, c, [], []⟩, eRight ⟨true, a, c, [], []⟩)
   | none => (eidZ, false))
  | false => (eidZ, false))
def readV (x : It) : EidV × Bool := match rightI x, x with
 | true, .mk k _ _ [s, r] => if k = 4 then readV2 s r else (eidZ, false)
 | _, _ => (eidZ, false)
abbrev resE (x : EidV × Bool) : D := .tup [.agg (eC (match x.2 with | true => x.1 | false => eidZ)), .int .i64 (match x.2 with | true => 0 | false => 3)]
theorem rd_not [Known] [KnownU8] (x : It) (hw : wfI x) (h : rightI x = false \/ x.k ≠ 4 \/ x.l.length ≠ 2) : AP Tryz.prog 45 [itD x] (resE (eidZ, false)) [] := by
 have hR := av_rightI x hw
 show AP Tryz.prog _ _ (.tup [.agg [.bool false, .int .u64 0, .int .u64 0, .str [], .str []], .int .i64 3]) []
 cases hr : rightI x with
 | false =>
  rw [hr] at hR
  obtain ⟨k, n, b, l⟩ := x
  refine AP.ofA ?_
  refine AC_of Tryz.func45 rfl Tryz.ntmps45 rfl rfl ?_
  repeat' (first | (apply AL_callPw (hR); kernel_rfl; (iterate 4 exact rfl)) | (apply AL_go ttok; exact rfl) | (apply AW_go ttok; exact rfl) | (apply K_go ttok; exact rfl) | (apply AL_guardFf; (iterate 3 exact rfl); (first | with_reducible assumption | decide +kernel)) | (apply AL_pickT; exact rfl; (first | with_reducible assumption | decide +kernel); exact rfl; exact rfl) | (apply AW_condA; exact rfl; (first | with_reducible assumption | decide +kernel)))
  all_goals (apply endQ []; (apply resG_ok ttok; exact rfl); (iterate 4 exact rfl))
  all_goals rfl
 | true =>
  rw [hr] at hR h
  obtain ⟨k, n, b, l⟩ := x
  simp only [It.k, It.l] at h
  by_cases hk : k = 4
  ·have t1 : (k != 4) = false := by simpa using hk
   have hl : l.length ≠ 2 := by
    rcases h with h | h | h
    ·cases h
    ·exact absurd hk h
    ·exact h
   have t2 : (((itEs l).length : Int) != 2) = true := by rw [itEs_len]; simp; omega
   refine AP.ofA ?_
   refine AC_of Tryz.func45 rfl Tryz.ntmps45 rfl rfl ?_
   repeat' (first | (apply AL_callPw (hR); kernel_rfl; (iterate 4 exact rfl)) | (apply AL_go ttok; exact rfl) | (apply AW_go ttok; exact rfl) | (apply K_go ttok; exact rfl) | (apply AL_guardT; (iterate 3 exact rfl); (first | with_reducible assumption | decide +kernel)) | (apply AL_pickF; exact rfl; (first | with_reducible assumption | decide +kernel); exact rfl; exact rfl) | (apply AW_condA; exact rfl; (first | with_reducible assumption | decide +kernel)) | (apply AL_len ttok; (iterate 4 exact rfl)))
   all_goals (apply endQ []; (apply resG_ok ttok; exact rfl); (iterate 4 exact rfl))
   all_goals rfl
  ·have t1 : (k != 4) = true := by simpa using hk
   refine AP.ofA ?_
   refine AC_of Tryz.func45 rfl Tryz.ntmps45 rfl rfl ?_
   repeat' (first | (apply AL_callPw (hR); kernel_rfl; (iterate 4 exact rfl)) | (apply AL_go ttok; exact rfl) | (apply AW_go ttok; exact rfl) | (apply K_go ttok; exact rfl) | (apply AL_guardT; (iterate 3 exact rfl); (first | with_reducible assumption | decide +kernel)) | (apply AL_guardFf; (iterate 3 exact rfl); (first | with_reducible assumption | decide +kernel)) | (apply AL_pickT; exact rfl; (first | with_reducible assumption | decide +kernel); exact rfl; exact rfl) | (apply AL_pickF; exact rfl; (first | with_reducible assumption | decide +kernel); exact rfl; exact rfl) | (apply AW_condA; exact rfl; (first | with_reducible assumption | decide +kernel)))
   all_goals (apply endQ []; (apply resG_ok ttok; exact rfl); (iterate 4 exact rfl))
   all_goals rfl
theorem rd_one [Known] [KnownU8] (n : Nat) (b : List UInt8) (s r : It) (hw : wfI (.mk 4 n b [s, r])) (hr : rightI (.mk 4 n b [s, r]) = true) (h1 : isNum 1 s = true) : AP Tryz.prog 45 [itD (.mk 4 n b [s, r])] (resE (readV2 s r)) [] := by
 have hR := av_rightI _ hw
 rw [hr] at hR
 obtain ⟨_, _, _, hws, hwr, _⟩ := hw
 have e1 : s = .mk 0 1 [] [] := It.beq_iff.1 h1
 have hS1 := av_isNum s hws 1 (by omega)
 have hS2 := av_isNum s hws 2 (by omega)
 have hR0 := av_isNum r hwr 0 (by omega)
 have n0 := av_numA 0
 have n1 := av_numA 1
 have n2 := av_numA 2
 replace n0 : AP Tryz.prog _ [.int .u64 0] (.agg [.int .i64 0, .int .u64 0, .sl .ext [], .sl .ext []]) [] := n0
 replace n1 : AP Tryz.prog _ [.int .u64 1] (.agg [.int .i64 0, .int .u64 1, .sl .ext [], .sl .ext []]) [] := n1
 replace n2 : AP Tryz.prog _ [.int .u64 2] (.agg [.int .i64 0, .int .u64 2, .sl .ext [], .sl .ext []]) [] := n2
 have h2 : isNum 2 s = false := by rw [e1]; rfl
 rw [h1] at hS1
 rw [h2] at hS2
 have hU := uniI [s, r]
 unfold readV2
 rw [h1]
 dsimp only
 have hbl : r.b.length <= 140737488351232 := by obtain ⟨kr, nr, br, lr⟩ := r; exact hwr.2.1
 have hP := av_pp r.b hbl
 obtain ⟨ks, ns, bs, ls⟩ := s
 obtain ⟨kr, nr, br, lr⟩ := r
 simp only [It.b, It.k] at hP ⊢
 have t2 : (((itEs [It.mk ks ns bs ls, It.mk kr nr br lr]).length : Int) != 2) = false := rfl
 cases h0 : isNum 0 (.mk kr nr br lr) with
 | true =>
  rw [h0] at hR0
  show AP Tryz.prog _ _ (.tup [.agg [.bool false, .int .u64 0, .int .u64 0, .str [], .str []], .int .i64 0]) []
  refine AP.ofA ?_
  refine AC_of Tryz.func45 rfl Tryz.ntmps45 rfl rfl ?_
  repeat' (first | (apply AW_drawW 11 ttok hmix; (decide +kernel); (kernel_rfl); (kernel_rfl); (kernel_rfl); exact rfl; exact rfl) | exact AV.nil _ _ | (apply AV_al; exact rfl; exact rfl) | (apply AV_st; (iterate 4 exact rfl)) | (apply AV_pu; (iterate 4 exact rfl)) | (apply AWk_mk; (iterate 4 exact rfl)) | (apply AL_callPw (hR); kernel_rfl; (iterate 4 exact rfl)) | (apply AL_callPw (hS1); kernel_rfl; (iterate 4 exact rfl)) | (apply AL_callPw (hR0); kernel_rfl; (iterate 4 exact rfl)) | (apply AL_callPw (n0); kernel_rfl; (iterate 4 exact rfl)) | (apply AL_callPw (n1); kernel_rfl; (iterate 4 exact rfl)) | (apply AL_go ttok; exact rfl) | (apply AW_go ttok; exact rfl) | (apply K_go ttok; exact rfl) | (apply AL_guardT; (iterate 3 exact rfl); (first | with_reducible assumption | decide +kernel)) | (apply AL_pickT; exact rfl; (first | with_reducible assumption | decide +kernel); exact rfl; exact rfl) | (apply AL_pickF; exact rfl; (first | with_reducible assumption | decide +kernel); exact rfl; exact rfl) | (apply AW_condA; exact rfl; (first | with_reducible assumption | decide +kernel)) | (apply AW_condB; exact rfl; (first | with_reducible assumption | decide +kernel)) | (apply AL_len ttok; (iterate 4 exact rfl)) | (apply AW_drawE 6 hmix; (decide +kernel); (kernel_rfl); (kernel_rfl); (kernel_rfl); exact rfl; exact rfl) | (apply AE_consZ; (iterate 4 exact rfl)) | exact AE.nil _ _ _ _ | (apply AEk_puT; exact rfl) | (apply AOt_mk; exact rfl; exact rfl; (decide +kernel); exact rfl) | (apply AO_puT; exact rfl) | exact AO.nil _ _ _ | (apply AOs_skip; (decide +kernel)) | exact AOs.nil | exact qY_ok rfl rfl | (apply AL_idx ttok; (iterate 6 exact rfl); (first | with_reducible assumption | decide +kernel | exact Int.natCast_nonneg _ | (guard_target = (0:Int) <= (OfNat.ofNat _ : Int); decide) | rotate_left); (first | with_reducible assumption | decide +kernel | exact rfl); (first | exact uniB_ok rfl | with_reducible assumption | decide +kernel | rotate_left)))
  all_goals (apply endQ []; (apply resG_ok ttok; exact rfl); (iterate 4 exact rfl))
  all_goals rfl
 | false =>
  rw [h0] at hR0
  generalize ppV br = xp at *
  obtain ⟨⟨qi, qn, qs, qh, qd⟩, qb⟩ := xp
  replace hP : AP Tryz.prog _ [.str br] (.tup [.agg [.bool qi, .int .u64 (qn : Int), .int .u64 (qs : Int), .str qh, .str qd], .bool qb]) [] := hP
  cases hk : kr == 3 with
  | true =>
   cases qb
   all_goals
    refine AP.ofA ?_
    refine AC_of Tryz.func45 rfl Tryz.ntmps45 rfl rfl ?_
    repeat' (first | (apply AW_drawW 11 ttok hmix; (decide +kernel); (kernel_rfl); (kernel_rfl); (kernel_rfl); exact rfl; exact rfl) | exact AV.nil _ _ | (apply AV_al; exact rfl; exact rfl) | (apply AV_st; (iterate 4 exact rfl)) | (apply AV_pu; (iterate 4 exact rfl)) | (apply AWk_mk; (iterate 4 exact rfl)) | (apply AL_callPw (hR); kernel_rfl; (iterate 4 exact rfl)) | (apply AL_callPw (hS1); kernel_rfl; (iterate 4 exact rfl)) | (apply AL_callPw (hR0); kernel_rfl; (iterate 4 exact rfl)) | (apply AL_callPw (n0); kernel_rfl; (iterate 4 exact rfl)) | (apply AL_callPw (n1); kernel_rfl; (iterate 4 exact rfl)) | (apply AL_callPw (hP); kernel_rfl; (iterate 4 exact rfl)) | (apply AL_go ttok; exact rfl) | (apply AW_go ttok; exact rfl) | (apply K_go ttok; exact rfl) | (apply AL_guardT; (iterate 3 exact rfl); (first | with_reducible assumption | decide +kernel)) | (apply AL_pickT; exact rfl; (first | with_reducible assumption | decide +kernel); exact rfl; exact rfl) | (apply AL_pickF; exact rfl; (first | with_reducible assumption | decide +kernel); exact rfl; exact rfl) | (apply AW_condA; exact rfl; (first | with_reducible assumption | decide +kernel)) | (apply AW_condB; exact rfl; (first | with_reducible assumption | decide +kernel)) | (apply AL_len ttok; (iterate 4 exact rfl)) | (apply AW_drawE 2 hmix; (decide +kernel); (kernel_rfl); (kernel_rfl); (kernel_rfl); exact rfl; exact rfl) | (apply AW_drawE 6 hmix; (decide +kernel); (kernel_rfl); (kernel_rfl); (kernel_rfl); exact rfl; exact rfl) | (apply AE_consZ; (iterate 4 exact rfl)) | exact AE.nil _ _ _ _ | (apply AEk_puT; exact rfl) | (apply AOt_mk; exact rfl; exact rfl; (decide +kernel); exact rfl) | (apply AO_puT; exact rfl) | exact AO.nil _ _ _ | (apply AOs_skip; (decide +kernel)) | exact AOs.nil | exact qY_ok rfl rfl | (apply AL_idx ttok; (iterate 6 exact rfl); (first | with_reducible assumption | decide +kernel | exact Int.natCast_nonneg _ | (guard_target = (0:Int) <= (OfNat.ofNat _ : Int); decide) | rotate_left); (first | with_reducible assumption | decide +kernel | exact rfl); (first | exact uniB_ok rfl | with_reducible assumption | decide +kernel | rotate_left)) | (apply AL_b2s ttok; (iterate 9 exact rfl)))
    all_goals (apply endQ []; (apply resG_ok ttok; exact rfl); (iterate 4 exact rfl))
    all_goals rfl
  | false =>
   refine AP.ofA ?_
   refine AC_of Tryz.func45 rfl Tryz.ntmps45 rfl rfl ?_
   repeat' (first | (apply AW_drawW 11 ttok hmix; (decide +kernel); (kernel_rfl); (kernel_rfl); (kernel_rfl); exact rfl; exact rfl) | exact AV.nil _ _ | (apply AV_al; exact rfl; exact rfl) | (apply AV_st; (iterate 4 exact rfl)) | (apply AV_pu; (iterate 4 exact rfl)) | (apply AWk_mk; (iterate 4 exact rfl)) | (apply AL_callPw (hR); kernel_rfl; (iterate 4 exact rfl)) | (apply AL_callPw (hS1); kernel_rfl; (iterate 4 exact rfl)) | (apply AL_callPw (hS2); kernel_rfl; (iterate 4 exact rfl)) | (apply AL_callPw (hR0); kernel_rfl; (iterate 4 exact rfl)) | (apply AL_callPw (n0); kernel_rfl; (iterate 4 exact rfl)) | (apply AL_callPw (n1); kernel_rfl; (iterate 4 exact rfl)) | (apply AL_callPw (n2); kernel_rfl; (iterate 4 exact rfl)) | (apply AL_go ttok; exact rfl) | (apply AW_go ttok; exact rfl) | (apply K_go ttok; exact rfl) | (apply AL_guardT; (iterate 3 exact rfl); (first | with_reducible assumption | decide +kernel)) | (apply AL_pickT; exact rfl; (first | with_reducible assumption | decide +kernel); exact rfl; exact rfl) | (apply AL_pickF; exact rfl; (first | with_reducible assumption | decide +kernel); exact rfl; exact rfl) | (apply AW_condA; exact rfl; (first | with_reducible assumption | decide +kernel)) | (apply AW_condB; exact rfl; (first | with_reducible assumption | decide +kernel)) | (apply AL_len ttok; (iterate 4 exact rfl)) | (apply AW_drawE 2 hmix; (decide +kernel); (kernel_rfl); (kernel_rfl); (kernel_rfl); exact rfl; exact rfl) | (apply AW_drawE 6 hmix; (decide +kernel); (kernel_rfl); (kernel_rfl); (kernel_rfl); exact rfl; exact rfl) | (apply AE_consZ; (iterate 4 exact rfl)) | exact AE.nil _ _ _ _ | (apply AEk_puT; exact rfl) | (apply AOt_mk; exact rfl; exact rfl; (decide +kernel); exact rfl) | (apply AO_puT; exact rfl) | exact AO.nil _ _ _ | (apply AOs_skip; (decide +kernel)) | exact AOs.nil | exact qY_ok rfl rfl | (apply AL_idx ttok; (iterate 6 exact rfl); (first | with_reducible assumption | decide +kernel | exact Int.natCast_nonneg _ | (guard_target = (0:Int) <= (OfNat.ofNat _ : Int); decide) | rotate_left); (first | with_reducible assumption | decide +kernel | exact rfl); (first | exact uniB_ok rfl | with_reducible assumption | decide +kernel | rotate_left)))
   all_goals (apply endQ []; (apply resG_ok ttok; exact rfl); (iterate 4 exact rfl))
   all_goals rfl
end Go.Proofs.YtfkmicjlaedlkaaGreatDoor
end
section
open Go.RowKit Go.Pl Go.Av
namespace Go.Proofs.YtfkmicjlaedlkaaGreatDoor
set_option maxHeartbeats 4000000
theorem rd_two [Known] [KnownU8] (n : Nat) (b : List UInt8) (s r : It) (hw : wfI (.mk 4 n b [s, r])) (hr : rightI (.mk 4 n b [s, r]) = true) (h1 : isNum 1 s = false) : AP Tryz.prog 45 [itD (.mk 4 n b [s, r])] (resE (readV2 s r)) [] := by
 have hR := av_rightI _ hw
 rw [hr] at hR
 obtain ⟨_, _, _, hws, hwr, _⟩ := hw
 have hS1 := av_isNum s hws 1 (by omega)
 have hS2 := av_isNum s hws 2 (by omega)
 have hN := av_nums r hwr
 have n1 := av_numA 1
 have n2 := av_numA 2
 replace n1 : AP Tryz.prog _ [.int .u64 1] (.agg [.int .i64 0, .int .u64 1, .sl .ext [], .sl .ext []]) [] := n1
 replace n2 : AP Tryz.prog _ [.int .u64 2] (.agg [.int .i64 0, .int .u64 2, .sl .ext [], .sl .ext []]) [] := n2
 rw [h1] at hS1
 have hU := uniI [s, r]
 unfold readV2
 rw [h1]
 dsimp only
 obtain ⟨ks, ns, bs, ls⟩ := s
 obtain ⟨kr, nr, br, lr⟩ := r
 have t2 : (((itEs [It.mk ks ns bs ls, It.mk kr nr br lr]).length : Int) != 2) = false := rfl
 cases h2 : isNum 2 (.mk ks ns bs ls) with
 | false =>
  rw [h2] at hS2
  show AP Tryz.prog _ _ (.tup [.agg [.bool false, .int .u64 0, .int .u64 0, .str [], .str []], .int .i64 3]) []
  refine AP.ofA ?_
  refine AC_of Tryz.func45 rfl Tryz.ntmps45 rfl rfl ?_
  repeat' (first | (apply AW_drawW 11 ttok hmix; (decide +kernel); (kernel_rfl); (kernel_rfl); (kernel_rfl); exact rfl; exact rfl) | exact AV.nil _ _ | (apply AV_al; exact rfl; exact rfl) | (apply AV_st; (iterate 4 exact rfl)) | (apply AV_pu; (iterate 4 exact rfl)) | (apply AWk_mk; (iterate 4 exact rfl)) | (apply AL_callPw (hR); kernel_rfl; (iterate 4 exact rfl)) | (apply AL_callPw (hS1); kernel_rfl; (iterate 4 exact rfl)) | (apply AL_callPw (hS2); kernel_rfl; (iterate 4 exact rfl)) | (apply AL_callPw (n1); kernel_rfl; (iterate 4 exact rfl)) | (apply AL_callPw (n2); kernel_rfl; (iterate 4 exact rfl)) | (apply AL_go ttok; exact rfl) | (apply AW_go ttok; exact rfl) | (apply K_go ttok; exact rfl) | (apply AL_guardT; (iterate 3 exact rfl); (first | with_reducible assumption | decide +kernel)) | (apply AL_guardFt; (iterate 3 exact rfl); (first | with_reducible assumption | decide +kernel)) | (apply AL_pickF; exact rfl; (first | with_reducible assumption | decide +kernel); exact rfl; exact rfl) | (apply AW_condA; exact rfl; (first | with_reducible assumption | decide +kernel)) | (apply AW_condB; exact rfl; (first | with_reducible assumption | decide +kernel)) | (apply AL_len ttok; (iterate 4 exact rfl)) | (apply AW_drawE 2 hmix; (decide +kernel); (kernel_rfl); (kernel_rfl); (kernel_rfl); exact rfl; exact rfl) | (apply AW_drawE 6 hmix; (decide +kernel); (kernel_rfl); (kernel_rfl); (kernel_rfl); exact rfl; exact rfl) | (apply AE_consZ; (iterate 4 exact rfl)) | exact AE.nil _ _ _ _ | (apply AEk_puT; exact rfl) | (apply AOt_mk; exact rfl; exact rfl; (decide +kernel); exact rfl) | (apply AO_puT; exact rfl) | exact AO.nil _ _ _ | (apply AOs_skip; (decide +kernel)) | exact AOs.nil | exact qY_ok rfl rfl | (apply AL_idx ttok; (iterate 6 exact rfl); (first | with_reducible assumption | decide +kernel | exact Int.natCast_nonneg _ | (guard_target = (0:Int) <= (OfNat.ofNat _ : Int); decide) | rotate_left); (first | with_reducible assumption | decide +kernel | exact rfl); (first | exact uniB_ok rfl | with_reducible assumption | decide +kernel | rotate_left)))
  all_goals (apply endQ []; (apply resG_ok ttok; exact rfl); (iterate 4 exact rfl))
  all_goals rfl
 | true =>
  rw [h2] at hS2
  dsimp only
  cases hq : numsV (.mk kr nr br lr) with
  | none =>
   rw [hq] at hN
   replace hN : AP Tryz.prog _ _ (.tup [.sl .ext [], .bool false]) [] := hN
   show AP Tryz.prog _ _ (.tup [.agg [.bool false, .int .u64 0, .int .u64 0, .str [], .str []], .int .i64 3]) []
   refine AP.ofA ?_
   refine AC_of Tryz.func45 rfl Tryz.ntmps45 rfl rfl ?_
   repeat' (first | (apply AW_drawW 11 ttok hmix; (decide +kernel); (kernel_rfl); (kernel_rfl); (kernel_rfl); exact rfl; exact rfl) | exact AV.nil _ _ | (apply AV_al; exact rfl; exact rfl) | (apply AV_st; (iterate 4 exact rfl)) | (apply AV_pu; (iterate 4 exact rfl)) | (apply AWk_mk; (iterate 4 exact rfl)) | (apply AL_callPw (hR); kernel_rfl; (iterate 4 exact rfl)) | (apply AL_callPw (hS1); kernel_rfl; (iterate 4 exact rfl)) | (apply AL_callPw (hS2); kernel_rfl; (iterate 4 exact rfl)) | (apply AL_callPw (n1); kernel_rfl; (iterate 4 exact rfl)) | (apply AL_callPw (n2); kernel_rfl; (iterate 4 exact rfl)) | (apply AL_callPw (hN); kernel_rfl; (iterate 4 exact rfl)) | (apply AL_go ttok; exact rfl) | (apply AW_go ttok; exact rfl) | (apply K_go ttok; exact rfl) | (apply AL_guardT; (iterate 3 exact rfl); (first | with_reducible assumption | decide +kernel)) | (apply AL_guardFt; (iterate 3 exact rfl); (first | with_reducible assumption | decide +kernel)) | (apply AL_pickF; exact rfl; (first | with_reducible assumption | decide +kernel); exact rfl; exact rfl) | (apply AW_condA; exact rfl; (first | with_reducible assumption | decide +kernel)) | (apply AW_condB; exact rfl; (first | with_reducible assumption | decide +kernel)) | (apply AL_len ttok; (iterate 4 exact rfl)) | (apply AW_drawE 2 hmix; (decide +kernel); (kernel_rfl); (kernel_rfl); (kernel_rfl); exact rfl; exact rfl) | (apply AW_drawE 6 hmix; (decide +kernel); (kernel_rfl); (kernel_rfl); (kernel_rfl); exact rfl; exact rfl) | (apply AE_consZ; (iterate 4 exact rfl)) | exact AE.nil _ _ _ _ | (apply AEk_puT; exact rfl) | (apply AOt_mk; exact rfl; exact rfl; (decide +kernel); exact rfl) | (apply AO_puT; exact rfl) | exact AO.nil _ _ _ | (apply AOs_skip; (decide +kernel)) | exact AOs.nil | exact qY_ok rfl rfl | (apply AL_idx ttok; (iterate 6 exact rfl); (first | with_reducible assumption | decide +kernel | exact Int.natCast_nonneg _ | (guard_target = (0:Int) <= (OfNat.ofNat _ : Int); decide) | rotate_left); (first | with_reducible assumption | decide +kernel | exact rfl); (first | exact uniB_ok rfl | with_reducible assumption | decide +kernel | rotate_left)))
   all_goals (apply endQ []; (apply resG_ok ttok; exact rfl); (iterate 4 exact rfl))
   all_goals rfl
  | some ac =>
   obtain ⟨a, c⟩ := ac
   rw [hq] at hN
   replace hN : AP Tryz.prog _ _ (.tup [.sl .ext [.int .u64 (a : Int), .int .u64 (c : Int)], .bool true]) [] := hN
   have hE := av_eRight ⟨true, a, c, [], []⟩
   dsimp only
   generalize eRight ⟨true, a, c, [], []⟩ = R at *
   replace hE : AP Tryz.prog _ [.agg [.bool true, .int .u64 (a : Int), .int .u64 (c : Int), .str [], .str []]] (.bool R) [] := hE
   cases R
   all_goals
    refine AP.ofA ?_
    refine AC_of Tryz.func45 rfl Tryz.ntmps45 rfl rfl ?_
    repeat' (first | (apply AW_drawW 11 ttok hmix; (decide +kernel); (kernel_rfl); (kernel_rfl); (kernel_rfl); exact rfl; exact rfl) | exact AV.nil _ _ | (apply AV_al; exact rfl; exact rfl) | (apply AV_st; (iterate 4 exact rfl)) | (apply AV_pu; (iterate 4 exact rfl)) | (apply AWk_mk; (iterate 4 exact rfl)) | (apply AL_callPw (hR); kernel_rfl; (iterate 4 exact rfl)) | (apply AL_callPw (hS1); kernel_rfl; (iterate 4 exact rfl)) | (apply AL_callPw (hS2); kernel_rfl; (iterate 4 exact rfl)) | (apply AL_callPw (n1); kernel_rfl; (iterate 4 exact rfl)) | (apply AL_callPw (n2); kernel_rfl; (iterate 4 exact rfl)) | (apply AL_callPw (hN); kernel_rfl; (iterate 4 exact rfl)) | (apply AL_callPw (hE); kernel_rfl; (iterate 4 exact rfl)) | (apply AL_go ttok; exact rfl) | (apply AW_go ttok; exact rfl) | (apply K_go ttok; exact rfl) | (apply AL_guardT; (iterate 3 exact rfl); (first | with_reducible assumption | decide +kernel)) | (apply AL_guardFt; (iterate 3 exact rfl); (first | with_reducible assumption | decide +kernel)) | (apply AL_pickF; exact rfl; (first | with_reducible assumption | decide +kernel); exact rfl; exact rfl) | (apply AW_condA; exact rfl; (first | with_reducible assumption | decide +kernel)) | (apply AW_condB; exact rfl; (first | with_reducible assumption | decide +kernel)) | (apply AL_len ttok; (iterate 4 exact rfl)) | (apply AW_drawE 2 hmix; (decide +kernel); (kernel_rfl); (kernel_rfl); (kernel_rfl); exact rfl; exact rfl) | (apply AW_drawE 6 hmix; (decide +kernel); (kernel_rfl); (kernel_rfl); (kernel_rfl); exact rfl; exact rfl) | (apply AE_consZ; (iterate 4 exact rfl)) | exact AE.nil _ _ _ _ | (apply AEk_puT; exact rfl) | (apply AOt_mk; exact rfl; exact rfl; (decide +kernel); exact rfl) | (apply AO_puT; exact rfl) | exact AO.nil _ _ _ | (apply AOs_skip; (decide +kernel)) | exact AOs.nil | exact qY_ok rfl rfl | (apply AL_idx ttok; (iterate 6 exact rfl); (first | with_reducible assumption | decide +kernel | exact Int.natCast_nonneg _ | (guard_target = (0:Int) <= (OfNat.ofNat _ : Int); decide) | rotate_left); (first | with_reducible assumption | decide +kernel | exact rfl); (first | exact uniB_ok rfl | with_reducible assumption | decide +kernel | rotate_left)))
    all_goals (apply endQ []; (apply resG_ok ttok; exact rfl); (iterate 4 exact rfl))
    all_goals rfl
theorem av_eRead [Known] [KnownU8] (x : It) (hw : wfI x) : AP Tryz.prog 45 [itD x] (resE (readV x)) [] := by
 cases hr : rightI x with
 | false =>
  have e : readV x = (eidZ, false) := by unfold readV; rw [hr]
  rw [e]
  exact rd_not x hw (.inl hr)
 | true =>
  obtain ⟨k, n, b, l⟩ := x
  by_cases hk : k = 4
  ·subst hk
   match l, hw, hr with
   | [s, r], hw, hr =>
    have e : readV (.mk 4 n b [s, r]) = readV2 s r := by unfold readV; rw [hr]; dsimp only; rw [if_pos rfl]
    rw [e]
    cases h1 : isNum 1 s with
    | true => exact rd_one n b s r hw hr h1
    | false => exact rd_two n b s r hw hr h1
   | [], hw, hr =>
    have e : readV (.mk 4 n b []) = (eidZ, false) := by unfold readV; rw [hr]
    rw [e]; exact rd_not _ hw (.inr (.inr (by simp [It.l])))
   | [s], hw, hr =>
    have e : readV (.mk 4 n b [s]) = (eidZ, false) := by unfold readV; rw [hr]
    rw [e]; exact rd_not _ hw (.inr (.inr (by simp [It.l])))
   | s :: r :: y :: l, hw, hr =>
    have e : readV (.mk 4 n b (s :: r :: y :: l)) = (eidZ, false) := by unfold readV; rw [hr]
    rw [e]; exact rd_not _ hw (.inr (.inr (by simp [It.l])))
  ·have e : readV (.mk k n b l) = (eidZ, false) := by
    unfold readV; rw [hr]
    match l with
    | [s, r] => dsimp only; rw [if_neg hk]
    | [] => rfl
    | [s] => rfl
    | s :: r :: y :: l => rfl
   rw [e]
   exact rd_not _ hw (.inr (.inl hk))
end Go.Proofs.YtfkmicjlaedlkaaGreatDoor
end
section
open Go.RowKit Go.Pl Go.Av
namespace Go.Proofs.YtfkmicjlaedlkaaGreatDoor
set_option maxHeartbeats 4000000
structure BlkV where
 ty : Nat
 num : Nat
 fl : Nat
 sum : Int
 data : List UInt8
abbrev bkC (b : BlkV) : List D := [.int .u64 (b.ty : Int), .int .u64 (b.num : Int), .int .u64 (b.fl : Int), .int .i64 b.sum, byE b.data]
theorem rd_wf (d : List UInt8) (hd : d.length <= 100000) : wfI (readI d 0).1 := by
 rcases read_case d (by omega) with ⟨e, _, h, _⟩ | ⟨y, n, h, hw, _⟩
 ·rw [h]; exact ⟨by decide, by simp, by simp, trivial⟩
 ·rw [h]; exact hw
theorem av_item [Known] [KnownU8] (d : List UInt8) (hd : d.length <= 100000) : AP Tryz.prog 110 [byE d] (.tup [itD (readI d 0).1, .bool (shortI d)]) [] := by
 have hR := av_readC d 0 (by omega)
 have hS := av_shortestI d (by omega)
 rcases read_case d (by omega) with ⟨e, he, h, hs⟩ | ⟨⟨k, n, b, l⟩, m, h, hw, hr, _⟩
 ·rw [h] at hR ⊢
  rw [hs] at hS ⊢
  replace hR : AP Tryz.prog _ _ (.tup [.agg [.int .i64 0, .int .u64 0, .sl .ext [], .sl .ext []], .int .i64 0, .int .i64 (e : Int)]) [] := hR
  have t1 : ((e : Int) == 0) = false := by rw [beq_eq_false_iff_ne]; omega
  refine AP.ofA ?_
  refine AC_of Tryz.func110 rfl Tryz.ntmps110 rfl rfl ?_
  repeat' (first | (apply AL_callPw (hR); kernel_rfl; (iterate 4 exact rfl)) | (apply AL_go ttok; exact rfl) | (apply AW_go ttok; exact rfl) | (apply AL_guardFt; (iterate 3 exact rfl); (first | with_reducible assumption | decide +kernel)) | (apply AL_pickF; exact rfl; (first | with_reducible assumption | decide +kernel); exact rfl; exact rfl) | (apply AW_drawE 8 hmix; (decide +kernel); (kernel_rfl); (kernel_rfl); (kernel_rfl); exact rfl; exact rfl) | (apply AE_consZ; (iterate 4 exact rfl)) | exact AE.nil _ _ _ _ | (apply AEk_puT; exact rfl) | (apply AEk_ef; exact rfl) | (apply AOt_mk; exact rfl; exact rfl; (decide +kernel); exact rfl) | (apply AO_puT; exact rfl) | (apply AO_ef; exact rfl) | exact AO.nil _ _ _ | (apply AOs_skip; (decide +kernel)) | (apply AOs_goZ; (iterate 3 exact rfl)) | exact AOs.nil | exact qY_ok rfl rfl | exact qY_efn rfl)
  all_goals (apply endQ []; (apply resG_ok ttok; exact rfl); (iterate 4 exact rfl))
  all_goals rfl
 ·rw [h] at hR ⊢
  replace hR : AP Tryz.prog _ _ (.tup [.agg (itC k n b l), .int .i64 (m : Int), .int .i64 0]) [] := hR
  refine AP.ofA ?_
  refine AC_of Tryz.func110 rfl Tryz.ntmps110 rfl rfl ?_
  repeat' (first | (apply AL_callPw (hR); kernel_rfl; (iterate 4 exact rfl)) | (apply AL_callPw (hS); kernel_rfl; (iterate 4 exact rfl)) | (apply AL_go ttok; exact rfl) | (apply AW_go ttok; exact rfl) | (apply AL_guardT; (iterate 3 exact rfl); (first | with_reducible assumption | decide +kernel)) | (apply AL_pickT; exact rfl; (first | with_reducible assumption | decide +kernel); exact rfl; exact rfl) | (apply AW_drawE 8 hmix; (decide +kernel); (kernel_rfl); (kernel_rfl); (kernel_rfl); exact rfl; exact rfl) | (apply AE_consZ; (iterate 4 exact rfl)) | exact AE.nil _ _ _ _ | (apply AEk_puT; exact rfl) | (apply AEk_ef; exact rfl) | (apply AOt_mk; exact rfl; exact rfl; (decide +kernel); exact rfl) | (apply AO_puT; exact rfl) | (apply AO_ef; exact rfl) | exact AO.nil _ _ _ | (apply AOs_skip; (decide +kernel)) | (apply AOs_goZ; (iterate 3 exact rfl)) | exact AOs.nil | exact qY_ok rfl rfl | exact qY_efn rfl)
  all_goals (apply endQ []; (apply resG_ok ttok; exact rfl); (iterate 4 exact rfl))
  all_goals rfl
def prevV (d : List UInt8) : EidV × Bool := ((match (readV (readI d 0).1).2 with | true => (readV (readI d 0).1).1 | false => eidZ), shortI d && (readV (readI d 0).1).2)
theorem av_previous [Known] [KnownU8] (d : List UInt8) (hd : d.length <= 100000) : AP Tryz.prog 78 [byE d] (.tup [.agg (eC (prevV d).1), .bool (prevV d).2]) [] := by
 have hI := av_item d hd
 have hR := av_eRead (readI d 0).1 (rd_wf d hd)
 unfold prevV
 dsimp only
 generalize (readI d 0).1 = x at *
 generalize readV x = r at *
 obtain ⟨⟨zi, zn, zs, zh, zd⟩, ok⟩ := r
 obtain ⟨k, n, b, l⟩ := x
 unfold resE at hR
 cases ok with
 | false =>
  replace hR : AP Tryz.prog _ _ (.tup [.agg [.bool false, .int .u64 0, .int .u64 0, .str [], .str []], .int .i64 3]) [] := hR
  cases hs : shortI d <;> rw [hs] at hI
  all_goals
   refine AP.ofA ?_
   refine AC_of Tryz.func78 rfl Tryz.ntmps78 rfl rfl ?_
   repeat' (first | (apply AL_callPw (hI); kernel_rfl; (iterate 4 exact rfl)) | (apply AL_callPw (hR); kernel_rfl; (iterate 4 exact rfl)) | (apply AL_go ttok; exact rfl) | (apply AW_go ttok; exact rfl) | (apply AL_guardT; (iterate 3 exact rfl); (first | with_reducible assumption | decide +kernel)) | (apply AL_guardFt; (iterate 3 exact rfl); (first | with_reducible assumption | decide +kernel)) | (apply AL_pickT; exact rfl; (first | with_reducible assumption | decide +kernel); exact rfl; exact rfl) | (apply AL_pickF; exact rfl; (first | with_reducible assumption | decide +kernel); exact rfl; exact rfl))
   all_goals (apply endQ []; (apply resG_ok ttok; exact rfl); (iterate 4 exact rfl))
   all_goals rfl
 | true =>
  replace hR : AP Tryz.prog _ _ (.tup [.agg [.bool zi, .int .u64 (zn : Int), .int .u64 (zs : Int), .str zh, .str zd], .int .i64 0]) [] := hR
  cases hs : shortI d <;> rw [hs] at hI
  all_goals
   refine AP.ofA ?_
   refine AC_of Tryz.func78 rfl Tryz.ntmps78 rfl rfl ?_
   repeat' (first | (apply AL_callPw (hI); kernel_rfl; (iterate 4 exact rfl)) | (apply AL_callPw (hR); kernel_rfl; (iterate 4 exact rfl)) | (apply AL_go ttok; exact rfl) | (apply AW_go ttok; exact rfl) | (apply AL_guardT; (iterate 3 exact rfl); (first | with_reducible assumption | decide +kernel)) | (apply AL_guardFt; (iterate 3 exact rfl); (first | with_reducible assumption | decide +kernel)) | (apply AL_pickT; exact rfl; (first | with_reducible assumption | decide +kernel); exact rfl; exact rfl) | (apply AL_pickF; exact rfl; (first | with_reducible assumption | decide +kernel); exact rfl; exact rfl))
   all_goals (apply endQ []; (apply resG_ok ttok; exact rfl); (iterate 4 exact rfl))
   all_goals rfl
def ageV (d : List UInt8) : Nat × Bool := ((readI d 0).1.n, shortI d && (It.beq (readI d 0).1 (.mk 0 (readI d 0).1.n [] []) && decide (((readI d 0).1.n : Int) <= 1099511627776)))
theorem av_age [Known] [KnownU8] (d : List UInt8) (hd : d.length <= 100000) : AP Tryz.prog 79 [byE d] (.tup [.int .u64 ((ageV d).1 : Int), .bool (ageV d).2]) [] := by
 have hI := av_item d hd
 have hw := rd_wf d hd
 unfold ageV
 dsimp only
 generalize (readI d 0).1 = x at *
 obtain ⟨k, n, b, l⟩ := x
 have hS := av_same (.mk k n b l) hw (.mk 0 n [] []) ⟨hw.1, by simp, by simp, trivial⟩
 have hN := av_num n
 dsimp only [It.n]
 cases hs : shortI d with
 | false =>
  rw [hs] at hI
  refine AP.ofA ?_
  refine AC_of Tryz.func79 rfl Tryz.ntmps79 rfl rfl ?_
  repeat' (first | (apply AL_callPw (hI); kernel_rfl; (iterate 4 exact rfl)) | (apply AL_go ttok; exact rfl) | (apply AW_go ttok; exact rfl) | (apply AL_guardFt; (iterate 3 exact rfl); (first | with_reducible assumption | decide +kernel)) | (apply AL_pickF; exact rfl; (first | with_reducible assumption | decide +kernel); exact rfl; exact rfl) | (apply AW_drawE 16 hmix; (decide +kernel); (kernel_rfl); (kernel_rfl); (kernel_rfl); exact rfl; exact rfl) | (apply AE_consZ; (iterate 4 exact rfl)) | exact AE.nil _ _ _ _ | (apply AEk_puT; exact rfl) | (apply AOt_mk; exact rfl; exact rfl; (decide +kernel); exact rfl) | (apply AO_puT; exact rfl) | exact AO.nil _ _ _ | (apply AOs_skip; (decide +kernel)) | exact AOs.nil | exact qY_ok rfl rfl)
  all_goals (apply endQ []; (apply resG_ok ttok; exact rfl); (iterate 4 exact rfl))
  all_goals rfl
 | true =>
 rw [hs] at hI
 cases t1 : It.beq (.mk k n b l) (.mk 0 n [] []) with
 | false =>
  rw [t1] at hS
  refine AP.ofA ?_
  refine AC_of Tryz.func79 rfl Tryz.ntmps79 rfl rfl ?_
  repeat' (first | (apply AL_callPw (hI); kernel_rfl; (iterate 4 exact rfl)) | (apply AL_callPw (hS); kernel_rfl; (iterate 4 exact rfl)) | (apply AL_callPw (hN); kernel_rfl; (iterate 4 exact rfl)) | (apply AL_go ttok; exact rfl) | (apply AW_go ttok; exact rfl) | (apply AL_guardT; (iterate 3 exact rfl); (first | with_reducible assumption | decide +kernel)) | (apply AL_guardFt; (iterate 3 exact rfl); (first | with_reducible assumption | decide +kernel)) | (apply AL_pickT; exact rfl; (first | with_reducible assumption | decide +kernel); exact rfl; exact rfl) | (apply AL_pickF; exact rfl; (first | with_reducible assumption | decide +kernel); exact rfl; exact rfl) | (apply AW_drawE 16 hmix; (decide +kernel); (kernel_rfl); (kernel_rfl); (kernel_rfl); exact rfl; exact rfl) | (apply AE_consZ; (iterate 4 exact rfl)) | exact AE.nil _ _ _ _ | (apply AEk_puT; exact rfl) | (apply AOt_mk; exact rfl; exact rfl; (decide +kernel); exact rfl) | (apply AO_puT; exact rfl) | exact AO.nil _ _ _ | (apply AOs_skip; (decide +kernel)) | exact AOs.nil | exact qY_ok rfl rfl)
  all_goals (apply endQ []; (apply resG_ok ttok; exact rfl); (iterate 4 exact rfl))
  all_goals rfl
 | true =>
 rw [t1] at hS
 cases t2 : decide ((n : Int) <= 1099511627776)
 all_goals
  refine AP.ofA ?_
  refine AC_of Tryz.func79 rfl Tryz.ntmps79 rfl rfl ?_
  repeat' (first | (apply AL_callPw (hI); kernel_rfl; (iterate 4 exact rfl)) | (apply AL_callPw (hS); kernel_rfl; (iterate 4 exact rfl)) | (apply AL_callPw (hN); kernel_rfl; (iterate 4 exact rfl)) | (apply AL_go ttok; exact rfl) | (apply AW_go ttok; exact rfl) | (apply AL_guardT; (iterate 3 exact rfl); (first | with_reducible assumption | decide +kernel)) | (apply AL_pickT; exact rfl; (first | with_reducible assumption | decide +kernel); exact rfl; exact rfl) | (apply AW_drawE 16 hmix; (decide +kernel); (kernel_rfl); (kernel_rfl); (kernel_rfl); exact rfl; exact rfl) | (apply AE_consZ; (iterate 4 exact rfl)) | exact AE.nil _ _ _ _ | (apply AEk_puT; exact rfl) | (apply AOt_mk; exact rfl; exact rfl; (decide +kernel); exact rfl) | (apply AO_puT; exact rfl) | exact AO.nil _ _ _ | (apply AOs_skip; (decide +kernel)) | exact AOs.nil | exact qY_ok rfl rfl)
  all_goals (apply endQ []; (apply resG_ok ttok; exact rfl); (iterate 4 exact rfl))
  all_goals rfl
end Go.Proofs.YtfkmicjlaedlkaaGreatDoor
end
section
open Go.RowKit Go.Pl Go.Av
namespace Go.Proofs.YtfkmicjlaedlkaaGreatDoor
set_option maxHeartbeats 4000000
def hopsX (ok : Bool) (x : It) : Nat × Nat × Bool := match ok with
 | false => (0, 0, false)
 | true => match x with
  | .mk k n b l => match k == 4 with
   | false => (0, 0, false)
   | true => match l with
    | [.mk k1 n1 b1 l1, .mk k2 n2 b2 l2] => (n1, n2, It.beq (.mk k n b [.mk k1 n1 b1 l1, .mk k2 n2 b2 l2]) (.mk 4 0 [] [.mk 0 n1 [] [], .mk 0 n2 [] []]) && (decide ((n1 : Int) ≥ 1) && (decide ((n1 : Int) <= 255) && decide ((n2 : Int) <= (n1 : Int)))))
    | _ => (0, 0, false)
def hopsV (d : List UInt8) : Nat × Nat × Bool := hopsX (shortI d) (readI d 0).1
theorem hp_f [Known] [KnownU8] (d : List UInt8) (k : Int) (n : Nat) (b : List UInt8) (l : List It) (hI : AP Tryz.prog 110 [byE d] (.tup [itD (.mk k n b l), .bool false]) []) : AP Tryz.prog 70 [byE d] (.tup [.int .u64 0, .int .u64 0, .bool false]) [] := by
 refine AP.ofA ?_
 refine AC_of Tryz.func70 rfl Tryz.ntmps70 rfl rfl ?_
 repeat' (first | (apply AL_callPw (hI); kernel_rfl; (iterate 4 exact rfl)) | (apply AL_go ttok; exact rfl) | (apply AW_go ttok; exact rfl) | (apply K_go ttok; exact rfl) | (apply AL_guardFf; (iterate 3 exact rfl); (first | with_reducible assumption | decide +kernel)) | (apply AL_pickT; exact rfl; (first | with_reducible assumption | decide +kernel); exact rfl; exact rfl) | (apply AW_condA; exact rfl; (first | with_reducible assumption | decide +kernel)))
 all_goals (apply endQ []; (apply resG_ok ttok; exact rfl); (iterate 4 exact rfl))
 all_goals rfl
theorem hp_k [Known] [KnownU8] (d : List UInt8) (k : Int) (n : Nat) (b : List UInt8) (l : List It) (hI : AP Tryz.prog 110 [byE d] (.tup [itD (.mk k n b l), .bool true]) []) (tk : (k == 4) = false) : AP Tryz.prog 70 [byE d] (.tup [.int .u64 0, .int .u64 0, .bool false]) [] := by
 have tk2 : (k != 4) = true := by rw [bne, tk]; rfl
 refine AP.ofA ?_
 refine AC_of Tryz.func70 rfl Tryz.ntmps70 rfl rfl ?_
 repeat' (first | (apply AL_callPw (hI); kernel_rfl; (iterate 4 exact rfl)) | (apply AL_go ttok; exact rfl) | (apply AW_go ttok; exact rfl) | (apply K_go ttok; exact rfl) | (apply AL_guardT; (iterate 3 exact rfl); (first | with_reducible assumption | decide +kernel)) | (apply AL_guardFf; (iterate 3 exact rfl); (first | with_reducible assumption | decide +kernel)) | (apply AL_pickT; exact rfl; (first | with_reducible assumption | decide +kernel); exact rfl; exact rfl) | (apply AL_pickF; exact rfl; (first | with_reducible assumption | decide +kernel); exact rfl; exact rfl) | (apply AW_condA; exact rfl; (first | with_reducible assumption | decide +kernel)))
 all_goals (apply endQ []; (apply resG_ok ttok; exact rfl); (iterate 4 exact rfl))
 all_goals rfl
theorem hp_l [Known] [KnownU8] (d : List UInt8) (k : Int) (n : Nat) (b : List UInt8) (l : List It) (hI : AP Tryz.prog 110 [byE d] (.tup [itD (.mk k n b l), .bool true]) []) (tk : (k == 4) = true) (h2 : l.length ≠ 2) : AP Tryz.prog 70 [byE d] (.tup [.int .u64 0, .int .u64 0, .bool false]) [] := by
 have tk2 : (k != 4) = false := by rw [bne, tk]; rfl
 have hlen := itEs_len l
 have t2 : (((itEs l).length : Int) != 2) = true := by rw [hlen]; simp; omega
 refine AP.ofA ?_
 refine AC_of Tryz.func70 rfl Tryz.ntmps70 rfl rfl ?_
 repeat' (first | (apply AL_callPw (hI); kernel_rfl; (iterate 4 exact rfl)) | (apply AL_go ttok; exact rfl) | (apply AW_go ttok; exact rfl) | (apply K_go ttok; exact rfl) | (apply AL_guardT; (iterate 3 exact rfl); (first | with_reducible assumption | decide +kernel)) | (apply AL_pickF; exact rfl; (first | with_reducible assumption | decide +kernel); exact rfl; exact rfl) | (apply AW_condA; exact rfl; (first | with_reducible assumption | decide +kernel)) | (apply AL_len ttok; (iterate 4 exact rfl)))
 all_goals (apply endQ []; (apply resG_ok ttok; exact rfl); (iterate 4 exact rfl))
 all_goals rfl
end Go.Proofs.YtfkmicjlaedlkaaGreatDoor
end
section
open Go.RowKit Go.Pl Go.Av
namespace Go.Proofs.YtfkmicjlaedlkaaGreatDoor
set_option maxHeartbeats 4000000
theorem hp_s [Known] [KnownU8] (d : List UInt8) (k : Int) (n : Nat) (b : List UInt8) (L : List E) (k1 : Int) (n1 : Nat) (b1 : List UInt8) (l1 : List It) (k2 : Int) (n2 : Nat) (b2 : List UInt8) (l2 : List It) (s : Bool) (N : D)
  (hI : AP Tryz.prog 110 [byE d] (.tup [.agg [.int .i64 k, .int .u64 (n : Int), byE b, .sl .ext L], .bool true]) []) (tk2 : (k != 4) = false) (t2 : ((L.length : Int) != 2) = false) (hU : Uni 4 L)
  (hv0 : L[(0 : Int).toNat]? = some (.agg [.int .i64 k1, .int .u64 (n1 : Int), .sl (b1.map E.byte), .sl (itEs l1)])) (hv1 : L[(1 : Int).toNat]? = some (.agg [.int .i64 k2, .int .u64 (n2 : Int), .sl (b2.map E.byte), .sl (itEs l2)]))
  (hN : AP Tryz.prog 111 [.sl .ext [.int .u64 (n1 : Int), .int .u64 (n2 : Int)]] (.agg [.int .i64 4, .int .u64 0, .sl .ext [], .sl .ext [nmE n1, nmE n2]]) []) (hS : AP Tryz.prog 48 [.agg [.int .i64 k, .int .u64 (n : Int), byE b, .sl .ext L], .agg [.int .i64 4, .int .u64 0, .sl .ext [], .sl .ext [nmE n1, nmE n2]]] (.bool s) []) (ts : s = false) :
  AP Tryz.prog 70 [byE d] (.tup [.int .u64 (n1 : Int), .int .u64 (n2 : Int), .bool false]) [] := by
 subst ts
 refine AP.ofA ?_
 refine AC_of Tryz.func70 rfl Tryz.ntmps70 rfl rfl ?_
 repeat' (first | (apply AL_callPw (hI); kernel_rfl; (iterate 4 exact rfl)) | (apply AL_callPw (hS); kernel_rfl; (iterate 4 exact rfl)) | (apply AL_callPw (hN); kernel_rfl; (iterate 4 exact rfl)) | (apply AL_go ttok; exact rfl) | (apply AW_go ttok; exact rfl) | (apply K_go ttok; exact rfl) | (apply AL_guardT; (iterate 3 exact rfl); (first | with_reducible assumption | decide +kernel)) | (apply AL_guardFt; (iterate 3 exact rfl); (first | with_reducible assumption | decide +kernel)) | (apply AL_pickF; exact rfl; (first | with_reducible assumption | decide +kernel); exact rfl; exact rfl) | (apply AW_condB; exact rfl; (first | with_reducible assumption | decide +kernel)) | (apply AL_len ttok; (iterate 4 exact rfl)) | (apply AL_bsZ ttok; (iterate 12 exact rfl)) | (apply AW_drawE 11 hmix; (decide +kernel); (kernel_rfl); (kernel_rfl); (kernel_rfl); exact rfl; exact rfl) | (apply AW_drawE 23 hmix; (decide +kernel); (kernel_rfl); (kernel_rfl); (kernel_rfl); exact rfl; exact rfl) | (apply AE_consZ; (iterate 4 exact rfl)) | exact AE.nil _ _ _ _ | (apply AEk_puT; exact rfl) | (apply AOt_mk; exact rfl; exact rfl; (decide +kernel); exact rfl) | (apply AO_puT; exact rfl) | exact AO.nil _ _ _ | (apply AOs_skip; (decide +kernel)) | exact AOs.nil | exact qY_ok rfl rfl | exact qY_wk rfl rfl rfl rfl rfl | (apply AL_idx ttok; (iterate 6 exact rfl); (first | with_reducible assumption | decide +kernel | exact Int.natCast_nonneg _ | (guard_target = (0:Int) <= (OfNat.ofNat _ : Int); decide) | rotate_left); (first | with_reducible assumption | decide +kernel | exact rfl); (first | exact uniB_ok rfl | with_reducible assumption | decide +kernel | rotate_left)))
 all_goals (apply endQ []; (apply resG_ok ttok; exact rfl); (iterate 4 exact rfl))
 all_goals rfl
theorem hp_1 [Known] [KnownU8] (d : List UInt8) (k : Int) (n : Nat) (b : List UInt8) (L : List E) (k1 : Int) (n1 : Nat) (b1 : List UInt8) (l1 : List It) (k2 : Int) (n2 : Nat) (b2 : List UInt8) (l2 : List It) (s : Bool) (N : D)
  (hI : AP Tryz.prog 110 [byE d] (.tup [.agg [.int .i64 k, .int .u64 (n : Int), byE b, .sl .ext L], .bool true]) []) (tk2 : (k != 4) = false) (t2 : ((L.length : Int) != 2) = false) (hU : Uni 4 L)
  (hv0 : L[(0 : Int).toNat]? = some (.agg [.int .i64 k1, .int .u64 (n1 : Int), .sl (b1.map E.byte), .sl (itEs l1)])) (hv1 : L[(1 : Int).toNat]? = some (.agg [.int .i64 k2, .int .u64 (n2 : Int), .sl (b2.map E.byte), .sl (itEs l2)]))
  (hN : AP Tryz.prog 111 [.sl .ext [.int .u64 (n1 : Int), .int .u64 (n2 : Int)]] (.agg [.int .i64 4, .int .u64 0, .sl .ext [], .sl .ext [nmE n1, nmE n2]]) []) (hS : AP Tryz.prog 48 [.agg [.int .i64 k, .int .u64 (n : Int), byE b, .sl .ext L], .agg [.int .i64 4, .int .u64 0, .sl .ext [], .sl .ext [nmE n1, nmE n2]]] (.bool s) []) (ts : s = true) (t4 : decide ((n1 : Int) ≥ 1) = false) :
  AP Tryz.prog 70 [byE d] (.tup [.int .u64 (n1 : Int), .int .u64 (n2 : Int), .bool false]) [] := by
 subst ts
 refine AP.ofA ?_
 refine AC_of Tryz.func70 rfl Tryz.ntmps70 rfl rfl ?_
 repeat' (first | (apply AL_callPw (hI); kernel_rfl; (iterate 4 exact rfl)) | (apply AL_callPw (hS); kernel_rfl; (iterate 4 exact rfl)) | (apply AL_callPw (hN); kernel_rfl; (iterate 4 exact rfl)) | (apply AL_go ttok; exact rfl) | (apply AW_go ttok; exact rfl) | (apply K_go ttok; exact rfl) | (apply AL_guardT; (iterate 3 exact rfl); (first | with_reducible assumption | decide +kernel)) | (apply AL_guardFt; (iterate 3 exact rfl); (first | with_reducible assumption | decide +kernel)) | (apply AL_pickT; exact rfl; (first | with_reducible assumption | decide +kernel); exact rfl; exact rfl) | (apply AL_pickF; exact rfl; (first | with_reducible assumption | decide +kernel); exact rfl; exact rfl) | (apply AW_condB; exact rfl; (first | with_reducible assumption | decide +kernel)) | (apply AL_len ttok; (iterate 4 exact rfl)) | (apply AL_bsZ ttok; (iterate 12 exact rfl)) | (apply AW_drawE 11 hmix; (decide +kernel); (kernel_rfl); (kernel_rfl); (kernel_rfl); exact rfl; exact rfl) | (apply AW_drawE 23 hmix; (decide +kernel); (kernel_rfl); (kernel_rfl); (kernel_rfl); exact rfl; exact rfl) | (apply AE_consZ; (iterate 4 exact rfl)) | exact AE.nil _ _ _ _ | (apply AEk_puT; exact rfl) | (apply AOt_mk; exact rfl; exact rfl; (decide +kernel); exact rfl) | (apply AO_puT; exact rfl) | exact AO.nil _ _ _ | (apply AOs_skip; (decide +kernel)) | exact AOs.nil | exact qY_ok rfl rfl | exact qY_wk rfl rfl rfl rfl rfl | (apply AL_idx ttok; (iterate 6 exact rfl); (first | with_reducible assumption | decide +kernel | exact Int.natCast_nonneg _ | (guard_target = (0:Int) <= (OfNat.ofNat _ : Int); decide) | rotate_left); (first | with_reducible assumption | decide +kernel | exact rfl); (first | exact uniB_ok rfl | with_reducible assumption | decide +kernel | rotate_left)))
 all_goals (apply endQ []; (apply resG_ok ttok; exact rfl); (iterate 4 exact rfl))
 all_goals rfl
end Go.Proofs.YtfkmicjlaedlkaaGreatDoor
end
