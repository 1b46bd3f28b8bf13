/- Package eid: an item's name: numbers; all items. -/
import Derived.Test.YtpodhnaofhfinaaGreatDoorG18
import Derived.Test.YtpodhnaofhfinaaGreatDoorG10
import Derived.Test.YtpodhnaofhfinaaGreatDoorG11
import Derived.Test.YtpodhnaofhfinaaGreatDoorG12
import Derived.Test.YtpodhnaofhfinaaGreatDoorG13
import Derived.Test.YtpodhnaofhfinaaGreatDoorG16
import Derived.Test.YtpodhnaofhfinaaGreatDoorG09
import Derived.Scope
set_option linter.unusedVariables false
set_option linter.unusedSimpArgs false
section
open Go.RowKit Go.Pl Go.Av
namespace Go.Proofs.YtpodhnaofhfinaaGreatDoor
set_option maxHeartbeats 4000000
theorem rd_two [Known] [KnownU8] (n : Nat) (b : List UInt8) (s r : It) (hw : wfI (.mk 4 n b [s, r])) (hr : rightI (.mk 4 n b [s, r]) = true) (h1 : isNum 1 s = false) : AP Tryz.prog 69 [itD (.mk 4 n b [s, r])] (resE (readV2 s r)) [] := by
 have hR := av_rightI _ hw
 rw [hr] at hR
 obtain ⟨_, _, _, hws, hwr, _⟩ := hw
 have hS1 := av_isNum s hws 1 (by omega)
 have hS2 := av_isNum s hws 2 (by omega)
 have hN := av_nums r hwr
 have n1 := av_numA 1
 have n2 := av_numA 2
 replace n1 : AP Tryz.prog _ [.int .u64 1] (.agg [.int .i64 0, .int .u64 1, .sl .ext [], .sl .ext []]) [] := n1
 replace n2 : AP Tryz.prog _ [.int .u64 2] (.agg [.int .i64 0, .int .u64 2, .sl .ext [], .sl .ext []]) [] := n2
 rw [h1] at hS1
 have hU := uniI [s, r]
 unfold readV2
 rw [h1]
 dsimp only
 obtain ⟨ks, ns, bs, ls⟩ := s
 obtain ⟨kr, nr, br, lr⟩ := r
 have t2 : (((itEs [It.mk ks ns bs ls, It.mk kr nr br lr]).length : Int) != 2) = false := rfl
 cases h2 : isNum 2 (.mk ks ns bs ls) with
 | false =>
  rw [h2] at hS2
  show AP Tryz.prog _ _ (.tup [.agg [.bool false, .int .u64 0, .int .u64 0, .str [], .str []], .int .i64 3]) []
  refine AP.ofA ?_
  refine AC_of Tryz.func69 rfl Tryz.ntmps69 rfl rfl ?_
  repeat' (first | (apply AW_drawW 11 ttok hmix; (decide +kernel); (kernel_rfl); (kernel_rfl); (kernel_rfl); exact rfl; exact rfl) | exact AV.nil _ _ | (apply AV_al; exact rfl; exact rfl) | (apply AV_st; (iterate 4 exact rfl)) | (apply AV_pu; (iterate 4 exact rfl)) | (apply AWk_mk; (iterate 4 exact rfl)) | (apply AL_callPw (hR); kernel_rfl; (iterate 4 exact rfl)) | (apply AL_callPw (hS1); kernel_rfl; (iterate 4 exact rfl)) | (apply AL_callPw (hS2); kernel_rfl; (iterate 4 exact rfl)) | (apply AL_callPw (n1); kernel_rfl; (iterate 4 exact rfl)) | (apply AL_callPw (n2); kernel_rfl; (iterate 4 exact rfl)) | (apply AL_go ttok; exact rfl) | (apply AW_go ttok; exact rfl) | (apply K_go ttok; exact rfl) | (apply AL_guardT; (iterate 3 exact rfl); (first | with_reducible assumption | decide +kernel)) | (apply AL_guardFt; (iterate 3 exact rfl); (first | with_reducible assumption | decide +kernel)) | (apply AL_pickF; exact rfl; (first | with_reducible assumption | decide +kernel); exact rfl; exact rfl) | (apply AW_condA; exact rfl; (first | with_reducible assumption | decide +kernel)) | (apply AW_condB; exact rfl; (first | with_reducible assumption | decide +kernel)) | (apply AL_len ttok; (iterate 4 exact rfl)) | (apply AW_drawE 2 hmix; (decide +kernel); (kernel_rfl); (kernel_rfl); (kernel_rfl); exact rfl; exact rfl) | (apply AW_drawE 6 hmix; (decide +kernel); (kernel_rfl); (kernel_rfl); (kernel_rfl); exact rfl; exact rfl) | (apply AE_consZ; (iterate 4 exact rfl)) | exact AE.nil _ _ _ _ | (apply AEk_puT; exact rfl) | (apply AOt_mk; exact rfl; exact rfl; (decide +kernel); exact rfl) | (apply AO_puT; exact rfl) | exact AO.nil _ _ _ | (apply AOs_skip; (decide +kernel)) | exact AOs.nil | exact qY_ok rfl rfl | (apply AL_idx ttok; (iterate 6 exact rfl); (first | with_reducible assumption | decide +kernel | exact Int.natCast_nonneg _ | (guard_target = (0:Int) <= (OfNat.ofNat _ : Int); decide) | rotate_left); (first | with_reducible assumption | decide +kernel | exact rfl); (first | exact uniB_ok rfl | with_reducible assumption | decide +kernel | rotate_left)))
  all_goals (apply endQ []; (apply resG_ok ttok; exact rfl); (iterate 4 exact rfl))
  all_goals rfl
 | true =>
  rw [h2] at hS2
  dsimp only
  cases hq : numsV (.mk kr nr br lr) with
  | none =>
   rw [hq] at hN
   replace hN : AP Tryz.prog _ _ (.tup [.sl .ext [], .bool false]) [] := hN
   show AP Tryz.prog _ _ (.tup [.agg [.bool false, .int .u64 0, .int .u64 0, .str [], .str []], .int .i64 3]) []
   refine AP.ofA ?_
   refine AC_of Tryz.func69 rfl Tryz.ntmps69 rfl rfl ?_
   repeat' (first | (apply AW_drawW 11 ttok hmix; (decide +kernel); (kernel_rfl); (kernel_rfl); (kernel_rfl); exact rfl; exact rfl) | exact AV.nil _ _ | (apply AV_al; exact rfl; exact rfl) | (apply AV_st; (iterate 4 exact rfl)) | (apply AV_pu; (iterate 4 exact rfl)) | (apply AWk_mk; (iterate 4 exact rfl)) | (apply AL_callPw (hR); kernel_rfl; (iterate 4 exact rfl)) | (apply AL_callPw (hS1); kernel_rfl; (iterate 4 exact rfl)) | (apply AL_callPw (hS2); kernel_rfl; (iterate 4 exact rfl)) | (apply AL_callPw (n1); kernel_rfl; (iterate 4 exact rfl)) | (apply AL_callPw (n2); kernel_rfl; (iterate 4 exact rfl)) | (apply AL_callPw (hN); kernel_rfl; (iterate 4 exact rfl)) | (apply AL_go ttok; exact rfl) | (apply AW_go ttok; exact rfl) | (apply K_go ttok; exact rfl) | (apply AL_guardT; (iterate 3 exact rfl); (first | with_reducible assumption | decide +kernel)) | (apply AL_guardFt; (iterate 3 exact rfl); (first | with_reducible assumption | decide +kernel)) | (apply AL_pickF; exact rfl; (first | with_reducible assumption | decide +kernel); exact rfl; exact rfl) | (apply AW_condA; exact rfl; (first | with_reducible assumption | decide +kernel)) | (apply AW_condB; exact rfl; (first | with_reducible assumption | decide +kernel)) | (apply AL_len ttok; (iterate 4 exact rfl)) | (apply AW_drawE 2 hmix; (decide +kernel); (kernel_rfl); (kernel_rfl); (kernel_rfl); exact rfl; exact rfl) | (apply AW_drawE 6 hmix; (decide +kernel); (kernel_rfl); (kernel_rfl); (kernel_rfl); exact rfl; exact rfl) | (apply AE_consZ; (iterate 4 exact rfl)) | exact AE.nil _ _ _ _ | (apply AEk_puT; exact rfl) | (apply AOt_mk; exact rfl; exact rfl; (decide +kernel); exact rfl) | (apply AO_puT; exact rfl) | exact AO.nil _ _ _ | (apply AOs_skip; (decide +kernel)) | exact AOs.nil | exact qY_ok rfl rfl | (apply AL_idx ttok; (iterate 6 exact rfl); (first | with_reducible assumption | decide +kernel | exact Int.natCast_nonneg _ | (guard_target = (0:Int) <= (OfNat.ofNat _ : Int); decide) | rotate_left); (first | with_reducible assumption | decide +kernel | exact rfl); (first | exact uniB_ok rfl | with_reducible assumption | decide +kernel | rotate_left)))
   all_goals (apply endQ []; (apply resG_ok ttok; exact rfl); (iterate 4 exact rfl))
   all_goals rfl
  | some ac =>
   obtain ⟨a, c⟩ := ac
   rw [hq] at hN
   replace hN : AP Tryz.prog _ _ (.tup [.sl .ext [.int .u64 (a : Int), .int .u64 (c : Int)], .bool true]) [] := hN
   have hE := av_eRight ⟨true, a, c, [], []⟩
   dsimp only
   generalize eRight ⟨true, a, c, [], []⟩ = R at *
   replace hE : AP Tryz.prog _ [.agg [.bool true, .int .u64 (a : Int), .int .u64 (c : Int), .str [], .str []]] (.bool R) [] := hE
   cases R
   all_goals
    refine AP.ofA ?_
    refine AC_of Tryz.func69 rfl Tryz.ntmps69 rfl rfl ?_
    repeat' (first | (apply AW_drawW 11 ttok hmix; (decide +kernel); (kernel_rfl); (kernel_rfl); (kernel_rfl); exact rfl; exact rfl) | exact AV.nil _ _ | (apply AV_al; exact rfl; exact rfl) | (apply AV_st; (iterate 4 exact rfl)) | (apply AV_pu; (iterate 4 exact rfl)) | (apply AWk_mk; (iterate 4 exact rfl)) | (apply AL_callPw (hR); kernel_rfl; (iterate 4 exact rfl)) | (apply AL_callPw (hS1); kernel_rfl; (iterate 4 exact rfl)) | (apply AL_callPw (hS2); kernel_rfl; (iterate 4 exact rfl)) | (apply AL_callPw (n1); kernel_rfl; (iterate 4 exact rfl)) | (apply AL_callPw (n2); kernel_rfl; (iterate 4 exact rfl)) | (apply AL_callPw (hN); kernel_rfl; (iterate 4 exact rfl)) | (apply AL_callPw (hE); kernel_rfl; (iterate 4 exact rfl)) | (apply AL_go ttok; exact rfl) | (apply AW_go ttok; exact rfl) | (apply K_go ttok; exact rfl) | (apply AL_guardT; (iterate 3 exact rfl); (first | with_reducible assumption | decide +kernel)) | (apply AL_guardFt; (iterate 3 exact rfl); (first | with_reducible assumption | decide +kernel)) | (apply AL_pickF; exact rfl; (first | with_reducible assumption | decide +kernel); exact rfl; exact rfl) | (apply AW_condA; exact rfl; (first | with_reducible assumption | decide +kernel)) | (apply AW_condB; exact rfl; (first | with_reducible assumption | decide +kernel)) | (apply AL_len ttok; (iterate 4 exact rfl)) | (apply AW_drawE 2 hmix; (decide +kernel); (kernel_rfl); (kernel_rfl); (kernel_rfl); exact rfl; exact rfl) | (apply AW_drawE 6 hmix; (decide +kernel); (kernel_rfl); (kernel_rfl); (kernel_rfl); exact rfl; exact rfl) | (apply AE_consZ; (iterate 4 exact rfl)) | exact AE.nil _ _ _ _ | (apply AEk_puT; exact rfl) | (apply AOt_mk; exact rfl; exact rfl; (decide +kernel); exact rfl) | (apply AO_puT; exact rfl) | exact AO.nil _ _ _ | (apply AOs_skip; (decide +kernel)) | exact AOs.nil | exact qY_ok rfl rfl | (apply AL_idx ttok; (iterate 6 exact rfl); (first | with_reducible assumption | decide +kernel | exact Int.natCast_nonneg _ | (guard_target = (0:Int) <= (OfNat.ofNat _ : Int); decide) | rotate_left); (first | with_reducible assumption | decide +kernel | exact rfl); (first | exact uniB_ok rfl | with_reducible assumption | decide +kernel | rotate_left)))
    all_goals (apply endQ []; (apply resG_ok ttok; exact rfl); (iterate 4 exact rfl))
    all_goals rfl
theorem av_eRead [Known] [KnownU8] (x : It) (hw : wfI x) : AP Tryz.prog 69 [itD x] (resE (readV x)) [] := by
 cases hr : rightI x with
 | false =>
  have e : readV x = (eidZ, false) := by unfold readV; rw [hr]
  rw [e]
  exact rd_not x hw (.inl hr)
 | true =>
  obtain ⟨k, n, b, l⟩ := x
  by_cases hk : k = 4
  ·subst hk
   match l, hw, hr with
   | [s, r], hw, hr =>
    have e : readV (.mk 4 n b [s, r]) = readV2 s r := by unfold readV; rw [hr]; dsimp only; rw [if_pos rfl]
    rw [e]
    cases h1 : isNum 1 s with
    | true => exact rd_one n b s r hw hr h1
    | false => exact rd_two n b s r hw hr h1
   | [], hw, hr =>
    have e : readV (.mk 4 n b []) = (eidZ, false) := by unfold readV; rw [hr]
    rw [e]; exact rd_not _ hw (.inr (.inr (by simp [It.l])))
   | [s], hw, hr =>
    have e : readV (.mk 4 n b [s]) = (eidZ, false) := by unfold readV; rw [hr]
    rw [e]; exact rd_not _ hw (.inr (.inr (by simp [It.l])))
   | s :: r :: y :: l, hw, hr =>
    have e : readV (.mk 4 n b (s :: r :: y :: l)) = (eidZ, false) := by unfold readV; rw [hr]
    rw [e]; exact rd_not _ hw (.inr (.inr (by simp [It.l])))
  ·have e : readV (.mk k n b l) = (eidZ, false) := by
    unfold readV; rw [hr]
    match l with
    | [s, r] => dsimp only; rw [if_neg hk]
    | [] => rfl
    | [s] => rfl
    | s :: r :: y :: l => rfl
   rw [e]
   exact rd_not _ hw (.inr (.inl hk))
end Go.Proofs.YtpodhnaofhfinaaGreatDoor
end
section
open Go.RowKit Go.Pl Go.Av
namespace Go.Proofs.YtpodhnaofhfinaaGreatDoor
set_option maxHeartbeats 4000000
def pathE (x : EidV) : List UInt8 := [47, 47] ++ x.h ++ [47] ++ x.d
theorem eRight_num {x : EidV} (h : eRight x = true) (hz : isZ x = false) (hi : x.i = true) : x.n <= 4294967295 /\ x.s <= 4294967295 /\ x.h = [] /\ x.d = [] /\ 1 <= x.n := by
 rw [eRight_I hz hi] at h
 simp only [Bool.and_eq_true, decide_eq_true_eq, beq_iff_eq] at h
 obtain ⟨⟨⟨⟨_, _, _, h1, h2, _⟩, h3⟩, h4⟩, h5⟩ := h
 exact ⟨by omega, by omega, h1, h2, by omega⟩
theorem eRight_txt {x : EidV} (h : eRight x = true) (hz : isZ x = false) (hi : x.i = false) : x.n = 0 /\ x.s = 0 /\ 1 <= x.h.length /\ x.h.length <= 16 /\ x.d.length <= 24 /\ x.h.all (okB 45) = true /\ x.d.all (okB 47) = true := by
 rw [eRight_T hz hi] at h
 simp only [Bool.and_eq_true, decide_eq_true_eq, beq_iff_eq] at h
 obtain ⟨⟨⟨⟨⟨⟨_, h1, h2, _⟩, h3⟩, h4⟩, h5⟩, h6⟩, h7⟩ := h
 exact ⟨by omega, by omega, by omega, by omega, by omega, h6, h7⟩
theorem av_path [Known] (x : EidV) (h1 : x.h.length <= 16) (h2 : x.d.length <= 24) : AP Tryz.prog 78 [.agg (eC x)] (.str (pathE x)) [] := by
 have l1 : [(47 : UInt8), 47].length + x.h.length <= maxLen := by simp; unfold maxLen; omega
 have l2 : ([(47 : UInt8), 47] ++ x.h).length + [(47 : UInt8)].length <= maxLen := by simp; unfold maxLen; omega
 have l3 : ([(47 : UInt8), 47] ++ x.h ++ [47]).length + x.d.length <= maxLen := by simp; unfold maxLen; omega
 refine AP.ofA ?_
 refine AC_of Tryz.func78 rfl Tryz.ntmps78 rfl rfl ?_
 repeat' (first | (apply AL_cat; exact rfl; exact rfl; (first | exact l1 | exact l2 | exact l3); exact rfl) | (apply AL_go ttok; exact rfl) | (apply AW_go ttok; exact rfl))
 all_goals (apply endQ []; (apply resG_ok ttok; exact rfl); (iterate 4 exact rfl))
 all_goals rfl
end Go.Proofs.YtpodhnaofhfinaaGreatDoor
end
section
open Go.RowKit Go.Pl Go.Av
namespace Go.Proofs.YtpodhnaofhfinaaGreatDoor
set_option maxHeartbeats 4000000
def itemE (x : EidV) : It :=
 if isZ x then .mk 4 0 [] [.mk 0 1 [] [], .mk 0 0 [] []]
 else if x.i then .mk 4 0 [] [.mk 0 2 [] [], .mk 4 0 [] [.mk 0 x.n [] [], .mk 0 x.s [] []]]
 else .mk 4 0 [] [.mk 0 1 [] [], .mk 3 0 (pathE x) []]
theorem av_eWrite [Known] (x : EidV) : AP Tryz.prog 56 [.agg (eC x)] (.tup [itD (if eRight x then itemE x else .mk 0 0 [] []), .int .i64 (if eRight x then 0 else 3)]) [] := by
 have hR := av_eRight x
 cases hr : eRight x with
 | false =>
  rw [hr] at hR
  refine AP.ofA ?_
  refine AC_of Tryz.func56 rfl Tryz.ntmps56 rfl rfl ?_
  repeat' (first | (apply AL_callPw (hR); kernel_rfl; (iterate 4 exact rfl)) | (apply AL_go ttok; exact rfl) | (apply AW_go ttok; exact rfl) | (apply K_go ttok; exact rfl) | (apply AW_condA; exact rfl; (first | with_reducible assumption | decide +kernel)))
  all_goals (apply endQ []; (apply resG_ok ttok; exact rfl); (iterate 4 exact rfl))
  all_goals rfl
 | true =>
  rw [hr] at hR
  rw [if_pos rfl, if_pos rfl]
  unfold itemE
  cases hz : isZ x with
  | true =>
   rw [if_pos rfl]
   have n1 := av_num 1
   have n0 := av_num 0
   have hL := av_list [.mk 0 1 [] [], .mk 0 0 [] []] (by decide) (by simp [wfI, wfs])
   replace n1 : AP Tryz.prog _ [.int .u64 1] (.agg [.int .i64 0, .int .u64 1, .sl .ext [], .sl .ext []]) [] := n1
   replace n0 : AP Tryz.prog _ [.int .u64 0] (.agg [.int .i64 0, .int .u64 0, .sl .ext [], .sl .ext []]) [] := n0
   unfold isZ at hz
   refine AP.ofA ?_
   refine AC_of Tryz.func56 rfl Tryz.ntmps56 rfl rfl ?_
   repeat' (first | (apply AL_callPw (hR); kernel_rfl; (iterate 4 exact rfl)) | (apply AL_callPw (n1); kernel_rfl; (iterate 4 exact rfl)) | (apply AL_callPw (n0); kernel_rfl; (iterate 4 exact rfl)) | (apply AL_callPw (hL); kernel_rfl; (iterate 4 exact rfl)) | (apply AL_go ttok; exact rfl) | (apply AW_go ttok; exact rfl) | (apply K_go ttok; exact rfl) | (apply AW_condA; exact rfl; (first | with_reducible assumption | decide +kernel)) | (apply AW_condB; exact rfl; (first | with_reducible assumption | decide +kernel)) | (apply AL_bsZ ttok; (iterate 12 exact rfl)) | (apply AL_eqS ttok; (iterate 4 exact rfl); (kernel_rfl); (kernel_rfl); (iterate 3 exact rfl)))
   all_goals (apply endQ []; (apply resG_ok ttok; exact rfl); (iterate 4 exact rfl))
   all_goals rfl
  | false =>
   rw [if_neg (by simp)]
   cases hi : x.i with
   | true =>
    obtain ⟨b1, b2, _⟩ := eRight_num hr hz hi
    rw [if_pos rfl]
    have n2 := av_num 2
    have nn := av_num x.n
    have ns := av_num x.s
    have hL1 := av_list [.mk 0 x.n [] [], .mk 0 x.s [] []] (by simp) (by simp [wfI, wfs]; omega)
    have hL := av_list [.mk 0 2 [] [], .mk 4 0 [] [.mk 0 x.n [] [], .mk 0 x.s [] []]] (by simp) (by simp [wfI, wfs]; omega)
    replace n2 : AP Tryz.prog _ [.int .u64 2] (.agg [.int .i64 0, .int .u64 2, .sl .ext [], .sl .ext []]) [] := n2
    replace nn : AP Tryz.prog _ [.int .u64 (x.n : Int)] (.agg [.int .i64 0, .int .u64 (x.n : Int), .sl .ext [], .sl .ext []]) [] := nn
    replace ns : AP Tryz.prog _ [.int .u64 (x.s : Int)] (.agg [.int .i64 0, .int .u64 (x.s : Int), .sl .ext [], .sl .ext []]) [] := ns
    replace hL1 : AP Tryz.prog _ _ (.agg [.int .i64 4, .int .u64 0, .sl .ext [], .sl .ext [.agg [.int .i64 0, .int .u64 (x.n : Int), .sl [], .sl []], .agg [.int .i64 0, .int .u64 (x.s : Int), .sl [], .sl []]]]) [] := hL1
    unfold isZ at hz
    refine AP.ofA ?_
    refine AC_of Tryz.func56 rfl Tryz.ntmps56 rfl rfl ?_
    repeat' (first | (apply AL_callPw (hR); kernel_rfl; (iterate 4 exact rfl)) | (apply AL_callPw (n2); kernel_rfl; (iterate 4 exact rfl)) | (apply AL_callPw (nn); kernel_rfl; (iterate 4 exact rfl)) | (apply AL_callPw (ns); kernel_rfl; (iterate 4 exact rfl)) | (apply AL_callPw (hL1); kernel_rfl; (iterate 4 exact rfl)) | (apply AL_callPw (hL); kernel_rfl; (iterate 4 exact rfl)) | (apply AL_go ttok; exact rfl) | (apply AW_go ttok; exact rfl) | (apply K_go ttok; exact rfl) | (apply AW_condA; exact rfl; (first | with_reducible assumption | decide +kernel)) | (apply AW_condB; exact rfl; (first | with_reducible assumption | decide +kernel)) | (apply AL_bsZ ttok; (iterate 12 exact rfl)) | (apply AL_eqS ttok; (iterate 4 exact rfl); (kernel_rfl); (kernel_rfl); (iterate 3 exact rfl)) | (apply AW_drawE 6 hmix; (decide +kernel); (kernel_rfl); (kernel_rfl); (kernel_rfl); exact rfl; exact rfl) | (apply AE_consZ; (iterate 4 exact rfl)) | exact AE.nil _ _ _ _ | (apply AEk_puT; exact rfl) | (apply AOt_mk; exact rfl; exact rfl; (decide +kernel); exact rfl) | (apply AO_puT; exact rfl) | exact AO.nil _ _ _ | (apply AOs_skip; (decide +kernel)) | exact AOs.nil | exact qY_ok rfl rfl)
    all_goals (apply endQ []; (apply resG_ok ttok; exact rfl); (iterate 4 exact rfl))
    all_goals rfl
   | false =>
    obtain ⟨_, _, _, b1, b2, _⟩ := eRight_txt hr hz hi
    rw [if_neg (by simp)]
    have n1 := av_num 1
    have hP := av_path x b1 b2
    have hT := av_text (pathE x)
    have hpl : (pathE x).length <= 1099511627776 := by unfold pathE; simp; omega
    generalize pathE x = p at *
    have hL := av_list [.mk 0 1 [] [], .mk 3 0 p []] (by simp) (by simp [wfI, wfs]; omega)
    replace n1 : AP Tryz.prog _ [.int .u64 1] (.agg [.int .i64 0, .int .u64 1, .sl .ext [], .sl .ext []]) [] := n1
    replace hT : AP Tryz.prog _ [.str p] (.agg [.int .i64 3, .int .u64 0, byE p, .sl .ext []]) [] := hT
    unfold isZ at hz
    refine AP.ofA ?_
    refine AC_of Tryz.func56 rfl Tryz.ntmps56 rfl rfl ?_
    repeat' (first | (apply AL_callPw (hR); kernel_rfl; (iterate 4 exact rfl)) | (apply AL_callPw (n1); kernel_rfl; (iterate 4 exact rfl)) | (apply AL_callPw (hP); kernel_rfl; (iterate 4 exact rfl)) | (apply AL_callPw (hT); kernel_rfl; (iterate 4 exact rfl)) | (apply AL_callPw (hL); kernel_rfl; (iterate 4 exact rfl)) | (apply AL_go ttok; exact rfl) | (apply AW_go ttok; exact rfl) | (apply K_go ttok; exact rfl) | (apply AW_condB; exact rfl; (first | with_reducible assumption | decide +kernel)) | (apply AL_bsZ ttok; (iterate 12 exact rfl)) | (apply AL_eqS ttok; (iterate 4 exact rfl); (kernel_rfl); (kernel_rfl); (iterate 3 exact rfl)) | (apply AW_drawE 2 hmix; (decide +kernel); (kernel_rfl); (kernel_rfl); (kernel_rfl); exact rfl; exact rfl) | (apply AE_consZ; (iterate 4 exact rfl)) | exact AE.nil _ _ _ _ | (apply AEk_puT; exact rfl) | (apply AOt_mk; exact rfl; exact rfl; (decide +kernel); exact rfl) | (apply AO_puT; exact rfl) | exact AO.nil _ _ _ | (apply AOs_skip; (decide +kernel)) | exact AOs.nil | exact qY_ok rfl rfl)
    all_goals (apply endQ []; (apply resG_ok ttok; exact rfl); (iterate 4 exact rfl))
    all_goals rfl
end Go.Proofs.YtpodhnaofhfinaaGreatDoor
end
section
open Go.RowKit Go.Pl Go.Av
namespace Go.Proofs.YtpodhnaofhfinaaGreatDoor
theorem ppV_path {x : EidV} (h : eRight x = true) (hz : isZ x = false) (hi : x.i = false) : ppV (pathE x) = (x, true) := by
 obtain ⟨b1, b2, b3, b4, b5, b6, b7⟩ := eRight_txt h hz hi
 have e1 : pathE x = [47, 47] ++ (x.h ++ 47 :: x.d) := by simp [pathE]
 rw [e1]
 unfold ppV
 rw [preV_app]
 dsimp only
 rw [cutV_yes (not_mem_ok b6 (by decide))]
 dsimp only
 have ex : (⟨false, 0, 0, x.h, x.d⟩ : EidV) = x := by
  obtain ⟨i, n, s, hh, d⟩ := x
  simp only at hi b1 b2
  rw [hi, b1, b2]
 rw [ex, h]
 have : (x.h != []) = true := by
  rw [bne_iff_ne]
  intro e
  rw [e] at b3
  simp at b3
 rw [this]
 rfl
theorem wf_itemE {x : EidV} (h : eRight x = true) : wfI (itemE x) := by
 unfold itemE
 cases hz : isZ x with
 | true => rw [if_pos rfl]; simp [wfI, wfs]
 | false =>
  rw [if_neg (by simp)]
  cases hi : x.i with
  | true =>
   obtain ⟨b1, b2, b3, b4, b5⟩ := eRight_num h hz hi
   rw [if_pos rfl]
   simp [wfI, wfs]
   omega
  | false =>
   obtain ⟨b1, b2, b3, b4, b5, b6, b7⟩ := eRight_txt h hz hi
   rw [if_neg (by simp)]
   simp [wfI, wfs, pathE]
   omega
theorem readV_itemE {x : EidV} (h : eRight x = true) (hr : rightI (itemE x) = true) : readV (itemE x) = (x, true) := by
 unfold readV
 rw [hr]
 unfold itemE
 cases hz : isZ x with
 | true =>
  rw [if_pos rfl, isZ_iff.1 hz]
  rfl
 | false =>
  rw [if_neg (by simp)]
  cases hi : x.i with
  | true =>
   obtain ⟨b1, b2, b3, b4, b5⟩ := eRight_num h hz hi
   rw [if_pos rfl]
   dsimp only
   rw [if_pos rfl]
   have ex : (⟨true, x.n, x.s, [], []⟩ : EidV) = x := by
    obtain ⟨i, n, s, hh, d⟩ := x
    simp only at hi b3 b4
    rw [hi, b3, b4]
   have e1 : isNum 1 (.mk 0 2 [] []) = false := rfl
   have e2 : isNum 2 (.mk 0 2 [] []) = true := rfl
   have e3 : ∀ n, isNum n (.mk 0 n [] []) = true := fun n => It.beq_iff.2 rfl
   have e4 : numsV (.mk 4 0 [] [.mk 0 x.n [] [], .mk 0 x.s [] []]) = some (x.n, x.s) := by
    unfold numsV
    dsimp only
    rw [if_pos rfl]
    simp only [It.n, e3, Bool.and_self]
   unfold readV2
   rw [e1, e2, e4]
   dsimp only
   rw [ex, h]
  | false =>
   rw [if_neg (by simp)]
   dsimp only
   rw [if_pos rfl]
   have e1 : isNum 1 (.mk 0 1 [] []) = true := rfl
   have e2 : isNum 0 (.mk 3 0 (pathE x) []) = false := rfl
   unfold readV2
   rw [e1, e2]
   exact ppV_path h hz hi
theorem okB_asc {m : Nat} (hm : m < 128) {c : UInt8} (h : okB m c = true) : c.toNat < 128 := by
 simp only [okB, Bool.or_eq_true, Bool.and_eq_true, decide_eq_true_eq, beq_iff_eq] at h
 omega
theorem right_itemE {x : EidV} (h : eRight x = true) : rightI (itemE x) = true := by
 unfold itemE
 cases hz : isZ x with
 | true => rw [if_pos rfl]; rfl
 | false =>
  rw [if_neg (by simp)]
  cases hi : x.i with
  | true => rw [if_pos rfl]; simp [rightI, walkI, walks, ownI]
  | false =>
   obtain ⟨b1, b2, b3, b4, b5, b6, b7⟩ := eRight_txt h hz hi
   rw [if_neg (by simp)]
   have hv : validU (pathE x) = true := by
    rw [validU_asc (pathE x).length (pathE x) (Nat.le_refl _) fun c hc => ?_, List.drop_length]
    ·rfl
    ·rw [List.take_length] at hc
     simp only [pathE, List.mem_append, List.mem_cons, List.not_mem_nil, or_false] at hc
     rcases hc with ((hc | hc) | hc) | hc
     ·rcases hc with hc | hc <;> rw [hc] <;> decide
     ·exact okB_asc (by decide) (List.all_eq_true.1 b6 c hc)
     ·rw [hc]; decide
     ·exact okB_asc (by decide) (List.all_eq_true.1 b7 c hc)
   simp [rightI, walkI, walks, ownI, hv]
end Go.Proofs.YtpodhnaofhfinaaGreatDoor
end
section
open Go.RowKit Go.Pl Go.Av
namespace Go.Proofs.YtpodhnaofhfinaaGreatDoor
set_option maxHeartbeats 1000000
abbrev iC (x : EidV) (t q : Nat) : List D := [.bool x.i, .int .u64 (x.n : Int), .int .u64 (x.s : Int), .str x.h, .str x.d, .int .u64 (t : Int), .int .u64 (q : Int)]
def iRight (x : EidV) (t q : Nat) : Bool := eRight x && decide ((t : Int) <= 1099511627776) && decide ((q : Int) <= 1099511627776)
theorem av_iRight [Known] (x : EidV) (t q : Nat) : AP Tryz.prog 21 [.agg (iC x t q)] (.bool (iRight x t q)) [] := by
 refine AP.ofA ?_
 refine AC_of Tryz.func21 rfl Tryz.ntmps21 rfl rfl ?_
 repeat' (first | (apply AL_callPw (av_eRight x); kernel_rfl; (iterate 4 exact rfl)) | (apply AL_go ttok; exact rfl) | (apply AW_go ttok; exact rfl) | (apply AL_guardT; (iterate 3 exact rfl); (first | with_reducible assumption | (solve | simp only [bn]))) | (apply AL_guardFt; (iterate 3 exact rfl); (first | with_reducible assumption | (solve | simp only [bn]))) | (apply AL_guardS; exact rfl; exact rfl; all_goals intro hb) | (apply AL_pickT; exact rfl; (first | with_reducible assumption | (solve | simp only [bn])); exact rfl; exact rfl) | (apply AL_pickF; exact rfl; (first | with_reducible assumption | (solve | simp only [bn])); exact rfl; exact rfl))
 all_goals (apply endQ []; (apply resG_ok ttok; exact rfl); (iterate 4 exact rfl))
 all_goals first | rfl | (unfold iRight; simp only [*]; done) | (unfold iRight; simp only [*]; simp only [Bool.and_true, Bool.true_and, Bool.and_false, Bool.false_and]; done)
theorem av_greatN [Known] (x : EidV) (t q : Nat) : AP Tryz.prog 15 [.agg (iC x t q)] (.bool (decide (IntKind.i64.wrap ((x.h.length : Int) + (x.d.length : Int)) > 300))) [] := by
 refine AP.ofA ?_
 refine AC_of Tryz.func15 rfl Tryz.ntmps15 rfl rfl ?_
 repeat' (first | (apply AL_go ttok; exact rfl) | (apply AW_go ttok; exact rfl) | (apply AL_lens ttok; (iterate 4 exact rfl)))
 (apply endQ []; (apply resG_ok ttok; exact rfl); (iterate 4 exact rfl))
 all_goals rfl
end Go.Proofs.YtpodhnaofhfinaaGreatDoor
end
section
open Go.RowKit Go.Pl Go.Av
namespace Go.Proofs.YtpodhnaofhfinaaGreatDoor
set_option maxHeartbeats 4000000
def itemN (x : EidV) (t q : Nat) : It := .mk 4 0 [] [itemE x, .mk 4 0 [] [.mk 0 t [] [], .mk 0 q [] []]]
theorem iRight_iff {x : EidV} {t q : Nat} : iRight x t q = true ↔ eRight x = true /\ t <= 1099511627776 /\ q <= 1099511627776 := by
 unfold iRight
 simp only [Bool.and_eq_true, decide_eq_true_eq]
 rw [and_assoc]
 exact and_congr Iff.rfl (and_congr (by omega) (by omega))
theorem wf_itemN {x : EidV} {t q : Nat} (h : iRight x t q = true) : wfI (itemN x t q) := by
 obtain ⟨h1, h2, h3⟩ := iRight_iff.1 h
 have hw := wf_itemE h1
 unfold itemN
 generalize itemE x = y at *
 simp [wfI, wfs, hw]
 omega
theorem av_iWrite [Known] (x : EidV) (t q : Nat) : AP Tryz.prog 45 [.agg (iC x t q)] (.tup [itD (if iRight x t q then itemN x t q else .mk 0 0 [] []), .int .i64 (if iRight x t q then 0 else 3)]) [] := by
 have hR := av_iRight x t q
 cases hr : iRight x t q with
 | false =>
  rw [hr] at hR
  refine AP.ofA ?_
  refine AC_of Tryz.func45 rfl Tryz.ntmps45 rfl rfl ?_
  repeat' (first | (apply AL_callPw (hR); kernel_rfl; (iterate 4 exact rfl)) | (apply AL_go ttok; exact rfl) | (apply AW_go ttok; exact rfl) | (apply K_go ttok; exact rfl) | (apply AW_condA; exact rfl; (first | with_reducible assumption | decide +kernel)))
  all_goals (apply endQ []; (apply resG_ok ttok; exact rfl); (iterate 4 exact rfl))
  all_goals rfl
 | true =>
  rw [hr] at hR
  rw [if_pos rfl, if_pos rfl]
  obtain ⟨h1, h2, h3⟩ := iRight_iff.1 hr
  have hE := av_eWrite x
  rw [h1, if_pos rfl, if_pos rfl] at hE
  have hw := wf_itemE h1
  have nt := av_num t
  have nq := av_num q
  unfold itemN
  generalize itemE x = y at *
  have hL1 := av_list [.mk 0 t [] [], .mk 0 q [] []] (by simp) (by simp [wfI, wfs]; omega)
  have hL := av_list [y, .mk 4 0 [] [.mk 0 t [] [], .mk 0 q [] []]] (by simp) (by simp [wfI, wfs, hw]; omega)
  obtain ⟨k, n, b, l⟩ := y
  replace nt : AP Tryz.prog _ [.int .u64 (t : Int)] (.agg [.int .i64 0, .int .u64 (t : Int), .sl .ext [], .sl .ext []]) [] := nt
  replace nq : AP Tryz.prog _ [.int .u64 (q : Int)] (.agg [.int .i64 0, .int .u64 (q : Int), .sl .ext [], .sl .ext []]) [] := nq
  replace hE : AP Tryz.prog _ [.agg (eC x)] (.tup [.agg [.int .i64 k, .int .u64 (n : Int), byE b, .sl .ext (itEs l)], .int .i64 0]) [] := hE
  replace hL1 : AP Tryz.prog _ _ (.agg [.int .i64 4, .int .u64 0, .sl .ext [], .sl .ext [.agg [.int .i64 0, .int .u64 (t : Int), .sl [], .sl []], .agg [.int .i64 0, .int .u64 (q : Int), .sl [], .sl []]]]) [] := hL1
  refine AP.ofA ?_
  refine AC_of Tryz.func45 rfl Tryz.ntmps45 rfl rfl ?_
  repeat' (first | (apply AL_callPw (hR); kernel_rfl; (iterate 4 exact rfl)) | (apply AL_callPw (hE); kernel_rfl; (iterate 4 exact rfl)) | (apply AL_callPw (nt); kernel_rfl; (iterate 4 exact rfl)) | (apply AL_callPw (nq); kernel_rfl; (iterate 4 exact rfl)) | (apply AL_callPw (hL1); kernel_rfl; (iterate 4 exact rfl)) | (apply AL_callPw (hL); kernel_rfl; (iterate 4 exact rfl)) | (apply AL_go ttok; exact rfl) | (apply AW_go ttok; exact rfl) | (apply K_go ttok; exact rfl) | (apply AW_condB; exact rfl; (first | with_reducible assumption | decide +kernel)) | (apply AL_bsZ ttok; (iterate 12 exact rfl)) | (apply AW_drawE 13 hmix; (decide +kernel); (kernel_rfl); (kernel_rfl); (kernel_rfl); exact rfl; exact rfl) | (apply AE_consZ; (iterate 4 exact rfl)) | exact AE.nil _ _ _ _ | (apply AEk_puT; exact rfl) | (apply AEk_ef; exact rfl) | (apply AOt_mk; exact rfl; exact rfl; (decide +kernel); exact rfl) | (apply AO_puT; exact rfl) | (apply AO_ef; exact rfl) | exact AO.nil _ _ _ | (apply AOs_skip; (decide +kernel)) | (apply AOs_goZ; (iterate 3 exact rfl)) | exact AOs.nil | exact qY_ok rfl rfl | exact qY_wk rfl rfl rfl rfl rfl | exact qY_efn rfl)
  all_goals (apply endQ []; (apply resG_ok ttok; exact rfl); (iterate 4 exact rfl))
  all_goals rfl
end Go.Proofs.YtpodhnaofhfinaaGreatDoor
end
section
open Go.RowKit Go.Pl Go.Av
namespace Go.Proofs.YtpodhnaofhfinaaGreatDoor
set_option maxHeartbeats 4000000
mutual
def greatI : It -> Nat -> Int -> Int
 | .mk k n b l, d, m => if 9 < d then -1 else if 3000 < b.length then -1 else greats l (d + 1) (m - 1)
def greats : List It -> Nat -> Int -> Int
 | [], _, m => m
 | x :: l, d, m => if m < 0 then m else greats l d (greatI x d m)
end
mutual
theorem greatI_lt : ∀ (x : It) (d : Nat) (m : Int), 0 <= m -> greatI x d m < m /\ -1 <= greatI x d m
 | .mk k n b l, d, m, h => by
  rw [greatI]
  split
  ·omega
  ·split
   ·omega
   ·have := greats_le l (d + 1) (m - 1) (by omega); omega
theorem greats_le : ∀ (l : List It) (d : Nat) (m : Int), -1 <= m -> greats l d m <= m /\ -1 <= greats l d m
 | [], _, m, h => by rw [greats]; omega
 | x :: l, d, m, h => by
  rw [greats]
  split
  ·omega
  ·have h1 := greatI_lt x d m (by omega)
   have h2 := greats_le l d (greatI x d m) (by omega)
   omega
end
mutual
def nI : It -> Prop
 | .mk _ n _ l => n < 18446744073709551616 /\ nIs l
def nIs : List It -> Prop
 | [] => True
 | x :: l => nI x /\ nIs l
end
mutual
def deepI : It -> Nat -> Bool
 | .mk _ _ _ l, d => match d with
  | 0 => false
  | d + 1 => deeps l d
def deeps : List It -> Nat -> Bool
 | [], _ => true
 | x :: l, d => deepI x d && deeps l d
end
mutual
theorem small_wf : ∀ (x : It) (d : Nat) (m : Int), m <= 400 -> 0 <= greatI x d m -> nI x -> wfI x /\ (putI x).length <= 3009 * (m - greatI x d m) /\ m - greatI x d m ≥ 1 /\ deepI x (10 - d) = true
 | .mk k n b l, d, m, hm, h, hn => by
  rw [greatI] at h ⊢
  split at h
  ·omega
  split at h
  ·omega
  rename_i h1 h2
  rw [if_neg h1, if_neg h2]
  obtain ⟨q1, q2, q3, q4⟩ := smalls_wf l (d + 1) (m - 1) (by omega) h hn.2
  refine ⟨⟨hn.1, by omega, by omega, q1⟩, ?_, by omega, ?_⟩
  ·rw [putI]
   have hw : (if rightB (k, (It.mk k n b l).hn, false) then writeL (k, (It.mk k n b l).hn, false) else []).length <= 9 := by
    split
    ·rename_i hr; rw [writeL_length _ hr]; exact sizeN_le _
    ·exact Nat.zero_le _
   rw [List.length_append, List.length_append]
   omega
  ·obtain ⟨e, he⟩ : ∃ e, 10 - d = e + 1 := ⟨9 - d, by omega⟩
   rw [he, deepI]
   rw [show 10 - (d + 1) = e by omega] at q4
   exact q4
theorem smalls_wf : ∀ (l : List It) (d : Nat) (m : Int), m <= 400 -> 0 <= greats l d m -> nIs l -> wfs l /\ (puts l).length <= 3009 * (m - greats l d m) /\ m - greats l d m ≥ l.length /\ deeps l (10 - d) = true
 | [], _, m, _, h, hn => by simp [wfs, puts, greats, deeps]
 | x :: l, d, m, hm, h, hn => by
  rw [greats] at h ⊢
  split at h
  ·omega
  rename_i h1
  rw [if_neg h1]
  have h0 : 0 <= greatI x d m := by
   rcases Int.lt_or_le (greatI x d m) 0 with hlt | hge
   ·have := greats_le l d (greatI x d m) (by have := greatI_lt x d m (by omega); omega); omega
   ·exact hge
  obtain ⟨q1, q2, q3, q4⟩ := small_wf x d m hm h0 hn.1
  obtain ⟨r1, r2, r3, r4⟩ := smalls_wf l d _ (by have := greatI_lt x d m (by omega); omega) h hn.2
  refine ⟨⟨q1, r1⟩, ?_, ?_, ?_⟩
  ·rw [puts, List.length_append]; omega
  ·rw [List.length_cons]; omega
  ·rw [deeps, q4, r4]; rfl
end
end Go.Proofs.YtpodhnaofhfinaaGreatDoor
end
section
open Go.RowKit Go.Pl
namespace Go.Av
theorem K_nil [Known] [Dfr] {P : Program} {Q : X -> St -> Prop} {x : X} {S : St} (h : Q x S) : unK P Q [] x S := h
def X.noGoto (Q : X -> St -> Prop) : X -> St -> Prop
 | .goto _, _ => False
 | x, S => Q x S
theorem AW_scope0 [Known] [Dfr] {P : Program} {Q : X -> St -> Prop} {S : St} {c : Code} (h : AW P c S (X.noGoto Q)) : AW P (.scope c) S Q := ⟨fun b0 g a w hi => wp_scope_straight <| wp_mono (h.run b0 g a w hi) fun e a w hc => by
 cases e <;> simp only [conc, X.noGoto, Exit.noGoto] at hc ⊢
 case goto l => obtain ⟨S, g, h1, h2⟩ := hc; exact h2
 all_goals exact hc⟩
section
variable {P : Program} {Q : X -> St -> Prop} {n : Nat} {ee : Nat × Nat} {tm : List (Nat × D)} {bx : List (List D)} {fr : List Fr} {T : Tab}
variable {ops : Array Oper} {rest : List Oper} {t ty : Nat} {pos : String} {after : Array Edge}
theorem AL_fromE [Known] [Dfr] (hT : chk P T = true) {x lo : Operand} {st e : Nat} {tk : Tok} {l l2 : List E} {k1 : IntKind} {j : Int} {ti te : Ti} (hx : ev tm x = .sl tk l) (ht : tl T st = some ti) (hk : ti.kd = .slice e) (hte : tl T e = some te) (htd : Nat.blt t n = true)
  (hlo : ev tm lo = .int k1 j) (hU : Uni te.size l) (h0 : 0 <= j) (hle : j.toNat <= l.length) (hd : l.drop j.toNat = l2)
  (kk : AL P ops rest ⟨n, (t, .sl .ext l2) :: tm, bx, fr, ee⟩ Q) : AL P ops (⟨some t, .slice st x (some lo) none none, ty, pos, after, none⟩ :: rest) ⟨n, tm, bx, fr, ee⟩ Q := by
 subst hd
 exact AL_slice hT hx ht hk hte htd (.lit lo _ k1 j hlo h0) (.dft _) hle (Nat.le_refl _) hU (by rw [List.take_length]) kk
end
end Go.Av
end
section
open Go.RowKit Go.Pl Go.Av
namespace Go.Proofs.YtpodhnaofhfinaaGreatDoor
set_option maxHeartbeats 1000000
theorem av_follow [Known] (n : Nat) : AP Tryz.prog 109 [.int .u64 (n : Int)] (.int .i64 (followN n)) [] := by
 refine AC_of Tryz.func109 rfl Tryz.ntmps109 rfl rfl ?_
 repeat' (first | (apply AW_go ttok; exact rfl) | (apply K_go ttok; exact rfl) | (apply AW_cond'; exact rfl; all_goals intro hb))
 all_goals refine end0 (.cons _ _ _ _ (.tmp _ _ rfl) .nil) (okSel_nil _) rfl ?_ rfl
 all_goals simp only [decide_eq_true_eq, decide_eq_false_iff_not] at *
 all_goals (congr 1; unfold followN; (repeat' split) <;> omega)
theorem av_may [Known] (m : Int) : AP Tryz.prog 112 [.int .i64 m] (.bool (mayB m)) [] := by
 refine AC_of Tryz.func112 rfl Tryz.ntmps112 rfl rfl ?_
 repeat' (first | (apply AL_go ttok; exact rfl) | (apply AW_go ttok; exact rfl) | (apply AL_guardT; (iterate 3 exact rfl); (first | with_reducible assumption | (solve | simp only [bn]))) | (apply AL_guardFt; (iterate 3 exact rfl); (first | with_reducible assumption | (solve | simp only [bn]))) | (apply AL_guardFf; (iterate 3 exact rfl); (first | with_reducible assumption | (solve | simp only [bn]))) | (apply AL_guardS; exact rfl; exact rfl; all_goals intro hb) | (apply AL_pickT; exact rfl; (first | with_reducible assumption | (solve | simp only [bn])); exact rfl; exact rfl) | (apply AL_pickF; exact rfl; (first | with_reducible assumption | (solve | simp only [bn])); exact rfl; exact rfl))
 all_goals refine end0 (.cons _ _ _ _ (.tmp _ _ rfl) .nil) (okSel_nil _) rfl ?_ rfl
 all_goals (congr 1; rw [Bool.eq_iff_iff]; simp [mayB] at *; omega)
def hd (h : Hd) : D := .agg [.int .i64 h.1, .int .u64 (h.2.1 : Int), .bool h.2.2]
theorem av_right [Known] (h : Hd) : AP Tryz.prog 107 [hd h] (.bool (rightB h)) [] := by
 refine AC_of Tryz.func107 rfl Tryz.ntmps107 rfl rfl ?_
 repeat' (first | (apply AL_callP (av_may _); kernel_rfl; (iterate 4 exact rfl)) | (apply AL_go ttok; exact rfl) | (apply AW_go ttok; exact rfl) | (apply AL_guardT; (iterate 3 exact rfl); (first | with_reducible assumption | (solve | simp only [bn]))) | (apply AL_guardFt; (iterate 3 exact rfl); (first | with_reducible assumption | (solve | simp only [bn]))) | (apply AL_guardS; exact rfl; exact rfl; all_goals intro hb) | (apply AL_pickT; exact rfl; (first | with_reducible assumption | (solve | simp only [bn])); exact rfl; exact rfl) | (apply AL_pickF; exact rfl; (first | with_reducible assumption | (solve | simp only [bn])); exact rfl; exact rfl) | (apply AW_cond'; exact rfl; all_goals intro hb) | (apply AL_eqS ttok; (iterate 4 exact rfl); (kernel_rfl); (kernel_rfl); (iterate 3 exact rfl)))
 all_goals refine end0 (.cons _ _ _ _ (.tmp _ _ rfl) .nil) (okSel_nil _) rfl ?_ rfl
 all_goals (obtain ⟨m, n, o⟩ := h; congr 1; rw [Bool.eq_iff_iff]; simp_all [rightB, mayB]; try omega)
theorem info_of (n : Nat) : (followN n = 0 /\ infoN n = n /\ n < 24) \/ (followN n = 1 /\ infoN n = 24) \/ (followN n = 2 /\ infoN n = 25) \/ (followN n = 4 /\ infoN n = 26) \/ (followN n = 8 /\ infoN n = 27) := by
 unfold followN infoN
 by_cases h1 : n < 24
 ·simp [h1]
 by_cases h2 : n < 256
 ·simp [h1, h2]
 by_cases h3 : n < 65536
 ·simp [h1, h2, h3]
 by_cases h4 : n < 4294967296
 ·simp [h1, h2, h3, h4]
 ·simp [h1, h2, h3, h4]
theorem av_info [Known] (n : Nat) : AP Tryz.prog 108 [.int .u64 (n : Int)] (.int .u8 (infoN n)) [] := by
 refine AC_of Tryz.func108 rfl Tryz.ntmps108 rfl rfl ?_
 repeat' (first | (apply AL_callP (av_follow _); kernel_rfl; (iterate 4 exact rfl)) | (apply AL_go ttok; exact rfl) | (apply AW_go ttok; exact rfl) | (apply K_go ttok; exact rfl) | (apply AW_cond'; exact rfl; all_goals intro hb))
 all_goals refine end0 (.cons _ _ _ _ (.tmp _ _ rfl) .nil) (okSel_nil _) rfl ?_ rfl
 all_goals (rcases info_of n with ⟨h1, h2, h3⟩ | ⟨h1, h2⟩ | ⟨h1, h2⟩ | ⟨h1, h2⟩ | ⟨h1, h2⟩ <;> simp_all)
 all_goals (rw [IntKind.wrap_u8']; omega)
theorem first_eq (m : Int) (i : Nat) (hm : 0 <= m /\ m <= 7) (hi : i < 32) : bits .or .u8 (IntKind.u8.wrap (IntKind.u8.wrap m * 2 ^ min (Int.toNat 5) IntKind.u8.bits)) (i : Int) = ((firstB m.toNat i).toNat : Int) := by
 have e2 : IntKind.u8.wrap (IntKind.u8.wrap m * 2 ^ min (Int.toNat 5) IntKind.u8.bits) = (m.toNat : Int) * 32 := by
  rw [show min (Int.toNat 5) IntKind.u8.bits = 5 from rfl, IntKind.wrap_u8', IntKind.wrap_u8']; omega
 rw [e2, or32 m.toNat i (by omega) hi]
 unfold firstB
 rw [UInt8.toNat_ofNat']
 omega
theorem right_m {h : Hd} (hr : rightB h = true) : 0 <= h.1 /\ h.1 <= 7 := by
 obtain ⟨m, n, o⟩ := h
 cases o <;> simp [rightB, mayB] at hr <;> omega
theorem byte_eq (n q : Nat) (hq : q < 8) : E.int .u8 (IntKind.u8.wrap ((n : Int).fdiv (2 ^ min (IntKind.i64.wrap (8 * (q : Int))).toNat IntKind.u64.bits))) = E.byte (UInt8.ofNat (n / 256 ^ q)) := by
 have e : IntKind.i64.wrap (8 * (q : Int)) = ((8 * q : Nat) : Int) := by rw [IntWalk.i64_in _ (by omega)]; omega
 rw [e, Int.toNat_natCast, show min (8 * q) IntKind.u64.bits = 8 * q from Nat.min_eq_left (by show 8 * q <= 64; omega)]
 rw [show ((n : Int).fdiv (2 ^ (8 * q))) = ((n / 256 ^ q : Nat) : Int) from by
  have e : (2 : Int) ^ (8 * q) = ((256 ^ q : Nat) : Int) := by
   rw [show (256 : Nat) = 2 ^ 8 from rfl, <- Nat.pow_mul]
   simp
  rw [e, Int.fdiv_eq_ediv_of_nonneg _ (Int.natCast_nonneg _), <- Int.natCast_ediv]]
 rw [IntKind.wrap_u8']
 unfold E.byte
 rw [UInt8.toNat_ofNat']
 congr 1
theorem av_write [Known] (h : Hd) (hn : h.2.1 < 18446744073709551616) : AP Tryz.prog 93 [hd h] (.tup [byE (if rightB h then writeL h else []), .int .i64 (if rightB h then 0 else 3)]) [] := by
 refine AP.weak ?_
 have HR := @right_m h
 have HN := hid hn
 clear hn
 refine AC_of Tryz.func93 rfl Tryz.ntmps93 rfl rfl ?_
 repeat' (first | (apply AL_callP (av_right h); kernel_rfl; (iterate 4 exact rfl)) | (apply AL_callP (av_info _); kernel_rfl; (iterate 4 exact rfl)) | (apply AL_callP (av_follow _); kernel_rfl; (iterate 4 exact rfl)) | (apply AL_shl; exact rfl; exact rfl; (exact (by decide)); exact rfl) | (apply AL_go ttok; exact rfl) | (apply AW_go ttok; exact rfl) | (apply K_go ttok; exact rfl) | (apply AW_cond'; exact rfl; all_goals intro hb) | (apply AL_bs ttok; (iterate 12 exact rfl)) | (apply AW_drawM 7 hmix; (decide +kernel); (kernel_rfl); (kernel_rfl); exact rfl; exact rfl) | (apply AD_cons; (iterate 3 exact rfl)) | refine AD.nil _ | exact qp_ok rfl)
 ·refine endW (.cons _ _ _ _ (.tmp _ _ rfl) (.cons _ _ _ _ (.tmp _ _ rfl) .nil)) rfl ?_
  simp_all [byE]
 ·refine endW (.cons _ _ _ _ (.tmp _ _ rfl) (.cons _ _ _ _ (.tmp _ _ rfl) .nil)) rfl ?_
  have hr : rightB h = true := by simpa using (‹(!rightB h) = false›)
  rw [if_pos hr, if_pos hr, show writeL h = [firstB h.1.toNat 31] by simp [writeL, hb], show E.int IntKind.u8 (bits .or .u8 (IntKind.u8.wrap (IntKind.u8.wrap h.1 * 2 ^ min (Int.toNat 5) IntKind.u8.bits)) 31) = E.byte (firstB h.1.toNat 31) from congrArg _ (first_eq h.1 31 (HR hr) (by omega))]
  rfl
 rename_i hb1
 have hr : rightB h = true := by simpa using hb1
 have hw : writeL h = firstB h.1.toNat (infoN h.2.1) :: beN h.2.1 (followN h.2.1) := by simp [writeL, hb]
 have hlen : (beN h.2.1 (followN h.2.1)).length = followN h.2.1 := beN_length _ _
 have hf8 := followN_le h.2.1
 refine AW_loopJ (fun k tm bx fr => ∃ (i c : Nat) (L : List E), k + i = followN h.2.1 /\ c = L.length /\ c = i + 1 /\ L = ((writeL h).take (i + 1)).map E.byte /\ tm = [(33, .int .i64 (i : Int)), (32, .int .i64 (followN h.2.1 : Int)), (5, .int .i64 (followN h.2.1 : Int)), (4, .sl (.own 0) L), (3, .int .i64 0), (1, .ptr 0 0)] /\ bx = [[.int .i64 h.1, .int .u64 (h.2.1 : Int), .bool h.2.2]] /\ fr = [⟨c, 1, 5⟩]) (followN h.2.1 + 1) (Lands.mk' (m := followN h.2.1) (Nat.lt_succ_self _) ⟨0, 1, [E.byte (firstB h.1.toNat (infoN h.2.1))], rfl, rfl, rfl, by rw [hw]; rfl, rfl, rfl, rfl⟩ ?_ rfl rfl rfl rfl rfl rfl) ?_
 ·repeat' (first | exact Av.Sub.nil | refine Av.Sub.cons rfl ?_ | refine Av.Sub.cons ?_ ?_)
  have e := congrArg (fun x : Int => D.sl (.own 0) [E.int .u8 x]) (first_eq h.1 (infoN h.2.1) (HR hr) (by have := infoN_le h.2.1; omega))
  exact e
 rintro k tm bx fr ⟨i, c, L, hk, hc, hi, hL, rfl, rfl, rfl⟩
 have hU : Uni 1 L := hL ▸ uniB1 _
 repeat' (first | (apply AL_shr; exact rfl; exact rfl; rotate_left; exact rfl) | (apply AL_go ttok; exact rfl) | (apply AW_go ttok; exact rfl) | (apply AW_cond'; exact rfl; all_goals intro hb) | (apply AL_bs ttok; (iterate 12 exact rfl)) | (apply AL_append ttok; (iterate 6 exact rfl); (first | with_reducible assumption | exact rfl | rotate_left); exact rfl; exact rfl; (first | exact uniB_ok rfl | with_reducible assumption | rotate_left); (first | exact uniB_ok rfl | with_reducible assumption | rotate_left); (first | exact List.cons_ne_nil _ _ | with_reducible assumption | rotate_left); (first | with_reducible assumption | rotate_left); (first | with_reducible assumption | rotate_left); exact rfl; exact rfl))
 ·have hlt : i < followN h.2.1 := by have := of_decide_eq_true hb; omega
  have hx : IntKind.i64.wrap (IntKind.i64.wrap (↑(followN h.2.1) - 1) - ↑i) = ((followN h.2.1 - 1 - i : Nat) : Int) := by
   rw [IntWalk.i64_in ((followN h.2.1 : Int) - 1) (by omega), IntWalk.i64_in _ (by omega)]; omega
  refine Lands.mk' (m := k - 1) (by omega) ⟨i + 1, L.length + 1, L ++ [E.byte (UInt8.ofNat (h.2.1 / 256 ^ (followN h.2.1 - 1 - i)))], by omega, by simp, by omega, ?_, rfl, rfl, rfl⟩ ?_ rfl rfl rfl rfl rfl rfl
  ·rw [hL, hw, List.take_succ_cons, List.take_succ_cons, beN_take_succ _ _ _ hlt]
   simp
  ·refine .cons ?_ (.cons rfl (.cons rfl (.cons ?_ (.cons rfl (.cons rfl .nil)))))
   ·exact congrArg (D.int .i64) (IntWalk.i64_in _ (by omega))
   ·have e := congrArg (fun x => D.sl (.own 0) (L ++ [x])) (byte_eq h.2.1 (followN h.2.1 - 1 - i) (by omega))
    rw [<- hx] at e
    exact e
 ·have := of_decide_eq_true hb; show L.length + 1 <= maxLen; unfold maxLen; omega
 ·have := of_decide_eq_true hb; show (L.length + 1) * 1 <= 140737488355328; omega
 ·have := of_decide_eq_true hb
  have hx : IntKind.i64.wrap (IntKind.i64.wrap (↑(followN h.2.1) - 1) - ↑i) = ((followN h.2.1 - 1 - i : Nat) : Int) := by
   rw [IntWalk.i64_in ((followN h.2.1 : Int) - 1) (by omega), IntWalk.i64_in _ (by omega)]; omega
  rw [hx, IntWalk.i64_in _ (by omega)]; omega
 ·refine endW (.cons _ _ _ _ (.tmp _ _ rfl) (.cons _ _ _ _ (.tmp _ _ rfl) .nil)) rfl ?_
  rw [if_pos hr, if_pos hr, hL]
  have := of_decide_eq_false hb
  rw [List.take_of_length_le (by rw [hw, List.length_cons, hlen]; omega)]
end Go.Proofs.YtpodhnaofhfinaaGreatDoor
end
