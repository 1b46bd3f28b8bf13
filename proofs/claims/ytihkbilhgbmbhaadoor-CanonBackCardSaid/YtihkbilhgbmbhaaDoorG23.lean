/- Package canon: numbers. -/
import Derived.Test.YtihkbilhgbmbhaaDoorG22
import Derived.Test.YtihkbilhgbmbhaaDoorG13
import Derived.Test.YtihkbilhgbmbhaaDoorG17
import Derived.Test.YtihkbilhgbmbhaaDoorG19
set_option linter.unusedVariables false
set_option linter.unusedSimpArgs false
section
open Go.RowKit Go.Pl Go.Av
namespace Go.Proofs.YtihkbilhgbmbhaaDoor
set_option maxHeartbeats 4000000
theorem uniU (l : List Nat) : Uni 1 (l.map fun n : Nat => E.int .u64 (n : Int)) := Uni.map (f := fun n : Nat => E.int .u64 (n : Int)) (fun _ => rfl) l
def badN (n : Nat) : Bool := decide ((n : Int) < 1) || decide ((n : Int) > 255)
theorem av_within1 [Known] (n : Nat) : AP Tryd.prog 92 [.int .u64 (n : Int)] (.bool (badN n)) [] := by
 unfold badN
 refine AP.ofA ?_
 refine AC_of Tryd.func92 rfl Tryd.ntmps92 rfl rfl ?_
 repeat' (first | (apply AL_move; exact rfl; exact rfl) | (apply AL_assign; exact rfl; exact rfl) | (apply AL_bin; (iterate 5 exact rfl)) | refine AL_nil ?_ | (apply AL_guardT; (iterate 3 exact rfl); (first | with_reducible assumption | (guard_target =ₛ true = true; rfl) | (guard_target =ₛ false = false; rfl) | (guard_target =ₛ (!true) = false; rfl) | (guard_target =ₛ (!false) = true; rfl))) | (apply AL_guardFf; (iterate 3 exact rfl); (first | with_reducible assumption | (guard_target =ₛ true = true; rfl) | (guard_target =ₛ false = false; rfl) | (guard_target =ₛ (!true) = false; rfl) | (guard_target =ₛ (!false) = true; rfl))) | (apply AL_guardS; exact rfl; exact rfl; all_goals intro hb) | (apply AL_pickT; exact rfl; (first | with_reducible assumption | (guard_target =ₛ true = true; rfl) | (guard_target =ₛ false = false; rfl) | (guard_target =ₛ (!true) = false; rfl) | (guard_target =ₛ (!false) = true; rfl)); exact rfl; exact rfl) | (apply AL_pickF; exact rfl; (first | with_reducible assumption | (guard_target =ₛ true = true; rfl) | (guard_target =ₛ false = false; rfl) | (guard_target =ₛ (!true) = false; rfl) | (guard_target =ₛ (!false) = true; rfl)); exact rfl; exact rfl) | refine AW_region ?_ | refine AW_seq' ?_ | refine then_norm ?_ | refine AW_ret ?_)
 all_goals (apply endQ []; (repeat (first | exact ResL.nil | (apply ResL.cons; first | exact .tmp _ _ rfl | (apply res_n ttok; (iterate 6 exact rfl)) | (apply res_1 ttok; (iterate 5 exact rfl))))); (iterate 4 exact rfl))
 all_goals first | rfl | (simp only [*]; done) | (simp only [*]; rfl)
def idx2 : Bool -> Bool -> Int
 | true, _ => 0
 | false, true => 1
 | false, false => -1
theorem av_idxU [Known] (a b : Nat) (x y : Bool) (hx : badN a = x) (hy : badN b = y) : AP Tryd.prog 106 [.sl .ext [.int .u64 (a : Int), .int .u64 (b : Int)], .fn 92 []] (.int .i64 (idx2 x y)) [] := by
 have ga := av_within1 a
 have gb := av_within1 b
 rw [hx] at ga
 rw [hy] at gb
 have hU := uniU [a, b]
 have q0 : decide ((0 : Int) < (([.int .u64 (a : Int), .int .u64 (b : Int)] : List E).length : Int)) = true := rfl
 have q1 : decide ((1 : Int) < (([.int .u64 (a : Int), .int .u64 (b : Int)] : List E).length : Int)) = true := rfl
 have q2 : decide ((2 : Int) < (([.int .u64 (a : Int), .int .u64 (b : Int)] : List E).length : Int)) = false := rfl
 have e1 : IntKind.i64.wrap (0 + 1) = 1 := by decide
 have e2 : IntKind.i64.wrap (1 + 1) = 2 := by decide
 cases x <;> cases y
 all_goals
  refine AP.ofA ?_
  refine AC_of Tryd.func106 rfl Tryd.ntmps106 rfl rfl ?_
  repeat' (first | rw [e1] | rw [e2] | (apply AL_callPv (ga); exact rfl; kernel_rfl; (iterate 3 exact rfl)) | (apply AL_callPv (gb); exact rfl; kernel_rfl; (iterate 3 exact rfl)) | (apply AL_idx ttok; (iterate 6 exact rfl); exact (by decide); exact rfl; exact hU) | refine AW_loopN 20 ?_ | refine AN_succ ?_ | (apply AL_move; exact rfl; exact rfl) | (apply AL_assign; exact rfl; exact rfl) | (apply AL_bin; (iterate 5 exact rfl)) | refine AL_nil ?_ | refine AW_region ?_ | refine AW_seq' ?_ | (apply AW_condA; exact rfl; (first | with_reducible assumption | decide +kernel)) | (apply AW_condB; exact rfl; (first | with_reducible assumption | decide +kernel)) | refine then_norm ?_ | refine AW_block ?_ | refine AW_exit ?_ | refine AW_ret ?_ | refine then_ret ?_ | refine blk_ret ?_ | (apply AL_len ttok; (iterate 4 exact rfl)) | (apply AL_eload1 ttok; (iterate 6 exact rfl)) | refine AW_skip ?_)
  all_goals (apply endQ []; (repeat (first | exact ResL.nil | (apply ResL.cons; first | exact .tmp _ _ rfl | (apply res_n ttok; (iterate 6 exact rfl)) | (apply res_1 ttok; (iterate 5 exact rfl))))); (iterate 4 exact rfl))
  all_goals rfl
theorem av_contU [Known] (a b : Nat) : AP Tryd.prog 91 [.sl .ext [.int .u64 (a : Int), .int .u64 (b : Int)], .fn 92 []] (.bool (badN a || badN b)) [] := by
 cases hx : badN a <;> cases hy : badN b
 all_goals
  have hI := av_idxU a b _ _ hx hy
  refine AP.ofA ?_
  refine AC_of Tryd.func91 rfl Tryd.ntmps91 rfl rfl ?_
  repeat' (first | (apply AL_callPw (hI); kernel_rfl; (iterate 4 exact rfl)) | (apply AL_move; exact rfl; exact rfl) | (apply AL_assign; exact rfl; exact rfl) | (apply AL_bin; (iterate 5 exact rfl)) | refine AL_nil ?_ | refine AW_region ?_ | refine AW_seq' ?_ | refine then_norm ?_ | refine AW_ret ?_)
  all_goals (apply endQ []; (repeat (first | exact ResL.nil | (apply ResL.cons; first | exact .tmp _ _ rfl | (apply res_n ttok; (iterate 6 exact rfl)) | (apply res_1 ttok; (iterate 5 exact rfl))))); (iterate 4 exact rfl))
  all_goals rfl
theorem av_within2 [Known] (a b : Nat) : AP Tryd.prog 63 [.sl .ext [.int .u64 (a : Int), .int .u64 (b : Int)]] (.bool (!(badN a || badN b))) [] := by
 have hI := av_contU a b
 refine AP.ofA ?_
 refine AC_of Tryd.func63 rfl Tryd.ntmps63 rfl rfl ?_
 repeat' (first | (apply AL_callPw (hI); kernel_rfl; (iterate 4 exact rfl)) | (apply AL_move; exact rfl; exact rfl) | (apply AL_assign; exact rfl; exact rfl) | (apply AL_not; exact rfl; exact rfl) | refine AL_nil ?_ | refine AW_region ?_ | refine AW_seq' ?_ | refine then_norm ?_ | refine AW_ret ?_)
 all_goals (apply endQ []; (repeat (first | exact ResL.nil | (apply ResL.cons; first | exact .tmp _ _ rfl | (apply res_n ttok; (iterate 6 exact rfl)) | (apply res_1 ttok; (iterate 5 exact rfl))))); (iterate 4 exact rfl))
 all_goals rfl
theorem av_list0 [Known] : AT Tryd.prog 12 [.sl .nil []] [] [] (.agg [.int .i64 4, .int .u64 0, .sl .nil [], .sl .nil []]) [] [] := by
 refine AC_of Tryd.func12 rfl Tryd.ntmps12 rfl rfl ?_
 repeat' (first | refine AW_loopN 20 ?_ | refine AN_succ ?_ | (apply AL_move; exact rfl; exact rfl) | (apply AL_bin; (iterate 5 exact rfl)) | (apply AL_loadn ttok; (iterate 7 exact rfl)) | (apply AL_store ttok; (iterate 8 exact rfl)) | refine AL_nil ?_ | refine AW_region ?_ | refine AW_seq' ?_ | (apply AW_condB; exact rfl; (first | with_reducible assumption | decide +kernel)) | refine then_norm ?_ | refine AW_block ?_ | refine AW_exit ?_ | refine AW_ret ?_ | (apply AL_len ttok; (iterate 4 exact rfl)) | (apply AL_build ttok; (iterate 6 exact rfl)) | (apply AL_allocZ ttok; (iterate 4 exact rfl)))
 all_goals (apply endT [] []; (repeat (first | exact ResL.nil | (apply ResL.cons; first | exact .tmp _ _ rfl | (apply res_n ttok; (iterate 6 exact rfl)) | (apply res_1 ttok; (iterate 5 exact rfl))))); (iterate 7 exact rfl))
 all_goals rfl
abbrev nmE (n : Nat) : E := .agg [.int .i64 0, .int .u64 (n : Int), .sl [], .sl []]
theorem av_numbers2 [Known] (a b : Nat) : AP Tryd.prog 65 [.sl .ext [.int .u64 (a : Int), .int .u64 (b : Int)]] (.agg [.int .i64 4, .int .u64 0, .sl .ext [], .sl .ext [nmE a, nmE b]]) [] := by
 have ga := av_num a
 have gb := av_num b
 have hL := av_list0
 have hU := uniU [a, b]
 have e1 : IntKind.i64.wrap (0 + 1) = 1 := by decide
 have e2 : IntKind.i64.wrap (1 + 1) = 2 := by decide
 have hU4 : ∀ (l : List Nat), Uni 4 (l.map nmE) := fun l => Uni.map (f := nmE) (fun _ => rfl) l
 have q0 : decide ((0 : Int) < (([.int .u64 (a : Int), .int .u64 (b : Int)] : List E).length : Int)) = true := rfl
 have q1 : decide ((1 : Int) < (([.int .u64 (a : Int), .int .u64 (b : Int)] : List E).length : Int)) = true := rfl
 have q2 : decide ((2 : Int) < (([.int .u64 (a : Int), .int .u64 (b : Int)] : List E).length : Int)) = false := rfl
 have hu1 := hU4 [a]
 have hu2 := hU4 [a, b]
 refine AP.ofA ?_
 refine AC_of Tryd.func65 rfl Tryd.ntmps65 rfl rfl ?_
 repeat' (first | rw [e1] | rw [e2] | (apply AL_callT [] [] (hL); kernel_rfl; (iterate 10 exact rfl)) | (apply AL_callPw (ga); kernel_rfl; (iterate 4 exact rfl)) | (apply AL_callPw (gb); kernel_rfl; (iterate 4 exact rfl)) | (apply AL_idx ttok; (iterate 6 exact rfl); exact (by decide); exact rfl; exact hU) | refine AW_loopN 20 ?_ | refine AN_succ ?_ | (apply AL_appendZ ttok; (iterate 11 exact rfl); exact uniB_ok rfl; exact uniB_ok rfl; exact List.cons_ne_nil _ _; decide +kernel; decide +kernel; exact rfl; exact rfl) | (apply AL_append_nilZ ttok; (iterate 6 exact rfl); exact uniB_ok rfl; exact List.cons_ne_nil _ _; exact rfl; decide +kernel; decide +kernel; (iterate 3 exact rfl)) | (apply AL_move; exact rfl; exact rfl) | (apply AL_assign; exact rfl; exact rfl) | (apply AL_bin; (iterate 5 exact rfl)) | (apply AL_load1 ttok; (iterate 6 exact rfl)) | (apply AL_loadn ttok; (iterate 7 exact rfl)) | (apply AL_fieldAddr ttok; (iterate 7 exact rfl)) | (apply AL_store ttok; (iterate 8 exact rfl)) | refine AL_nil ?_ | refine AW_region ?_ | refine AW_seq' ?_ | (apply AW_condA; exact rfl; (first | with_reducible assumption | decide +kernel)) | (apply AW_condB; exact rfl; (first | with_reducible assumption | decide +kernel)) | refine then_norm ?_ | refine AW_block ?_ | refine AW_exit ?_ | refine AW_ret ?_ | (apply AL_len ttok; (iterate 4 exact rfl)) | (apply AL_eload1 ttok; (iterate 6 exact rfl)) | (apply AL_allocZ ttok; (iterate 4 exact rfl)) | (apply AL_bsZ ttok; (iterate 12 exact rfl)) | (apply AW_drawE 5 hmix; (decide +kernel); (kernel_rfl); (kernel_rfl); (kernel_rfl); exact rfl; exact rfl) | (apply AE_consZ; (iterate 4 exact rfl)) | exact AE.nil _ _ _ _ | (apply AEk_puT; exact rfl) | (apply AOt_mk; exact rfl; exact rfl; (decide +kernel); exact rfl) | (apply AO_puT; exact rfl) | exact AO.nil _ _ _ | (apply AOs_skip; (decide +kernel)) | exact AOs.nil | exact qY_ok rfl rfl | exact qY_wk rfl rfl rfl rfl rfl | refine AW_skip ?_)
 all_goals (apply endQ []; (repeat (first | exact ResL.nil | (apply ResL.cons; first | exact .tmp _ _ rfl | (apply res_n ttok; (iterate 6 exact rfl)) | (apply res_1 ttok; (iterate 5 exact rfl))))); (iterate 4 exact rfl))
 all_goals rfl
theorem av_numbers4 [Known] (a b c d : Nat) : AT Tryd.prog 65 [.sl .ext [.int .u64 (a : Int), .int .u64 (b : Int), .int .u64 (c : Int), .int .u64 (d : Int)]] [] [] (.agg [.int .i64 4, .int .u64 0, .sl .nil [], .sl (.own 0) [nmE a, nmE b, nmE c, nmE d]]) [] [⟨4, 4, 27⟩] := by
 have ga := av_num a
 have gb := av_num b
 have gc := av_num c
 have gd := av_num d
 have hL := av_list0
 have hU := uniU [a, b, c, d]
 have e1 : IntKind.i64.wrap (0 + 1) = 1 := by decide
 have e2 : IntKind.i64.wrap (1 + 1) = 2 := by decide
 have e3 : IntKind.i64.wrap (2 + 1) = 3 := by decide
 have e4 : IntKind.i64.wrap (3 + 1) = 4 := by decide
 have hU4 : ∀ (l : List Nat), Uni 4 (l.map nmE) := fun l => Uni.map (f := nmE) (fun _ => rfl) l
 have q0 : decide ((0 : Int) < (([.int .u64 (a : Int), .int .u64 (b : Int), .int .u64 (c : Int), .int .u64 (d : Int)] : List E).length : Int)) = true := rfl
 have q1 : decide ((1 : Int) < (([.int .u64 (a : Int), .int .u64 (b : Int), .int .u64 (c : Int), .int .u64 (d : Int)] : List E).length : Int)) = true := rfl
 have q2 : decide ((2 : Int) < (([.int .u64 (a : Int), .int .u64 (b : Int), .int .u64 (c : Int), .int .u64 (d : Int)] : List E).length : Int)) = true := rfl
 have q3 : decide ((3 : Int) < (([.int .u64 (a : Int), .int .u64 (b : Int), .int .u64 (c : Int), .int .u64 (d : Int)] : List E).length : Int)) = true := rfl
 have q4 : decide ((4 : Int) < (([.int .u64 (a : Int), .int .u64 (b : Int), .int .u64 (c : Int), .int .u64 (d : Int)] : List E).length : Int)) = false := rfl
 have hu1 := hU4 [a]
 have hu2 := hU4 [a, b]
 have hu3 := hU4 [a, b, c]
 have hu4 := hU4 [a, b, c, d]
 refine AC_of Tryd.func65 rfl Tryd.ntmps65 rfl rfl ?_
 repeat' (first | rw [e1] | rw [e2] | rw [e3] | rw [e4] | (apply AL_callT [] [] (hL); kernel_rfl; (iterate 10 exact rfl)) | (apply AL_callPw (ga); kernel_rfl; (iterate 4 exact rfl)) | (apply AL_callPw (gb); kernel_rfl; (iterate 4 exact rfl)) | (apply AL_callPw (gc); kernel_rfl; (iterate 4 exact rfl)) | (apply AL_callPw (gd); kernel_rfl; (iterate 4 exact rfl)) | (apply AL_idx ttok; (iterate 6 exact rfl); exact (by decide); exact rfl; exact hU) | refine AW_loopN 20 ?_ | refine AN_succ ?_ | (apply AL_appendZ ttok; (iterate 11 exact rfl); exact uniB_ok rfl; exact uniB_ok rfl; exact List.cons_ne_nil _ _; decide +kernel; decide +kernel; exact rfl; exact rfl) | (apply AL_append_nilZ ttok; (iterate 6 exact rfl); exact uniB_ok rfl; exact List.cons_ne_nil _ _; exact rfl; decide +kernel; decide +kernel; (iterate 3 exact rfl)) | (apply AL_move; exact rfl; exact rfl) | (apply AL_assign; exact rfl; exact rfl) | (apply AL_bin; (iterate 5 exact rfl)) | (apply AL_load1 ttok; (iterate 6 exact rfl)) | (apply AL_loadn ttok; (iterate 7 exact rfl)) | (apply AL_fieldAddr ttok; (iterate 7 exact rfl)) | (apply AL_store ttok; (iterate 8 exact rfl)) | refine AL_nil ?_ | refine AW_region ?_ | refine AW_seq' ?_ | (apply AW_condA; exact rfl; (first | with_reducible assumption | decide +kernel)) | (apply AW_condB; exact rfl; (first | with_reducible assumption | decide +kernel)) | refine then_norm ?_ | refine AW_block ?_ | refine AW_exit ?_ | refine AW_ret ?_ | (apply AL_len ttok; (iterate 4 exact rfl)) | (apply AL_eload1 ttok; (iterate 6 exact rfl)) | (apply AL_allocZ ttok; (iterate 4 exact rfl)) | (apply AL_bsZ ttok; (iterate 12 exact rfl)) | (apply AW_drawE 5 hmix; (decide +kernel); (kernel_rfl); (kernel_rfl); (kernel_rfl); exact rfl; exact rfl) | (apply AE_consZ; (iterate 4 exact rfl)) | exact AE.nil _ _ _ _ | (apply AEk_puT; exact rfl) | (apply AOt_mk; exact rfl; exact rfl; (decide +kernel); exact rfl) | (apply AO_puT; exact rfl) | exact AO.nil _ _ _ | (apply AOs_skip; (decide +kernel)) | exact AOs.nil | exact qY_ok rfl rfl | exact qY_wk rfl rfl rfl rfl rfl | refine AW_skip ?_)
 all_goals (apply endT [] [0]; (repeat (first | exact ResL.nil | (apply ResL.cons; first | exact .tmp _ _ rfl | (apply res_n ttok; (iterate 6 exact rfl)) | (apply res_1 ttok; (iterate 5 exact rfl))))); (iterate 7 exact rfl))
 all_goals rfl
end Go.Proofs.YtihkbilhgbmbhaaDoor
end
section
open Go.RowKit Go.Pl Go.Av
namespace Go.Proofs.YtihkbilhgbmbhaaDoor
set_option maxHeartbeats 4000000
mutual
def greatI : It -> Nat -> Int -> Int
 | .mk k n b l, d, m => if 9 < d then -1 else if 3000 < b.length then -1 else greats l (d + 1) (m - 1)
def greats : List It -> Nat -> Int -> Int
 | [], _, m => m
 | x :: l, d, m => if m < 0 then m else greats l d (greatI x d m)
end
mutual
theorem greatI_lt : ∀ (x : It) (d : Nat) (m : Int), 0 <= m -> greatI x d m < m /\ -1 <= greatI x d m
 | .mk k n b l, d, m, h => by
  rw [greatI]
  split
  ·omega
  ·split
   ·omega
   ·have := greats_le l (d + 1) (m - 1) (by omega); omega
theorem greats_le : ∀ (l : List It) (d : Nat) (m : Int), -1 <= m -> greats l d m <= m /\ -1 <= greats l d m
 | [], _, m, h => by rw [greats]; omega
 | x :: l, d, m, h => by
  rw [greats]
  split
  ·omega
  ·have h1 := greatI_lt x d m (by omega)
   have h2 := greats_le l d (greatI x d m) (by omega)
   omega
end
mutual
def nI : It -> Prop
 | .mk _ n _ l => n < 18446744073709551616 /\ nIs l
def nIs : List It -> Prop
 | [] => True
 | x :: l => nI x /\ nIs l
end
mutual
def deepI : It -> Nat -> Bool
 | .mk _ _ _ l, d => match d with
  | 0 => false
  | d + 1 => deeps l d
def deeps : List It -> Nat -> Bool
 | [], _ => true
 | x :: l, d => deepI x d && deeps l d
end
mutual
theorem small_wf : ∀ (x : It) (d : Nat) (m : Int), m <= 400 -> 0 <= greatI x d m -> nI x -> wfI x /\ (putI x).length <= 3009 * (m - greatI x d m) /\ m - greatI x d m ≥ 1 /\ deepI x (10 - d) = true
 | .mk k n b l, d, m, hm, h, hn => by
  rw [greatI] at h ⊢
  split at h
  ·omega
  split at h
  ·omega
  rename_i h1 h2
  rw [if_neg h1, if_neg h2]
  obtain ⟨q1, q2, q3, q4⟩ := smalls_wf l (d + 1) (m - 1) (by omega) h hn.2
  refine ⟨⟨hn.1, by omega, by omega, q1⟩, ?_, by omega, ?_⟩
  ·rw [putI]
   have hw : (if rightB (k, (It.mk k n b l).hn, false) then writeL (k, (It.mk k n b l).hn, false) else []).length <= 9 := by
    split
    ·rename_i hr; rw [writeL_length _ hr]; exact sizeN_le _
    ·exact Nat.zero_le _
   rw [List.length_append, List.length_append]
   omega
  ·obtain ⟨e, he⟩ : ∃ e, 10 - d = e + 1 := ⟨9 - d, by omega⟩
   rw [he, deepI]
   rw [show 10 - (d + 1) = e by omega] at q4
   exact q4
theorem smalls_wf : ∀ (l : List It) (d : Nat) (m : Int), m <= 400 -> 0 <= greats l d m -> nIs l -> wfs l /\ (puts l).length <= 3009 * (m - greats l d m) /\ m - greats l d m ≥ l.length /\ deeps l (10 - d) = true
 | [], _, m, _, h, hn => by simp [wfs, puts, greats, deeps]
 | x :: l, d, m, hm, h, hn => by
  rw [greats] at h ⊢
  split at h
  ·omega
  rename_i h1
  rw [if_neg h1]
  have h0 : 0 <= greatI x d m := by
   rcases Int.lt_or_le (greatI x d m) 0 with hlt | hge
   ·have := greats_le l d (greatI x d m) (by have := greatI_lt x d m (by omega); omega); omega
   ·exact hge
  obtain ⟨q1, q2, q3, q4⟩ := small_wf x d m hm h0 hn.1
  obtain ⟨r1, r2, r3, r4⟩ := smalls_wf l d _ (by have := greatI_lt x d m (by omega); omega) h hn.2
  refine ⟨⟨q1, r1⟩, ?_, ?_, ?_⟩
  ·rw [puts, List.length_append]; omega
  ·rw [List.length_cons]; omega
  ·rw [deeps, q4, r4]; rfl
end
theorem av_great [Known] : ∀ (x : It) (d : Nat) (m : Int), d <= 10 -> 0 <= m -> m <= 400 -> AP Tryd.prog 15 [itD x, .int .i64 (d : Int), .int .i64 m] (.int .i64 (greatI x d m)) [] := by
 refine It.ind fun k n b l ih d m hd hm hm' => ?_
 have hlen := itEs_len l
 have hbl : (b.map E.byte).length = b.length := List.length_map ..
 show AP Tryd.prog _ [.agg (itC k n b l), _, _] _ _
 rw [greatI]
 have em : 0 <= m -> IntKind.i64.wrap (m - 1) = m - 1 := fun h => by rw [IntWalk.i64_in _ (by omega)]
 have ed : IntKind.i64.wrap ((d : Int) + 1) = ((d + 1 : Nat) : Int) := by rw [IntWalk.i64_in _ (by omega)]; omega
 by_cases hd9 : 9 < d
 ·rw [if_pos hd9]
  have t1 : decide ((d : Int) > 9) = true := by simp; omega
  refine AP.ofA ?_
  refine AC_of Tryd.func15 rfl Tryd.ntmps15 rfl rfl ?_
  repeat' (first | (apply AL_move; exact rfl; exact rfl) | (apply AL_assign; exact rfl; exact rfl) | (apply AL_bin; (iterate 5 exact rfl)) | (apply AL_box; (iterate 5 exact rfl)) | refine AL_nil ?_ | (apply AL_guardFf; (iterate 3 exact rfl); (first | with_reducible assumption | decide +kernel)) | (apply AL_pickT; exact rfl; (first | with_reducible assumption | decide +kernel); exact rfl; exact rfl) | refine AW_region ?_ | refine AW_seq' ?_ | (apply AW_condA; exact rfl; (first | with_reducible assumption | decide +kernel)) | refine then_norm ?_ | refine AW_ret ?_ | refine then_ret ?_)
  all_goals (apply endQ []; (repeat (first | exact ResL.nil | (apply ResL.cons; first | exact .tmp _ _ rfl | (apply res_n ttok; (iterate 6 exact rfl)) | (apply res_1 ttok; (iterate 5 exact rfl))))); (iterate 4 exact rfl))
  all_goals rfl
 have t1 : decide ((d : Int) > 9) = false := by simp; omega
 rw [if_neg hd9]
 by_cases hb : 3000 < b.length
 ·rw [if_pos hb]
  have t2 : decide ((((b.map E.byte).length : Nat) : Int) > 3000) = true := by rw [hbl]; simp; omega
  refine AP.ofA ?_
  refine AC_of Tryd.func15 rfl Tryd.ntmps15 rfl rfl ?_
  repeat' (first | (apply AL_move; exact rfl; exact rfl) | (apply AL_assign; exact rfl; exact rfl) | (apply AL_bin; (iterate 5 exact rfl)) | (apply AL_load1 ttok; (iterate 6 exact rfl)) | (apply AL_fieldAddr ttok; (iterate 7 exact rfl)) | (apply AL_box; (iterate 5 exact rfl)) | refine AL_nil ?_ | (apply AL_guardT; (iterate 3 exact rfl); (first | with_reducible assumption | decide +kernel)) | (apply AL_pickF; exact rfl; (first | with_reducible assumption | decide +kernel); exact rfl; exact rfl) | refine AW_region ?_ | refine AW_seq' ?_ | (apply AW_condA; exact rfl; (first | with_reducible assumption | decide +kernel)) | refine then_norm ?_ | refine AW_ret ?_ | refine then_ret ?_ | (apply AL_len ttok; (iterate 4 exact rfl)))
  all_goals (apply endQ []; (repeat (first | exact ResL.nil | (apply ResL.cons; first | exact .tmp _ _ rfl | (apply res_n ttok; (iterate 6 exact rfl)) | (apply res_1 ttok; (iterate 5 exact rfl))))); (iterate 4 exact rfl))
  all_goals rfl
 have t2 : decide ((((b.map E.byte).length : Nat) : Int) > 3000) = false := by rw [hbl]; simp; omega
 rw [if_neg hb]
 generalize hfin : greats l (d + 1) (m - 1) = fin
 have em := em hm
 refine AP.ofA ?_
 refine AC_of Tryd.func15 rfl Tryd.ntmps15 rfl rfl ?_
 repeat' (first | rw [em] | (apply AL_move; exact rfl; exact rfl) | (apply AL_assign; exact rfl; exact rfl) | (apply AL_bin; (iterate 5 exact rfl)) | (apply AL_load1 ttok; (iterate 6 exact rfl)) | (apply AL_fieldAddr ttok; (iterate 7 exact rfl)) | (apply AL_box; (iterate 5 exact rfl)) | refine AL_nil ?_ | (apply AL_guardT; (iterate 3 exact rfl); (first | with_reducible assumption | decide +kernel)) | (apply AL_pickF; exact rfl; (first | with_reducible assumption | decide +kernel); exact rfl; exact rfl) | refine AW_region ?_ | refine AW_seq' ?_ | (apply AW_condB; exact rfl; (first | with_reducible assumption | decide +kernel)) | refine then_norm ?_ | refine AW_block ?_ | (apply AL_len ttok; (iterate 4 exact rfl)) | refine AW_skip ?_)
 refine AW_loopJ (fun f tm bx fr => ∃ (i : Nat) (m' : Int), f + i = l.length /\ -1 <= m' /\ m' + i <= 399 /\ greats (l.drop i) (d + 1) m' = fin /\ tm = [(1, .int .i64 (d : Int)), (2, .int .i64 m'), (3, .ptr 0 0), (7, .int .i64 (i : Int)), (6, .int .i64 0)] /\ bx = [itC k n b l] /\ fr = []) (l.length + 1) (Lands.mk' (m := l.length) (Nat.lt_succ_self _) ⟨0, m - 1, rfl, by omega, by omega, hfin, rfl, rfl, rfl⟩ ?_ rfl rfl rfl rfl rfl rfl) ?_
 ·exact .cons rfl (.cons rfl (.cons rfl (.cons rfl (.cons rfl .nil))))
 rintro f tm bx fr ⟨i, m', hf, hm1, hm2, hfin, rfl, rfl, rfl⟩
 have hU := uniI l
 rcases Nat.lt_or_ge i l.length with hlt | hge
 ·have hdl : decide ((i : Int) < ((itEs l).length : Int)) = true := decide_eq_true (by omega)
  obtain ⟨⟨k1, n1, b1, l1⟩, hy⟩ : ∃ y, l[i]? = some y := ⟨_, List.getElem?_eq_getElem hlt⟩
  have hv : (itEs l)[((i : Nat) : Int).toNat]? = some (.agg [.int .i64 k1, .int .u64 (n1 : Int), .sl (b1.map E.byte), .sl (itEs l1)]) := by
   rw [Int.toNat_natCast, itEs_map, List.getElem?_map, hy]; rfl
  have hdr : l.drop i = It.mk k1 n1 b1 l1 :: l.drop (i + 1) := by
   rw [List.drop_eq_getElem_cons hlt]; congr 1
   have := (List.getElem?_eq_some_iff.1 hy).2; exact this
  rw [hdr, greats] at hfin
  rcases Int.lt_or_le m' 0 with hml | hmg
  ·have hdm : decide (m' ≥ 0) = false := decide_eq_false (by omega)
   rw [if_pos hml] at hfin
   subst hfin
   repeat' (first | (apply AL_move; exact rfl; exact rfl) | (apply AL_assign; exact rfl; exact rfl) | (apply AL_bin; (iterate 5 exact rfl)) | (apply AL_load1 ttok; (iterate 6 exact rfl)) | (apply AL_fieldAddr ttok; (iterate 7 exact rfl)) | refine AL_nil ?_ | (apply AL_guardT; (iterate 3 exact rfl); (first | with_reducible assumption | decide +kernel)) | (apply AL_pickT; exact rfl; (first | with_reducible assumption | decide +kernel); exact rfl; exact rfl) | refine AW_region ?_ | refine AW_seq' ?_ | (apply AW_condB; exact rfl; (first | with_reducible assumption | decide +kernel)) | refine then_norm ?_ | refine AW_exit ?_ | refine AW_ret ?_ | (apply AL_len ttok; (iterate 4 exact rfl)))
   all_goals (apply endQ []; (repeat (first | exact ResL.nil | (apply ResL.cons; first | exact .tmp _ _ rfl | (apply res_n ttok; (iterate 6 exact rfl)) | (apply res_1 ttok; (iterate 5 exact rfl))))); (iterate 4 exact rfl))
   all_goals rfl
  ·have hdm : decide (m' ≥ 0) = true := decide_eq_true (by omega)
   rw [if_neg (by omega)] at hfin
   have hmem := List.mem_of_getElem? hy
   have hc := ih _ hmem (d + 1) m' (by omega) hmg (by omega)
   have ei : IntKind.i64.wrap ((i : Int) + 1) = ((i + 1 : Nat) : Int) := by rw [IntWalk.i64_in _ (by omega)]; omega
   have hgl := greatI_lt (.mk k1 n1 b1 l1) (d + 1) m' hmg
   generalize hgr : greatI (.mk k1 n1 b1 l1) (d + 1) m' = r at hc hfin hgl
   repeat' (first | rw [ed] | rw [ei] | (apply AL_callPw (hc); kernel_rfl; (iterate 4 exact rfl)) | (apply AL_move; exact rfl; exact rfl) | (apply AL_assign; exact rfl; exact rfl) | (apply AL_bin; (iterate 5 exact rfl)) | (apply AL_load1 ttok; (iterate 6 exact rfl)) | (apply AL_fieldAddr ttok; (iterate 7 exact rfl)) | refine AL_nil ?_ | (apply AL_guardT; (iterate 3 exact rfl); (first | with_reducible assumption | decide +kernel)) | (apply AL_pickT; exact rfl; (first | with_reducible assumption | decide +kernel); exact rfl; exact rfl) | refine AW_region ?_ | refine AW_seq' ?_ | (apply AW_condA; exact rfl; (first | with_reducible assumption | decide +kernel)) | refine then_norm ?_ | refine AW_block ?_ | (apply AL_len ttok; (iterate 4 exact rfl)) | (apply AL_eloadn ttok; (iterate 6 exact rfl)) | refine AW_skip ?_ | (apply AL_idx ttok; (iterate 6 exact rfl); (first | with_reducible assumption | decide +kernel | exact Int.natCast_nonneg _ | (guard_target = (0:Int) <= (OfNat.ofNat _ : Int); decide) | rotate_left); (first | with_reducible assumption | decide +kernel | exact rfl); (first | exact uniB_ok rfl | with_reducible assumption | decide +kernel | rotate_left)))
   refine Lands.mk' (m := f - 1) (by omega) ⟨i + 1, r, by omega, by omega, by omega, hfin, rfl, rfl, rfl⟩ ?_ rfl rfl rfl rfl rfl rfl
   exact .cons rfl (.cons rfl (.cons rfl (.cons rfl (.cons rfl .nil))))
 ·have hdl : decide ((i : Int) < ((itEs l).length : Int)) = false := decide_eq_false (by omega)
  have hdr : l.drop i = [] := List.drop_eq_nil_of_le hge
  rw [hdr, greats] at hfin
  subst hfin
  repeat' (first | (apply AL_move; exact rfl; exact rfl) | (apply AL_assign; exact rfl; exact rfl) | (apply AL_bin; (iterate 5 exact rfl)) | (apply AL_load1 ttok; (iterate 6 exact rfl)) | (apply AL_fieldAddr ttok; (iterate 7 exact rfl)) | refine AL_nil ?_ | (apply AL_guardFt; (iterate 3 exact rfl); (first | with_reducible assumption | decide +kernel)) | (apply AL_pickF; exact rfl; (first | with_reducible assumption | decide +kernel); exact rfl; exact rfl) | refine AW_region ?_ | refine AW_seq' ?_ | (apply AW_condB; exact rfl; (first | with_reducible assumption | decide +kernel)) | refine then_norm ?_ | refine AW_exit ?_ | refine AW_ret ?_ | (apply AL_len ttok; (iterate 4 exact rfl)))
  all_goals (apply endQ []; (repeat (first | exact ResL.nil | (apply ResL.cons; first | exact .tmp _ _ rfl | (apply res_n ttok; (iterate 6 exact rfl)) | (apply res_1 ttok; (iterate 5 exact rfl))))); (iterate 4 exact rfl))
  all_goals rfl
end Go.Proofs.YtihkbilhgbmbhaaDoor
end
section
open Go.RowKit Go.Pl Go.Av
namespace Go.Proofs.YtihkbilhgbmbhaaDoor
set_option maxHeartbeats 1000000
def rdD (r : Hd × Nat × Nat) : D := .tup [hd r.1, .int .i64 (r.2.1 : Int), .int .i64 (r.2.2 : Int)]
theorem idx_byte (b : List UInt8) (p : Int) (h0 : 0 <= p) (h1 : p < (b.length : Int)) : ∃ c r, b.drop p.toNat = c :: r /\ r.length + p.toNat + 1 = b.length /\ (b.map E.byte)[p.toNat]? = some (E.byte c) /\ ∀ j : Nat, j < r.length -> (b.map E.byte)[p.toNat + 1 + j]? = (r.map E.byte)[j]? := by
 have h : p.toNat < b.length := by omega
 refine ⟨b[p.toNat], b.drop (p.toNat + 1), List.drop_eq_getElem_cons h, by rw [List.length_drop]; omega, by simp [h], fun j hj => by simp [List.getElem?_drop]⟩
theorem shr5 (c : UInt8) : ((c.toNat : Int)).fdiv (2 ^ min (Int.toNat 5) IntKind.u8.bits) = ((c.toNat / 32 : Nat) : Int) := by
 rw [show min (Int.toNat 5) IntKind.u8.bits = 5 from rfl, Int.fdiv_eq_ediv_of_nonneg _ (by decide)]
 omega
theorem readN_direct {b : List UInt8} {p : Nat} {c : UInt8} {r : List UInt8} (h : b.drop p = c :: r) (h1 : c.toNat % 32 < 24) : readN b p = ((((c.toNat / 32 : Nat) : Int), c.toNat % 32, false), p + 1, 0) := by
 unfold readN; rw [h]; simp only; rw [if_pos h1]
theorem readN_open {b : List UInt8} {p : Nat} {c : UInt8} {r : List UInt8} (h : b.drop p = c :: r) (h1 : c.toNat % 32 = 31) (h2 : mayB (c.toNat / 32 : Nat) = true) : readN b p = ((((c.toNat / 32 : Nat) : Int), 0, true), p + 1, 0) := by
 unfold readN; rw [h]; simp only; rw [if_neg (by omega), if_pos ⟨h1, h2⟩]
theorem readN_bad {b : List UInt8} {p : Nat} {c : UInt8} {r : List UInt8} (h : b.drop p = c :: r) (h1 : 27 < c.toNat % 32) (h2 : c.toNat % 32 = 31 -> mayB (c.toNat / 32 : Nat) = false) : readN b p = ((0, 0, false), 0, 3) := by
 unfold readN; rw [h]; simp only; rw [if_neg (by omega), if_neg (fun hh => by have := h2 hh.1; rw [hh.2] at this; cases this), if_pos h1]
theorem readN_short {b : List UInt8} {p : Nat} {c : UInt8} {r : List UInt8} (h : b.drop p = c :: r) (h1 : ¬ c.toNat % 32 < 24) (h2 : ¬ 27 < c.toNat % 32) (h3 : r.length < 2 ^ (c.toNat % 32 - 24)) : readN b p = ((0, 0, false), 0, 8) := by
 unfold readN; rw [h]; simp only; rw [if_neg h1, if_neg (by omega), if_neg h2, if_pos h3]
theorem readN_long {b : List UInt8} {p : Nat} {c : UInt8} {r : List UInt8} (h : b.drop p = c :: r) (h1 : ¬ c.toNat % 32 < 24) (h2 : ¬ 27 < c.toNat % 32) (h3 : ¬ r.length < 2 ^ (c.toNat % 32 - 24)) : readN b p = ((((c.toNat / 32 : Nat) : Int), beVal (r.take (2 ^ (c.toNat % 32 - 24))), false), p + 1 + 2 ^ (c.toNat % 32 - 24), 0) := by
 unfold readN; rw [h]; simp only; rw [if_neg h1, if_neg (by omega), if_neg h2, if_neg h3]
theorem pow_eq (v : Nat) (h : ¬ v < 24) (h' : ¬ 27 < v) : IntKind.i64.wrap (1 * 2 ^ min (IntKind.u8.wrap ((v : Int) - 24)).toNat IntKind.i64.bits) = ((2 ^ (v - 24) : Nat) : Int) /\ 2 ^ (v - 24) <= 8 := by
 obtain rfl | rfl | rfl | rfl : v = 24 \/ v = 25 \/ v = 26 \/ v = 27 := by omega
 all_goals decide
theorem av_read [Known] (b : List UInt8) (p : Int) (hb : b.length <= 4611686018427387904) : AP Tryd.prog 110 [byE b, .int .i64 p] (rdD (readH b p)) [] := by
 have HB := hid hb
 clear hb
 have HU := uniB1 b
 refine AC_of Tryd.func110 rfl Tryd.ntmps110 rfl rfl ?_
 repeat' (first | (apply AL_move; exact rfl; exact rfl) | (apply AL_assign; exact rfl; exact rfl) | (apply AL_bin; (iterate 5 exact rfl)) | (apply AL_store ttok; (iterate 8 exact rfl)) | refine AL_nil ?_ | (apply AL_guardT; (iterate 3 exact rfl); (first | with_reducible assumption | (guard_target =ₛ true = true; rfl) | (guard_target =ₛ false = false; rfl) | (guard_target =ₛ (!true) = false; rfl) | (guard_target =ₛ (!false) = true; rfl))) | (apply AL_guardFf; (iterate 3 exact rfl); (first | with_reducible assumption | (guard_target =ₛ true = true; rfl) | (guard_target =ₛ false = false; rfl) | (guard_target =ₛ (!true) = false; rfl) | (guard_target =ₛ (!false) = true; rfl))) | (apply AL_guardS; exact rfl; exact rfl; all_goals intro hb) | (apply AL_pickT; exact rfl; (first | with_reducible assumption | (guard_target =ₛ true = true; rfl) | (guard_target =ₛ false = false; rfl) | (guard_target =ₛ (!true) = false; rfl) | (guard_target =ₛ (!false) = true; rfl)); exact rfl; exact rfl) | (apply AL_pickF; exact rfl; (first | with_reducible assumption | (guard_target =ₛ true = true; rfl) | (guard_target =ₛ false = false; rfl) | (guard_target =ₛ (!true) = false; rfl) | (guard_target =ₛ (!false) = true; rfl)); exact rfl; exact rfl) | refine AW_region ?_ | refine AW_seq' ?_ | (apply AW_condA; exact rfl; (first | with_reducible assumption | (guard_target =ₛ true = true; rfl) | (guard_target =ₛ false = false; rfl) | (guard_target =ₛ (!true) = false; rfl) | (guard_target =ₛ (!false) = true; rfl))) | (apply AW_cond'; exact rfl; all_goals intro hb) | refine then_norm ?_ | refine AW_block ?_ | refine AW_ret ?_ | refine then_ret ?_ | refine blk_ret ?_ | (apply AL_len ttok; (iterate 4 exact rfl)) | (apply AL_build ttok; (iterate 6 exact rfl)) | (apply AL_alloc ttok; (iterate 4 exact rfl)) | refine AW_skip ?_)
 ·(apply end0 (ts := []); (repeat (first | exact ResL.nil | (apply ResL.cons; first | exact .tmp _ _ rfl | (apply res_n ttok; (iterate 6 exact rfl)) | (apply res_1 ttok; (iterate 5 exact rfl))))); exact okSel_nil _; exact rfl; rotate_left; exact rfl)
  have : p < 0 := of_decide_eq_true hb
  rw [show readH b p = _ from if_pos (.inl this)]; rfl
 ·(apply end0 (ts := []); (repeat (first | exact ResL.nil | (apply ResL.cons; first | exact .tmp _ _ rfl | (apply res_n ttok; (iterate 6 exact rfl)) | (apply res_1 ttok; (iterate 5 exact rfl))))); exact okSel_nil _; exact rfl; rotate_left; exact rfl)
  have : p > ((b.map E.byte).length : Int) := of_decide_eq_true hb
  rw [List.length_map] at this
  rw [show readH b p = _ from if_pos (.inr this)]; rfl
 ·(apply end0 (ts := []); (repeat (first | exact ResL.nil | (apply ResL.cons; first | exact .tmp _ _ rfl | (apply res_n ttok; (iterate 6 exact rfl)) | (apply res_1 ttok; (iterate 5 exact rfl))))); exact okSel_nil _; exact rfl; rotate_left; exact rfl)
  have : p = ((b.map E.byte).length : Int) := by simpa using hb
  rw [List.length_map] at this
  have hd : b.drop p.toNat = [] := by rw [List.drop_eq_nil_iff]; omega
  rw [show readH b p = readN b p.toNat from if_neg (by omega)]
  unfold readN
  rw [hd]; rfl
 rename_i g1 g2
 have h0 : 0 <= p := by have := of_decide_eq_false g1; omega
 have h1 : p < (b.length : Int) := by
  have a1 := of_decide_eq_false g2
  rw [List.length_map] at a1 hb
  have a2 : p ≠ (b.length : Int) := by simpa using hb
  omega
 obtain ⟨c, r, hd, hl, hv, hr⟩ := idx_byte b p h0 h1
 have HH := hid (show readH b p = readN b p.toNat from if_neg (by omega))
 have HD := hid hd
 have HL := hid hl
 have HR := hid hr
 have e1 : IntKind.i64.wrap ((c.toNat / 32 : Nat) : Int) = ((c.toNat / 32 : Nat) : Int) := IntWalk.i64_in _ (by have := c.toNat_lt; omega)
 have e2 : IntKind.u64.wrap ((c.toNat % 32 : Nat) : Int) = ((c.toNat % 32 : Nat) : Int) := by rw [IntKind.wrap_u64]; omega
 have e3 : IntKind.i64.wrap (p + 1) = ((p.toNat + 1 : Nat) : Int) := by have := HB.out; rw [IntWalk.i64_in _ (by omega)]; omega
 clear hb g1 g2 hd hl hr
 repeat' (first | rw [and31 c] | rw [shr5 c] | rw [e1] | rw [e2] | rw [e3] | (apply AL_callP (av_may _); kernel_rfl; (iterate 4 exact rfl)) | (apply AL_move; exact rfl; exact rfl) | (apply AL_assign; exact rfl; exact rfl) | (apply AL_bin; (iterate 5 exact rfl)) | (apply AL_load1 ttok; (iterate 6 exact rfl)) | (apply AL_loadn ttok; (iterate 7 exact rfl)) | (apply AL_fieldAddr ttok; (iterate 7 exact rfl)) | (apply AL_store ttok; (iterate 8 exact rfl)) | (apply AL_convT ttok; (iterate 5 exact rfl)) | refine AL_nil ?_ | (apply AL_guardT; (iterate 3 exact rfl); (first | with_reducible assumption | (guard_target =ₛ true = true; rfl) | (guard_target =ₛ false = false; rfl) | (guard_target =ₛ (!true) = false; rfl) | (guard_target =ₛ (!false) = true; rfl))) | (apply AL_guardFt; (iterate 3 exact rfl); (first | with_reducible assumption | (guard_target =ₛ true = true; rfl) | (guard_target =ₛ false = false; rfl) | (guard_target =ₛ (!true) = false; rfl) | (guard_target =ₛ (!false) = true; rfl))) | (apply AL_guardS; exact rfl; exact rfl; all_goals intro hb) | (apply AL_pickT; exact rfl; (first | with_reducible assumption | (guard_target =ₛ true = true; rfl) | (guard_target =ₛ false = false; rfl) | (guard_target =ₛ (!true) = false; rfl) | (guard_target =ₛ (!false) = true; rfl)); exact rfl; exact rfl) | (apply AL_pickF; exact rfl; (first | with_reducible assumption | (guard_target =ₛ true = true; rfl) | (guard_target =ₛ false = false; rfl) | (guard_target =ₛ (!true) = false; rfl) | (guard_target =ₛ (!false) = true; rfl)); exact rfl; exact rfl) | refine AW_region ?_ | refine AW_seq' ?_ | (apply AW_condB; exact rfl; (first | with_reducible assumption | (guard_target =ₛ true = true; rfl) | (guard_target =ₛ false = false; rfl) | (guard_target =ₛ (!true) = false; rfl) | (guard_target =ₛ (!false) = true; rfl))) | (apply AW_cond'; exact rfl; all_goals intro hb) | refine then_norm ?_ | refine AW_block ?_ | refine AW_ret ?_ | refine then_ret ?_ | refine blk_ret ?_ | (apply AL_len ttok; (iterate 4 exact rfl)) | (apply AL_eload1 ttok; (iterate 6 exact rfl)) | (apply AL_build ttok; (iterate 6 exact rfl)) | (apply AL_alloc ttok; (iterate 4 exact rfl)) | refine AW_skip ?_ | (apply AL_idx ttok; (iterate 6 exact rfl); (first | with_reducible assumption | exact Int.natCast_nonneg _ | (guard_target = (0:Int) <= (OfNat.ofNat _ : Int); decide) | rotate_left); (first | with_reducible assumption | exact rfl); (first | exact uniB_ok rfl | with_reducible assumption | rotate_left)) | (apply AL_shr; exact rfl; exact rfl; (first | with_reducible assumption | exact Int.natCast_nonneg _ | (exact (by decide)) | rotate_left); exact rfl) | (apply AL_shl; exact rfl; exact rfl; (first | with_reducible assumption | exact Int.natCast_nonneg _ | (exact (by decide)) | rotate_left); exact rfl))
 ·(apply end0 (ts := []); (repeat (first | exact ResL.nil | (apply ResL.cons; first | exact .tmp _ _ rfl | (apply res_n ttok; (iterate 6 exact rfl)) | (apply res_1 ttok; (iterate 5 exact rfl))))); exact okSel_nil _; exact rfl; rotate_left; exact rfl)
  rw [HH.out, readN_direct HD.out (by have := of_decide_eq_true hb; omega)]; rfl
 ·(apply end0 (ts := []); (repeat (first | exact ResL.nil | (apply ResL.cons; first | exact .tmp _ _ rfl | (apply res_n ttok; (iterate 6 exact rfl)) | (apply res_1 ttok; (iterate 5 exact rfl))))); exact okSel_nil _; exact rfl; rotate_left; exact rfl)
  rw [HH.out, readN_open HD.out (by have := of_decide_eq_false (‹decide _ = false›); simp at *; omega) hb]; rfl
 iterate 2
  ·(apply end0 (ts := []); (repeat (first | exact ResL.nil | (apply ResL.cons; first | exact .tmp _ _ rfl | (apply res_n ttok; (iterate 6 exact rfl)) | (apply res_1 ttok; (iterate 5 exact rfl))))); exact okSel_nil _; exact rfl; rotate_left; exact rfl)
   rw [HH.out, readN_bad HD.out (by have := of_decide_eq_true hb; omega) (by intro hh; first | assumption | simp_all)]; rfl
  ·(apply end0 (ts := []); (repeat (first | exact ResL.nil | (apply ResL.cons; first | exact .tmp _ _ rfl | (apply res_n ttok; (iterate 6 exact rfl)) | (apply res_1 ttok; (iterate 5 exact rfl))))); exact okSel_nil _; exact rfl; rotate_left; exact rfl)
   have g1 := of_decide_eq_true hb
   have g2 := of_decide_eq_false (‹decide (((c.toNat % 32 : Nat) : Int) > 27) = false›)
   have g3 := of_decide_eq_false (‹decide (((c.toNat % 32 : Nat) : Int) < 24) = false›)
   have g4 := pow_eq (c.toNat % 32) (by omega) (by omega)
   have g5 := HL.out
   have g6 := HB.out
   rw [g4.1, List.length_map, IntWalk.i64_in _ (by omega)] at g1
   rw [HH.out, readN_short HD.out (by omega) (by omega) (by omega)]; rfl
  ·have g1 := of_decide_eq_false hb
   have g2 := of_decide_eq_false (‹decide (((c.toNat % 32 : Nat) : Int) > 27) = false›)
   have g3 := of_decide_eq_false (‹decide (((c.toNat % 32 : Nat) : Int) < 24) = false›)
   have g4 := pow_eq (c.toNat % 32) (by omega) (by omega)
   have g5 := HL.out
   have g6 := HB.out
   rw [g4.1, List.length_map, IntWalk.i64_in _ (by omega)] at g1
   rw [g4.1]
   have g7 := HH.out.trans (readN_long HD.out (by omega) (by omega) (by omega))
   generalize 2 ^ (c.toNat % 32 - 24) = m at g1 g4 g7 ⊢
   have g8 := g4.2
   have G7 := hid g7
   clear hb g2 g3 g4 g7
   refine AW_loopJ (fun k tm bx fr => ∃ i, k + i = m /\ tm = [(75, .int .i64 (i : Int)), (74, .int .i64 (m : Int)), (9, .int .i64 (m : Int)), (7, .ptr 1 0), (1, .int .i64 ((p.toNat + 1 : Nat) : Int)), (0, byE b), (4, .ptr 0 0)] /\ bx = [[.int .i64 0, .int .u64 0, .bool false], [.int .i64 ((c.toNat / 32 : Nat) : Int), .int .u64 (beVal (r.take i) : Nat), .bool false]] /\ fr = []) (m + 1) (Lands.mk' (m := m) (Nat.lt_succ_self _) ⟨0, rfl, rfl, rfl, rfl⟩ ?_ rfl rfl rfl rfl rfl rfl) ?_
   ·repeat' (first | exact Av.Sub.nil | refine Av.Sub.cons rfl ?_)
   rintro k tm bx fr ⟨i, hk, rfl, rfl, rfl⟩
   rcases Nat.lt_or_ge i m with hlt | hge
   ·have hd : decide ((i : Int) < (m : Int)) = true := by simp; omega
    have hir : i < r.length := by omega
    have hv' : (b.map E.byte)[((p.toNat + 1 + i : Nat) : Int).toNat]? = some (E.byte r[i]) := by
     rw [Int.toNat_natCast, HR.out i hir]; simp [hir]
    have e4 : IntKind.i64.wrap (((p.toNat + 1 : Nat) : Int) + (i : Int)) = ((p.toNat + 1 + i : Nat) : Int) := by rw [IntWalk.i64_in _ (by omega)]; omega
    have e7 : IntKind.i64.wrap ((i : Int) + 1) = ((i + 1 : Nat) : Int) := by rw [IntWalk.i64_in _ (by omega)]; omega
    have e6 : IntKind.u64.wrap ((r[i].toNat : Nat) : Int) = ((r[i].toNat : Nat) : Int) := by have := r[i].toNat_lt; rw [IntKind.wrap_u64]; omega
    have e5 : bits .or .u64 (IntKind.u64.wrap (((beVal (r.take i) : Nat) : Int) * 2 ^ min (Int.toNat 8) IntKind.u64.bits)) ((r[i].toNat : Nat) : Int) = ((beVal (r.take (i + 1)) : Nat) : Int) := by
     have h9 := beVal_step (beVal (r.take i)) r[i] (beVal_take_lt r i (by omega))
     rw [show ((2 : Int) ^ min (Int.toNat 8) IntKind.u64.bits) = 256 from rfl, h9.1, h9.2, take_snoc r i hir]
    repeat' (first | rw [e4] | rw [e5] | rw [e6] | rw [e7] | (apply AL_move; exact rfl; exact rfl) | (apply AL_assign; exact rfl; exact rfl) | (apply AL_bin; (iterate 5 exact rfl)) | (apply AL_load1 ttok; (iterate 6 exact rfl)) | (apply AL_fieldAddr ttok; (iterate 7 exact rfl)) | (apply AL_store ttok; (iterate 8 exact rfl)) | (apply AL_convT ttok; (iterate 5 exact rfl)) | refine AL_nil ?_ | refine AW_region ?_ | refine AW_seq' ?_ | (apply AW_condA; exact rfl; (first | with_reducible assumption | (guard_target =ₛ true = true; rfl) | (guard_target =ₛ false = false; rfl) | (guard_target =ₛ (!true) = false; rfl) | (guard_target =ₛ (!false) = true; rfl))) | refine then_norm ?_ | refine AW_block ?_ | (apply AL_eload1 ttok; (iterate 6 exact rfl)) | (apply AW_drawM 10 hmix; (decide +kernel); (kernel_rfl); (kernel_rfl); exact rfl; exact rfl) | (apply AD_cons; (iterate 3 exact rfl)) | refine AD.nil _ | exact qp_ok rfl | refine AW_skip ?_ | (apply AL_idx ttok; (iterate 6 exact rfl); (first | with_reducible assumption | exact Int.natCast_nonneg _ | (guard_target = (0:Int) <= (OfNat.ofNat _ : Int); decide) | rotate_left); (first | with_reducible assumption | exact rfl); (first | exact uniB_ok rfl | with_reducible assumption | rotate_left)) | (apply AL_shl; exact rfl; exact rfl; (first | with_reducible assumption | exact Int.natCast_nonneg _ | (exact (by decide)) | rotate_left); exact rfl))
    refine Lands.mk' (m := k - 1) (by omega) ⟨i + 1, by omega, rfl, rfl, rfl⟩ ?_ rfl rfl rfl rfl rfl rfl
    repeat' (first | exact Av.Sub.nil | refine Av.Sub.cons rfl ?_)
   ·have hd : decide ((i : Int) < (m : Int)) = false := by simp; omega
    repeat' (first | (apply AL_move; exact rfl; exact rfl) | (apply AL_assign; exact rfl; exact rfl) | (apply AL_bin; (iterate 5 exact rfl)) | (apply AL_loadn ttok; (iterate 7 exact rfl)) | (apply AL_store ttok; (iterate 8 exact rfl)) | refine AL_nil ?_ | refine AW_region ?_ | refine AW_seq' ?_ | (apply AW_condB; exact rfl; (first | with_reducible assumption | (guard_target =ₛ true = true; rfl) | (guard_target =ₛ false = false; rfl) | (guard_target =ₛ (!true) = false; rfl) | (guard_target =ₛ (!false) = true; rfl))) | refine then_norm ?_ | refine AW_exit ?_ | refine AW_ret ?_)
    (apply end0 (ts := []); (repeat (first | exact ResL.nil | (apply ResL.cons; first | exact .tmp _ _ rfl | (apply res_n ttok; (iterate 6 exact rfl)) | (apply res_1 ttok; (iterate 5 exact rfl))))); exact okSel_nil _; exact rfl; rotate_left; exact rfl)
    have h9 : i = m := by omega
    subst h9
    rw [G7.out, IntWalk.i64_in _ (by omega)]
    rfl
  ·have g2 := of_decide_eq_false hb
   have g3 := of_decide_eq_false (‹decide (((c.toNat % 32 : Nat) : Int) < 24) = false›)
   rw [IntKind.wrap_u8']; omega
end Go.Proofs.YtihkbilhgbmbhaaDoor
end
