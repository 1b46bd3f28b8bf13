/- Package primary: a list's items looked at; the type that a list says. -/
import Derived.Test.YtihkbilhgbmbhaaDoorG13
import Derived.Test.YtihkbilhgbmbhaaDoorG17
import Derived.Test.YtihkbilhgbmbhaaDoorG09
import Derived.Laws.MakeOwn
import Derived.Test.YtihkbilhgbmbhaaDoorG10
import Derived.Test.YtihkbilhgbmbhaaDoorG07
import Derived.Laws.RangeAny
import Derived.LoopTactic
set_option linter.unusedVariables false
set_option linter.unusedSimpArgs false
section
open Go.RowKit Go.Pl Go.Av
namespace Go.Proofs.YtihkbilhgbmbhaaDoor
set_option maxHeartbeats 4000000
theorem av_cloneI [Known] (l : List It) (hne : l ≠ []) (hl : l.length <= 1000000) : AT Tryd.prog 76 [.sl .ext (itEs l)] [] [] (.sl (.own 0) (itEs l)) [] [⟨l.length, 4, 27⟩] := by
 have hU := uniI l
 have hlen := itEs_len l
 rw [<- hlen]
 rw [<- hlen] at hl
 have hE : itEs l ≠ [] := fun h => hne (by rw [h] at hlen; exact List.length_eq_zero_iff.1 hlen.symm)
 refine AC_of Tryd.func76 rfl Tryd.ntmps76 rfl rfl ?_
 repeat' (first | (apply AL_snil ttok; (iterate 5 exact rfl); intro b hbn; (have hbn2 := hbn hE); subst hbn2; clear hbn) | (apply AL_move; exact rfl; exact rfl) | (apply AL_assign; exact rfl; exact rfl) | refine AL_nil ?_ | refine AW_region ?_ | refine AW_seq' ?_ | (apply AW_condB; exact rfl; (first | with_reducible assumption | (guard_target =ₛ true = true; rfl) | (guard_target =ₛ false = false; rfl) | (guard_target =ₛ (!true) = false; rfl) | (guard_target =ₛ (!false) = true; rfl))) | refine then_norm ?_ | refine AW_ret ?_ | (apply AL_bs ttok; (iterate 12 exact rfl)) | refine AW_skip ?_ | (apply AL_append ttok; (iterate 6 exact rfl); (first | with_reducible assumption | exact rfl | rotate_left); exact rfl; exact rfl; (first | exact uniB_ok rfl | with_reducible assumption | rotate_left); (first | exact uniB_ok rfl | with_reducible assumption | rotate_left); (first | exact List.cons_ne_nil _ _ | with_reducible assumption | rotate_left); (first | with_reducible assumption | rotate_left); (first | with_reducible assumption | rotate_left); exact rfl; exact rfl))
 all_goals first | (apply endT [] [0]; (repeat (first | exact ResL.nil | (apply ResL.cons; first | exact .tmp _ _ rfl | (apply res_n ttok; (iterate 6 exact rfl)) | (apply res_1 ttok; (iterate 5 exact rfl))))); (iterate 7 exact rfl)) | skip
 all_goals first | rfl | (simp at hl ⊢; (try unfold maxLen); omega) | (simp at hl ⊢; done)
theorem av_wrong [Known] [KnownU8] (x : It) (hw : wfI x) : AP Tryd.prog 45 [itD x] (.bool (!rightI x)) [] := by
 have hR := av_rightI x hw
 obtain ⟨k, n, b, l⟩ := x
 refine AP.ofA ?_
 refine AC_of Tryd.func45 rfl Tryd.ntmps45 rfl rfl ?_
 repeat' (first | (apply AL_callPw (hR); kernel_rfl; (iterate 4 exact rfl)) | (apply AL_assign; exact rfl; exact rfl) | (apply AL_loadn ttok; (iterate 7 exact rfl)) | (apply AL_boxZ; (iterate 5 exact rfl)) | (apply AL_not; exact rfl; exact rfl) | refine AL_nil ?_ | refine AW_region ?_ | refine AW_seq' ?_ | refine then_norm ?_ | refine AW_ret ?_)
 all_goals (apply endQ []; (repeat (first | exact ResL.nil | (apply ResL.cons; first | exact .tmp _ _ rfl | (apply res_n ttok; (iterate 6 exact rfl)) | (apply res_1 ttok; (iterate 5 exact rfl))))); (iterate 4 exact rfl))
 all_goals rfl
def fiI : List It -> Nat -> Int
 | [], _ => -1
 | x :: l, i => match rightI x with | true => fiI l (i + 1) | false => (i : Int)
theorem fiI_ge : ∀ (l : List It) (i : Nat), decide (fiI l i ≥ 0) = !(l.all rightI)
 | [], _ => rfl
 | x :: l, i => by
  rw [fiI, List.all_cons]
  cases rightI x with
  | true => simpa using fiI_ge l (i + 1)
  | false => simp
theorem av_idxF [Known] [KnownU8] (l : List It) (hws : wfs l) (hl : l.length <= 1000000) : AP Tryd.prog 75 [.sl .ext (itEs l), .fn 45 []] (.int .i64 (fiI l 0)) [] := by
 have hlen := itEs_len l
 have hU := uniI l
 generalize hfin : fiI l 0 = fin
 refine AP.ofA ?_
 refine AC_of Tryd.func75 rfl Tryd.ntmps75 rfl rfl ?_
 repeat' (first | (apply AL_move; exact rfl; exact rfl) | (apply AL_assign; exact rfl; exact rfl) | refine AL_nil ?_ | refine AW_region ?_ | refine AW_seq' ?_ | refine then_norm ?_ | refine AW_block ?_ | (apply AL_len ttok; (iterate 4 exact rfl)))
 refine AW_loopJ (fun f tm bx fr => ∃ (i : Nat), f + i = l.length /\ fiI (l.drop i) i = fin /\ tm = [(0, .sl .ext (itEs l)), (1, .fn 45 []), (4, .int .i64 0), (7, .int .i64 ((itEs l).length : Int)), (8, .int .i64 (i : Int))] /\ bx = [] /\ fr = []) (l.length + 1) (Lands.mk' (m := l.length) (Nat.lt_succ_self _) ⟨0, by omega, hfin, rfl, rfl, rfl⟩ ?_ rfl rfl rfl rfl rfl rfl) ?_
 ·exact .cons rfl (.cons rfl (.cons rfl (.cons rfl (.cons rfl .nil))))
 rintro f tm bx fr ⟨i, hf, hq, rfl, rfl, rfl⟩
 rcases Nat.lt_or_ge i l.length with hlt | hge
 ·have hdl : decide ((i : Int) < ((itEs l).length : Int)) = true := decide_eq_true (by omega)
  obtain ⟨⟨k1, n1, b1, l1⟩, hy⟩ : ∃ y, l[i]? = some y := ⟨_, List.getElem?_eq_getElem hlt⟩
  have hv : (itEs l)[((i : Nat) : Int).toNat]? = some (.agg [.int .i64 k1, .int .u64 (n1 : Int), .sl (b1.map E.byte), .sl (itEs l1)]) := by
   rw [Int.toNat_natCast, itEs_map, List.getElem?_map, hy]; rfl
  have hc := av_wrong _ (wfs_mem hws _ (List.mem_of_getElem? hy))
  have hdr : l.drop i = It.mk k1 n1 b1 l1 :: l.drop (i + 1) := by
   rw [List.drop_eq_getElem_cons hlt]; congr 1
   exact (List.getElem?_eq_some_iff.1 hy).2
  rw [hdr, fiI] at hq
  have ei : IntKind.i64.wrap ((i : Int) + 1) = ((i + 1 : Nat) : Int) := by rw [IntWalk.i64_in _ (by omega)]; omega
  cases hb : rightI (.mk k1 n1 b1 l1) with
  | true =>
   rw [hb] at hq hc
   replace hc : AP Tryd.prog _ _ (.bool false) [] := hc
   repeat' (first | rw [ei] | (apply AL_callPv (hc); exact rfl; kernel_rfl; (iterate 3 exact rfl)) | (apply AL_move; exact rfl; exact rfl) | (apply AL_assign; exact rfl; exact rfl) | (apply AL_bin; (iterate 5 exact rfl)) | refine AL_nil ?_ | refine AW_region ?_ | refine AW_seq' ?_ | (apply AW_condA; exact rfl; (first | with_reducible assumption | decide +kernel)) | (apply AW_condB; exact rfl; (first | with_reducible assumption | decide +kernel)) | refine then_norm ?_ | refine AW_block ?_ | (apply AL_eloadn ttok; (iterate 6 exact rfl)) | refine AW_skip ?_ | (apply AL_idx ttok; (iterate 6 exact rfl); (first | with_reducible assumption | decide +kernel | exact Int.natCast_nonneg _ | (guard_target = (0:Int) <= (OfNat.ofNat _ : Int); decide) | rotate_left); (first | with_reducible assumption | decide +kernel | exact rfl); (first | exact uniB_ok rfl | with_reducible assumption | decide +kernel | rotate_left)))
   refine Lands.mk' (m := f - 1) (by omega) ⟨i + 1, by omega, hq, rfl, rfl, rfl⟩ ?_ rfl rfl rfl rfl rfl rfl
   exact .cons rfl (.cons rfl (.cons rfl (.cons rfl (.cons rfl .nil))))
  | false =>
   rw [hb] at hq hc
   replace hc : AP Tryd.prog _ _ (.bool true) [] := hc
   have hq : (i : Int) = fin := hq
   subst hq
   repeat' (first | (apply AL_callPv (hc); exact rfl; kernel_rfl; (iterate 3 exact rfl)) | (apply AL_move; exact rfl; exact rfl) | (apply AL_assign; exact rfl; exact rfl) | (apply AL_bin; (iterate 5 exact rfl)) | refine AL_nil ?_ | refine AW_region ?_ | refine AW_seq' ?_ | (apply AW_condA; exact rfl; (first | with_reducible assumption | decide +kernel)) | refine then_norm ?_ | refine AW_block ?_ | refine AW_ret ?_ | refine then_ret ?_ | refine blk_ret ?_ | (apply AL_eloadn ttok; (iterate 6 exact rfl)) | refine AW_skip ?_ | (apply AL_idx ttok; (iterate 6 exact rfl); (first | with_reducible assumption | decide +kernel | exact Int.natCast_nonneg _ | (guard_target = (0:Int) <= (OfNat.ofNat _ : Int); decide) | rotate_left); (first | with_reducible assumption | decide +kernel | exact rfl); (first | exact uniB_ok rfl | with_reducible assumption | decide +kernel | rotate_left)))
   all_goals (apply endQ []; (repeat (first | exact ResL.nil | (apply ResL.cons; first | exact .tmp _ _ rfl | (apply res_n ttok; (iterate 6 exact rfl)) | (apply res_1 ttok; (iterate 5 exact rfl))))); (iterate 4 exact rfl))
   all_goals rfl
 ·have hdl : decide ((i : Int) < ((itEs l).length : Int)) = false := decide_eq_false (by omega)
  rw [List.drop_eq_nil_of_le hge] at hq
  have hq : (-1 : Int) = fin := hq
  subst hq
  repeat' (first | (apply AL_assign; exact rfl; exact rfl) | (apply AL_bin; (iterate 5 exact rfl)) | refine AL_nil ?_ | refine AW_region ?_ | refine AW_seq' ?_ | (apply AW_condB; exact rfl; (first | with_reducible assumption | decide +kernel)) | refine then_norm ?_ | refine AW_exit ?_ | refine AW_ret ?_)
  all_goals (apply endQ []; (repeat (first | exact ResL.nil | (apply ResL.cons; first | exact .tmp _ _ rfl | (apply res_n ttok; (iterate 6 exact rfl)) | (apply res_1 ttok; (iterate 5 exact rfl))))); (iterate 4 exact rfl))
  all_goals rfl
theorem av_contF [Known] [KnownU8] (l : List It) (hws : wfs l) (hl : l.length <= 1000000) : AP Tryd.prog 48 [.sl .ext (itEs l), .fn 45 []] (.bool (!(l.all rightI))) [] := by
 have hI := av_idxF l hws hl
 rw [<- fiI_ge l 0]
 refine AP.ofA ?_
 refine AC_of Tryd.func48 rfl Tryd.ntmps48 rfl rfl ?_
 repeat' (first | (apply AL_callPw (hI); kernel_rfl; (iterate 4 exact rfl)) | (apply AL_move; exact rfl; exact rfl) | (apply AL_assign; exact rfl; exact rfl) | (apply AL_bin; (iterate 5 exact rfl)) | refine AL_nil ?_ | refine AW_region ?_ | refine AW_seq' ?_ | refine then_norm ?_ | refine AW_ret ?_)
 all_goals (apply endQ []; (repeat (first | exact ResL.nil | (apply ResL.cons; first | exact .tmp _ _ rfl | (apply res_n ttok; (iterate 6 exact rfl)) | (apply res_1 ttok; (iterate 5 exact rfl))))); (iterate 4 exact rfl))
 all_goals rfl
def typeV (l : List It) (a : Int) : Int := if a < 0 then -1 else match l[a.toNat]? with
 | none => -1
 | some (.mk k n b r) => match decide ((n : Int) > 2) with
  | true => -1
  | false => match It.beq (.mk k n b r) (.mk 0 n [] []) with
   | true => (n : Int)
   | false => -1
theorem av_typeAt [Known] (l : List It) (hws : wfs l) (a : Int) : AP Tryd.prog 47 [.sl .ext (itEs l), .int .i64 a] (.int .i64 (typeV l a)) [] := by
 have hlen := itEs_len l
 have hU := uniI l
 unfold typeV
 rcases Int.lt_or_le a 0 with h0 | h0
 ·have t1 : decide (a < 0) = true := decide_eq_true h0
  rw [if_pos h0]
  refine AP.ofA ?_
  refine AC_of Tryd.func47 rfl Tryd.ntmps47 rfl rfl ?_
  repeat' (first | (apply AL_move; exact rfl; exact rfl) | (apply AL_assign; exact rfl; exact rfl) | (apply AL_bin; (iterate 5 exact rfl)) | refine AL_nil ?_ | (apply AL_guardFf; (iterate 3 exact rfl); (first | with_reducible assumption | decide +kernel)) | (apply AL_pickT; exact rfl; (first | with_reducible assumption | decide +kernel); exact rfl; exact rfl) | refine AW_region ?_ | refine AW_seq' ?_ | (apply AW_condA; exact rfl; (first | with_reducible assumption | decide +kernel)) | refine then_norm ?_ | refine AW_ret ?_ | refine then_ret ?_ | (apply AW_drawE 27 hmix; (decide +kernel); (kernel_rfl); (kernel_rfl); (kernel_rfl); exact rfl; exact rfl) | (apply AE_consZ; (iterate 4 exact rfl)) | exact AE.nil _ _ _ _ | (apply AEk_puT; exact rfl) | (apply AOt_mk; exact rfl; exact rfl; (decide +kernel); exact rfl) | (apply AO_puT; exact rfl) | exact AO.nil _ _ _ | (apply AOs_skip; (decide +kernel)) | exact AOs.nil | exact qY_ok rfl rfl)
  all_goals (apply endQ []; (repeat (first | exact ResL.nil | (apply ResL.cons; first | exact .tmp _ _ rfl | (apply res_n ttok; (iterate 6 exact rfl)) | (apply res_1 ttok; (iterate 5 exact rfl))))); (iterate 4 exact rfl))
  all_goals rfl
 have t1 : decide (a < 0) = false := decide_eq_false (by omega)
 rw [if_neg (by omega)]
 rcases Int.lt_or_le a l.length with h1 | h1
 case inr =>
  have t2 : decide (a ≥ ((itEs l).length : Int)) = true := decide_eq_true (by omega)
  rw [List.getElem?_eq_none (by omega)]
  refine AP.ofA ?_
  refine AC_of Tryd.func47 rfl Tryd.ntmps47 rfl rfl ?_
  repeat' (first | (apply AL_move; exact rfl; exact rfl) | (apply AL_assign; exact rfl; exact rfl) | (apply AL_bin; (iterate 5 exact rfl)) | refine AL_nil ?_ | (apply AL_guardT; (iterate 3 exact rfl); (first | with_reducible assumption | decide +kernel)) | (apply AL_guardFf; (iterate 3 exact rfl); (first | with_reducible assumption | decide +kernel)) | (apply AL_pickT; exact rfl; (first | with_reducible assumption | decide +kernel); exact rfl; exact rfl) | (apply AL_pickF; exact rfl; (first | with_reducible assumption | decide +kernel); exact rfl; exact rfl) | refine AW_region ?_ | refine AW_seq' ?_ | (apply AW_condA; exact rfl; (first | with_reducible assumption | decide +kernel)) | refine then_norm ?_ | refine AW_ret ?_ | refine then_ret ?_ | (apply AL_len ttok; (iterate 4 exact rfl)) | (apply AW_drawE 27 hmix; (decide +kernel); (kernel_rfl); (kernel_rfl); (kernel_rfl); exact rfl; exact rfl) | (apply AE_consZ; (iterate 4 exact rfl)) | exact AE.nil _ _ _ _ | (apply AEk_puT; exact rfl) | (apply AOt_mk; exact rfl; exact rfl; (decide +kernel); exact rfl) | (apply AO_puT; exact rfl) | exact AO.nil _ _ _ | (apply AOs_skip; (decide +kernel)) | exact AOs.nil | exact qY_ok rfl rfl)
  all_goals (apply endQ []; (repeat (first | exact ResL.nil | (apply ResL.cons; first | exact .tmp _ _ rfl | (apply res_n ttok; (iterate 6 exact rfl)) | (apply res_1 ttok; (iterate 5 exact rfl))))); (iterate 4 exact rfl))
  all_goals rfl
 have t2 : decide (a ≥ ((itEs l).length : Int)) = false := decide_eq_false (by omega)
 obtain ⟨⟨k, n, b, l1⟩, hy⟩ : ∃ y, l[a.toNat]? = some y := ⟨_, List.getElem?_eq_getElem (by omega)⟩
 have hv : (itEs l)[a.toNat]? = some (.agg [.int .i64 k, .int .u64 (n : Int), .sl (b.map E.byte), .sl (itEs l1)]) := by
  rw [itEs_map, List.getElem?_map, hy]; rfl
 have hw := wfs_mem hws _ (List.mem_of_getElem? hy)
 have hS := av_same (.mk k n b l1) hw (.mk 0 n [] []) (by obtain ⟨h1, _⟩ := hw; exact ⟨h1, by simp, by simp, trivial⟩)
 have hN := av_num n
 rw [hy]
 dsimp only
 cases t3 : decide ((n : Int) > 2) with
 | true =>
  refine AP.ofA ?_
  refine AC_of Tryd.func47 rfl Tryd.ntmps47 rfl rfl ?_
  repeat' (first | (apply AL_move; exact rfl; exact rfl) | (apply AL_assign; exact rfl; exact rfl) | (apply AL_bin; (iterate 5 exact rfl)) | refine AL_nil ?_ | (apply AL_guardT; (iterate 3 exact rfl); (first | with_reducible assumption | decide +kernel)) | (apply AL_guardFf; (iterate 3 exact rfl); (first | with_reducible assumption | decide +kernel)) | (apply AL_pickT; exact rfl; (first | with_reducible assumption | decide +kernel); exact rfl; exact rfl) | (apply AL_pickF; exact rfl; (first | with_reducible assumption | decide +kernel); exact rfl; exact rfl) | refine AW_region ?_ | refine AW_seq' ?_ | (apply AW_condA; exact rfl; (first | with_reducible assumption | decide +kernel)) | refine then_norm ?_ | refine AW_ret ?_ | refine then_ret ?_ | (apply AL_len ttok; (iterate 4 exact rfl)) | (apply AL_eload1 ttok; (iterate 6 exact rfl)) | (apply AL_efieldAddr ttok; (iterate 7 exact rfl)) | (apply AW_drawE 27 hmix; (decide +kernel); (kernel_rfl); (kernel_rfl); (kernel_rfl); exact rfl; exact rfl) | (apply AE_consZ; (iterate 4 exact rfl)) | exact AE.nil _ _ _ _ | (apply AEk_puT; exact rfl) | (apply AOt_mk; exact rfl; exact rfl; (decide +kernel); exact rfl) | (apply AO_puT; exact rfl) | exact AO.nil _ _ _ | (apply AOs_skip; (decide +kernel)) | exact AOs.nil | exact qY_ok rfl rfl | (apply AL_idx ttok; (iterate 6 exact rfl); (first | with_reducible assumption | decide +kernel | exact Int.natCast_nonneg _ | (guard_target = (0:Int) <= (OfNat.ofNat _ : Int); decide) | rotate_left); (first | with_reducible assumption | decide +kernel | exact rfl); (first | exact uniB_ok rfl | with_reducible assumption | decide +kernel | rotate_left)))
  all_goals (apply endQ []; (repeat (first | exact ResL.nil | (apply ResL.cons; first | exact .tmp _ _ rfl | (apply res_n ttok; (iterate 6 exact rfl)) | (apply res_1 ttok; (iterate 5 exact rfl))))); (iterate 4 exact rfl))
  all_goals rfl
 | false =>
  have en : IntKind.i64.wrap (n : Int) = (n : Int) := IntWalk.i64_in _ (by simp at t3; omega)
  cases t4 : It.beq (.mk k n b l1) (.mk 0 n [] []) with
  | true =>
   rw [t4] at hS
   refine AP.ofA ?_
   refine AC_of Tryd.func47 rfl Tryd.ntmps47 rfl rfl ?_
   repeat' (first | (apply AL_callPw (hN); kernel_rfl; (iterate 4 exact rfl)) | (apply AL_callPw (hS); kernel_rfl; (iterate 4 exact rfl)) | rw [en] | (apply AL_move; exact rfl; exact rfl) | (apply AL_assign; exact rfl; exact rfl) | (apply AL_bin; (iterate 5 exact rfl)) | (apply AL_not; exact rfl; exact rfl) | (apply AL_convT ttok; (iterate 5 exact rfl)) | refine AL_nil ?_ | (apply AL_guardT; (iterate 3 exact rfl); (first | with_reducible assumption | decide +kernel)) | (apply AL_pickF; exact rfl; (first | with_reducible assumption | decide +kernel); exact rfl; exact rfl) | refine AW_region ?_ | refine AW_seq' ?_ | (apply AW_condB; exact rfl; (first | with_reducible assumption | decide +kernel)) | refine then_norm ?_ | refine AW_ret ?_ | (apply AL_len ttok; (iterate 4 exact rfl)) | (apply AL_eload1 ttok; (iterate 6 exact rfl)) | (apply AL_eloadn ttok; (iterate 6 exact rfl)) | (apply AL_efieldAddr ttok; (iterate 7 exact rfl)) | (apply AW_drawE 27 hmix; (decide +kernel); (kernel_rfl); (kernel_rfl); (kernel_rfl); exact rfl; exact rfl) | (apply AE_consZ; (iterate 4 exact rfl)) | exact AE.nil _ _ _ _ | (apply AEk_puT; exact rfl) | (apply AOt_mk; exact rfl; exact rfl; (decide +kernel); exact rfl) | (apply AO_puT; exact rfl) | exact AO.nil _ _ _ | (apply AOs_skip; (decide +kernel)) | exact AOs.nil | exact qY_ok rfl rfl | refine AW_skip ?_ | (apply AL_idx ttok; (iterate 6 exact rfl); (first | with_reducible assumption | decide +kernel | exact Int.natCast_nonneg _ | (guard_target = (0:Int) <= (OfNat.ofNat _ : Int); decide) | rotate_left); (first | with_reducible assumption | decide +kernel | exact rfl); (first | exact uniB_ok rfl | with_reducible assumption | decide +kernel | rotate_left)))
   all_goals (apply endQ []; (repeat (first | exact ResL.nil | (apply ResL.cons; first | exact .tmp _ _ rfl | (apply res_n ttok; (iterate 6 exact rfl)) | (apply res_1 ttok; (iterate 5 exact rfl))))); (iterate 4 exact rfl))
   all_goals rfl
  | false =>
   rw [t4] at hS
   refine AP.ofA ?_
   refine AC_of Tryd.func47 rfl Tryd.ntmps47 rfl rfl ?_
   repeat' (first | (apply AL_callPw (hN); kernel_rfl; (iterate 4 exact rfl)) | (apply AL_callPw (hS); kernel_rfl; (iterate 4 exact rfl)) | (apply AL_move; exact rfl; exact rfl) | (apply AL_assign; exact rfl; exact rfl) | (apply AL_bin; (iterate 5 exact rfl)) | (apply AL_not; exact rfl; exact rfl) | refine AL_nil ?_ | (apply AL_guardT; (iterate 3 exact rfl); (first | with_reducible assumption | decide +kernel)) | (apply AL_pickF; exact rfl; (first | with_reducible assumption | decide +kernel); exact rfl; exact rfl) | refine AW_region ?_ | refine AW_seq' ?_ | (apply AW_condA; exact rfl; (first | with_reducible assumption | decide +kernel)) | refine then_norm ?_ | refine AW_ret ?_ | refine then_ret ?_ | (apply AL_len ttok; (iterate 4 exact rfl)) | (apply AL_eload1 ttok; (iterate 6 exact rfl)) | (apply AL_eloadn ttok; (iterate 6 exact rfl)) | (apply AL_efieldAddr ttok; (iterate 7 exact rfl)) | (apply AW_drawE 27 hmix; (decide +kernel); (kernel_rfl); (kernel_rfl); (kernel_rfl); exact rfl; exact rfl) | (apply AE_consZ; (iterate 4 exact rfl)) | exact AE.nil _ _ _ _ | (apply AEk_puT; exact rfl) | (apply AOt_mk; exact rfl; exact rfl; (decide +kernel); exact rfl) | (apply AO_puT; exact rfl) | exact AO.nil _ _ _ | (apply AOs_skip; (decide +kernel)) | exact AOs.nil | exact qY_ok rfl rfl | (apply AL_idx ttok; (iterate 6 exact rfl); (first | with_reducible assumption | decide +kernel | exact Int.natCast_nonneg _ | (guard_target = (0:Int) <= (OfNat.ofNat _ : Int); decide) | rotate_left); (first | with_reducible assumption | decide +kernel | exact rfl); (first | exact uniB_ok rfl | with_reducible assumption | decide +kernel | rotate_left)))
   all_goals (apply endQ []; (repeat (first | exact ResL.nil | (apply ResL.cons; first | exact .tmp _ _ rfl | (apply res_n ttok; (iterate 6 exact rfl)) | (apply res_1 ttok; (iterate 5 exact rfl))))); (iterate 4 exact rfl))
   all_goals rfl
end Go.Proofs.YtihkbilhgbmbhaaDoor
end
section
open Go.RowKit Go.Pl
namespace Go.Av
section
variable {P : Program} {T : Tab} {Q : X -> St -> Prop} {n : Nat} {ee : Nat × Nat} {tm : List (Nat × D)} {bx : List (List D)} {fr fr' : List Fr} {b0 : Bs} {g : G} {w : World} {a : Act}
variable {ops : Array Oper} {rest : List Oper} {t ty : Nat} {pos : String} {after : Array Edge}
theorem AL_unx [Known] [Dfr] {x : Operand} {xt : Nat} {k : IntKind} {q : Int} (hx : ev tm x = .int k q) (ht : Nat.blt t n = true)
  (kk : AL P ops rest ⟨n, (t, .int k (bits .xor k (if k.signed then -1 else k.max) q)) :: tm, bx, fr, ee⟩ Q) : AL P ops (⟨some t, .unOp .xor xt x, ty, pos, after, none⟩ :: rest) ⟨n, tm, bx, fr, ee⟩ Q :=
 AL_val _ ht (fun g a w hi => by
  have h1 : V w g fr (ev tm x) (a.eval x) := hi.ev x; rw [hx] at h1; have h1 := h1.int_inv
  exact ⟨.int k (bits .xor k (if k.signed then -1 else k.max) q), by simp [execOp, h1, Op.unary]; rfl, .int _ _⟩) kk
theorem flat_rep (k : IntKind) : ∀ m : Nat, flat (List.replicate m (E.int k 0)) = List.replicate m (E.int k 0)
 | 0 => rfl
 | m + 1 => by rw [List.replicate_succ, flat_cons, flat_rep k m]; rfl
theorem uni_rep (k : IntKind) (m : Nat) : Uni 1 (List.replicate m (E.int k 0)) := fun x hx => by rw [(List.mem_replicate.1 hx).2]; rfl
theorem AL_make0 [Known] [Dfr] (hT : chk P T = true) {st e : Nat} {x y : Operand} {kx ky k0 : IntKind} {q : Int} {m l : Nat} {ti te : Ti} (hx : ev tm x = .int kx q) (hy : ev tm y = .int ky q) (hq : q = (l : Int)) (ht : tl T st = some ti) (hk : ti.kd = .slice e) (hte : tl T e = some te) (hz : te.zero = [.i k0])
  (hb : Nat.ble (te.bytes * l) 281474976710656 = true) (hl : Nat.ble l maxLen = true) (hm : fr.length = m) (hf : nfl (fr ++ [⟨l, 1, e⟩]) = some fr') (htd : Nat.blt t n = true)
  (k : AL P ops rest ⟨n, (t, .sl (.own m) (List.replicate l (.int k0 0))) :: tm, bx, fr', ee⟩ Q) : AL P ops (⟨some t, .makeSlice st x y, ty, pos, after, none⟩ :: rest) ⟨n, tm, bx, fr, ee⟩ Q :=
 AL_mem _ htd (fun g a w hi => by
  have h1 : V w g fr (ev tm x) (a.eval x) := hi.ev x; rw [hx] at h1; have h1 := h1.int_inv
  have h2 : V w g fr (ev tm y) (a.eval y) := hi.ev y; rw [hy] at h2; have h2 := h2.int_inv
  subst hq
  have hu := (tl_ok hT ht).slice hk
  obtain ⟨i, u, z, i1, i2, i3, i4, i5, i6, i7⟩ := (tl_ok hT hte).out
  have hsz : te.size = 1 := by rw [<- (tl_ok hT hte).len, hz]; rfl
  rw [hz] at i7
  have hzc : z.cells = #[.int k0 0] := by
   have hl1 := (zks_ok (w := w) (g := g) (fr := fr) i7).1
   match hzl : z.cells.toList, hl1 with
   | [v], _ =>
    rw [hzl] at i7
    simp only [zks] at i7
    cases hv : zk v with
    | none => rw [hv] at i7; cases i7
    | some z' =>
     rw [hv] at i7
     simp only [Option.some.injEq, List.cons.injEq, and_true] at i7
     subst i7
     unfold zk at hv
     split at hv <;> try (cases hv; done)
     ·split at hv
      ·cases hv
       refine Array.toList_inj.1 (hzl.trans ?_)
       simp_all
      ·cases hv
     ·split at hv <;> cases hv
  have hb' := Nat.le_of_ble_eq_true hb
  have hl' := Nat.le_of_ble_eq_true hl
  have hl2 : l <= 9223372036854775807 := hl'
  have hb2 : (i.bytes : Int) * (l : Int) <= 281474976710656 := by
   rw [<- i6]; have : ((te.bytes * l : Nat) : Int) <= 281474976710656 := by omega
   rwa [Int.natCast_mul] at this
  have hr := run_make (P := P) w st e i z hu i1 i3 kx ky (l : Int) (l : Int) (by omega) (Int.le_refl _) hb2 (by omega)
  rw [Int.toNat_natCast, <- i5, hsz, Nat.mul_one, hzc] at hr
  have hcl : (madeCells #[Value.int k0 0] l).toList = List.replicate l (.int k0 0) := by
   apply List.ext_getElem?
   intro j
   by_cases hj : j < l
   ·simp [madeCells, List.getElem?_replicate, hj, Nat.mod_one]
   ·simp [madeCells, List.getElem?_replicate, hj]
  obtain ⟨k1, k2, k3⟩ := hi.mem.row (List.replicate l (.int k0 0)) (List.replicate l (.int k0 0)) l 1 e (by decide) (by simp) (by simp) hl' (uni_rep k0 l) (fun j x u hx hu => by
   rw [flat_rep] at hx
   rw [List.getElem?_replicate] at hx hu
   split at hx
   ·rename_i hj; rw [if_pos hj] at hu; cases hx; cases hu; exact .int _ _
   ·cases hx)
  rw [List.length_replicate] at k1 k2 k3
  have e1 := nfl_eq hf
  subst e1 hm
  refine ⟨.slice (some ⟨w.heap.size, 0, none⟩) l l, _, _, ?_, k1, k2, k3⟩
  rw [<- hcl]
  simp only [execOp, Sem.run_bind, h1, h2, hr]
  rfl) k
theorem AL_uptoE [Known] [Dfr] (hT : chk P T = true) {x hh : Operand} {st e : Nat} {tk : Tok} {l l2 : List E} {k1 : IntKind} {j : Int} {ti te : Ti} (hx : ev tm x = .sl tk l) (ht : tl T st = some ti) (hk : ti.kd = .slice e) (hte : tl T e = some te) (htd : Nat.blt t n = true)
  (hhi : ev tm hh = .int k1 j) (hU : Uni te.size l) (h0 : 0 <= j) (hle : j.toNat <= l.length) (hd : l.take j.toNat = l2)
  (kk : AL P ops rest ⟨n, (t, .sl .ext l2) :: tm, bx, fr, ee⟩ Q) : AL P ops (⟨some t, .slice st x none (some hh) none, ty, pos, after, none⟩ :: rest) ⟨n, tm, bx, fr, ee⟩ Q := by
 subst hd
 exact AL_slice hT hx ht hk hte htd (.dft _) (.lit hh _ k1 j hhi h0) (Nat.zero_le _) hle hU (by rw [List.drop_zero]) kk
end
end Go.Av
end
section
open Go.RowKit Go.Pl Go.Av
namespace Go.Proofs.YtihkbilhgbmbhaaDoor
set_option maxHeartbeats 1000000
def okB (m : Nat) (c : UInt8) : Bool := (97 <= c.toNat && c.toNat <= 122) || (48 <= c.toNat && c.toNat <= 57) || c.toNat == 45 || c.toNat == m
theorem okB_true {m : Nat} {c : UInt8} : okB m c = true ↔ (97 <= (c.toNat : Int) /\ (c.toNat : Int) <= 122) \/ (48 <= (c.toNat : Int) /\ (c.toNat : Int) <= 57) \/ (c.toNat : Int) = 45 \/ (c.toNat : Int) = (m : Int) := by
 simp only [okB, Bool.or_eq_true, Bool.and_eq_true, decide_eq_true_eq, beq_iff_eq]
 omega
theorem plain_walk (s : ByteArray) (m : Nat) (hm : m < 128) (w : World) (B : Bool) (hB : s.data.toList.all (okB m) = B) :
  Calls Tryd.prog 90 #[.string s, .int .i32 (m : Int)] w fun e w' => e = .returned (.bool B) /\ Below w.heap.size w w' := by
 have hT : (∀ j, j < s.size -> ∀ c, s.data.toList[j]? = some c -> okB m c = true) -> B = true := fun h => by
  rw [<- hB, List.all_eq_true]
  intro x hx
  obtain ⟨j, hj⟩ := List.getElem?_of_mem hx
  have hlt := (List.getElem?_eq_some_iff.1 hj).1
  exact h j (by simpa using hlt) x hj
 have hF : ∀ (j : Nat) (c : UInt8), s.data.toList[j]? = some c -> ¬ okB m c = true -> B = false := fun j c hj hc => by
  rw [<- hB, List.all_eq_false]
  exact ⟨c, List.mem_of_getElem? hj, hc⟩
 clear hB
 go_enter Tryd.func90, Tryd.ntmps90
 go_wp2
 go_loopw [] (fun w' => ∃ pos, w' = w.iter s pos /\ pos <= s.size /\ Hid (∀ j, j < pos -> ∀ c, s.data.toList[j]? = some c -> okB m c = true)) (fun w' => s.size - w'.iterPos w.heap.size)
 case atStart => exact ⟨0, rfl, Nat.zero_le _, fun j hj => by omega⟩
 case round =>
  obtain ⟨pos, rfl, hps, hall⟩ := hrel
  have hb : ∀ p, Below w.heap.size w (w.iter s p) := fun p => (Below.refl _ _).alloc (Nat.le_refl _) _
  by_cases hp : pos < s.size
  ·have hget : s.data.toList[pos]? = some (s[pos]'hp) := by
    have hlt : pos < s.data.toList.length := by simpa using hp
    rw [List.getElem?_eq_getElem hlt]; rfl
   by_cases ha : (s[pos]'hp).toNat < 128
   ·obtain ⟨c, hc⟩ : ∃ c, c = s[pos]'hp := ⟨_, rfl⟩
    have hnx : ∀ ty, (Instr.next (.pointer (some ⟨w.heap.size, 0, none⟩)) true ty).run Tryd.prog (w.iter s pos) = .ok (.tuple #[.bool true, .int .i64 pos, .int .i32 (c.toNat : Int)]) (w.iter s (pos + 1)) := fun ty => by
     rw [hc]; exact run_next_ascii w s pos ty hp ha
    rw [<- hc] at hget ha
    clear hc
    have hbad := hid (hF pos c hget)
    have hstep : Hid (okB m c = true -> ∀ j, j < pos + 1 -> ∀ c, s.data.toList[j]? = some c -> okB m c = true) := fun hc j hj c' hj' => by
     rcases Nat.lt_or_ge j pos with h | h
     ·exact hall j h c' hj'
     ·have : j = pos := by omega
      subst this
      rw [hget] at hj'
      injection hj' with hj'
      subst hj'
      exact hc
    clear hT hF hget
    go_wp2
    all_goals first
     | (go_ret
        have hBf := hbad (fun h => by rw [okB_true] at h; clear hbad hstep hnx; (try simp only [bne_iff_ne, ne_eq, bne_eq_false_iff_eq] at *); omega)
        subst hBf
        exact ⟨rfl, hb _⟩)
     | (refine ⟨⟨pos + 1, rfl, by omega, hstep ?_⟩, ?_⟩
        ·rw [okB_true]
         clear hbad hstep hnx
         try simp only [bne_iff_ne, ne_eq, bne_eq_false_iff_eq] at *
         omega
        ·simp; omega)
   ·obtain ⟨hd1, hd2⟩ := decode_high s pos hp (by omega)
    have hle := decode_le s pos
    have hnx : ∀ ty, (Instr.next (.pointer (some ⟨w.heap.size, 0, none⟩)) true ty).run Tryd.prog (w.iter s pos) = _ := fun ty => run_next_any w s pos ty hp
    have hBf := hF pos _ hget (fun h => by rw [okB_true] at h; omega)
    clear hT hF hget
    subst hBf
    generalize Utf8.decode s pos = dd at hd1 hd2 hle hnx
    have n1 : ¬ ((dd.1 : Int) < 97) := by omega
    have n2 : ((dd.1 : Int) > 122) := by omega
    have n3 : ¬ ((dd.1 : Int) < 48) := by omega
    have n4 : ((dd.1 : Int) > 57) := by omega
    have n5 : ¬ ((dd.1 : Int) = 45) := by omega
    have n6 : ¬ ((dd.1 : Int) = (m : Int)) := by omega
    go_wp2
    all_goals first
     | (go_ret; exact ⟨rfl, hb _⟩)
     | (exfalso; clear hnx hb hall; (try simp only [bne_iff_ne, ne_eq, bne_eq_false_iff_eq] at *); omega)
  ·have hnx : ∀ ty, (Instr.next (.pointer (some ⟨w.heap.size, 0, none⟩)) true ty).run Tryd.prog (w.iter s pos) = _ := fun ty => run_next_end w s pos ty hp
   have hBt := hT (fun j hj => hall j (by omega))
   subst hBt
   go_wp2
   go_ret
   exact ⟨rfl, hb _⟩
end Go.Proofs.YtihkbilhgbmbhaaDoor
end
section
open Go.RowKit Go.Pl Go.Av
namespace Go.Proofs.YtihkbilhgbmbhaaDoor
set_option maxHeartbeats 1000000
theorem av_plain [Known] (s : List UInt8) (m : Nat) (hm : m < 128) : AP Tryd.prog 90 [.str s, .int .i32 (m : Int)] (.bool (s.all (okB m))) [] := by
 refine ⟨fun g w vs hmem hl hv => ?_⟩
 obtain ⟨v0, v1, rfl⟩ : ∃ v0 v1, vs = [v0, v1] := by
  match vs, hl with
  | [v0, v1], _ => exact ⟨v0, v1, rfl⟩
 have h0 := (hv 0 _ _ rfl rfl).str_inv.1
 have h1 := (hv 1 _ _ rfl rfl).int_inv
 subst h0 h1
 exact (plain_walk ⟨s.toArray⟩ m hm w _ rfl).mono fun e w' ⟨he, hb⟩ => endBelow hmem hb he (.bool _)
structure EidV where
 i : Bool
 n : Nat
 s : Nat
 h : List UInt8
 d : List UInt8
 deriving DecidableEq
abbrev eC (x : EidV) : List D := [.bool x.i, .int .u64 (x.n : Int), .int .u64 (x.s : Int), .str x.h, .str x.d]
def eidZ : EidV := ⟨false, 0, 0, [], []⟩
def isZ (x : EidV) : Bool := x.i == false && ((x.n : Int) == 0 && ((x.s : Int) == 0 && (x.h == [] && (x.d == [] && true))))
def eRight (x : EidV) : Bool :=
 if isZ x then true
 else if x.i then (x.i == true && ((x.n : Int) == (x.n : Int) && ((x.s : Int) == (x.s : Int) && (x.h == [] && (x.d == [] && true))))) && decide ((x.n : Int) ≥ 1) && decide ((x.n : Int) <= 4294967295) && decide ((x.s : Int) <= 4294967295)
 else (x.i == false && ((x.n : Int) == 0 && ((x.s : Int) == 0 && (x.h == x.h && (x.d == x.d && true))))) && decide ((x.h.length : Int) ≥ 1) && decide ((x.h.length : Int) <= 16) && decide ((x.d.length : Int) <= 24) && x.h.all (okB 45) && x.d.all (okB 47)
theorem eRight_Z {x : EidV} (h : isZ x = true) : eRight x = true := by unfold eRight; rw [if_pos h]
theorem eRight_I {x : EidV} (h : isZ x = false) (hi : x.i = true) : eRight x = ((x.i == true && ((x.n : Int) == (x.n : Int) && ((x.s : Int) == (x.s : Int) && (x.h == [] && (x.d == [] && true))))) && decide ((x.n : Int) ≥ 1) && decide ((x.n : Int) <= 4294967295) && decide ((x.s : Int) <= 4294967295)) := by
 unfold eRight; rw [if_neg (by rw [h]; decide), if_pos hi]
theorem eRight_T {x : EidV} (h : isZ x = false) (hi : x.i = false) : eRight x = ((x.i == false && ((x.n : Int) == 0 && ((x.s : Int) == 0 && (x.h == x.h && (x.d == x.d && true))))) && decide ((x.h.length : Int) ≥ 1) && decide ((x.h.length : Int) <= 16) && decide ((x.d.length : Int) <= 24) && x.h.all (okB 45) && x.d.all (okB 47)) := by
 unfold eRight; rw [if_neg (by rw [h]; decide), if_neg (by rw [hi]; decide)]
theorem av_eRight [Known] (x : EidV) : AP Tryd.prog 61 [.agg (eC x)] (.bool (eRight x)) [] := by
 refine AP.ofA ?_
 refine AC_of Tryd.func61 rfl Tryd.ntmps61 rfl rfl ?_
 cases hz : isZ x with
 | true =>
  rw [eRight_Z hz]
  unfold isZ at hz
  repeat' (first | (apply AL_assign; exact rfl; exact rfl) | (apply AL_loadn ttok; (iterate 7 exact rfl)) | (apply AL_box; (iterate 5 exact rfl)) | refine AL_nil ?_ | refine AW_region ?_ | refine AW_seq' ?_ | (apply AW_condA; exact rfl; (first | with_reducible assumption | (guard_target =ₛ true = true; rfl) | (guard_target =ₛ false = false; rfl) | (guard_target =ₛ (!true) = false; rfl) | (guard_target =ₛ (!false) = true; rfl))) | refine then_norm ?_ | refine AW_block ?_ | refine AW_ret ?_ | refine then_ret ?_ | refine blk_ret ?_ | (apply AL_build ttok; (iterate 6 exact rfl)) | (apply AL_eqS ttok; (iterate 4 exact rfl); (kernel_rfl); (kernel_rfl); (iterate 3 exact rfl)))
  (apply endQ []; (repeat (first | exact ResL.nil | (apply ResL.cons; first | exact .tmp _ _ rfl | (apply res_n ttok; (iterate 6 exact rfl)) | (apply res_1 ttok; (iterate 5 exact rfl))))); (iterate 4 exact rfl))
  all_goals rfl
 | false =>
  cases hi : x.i with
  | true =>
   rw [eRight_I hz hi]
   unfold isZ at hz
   repeat' (first | (apply AL_move; exact rfl; exact rfl) | (apply AL_assign; exact rfl; exact rfl) | (apply AL_bin; (iterate 5 exact rfl)) | (apply AL_load1 ttok; (iterate 6 exact rfl)) | (apply AL_loadn ttok; (iterate 7 exact rfl)) | (apply AL_fieldAddr ttok; (iterate 7 exact rfl)) | (apply AL_box; (iterate 5 exact rfl)) | refine AL_nil ?_ | (apply AL_guardT; (iterate 3 exact rfl); (first | with_reducible assumption | (guard_target =ₛ true = true; rfl) | (guard_target =ₛ false = false; rfl) | (guard_target =ₛ (!true) = false; rfl) | (guard_target =ₛ (!false) = true; rfl))) | (apply AL_guardFt; (iterate 3 exact rfl); (first | with_reducible assumption | (guard_target =ₛ true = true; rfl) | (guard_target =ₛ false = false; rfl) | (guard_target =ₛ (!true) = false; rfl) | (guard_target =ₛ (!false) = true; rfl))) | (apply AL_guardS; exact rfl; exact rfl; all_goals intro hb) | (apply AL_pickT; exact rfl; (first | with_reducible assumption | (guard_target =ₛ true = true; rfl) | (guard_target =ₛ false = false; rfl) | (guard_target =ₛ (!true) = false; rfl) | (guard_target =ₛ (!false) = true; rfl)); exact rfl; exact rfl) | (apply AL_pickF; exact rfl; (first | with_reducible assumption | (guard_target =ₛ true = true; rfl) | (guard_target =ₛ false = false; rfl) | (guard_target =ₛ (!true) = false; rfl) | (guard_target =ₛ (!false) = true; rfl)); exact rfl; exact rfl) | refine AW_region ?_ | refine AW_seq' ?_ | (apply AW_condA; exact rfl; (first | with_reducible assumption | (guard_target =ₛ true = true; rfl) | (guard_target =ₛ false = false; rfl) | (guard_target =ₛ (!true) = false; rfl) | (guard_target =ₛ (!false) = true; rfl))) | (apply AW_condB; exact rfl; (first | with_reducible assumption | (guard_target =ₛ true = true; rfl) | (guard_target =ₛ false = false; rfl) | (guard_target =ₛ (!true) = false; rfl) | (guard_target =ₛ (!false) = true; rfl))) | refine then_norm ?_ | refine AW_block ?_ | refine AW_ret ?_ | refine then_ret ?_ | refine blk_ret ?_ | (apply AL_build ttok; (iterate 6 exact rfl)) | (apply AL_eqS ttok; (iterate 4 exact rfl); (kernel_rfl); (kernel_rfl); (iterate 3 exact rfl)))
   all_goals (apply endQ []; (repeat (first | exact ResL.nil | (apply ResL.cons; first | exact .tmp _ _ rfl | (apply res_n ttok; (iterate 6 exact rfl)) | (apply res_1 ttok; (iterate 5 exact rfl))))); (iterate 4 exact rfl))
   all_goals first | rfl | (clear hi hz; simp only [*]; done) | (clear hi hz; simp only [*]; simp only [Bool.and_true, Bool.true_and, Bool.and_false, Bool.false_and]; done)
  | false =>
   rw [eRight_T hz hi]
   unfold isZ at hz
   repeat' (first | (apply AL_callPw (av_plain x.h 45 (by decide)); kernel_rfl; (iterate 4 exact rfl)) | (apply AL_callPw (av_plain x.d 47 (by decide)); kernel_rfl; (iterate 4 exact rfl)) | (apply AL_move; exact rfl; exact rfl) | (apply AL_assign; exact rfl; exact rfl) | (apply AL_bin; (iterate 5 exact rfl)) | (apply AL_load1 ttok; (iterate 6 exact rfl)) | (apply AL_loadn ttok; (iterate 7 exact rfl)) | (apply AL_fieldAddr ttok; (iterate 7 exact rfl)) | (apply AL_box; (iterate 5 exact rfl)) | refine AL_nil ?_ | (apply AL_guardT; (iterate 3 exact rfl); (first | with_reducible assumption | (guard_target =ₛ true = true; rfl) | (guard_target =ₛ false = false; rfl) | (guard_target =ₛ (!true) = false; rfl) | (guard_target =ₛ (!false) = true; rfl))) | (apply AL_guardFt; (iterate 3 exact rfl); (first | with_reducible assumption | (guard_target =ₛ true = true; rfl) | (guard_target =ₛ false = false; rfl) | (guard_target =ₛ (!true) = false; rfl) | (guard_target =ₛ (!false) = true; rfl))) | (apply AL_guardS; exact rfl; exact rfl; all_goals intro hb) | (apply AL_pickT; exact rfl; (first | with_reducible assumption | (guard_target =ₛ true = true; rfl) | (guard_target =ₛ false = false; rfl) | (guard_target =ₛ (!true) = false; rfl) | (guard_target =ₛ (!false) = true; rfl)); exact rfl; exact rfl) | (apply AL_pickF; exact rfl; (first | with_reducible assumption | (guard_target =ₛ true = true; rfl) | (guard_target =ₛ false = false; rfl) | (guard_target =ₛ (!true) = false; rfl) | (guard_target =ₛ (!false) = true; rfl)); exact rfl; exact rfl) | refine AW_region ?_ | refine AW_seq' ?_ | (apply AW_condB; exact rfl; (first | with_reducible assumption | (guard_target =ₛ true = true; rfl) | (guard_target =ₛ false = false; rfl) | (guard_target =ₛ (!true) = false; rfl) | (guard_target =ₛ (!false) = true; rfl))) | refine then_norm ?_ | refine AW_block ?_ | refine AW_ret ?_ | (apply AL_lens ttok; (iterate 4 exact rfl)) | (apply AL_build ttok; (iterate 6 exact rfl)) | (apply AL_eqS ttok; (iterate 4 exact rfl); (kernel_rfl); (kernel_rfl); (iterate 3 exact rfl)) | refine AW_skip ?_)
   all_goals (apply endQ []; (repeat (first | exact ResL.nil | (apply ResL.cons; first | exact .tmp _ _ rfl | (apply res_n ttok; (iterate 6 exact rfl)) | (apply res_1 ttok; (iterate 5 exact rfl))))); (iterate 4 exact rfl))
   all_goals first | rfl | (clear hi hz; simp only [*]; done) | (clear hi hz; simp only [*]; simp only [Bool.and_true, Bool.true_and, Bool.and_false, Bool.false_and]; done)
end Go.Proofs.YtihkbilhgbmbhaaDoor
end
