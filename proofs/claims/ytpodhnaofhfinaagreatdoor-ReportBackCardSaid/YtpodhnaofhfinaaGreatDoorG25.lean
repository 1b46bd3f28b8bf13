/- Package primary: items sealed. -/
import Derived.Test.YtpodhnaofhfinaaGreatDoorG24
set_option linter.unusedVariables false
set_option linter.unusedSimpArgs false
section
open Go.RowKit Go.Pl Go.Av
namespace Go.Proofs.YtpodhnaofhfinaaGreatDoor
set_option maxHeartbeats 4000000
theorem av_listT [Known] (l : List It) (hne : l ≠ []) (hl : l.length <= 2199023255488) (hws : wfs l) : AT Tryz.prog 47 [.sl .ext (itEs l)] [] [] (.agg [.int .i64 4, .int .u64 0, .sl .nil [], .sl (.own 0) (itEs l)]) [] [⟨(itEs l).length, 4, 83⟩] := by
 have ih' : ∀ y ∈ l, AP Tryz.prog 72 [itD y] (itD y) [] := fun y hy => av_copied y (wfs_mem hws y hy)
 have hlen := itEs_len l
 refine AC_of Tryz.func47 rfl Tryz.ntmps47 rfl rfl ?_
 repeat' (first | (apply AL_go ttok; exact rfl) | (apply AW_go ttok; exact rfl) | (apply AL_len ttok; (iterate 4 exact rfl)))
 refine AW_loopJ (fun k' tm bx fr => ∃ (i c : Nat) (L : List E), k' + i = l.length /\ c = L.length /\ L = itEs (l.take i) /\ tm = [(3, .ptr 1 0), (2, .ptr 0 0), (7, .sl .ext (itEs l)), (8, .int .i64 ((itEs l).length : Int)), (9, .int .i64 (i : Int))] /\
  ((i = 0 /\ bx = [[.int .i64 0, .int .u64 0, .sl .nil [], .sl .nil []], [.int .i64 4, .int .u64 0, .sl .nil [], .sl .nil []]] /\ fr = []) \/
  (bx = [[.int .i64 0, .int .u64 0, .sl .nil [], .sl .nil []], [.int .i64 4, .int .u64 0, .sl .nil [], .sl (.own 0) L]] /\ fr = [⟨c, 4, 83⟩]))) (l.length + 1) (Lands.mk' (m := l.length) (Nat.lt_succ_self _) ⟨0, 0, [], rfl, rfl, rfl, rfl, .inl ⟨rfl, rfl, rfl⟩⟩ ?_ rfl rfl rfl rfl rfl rfl) ?_
 ·exact .cons rfl (.cons rfl (.cons rfl (.cons rfl (.cons rfl .nil))))
 rintro k' tm bx fr ⟨i, c, L, hi, hc, hL, rfl, ⟨rfl, rfl, rfl⟩ | ⟨rfl, rfl⟩⟩
 ·cases l with
  | nil => exact absurd rfl hne
  | cons y l =>
   have hc := ih' y (List.mem_cons_self ..)
   have hU := uniI (y :: l)
   have hd : decide (((0 : Nat) : Int) < ((itEs (y :: l)).length : Int)) = true := decide_eq_true (by rw [itEs]; simp)
   obtain ⟨k1, n1, b1, l1⟩ := y
   repeat' (first | (apply AL_callPw (hc); kernel_rfl; (iterate 4 exact rfl)) | (apply AL_append_nilZ ttok; (iterate 6 exact rfl); exact uniB_ok rfl; exact List.cons_ne_nil _ _; exact rfl; decide +kernel; decide +kernel; (iterate 3 exact rfl)) | (apply AL_go ttok; exact rfl) | (apply AW_go ttok; exact rfl) | (apply K_go ttok; exact rfl) | (apply AW_condA; exact rfl; (first | with_reducible assumption | decide +kernel)) | (apply AL_bsZ ttok; (iterate 12 exact rfl)) | (apply AW_drawE 5 hmix; (decide +kernel); (kernel_rfl); (kernel_rfl); (kernel_rfl); exact rfl; exact rfl) | (apply AE_consZ; (iterate 4 exact rfl)) | exact AE.nil _ _ _ _ | (apply AEk_puT; exact rfl) | (apply AOt_mk; exact rfl; exact rfl; (decide +kernel); exact rfl) | (apply AO_puT; exact rfl) | exact AO.nil _ _ _ | (apply AOs_skip; (decide +kernel)) | exact AOs.nil | exact qY_ok rfl rfl | exact qY_wk rfl rfl rfl rfl rfl | (apply AL_idx ttok; (iterate 6 exact rfl); (first | with_reducible assumption | decide +kernel | exact Int.natCast_nonneg _ | (guard_target = (0:Int) <= (OfNat.ofNat _ : Int); decide) | rotate_left); (first | with_reducible assumption | decide +kernel | exact rfl); (first | exact uniB_ok rfl | with_reducible assumption | decide +kernel | rotate_left)))
   refine Lands.mk' (m := k' - 1) (by simp at hi; omega) ⟨1, 1, itEs [It.mk k1 n1 b1 l1], by simp at hi ⊢; omega, rfl, rfl, rfl, .inr ⟨rfl, rfl⟩⟩ ?_ rfl rfl rfl rfl rfl rfl
   exact .cons rfl (.cons rfl (.cons rfl (.cons rfl (.cons rfl .nil))))
 ·have hU := uniI l
  have hU2 : Uni 4 L := hL ▸ uniI (l.take i)
  have el := itEs_len (l.take i)
  rw [<- hL] at el
  subst hc
  rcases Nat.lt_or_ge i l.length with hlt | hge
  ·have hd : decide ((i : Int) < ((itEs l).length : Int)) = true := decide_eq_true (by omega)
   obtain ⟨⟨k1, n1, b1, l1⟩, hy⟩ : ∃ y, l[i]? = some y := ⟨_, List.getElem?_eq_getElem hlt⟩
   have hv : (itEs l)[((i : Nat) : Int).toNat]? = some (.agg [.int .i64 k1, .int .u64 (n1 : Int), .sl (b1.map E.byte), .sl (itEs l1)]) := by
    rw [Int.toNat_natCast, itEs_map, List.getElem?_map, hy]; rfl
   have hc := ih' _ (List.mem_of_getElem? hy)
   have ei : IntKind.i64.wrap ((i : Int) + 1) = ((i + 1 : Nat) : Int) := by rw [IntWalk.i64_in _ (by omega)]; omega
   have hs : L ++ [E.agg [.int .i64 k1, .int .u64 (n1 : Int), .sl (b1.map E.byte), .sl (itEs l1)]] = itEs (l.take (i + 1)) := by
    rw [hL, List.take_add_one, hy]; exact (itEs_app _ [It.mk k1 n1 b1 l1]).symm
   rw [List.length_take] at el
   repeat' (first | (apply AL_callPw (hc); kernel_rfl; (iterate 4 exact rfl)) | rw [ei] | (apply AL_go ttok; exact rfl) | (apply AW_go ttok; exact rfl) | (apply K_go ttok; exact rfl) | (apply AW_condA; exact rfl; (first | with_reducible assumption | decide +kernel)) | (apply AL_bsZ ttok; (iterate 12 exact rfl)) | (apply AW_drawE 5 hmix; (decide +kernel); (kernel_rfl); (kernel_rfl); (kernel_rfl); exact rfl; exact rfl) | (apply AE_consZ; (iterate 4 exact rfl)) | exact AE.nil _ _ _ _ | (apply AEk_puT; exact rfl) | (apply AOt_mk; exact rfl; exact rfl; (decide +kernel); exact rfl) | (apply AO_puT; exact rfl) | exact AO.nil _ _ _ | (apply AOs_skip; (decide +kernel)) | exact AOs.nil | exact qY_ok rfl rfl | exact qY_wk rfl rfl rfl rfl rfl | (apply AL_append ttok; (iterate 6 exact rfl); (first | with_reducible assumption | decide +kernel | exact rfl | rotate_left); exact rfl; exact rfl; (first | exact uniB_ok rfl | with_reducible assumption | decide +kernel | rotate_left); (first | exact uniB_ok rfl | with_reducible assumption | decide +kernel | rotate_left); (first | exact List.cons_ne_nil _ _ | with_reducible assumption | decide +kernel | rotate_left); (first | with_reducible assumption | decide +kernel | rotate_left); (first | with_reducible assumption | decide +kernel | rotate_left); exact rfl; exact rfl) | (apply AL_idx ttok; (iterate 6 exact rfl); (first | with_reducible assumption | decide +kernel | exact Int.natCast_nonneg _ | (guard_target = (0:Int) <= (OfNat.ofNat _ : Int); decide) | rotate_left); (first | with_reducible assumption | decide +kernel | exact rfl); (first | exact uniB_ok rfl | with_reducible assumption | decide +kernel | rotate_left)))
   ·refine Lands.mk' (m := k' - 1) (by omega) ⟨i + 1, L.length + 1, _, by omega, by rw [List.length_append]; rfl, hs, rfl, .inr ⟨rfl, rfl⟩⟩ ?_ rfl rfl rfl rfl rfl rfl
    exact .cons rfl (.cons rfl (.cons rfl (.cons rfl (.cons rfl .nil))))
   all_goals (first | rfl | (simp only [List.length_append, List.length_cons, List.length_nil, List.length_map, itEs_len]; done) | (simp only [List.length_append, List.length_cons, List.length_nil, List.length_map, itEs_len] at *; (try unfold maxLen); (try simp only [Nat.add_mul]); omega))
  ·have hd : decide ((i : Int) < ((itEs l).length : Int)) = false := decide_eq_false (by omega)
   rw [List.take_of_length_le hge] at hL
   subst hL
   repeat' (first | (apply AW_go ttok; exact rfl) | (apply AW_condB; exact rfl; (first | with_reducible assumption | decide +kernel)))
   all_goals (apply endT [] [0]; (apply resG_ok ttok; exact rfl); (iterate 7 exact rfl))
   all_goals rfl
def z0 : It := .mk 0 0 [] []
def outL (s : Nat) (l : List It) : It := .mk 4 0 [] (l ++ [.mk 2 0 (sumB s (putI (zeroL s l))) []])
def sealV (l : List It) (a : Int) : It × Int := match decide (a < 0) || decide (a ≥ (l.length : Int)) with
 | true => (z0, 1)
 | false => match l.all rightI && decide (typeV l a ≥ 0) with
  | false => (z0, 3)
  | true => match decide (typeV l a > 0) with
   | false => (match rightI (.mk 4 0 [] l) with | true => (.mk 4 0 [] l, 0) | false => (z0, 3))
   | true => (match rightI (zeroL (typeV l a).toNat l) with
    | false => (z0, 3)
    | true => match rightI (outL (typeV l a).toNat l) with
     | false => (z0, 3)
     | true => (outL (typeV l a).toNat l, 0))
abbrev sealD (r : It × Int) : D := .tup [itD r.1, .int .i64 r.2]
theorem typeV_cases (l : List It) (a : Int) : typeV l a = -1 \/ ((typeV l a = 0 \/ typeV l a = 1 \/ typeV l a = 2) /\ 0 <= a /\ a < (l.length : Int)) := by
 unfold typeV
 split
 ·exact .inl rfl
 rename_i h0
 cases h : l[a.toNat]? with
 | none => exact .inl rfl
 | some x =>
  obtain ⟨k, n, b, r⟩ := x
  have hlt := (List.getElem?_eq_some_iff.1 h).1
  dsimp only
  cases t : decide ((n : Int) > 2) with
  | true => exact .inl rfl
  | false =>
   have := of_decide_eq_false t
   cases It.beq (.mk k n b r) (.mk 0 n [] []) with
   | false => exact .inl rfl
   | true => dsimp only; omega
theorem wf_out {s : Nat} {l : List It} (hs : s = 1 \/ s = 2) (hws : wfs l) (hl : l.length <= 1000000) : wfI (outL s l) := by
 refine ⟨by decide, by simp, by simp; omega, wfs_app hws ⟨⟨by decide, ?_, by simp, trivial⟩, trivial⟩⟩
 rw [sumB_len _ _ hs]
 omega
theorem av_seal [Known] [KnownU8] (l : List It) (a : Int) (hws : wfs l) (hl : l.length <= 1000000) (hlim : ∀ s, s = 1 \/ s = 2 -> (putI (zeroL s l)).length <= 1000000000) : AP Tryz.prog 81 [.sl .ext (itEs l), .int .i64 a] (sealD (sealV l a)) [] := by
 have hlen := itEs_len l
 have hU := uniI l
 have hC := av_contF l hws hl
 have hT := av_typeAt l hws a
 unfold sealV
 rw [<- hlen]
 rcases Int.lt_or_le a 0 with h0 | h0
 ·have t1 : decide (a < 0) = true := decide_eq_true h0
  rw [t1, Bool.true_or]
  dsimp only [z0]
  refine AP.ofA ?_
  refine AC_of Tryz.func81 rfl Tryz.ntmps81 rfl rfl ?_
  repeat' (first | (apply AL_go ttok; exact rfl) | (apply AW_go ttok; exact rfl) | (apply K_go ttok; exact rfl) | (apply AL_guardFf; (iterate 3 exact rfl); (first | with_reducible assumption | decide +kernel)) | (apply AL_pickT; exact rfl; (first | with_reducible assumption | decide +kernel); exact rfl; exact rfl) | (apply AW_condA; exact rfl; (first | with_reducible assumption | decide +kernel)))
  all_goals (apply endQ []; (apply resG_ok ttok; exact rfl); (iterate 4 exact rfl))
  all_goals rfl
 have t1 : decide (a < 0) = false := decide_eq_false (by omega)
 rw [t1, Bool.false_or]
 cases t2 : decide (a ≥ ((itEs l).length : Int)) with
 | true =>
  dsimp only [z0]
  refine AP.ofA ?_
  refine AC_of Tryz.func81 rfl Tryz.ntmps81 rfl rfl ?_
  repeat' (first | (apply AL_go ttok; exact rfl) | (apply AW_go ttok; exact rfl) | (apply K_go ttok; exact rfl) | (apply AL_guardT; (iterate 3 exact rfl); (first | with_reducible assumption | decide +kernel)) | (apply AL_pickF; exact rfl; (first | with_reducible assumption | decide +kernel); exact rfl; exact rfl) | (apply AW_condA; exact rfl; (first | with_reducible assumption | decide +kernel)) | (apply AL_len ttok; (iterate 4 exact rfl)))
  all_goals (apply endQ []; (apply resG_ok ttok; exact rfl); (iterate 4 exact rfl))
  all_goals rfl
 | false =>
 have hne : l ≠ [] := by rintro rfl; have := of_decide_eq_false t2; simp [itEs] at this; omega
 cases hA : l.all rightI with
 | false =>
  rw [hA] at hC
  replace hC : AP Tryz.prog 97 _ (.bool true) [] := hC
  rw [Bool.false_and]
  dsimp only [z0]
  generalize typeV l a = tv at *
  refine AP.ofA ?_
  refine AC_of Tryz.func81 rfl Tryz.ntmps81 rfl rfl ?_
  repeat' (first | (apply AL_callPw (hC); kernel_rfl; (iterate 4 exact rfl)) | (apply AL_callPw (hT); kernel_rfl; (iterate 4 exact rfl)) | (apply AL_go ttok; exact rfl) | (apply AW_go ttok; exact rfl) | (apply K_go ttok; exact rfl) | (apply AL_guardT; (iterate 3 exact rfl); (first | with_reducible assumption | decide +kernel)) | (apply AL_guardFf; (iterate 3 exact rfl); (first | with_reducible assumption | decide +kernel)) | (apply AL_pickT; exact rfl; (first | with_reducible assumption | decide +kernel); exact rfl; exact rfl) | (apply AL_pickF; exact rfl; (first | with_reducible assumption | decide +kernel); exact rfl; exact rfl) | (apply AW_condA; exact rfl; (first | with_reducible assumption | decide +kernel)) | (apply AW_condB; exact rfl; (first | with_reducible assumption | decide +kernel)) | (apply AL_len ttok; (iterate 4 exact rfl)))
  all_goals (apply endQ []; (apply resG_ok ttok; exact rfl); (iterate 4 exact rfl))
  all_goals rfl
 | true =>
  rw [hA] at hC
  replace hC : AP Tryz.prog 97 _ (.bool false) [] := hC
  rw [Bool.true_and]
  rcases typeV_cases l a with e | ⟨e | e, _, _⟩
  ·rw [e] at hT ⊢
   dsimp only [z0]
   refine AP.ofA ?_
   refine AC_of Tryz.func81 rfl Tryz.ntmps81 rfl rfl ?_
   repeat' (first | (apply AL_callPw (hC); kernel_rfl; (iterate 4 exact rfl)) | (apply AL_callPw (hT); kernel_rfl; (iterate 4 exact rfl)) | (apply AL_go ttok; exact rfl) | (apply AW_go ttok; exact rfl) | (apply K_go ttok; exact rfl) | (apply AL_guardT; (iterate 3 exact rfl); (first | with_reducible assumption | decide +kernel)) | (apply AL_pickF; exact rfl; (first | with_reducible assumption | decide +kernel); exact rfl; exact rfl) | (apply AW_condA; exact rfl; (first | with_reducible assumption | decide +kernel)) | (apply AW_condB; exact rfl; (first | with_reducible assumption | decide +kernel)) | (apply AL_len ttok; (iterate 4 exact rfl)))
   all_goals (apply endQ []; (apply resG_ok ttok; exact rfl); (iterate 4 exact rfl))
   all_goals rfl
  ·rw [e] at hT ⊢
   have hL := av_list l (by omega) hws
   have hR := av_rightI (.mk 4 0 [] l) ⟨by decide, by simp, by omega, hws⟩
   cases hr : rightI (.mk 4 0 [] l) with
   | false =>
    rw [hr] at hR
    dsimp only [z0]
    refine AP.ofA ?_
    refine AC_of Tryz.func81 rfl Tryz.ntmps81 rfl rfl ?_
    repeat' (first | (apply AL_callPw (hC); kernel_rfl; (iterate 4 exact rfl)) | (apply AL_callPw (hT); kernel_rfl; (iterate 4 exact rfl)) | (apply AL_callPw (hL); kernel_rfl; (iterate 4 exact rfl)) | (apply AL_callPw (hR); kernel_rfl; (iterate 4 exact rfl)) | (apply AL_go ttok; exact rfl) | (apply AW_go ttok; exact rfl) | (apply K_go ttok; exact rfl) | (apply AL_guardT; (iterate 3 exact rfl); (first | with_reducible assumption | decide +kernel)) | (apply AL_pickF; exact rfl; (first | with_reducible assumption | decide +kernel); exact rfl; exact rfl) | (apply AW_condA; exact rfl; (first | with_reducible assumption | decide +kernel)) | (apply AW_condB; exact rfl; (first | with_reducible assumption | decide +kernel)) | (apply AL_len ttok; (iterate 4 exact rfl)))
    all_goals (apply endQ []; (apply resG_ok ttok; exact rfl); (iterate 4 exact rfl))
    all_goals rfl
   | true =>
    rw [hr] at hR
    refine AP.ofA ?_
    refine AC_of Tryz.func81 rfl Tryz.ntmps81 rfl rfl ?_
    repeat' (first | (apply AL_callPw (hC); kernel_rfl; (iterate 4 exact rfl)) | (apply AL_callPw (hT); kernel_rfl; (iterate 4 exact rfl)) | (apply AL_callPw (hL); kernel_rfl; (iterate 4 exact rfl)) | (apply AL_callPw (hR); kernel_rfl; (iterate 4 exact rfl)) | (apply AL_go ttok; exact rfl) | (apply AW_go ttok; exact rfl) | (apply K_go ttok; exact rfl) | (apply AL_guardT; (iterate 3 exact rfl); (first | with_reducible assumption | decide +kernel)) | (apply AL_pickF; exact rfl; (first | with_reducible assumption | decide +kernel); exact rfl; exact rfl) | (apply AW_condB; exact rfl; (first | with_reducible assumption | decide +kernel)) | (apply AL_len ttok; (iterate 4 exact rfl)))
    all_goals (apply endQ []; (apply resG_ok ttok; exact rfl); (iterate 4 exact rfl))
    all_goals rfl
  ·obtain ⟨s, hs, es⟩ : ∃ s : Nat, (s = 1 \/ s = 2) /\ typeV l a = (s : Int) := ⟨(typeV l a).toNat, by omega, by omega⟩
   rw [es] at hT ⊢
   rw [Int.toNat_natCast]
   have hS := av_sumOf l s hs hne hws hl (hlim s hs)
   have hL := av_listT l hne (by omega) hws
   have hsl := sumB_len s (putI (zeroL s l)) hs
   have hB := av_bytes (sumB s (putI (zeroL s l))) (by omega)
   have hR := av_rightI (outL s l) (wf_out hs hws hl)
   have hmx : (itEs l).length <= 1000000 := by omega
   have d1 : decide ((s : Int) < 0) = false := decide_eq_false (by omega)
   have d2 : decide ((s : Int) > 0) = true := decide_eq_true (by omega)
   have d3 : decide ((s : Int) ≥ 0) = true := decide_eq_true (by omega)
   rw [d2, d3]
   cases hz : rightI (zeroL s l) with
   | false =>
    rw [hz] at hS
    dsimp only [z0]
    dsimp only at hS
    refine AP.ofA ?_
    refine AC_of Tryz.func81 rfl Tryz.ntmps81 rfl rfl ?_
    repeat' (first | (apply AL_callPw (hC); kernel_rfl; (iterate 4 exact rfl)) | (apply AL_callPw (hT); kernel_rfl; (iterate 4 exact rfl)) | (apply AL_callT [] [] (hL); kernel_rfl; (iterate 10 exact rfl)) | (apply AL_callPw (hS); kernel_rfl; (iterate 4 exact rfl)) | (apply AL_go ttok; exact rfl) | (apply AW_go ttok; exact rfl) | (apply K_go ttok; exact rfl) | (apply AL_guardT; (iterate 3 exact rfl); (first | with_reducible assumption | decide +kernel)) | (apply AL_pickF; exact rfl; (first | with_reducible assumption | decide +kernel); exact rfl; exact rfl) | (apply AW_condA; exact rfl; (first | with_reducible assumption | decide +kernel)) | (apply AW_condB; exact rfl; (first | with_reducible assumption | decide +kernel)) | (apply AL_len ttok; (iterate 4 exact rfl)))
    all_goals (apply endQ []; (apply resG_ok ttok; exact rfl); (iterate 4 exact rfl))
    all_goals rfl
   | true =>
    rw [hz] at hS
    dsimp only at hS ⊢
    have eO : itD (outL s l) = .agg [.int .i64 4, .int .u64 0, .sl .ext [], .sl .ext (itEs l ++ [.agg [.int .i64 2, .int .u64 0, .sl ((sumB s (putI (zeroL s l))).map E.byte), .sl []]])] := by
     show D.agg [.int .i64 4, .int .u64 0, .sl .ext [], .sl .ext (itEs (l ++ [.mk 2 0 (sumB s (putI (zeroL s l))) []]))] = _
     rw [itEs_app]
     rfl
    cases hr : rightI (outL s l) with
    | false =>
     rw [hr, eO] at hR
     dsimp only [z0]
     generalize sumB s (putI (zeroL s l)) = SB at *
     refine AP.ofA ?_
     refine AC_of Tryz.func81 rfl Tryz.ntmps81 rfl rfl ?_
     repeat' (first | (apply AL_callPw (hC); kernel_rfl; (iterate 4 exact rfl)) | (apply AL_callPw (hT); kernel_rfl; (iterate 4 exact rfl)) | (apply AL_callT [] [] (hL); kernel_rfl; (iterate 10 exact rfl)) | (apply AL_callPw (hS); kernel_rfl; (iterate 4 exact rfl)) | (apply AL_callPw (hB); kernel_rfl; (iterate 4 exact rfl)) | (apply AL_callPw (hR); kernel_rfl; (iterate 4 exact rfl)) | (apply AL_go ttok; exact rfl) | (apply AW_go ttok; exact rfl) | (apply K_go ttok; exact rfl) | (apply AL_guardT; (iterate 3 exact rfl); (first | with_reducible assumption | decide +kernel)) | (apply AL_pickF; exact rfl; (first | with_reducible assumption | decide +kernel); exact rfl; exact rfl) | (apply AW_condA; exact rfl; (first | with_reducible assumption | decide +kernel)) | (apply AW_condB; exact rfl; (first | with_reducible assumption | decide +kernel)) | (apply AL_len ttok; (iterate 4 exact rfl)) | (apply AL_bsZ ttok; (iterate 12 exact rfl)) | (apply AW_drawE 5 hmix; (decide +kernel); (kernel_rfl); (kernel_rfl); (kernel_rfl); exact rfl; exact rfl) | (apply AE_consZ; (iterate 4 exact rfl)) | exact AE.nil _ _ _ _ | (apply AEk_puT; exact rfl) | (apply AOt_mk; exact rfl; exact rfl; (decide +kernel); exact rfl) | (apply AO_puT; exact rfl) | exact AO.nil _ _ _ | (apply AOs_skip; (decide +kernel)) | exact AOs.nil | exact qY_ok rfl rfl | exact qY_wk rfl rfl rfl rfl rfl | (apply AL_append ttok; (iterate 6 exact rfl); (first | with_reducible assumption | decide +kernel | exact rfl | rotate_left); exact rfl; exact rfl; (first | exact uniB_ok rfl | with_reducible assumption | decide +kernel | rotate_left); (first | exact uniB_ok rfl | with_reducible assumption | decide +kernel | rotate_left); (first | exact List.cons_ne_nil _ _ | with_reducible assumption | decide +kernel | rotate_left); (first | with_reducible assumption | decide +kernel | rotate_left); (first | with_reducible assumption | decide +kernel | rotate_left); exact rfl; exact rfl))
     all_goals first | ((apply endQ []; (apply resG_ok ttok; exact rfl); (iterate 4 exact rfl))) | skip
     all_goals first | rfl | (first | rfl | (simp only [List.length_append, List.length_cons, List.length_nil, List.length_map, itEs_len]; done) | (simp only [List.length_append, List.length_cons, List.length_nil, List.length_map, itEs_len] at *; (try unfold maxLen); (try simp only [Nat.add_mul]); omega)) | (simp; done) | (simp; omega) | (simp; unfold maxLen; omega)
    | true =>
     rw [hr, eO] at hR
     dsimp only [sealD]
     rw [eO]
     generalize sumB s (putI (zeroL s l)) = SB at *
     refine AP.ofA ?_
     refine AC_of Tryz.func81 rfl Tryz.ntmps81 rfl rfl ?_
     repeat' (first | (apply AL_callPw (hC); kernel_rfl; (iterate 4 exact rfl)) | (apply AL_callPw (hT); kernel_rfl; (iterate 4 exact rfl)) | (apply AL_callT [] [] (hL); kernel_rfl; (iterate 10 exact rfl)) | (apply AL_callPw (hS); kernel_rfl; (iterate 4 exact rfl)) | (apply AL_callPw (hB); kernel_rfl; (iterate 4 exact rfl)) | (apply AL_callPw (hR); kernel_rfl; (iterate 4 exact rfl)) | (apply AL_go ttok; exact rfl) | (apply AW_go ttok; exact rfl) | (apply K_go ttok; exact rfl) | (apply AL_guardT; (iterate 3 exact rfl); (first | with_reducible assumption | decide +kernel)) | (apply AL_pickF; exact rfl; (first | with_reducible assumption | decide +kernel); exact rfl; exact rfl) | (apply AW_condA; exact rfl; (first | with_reducible assumption | decide +kernel)) | (apply AW_condB; exact rfl; (first | with_reducible assumption | decide +kernel)) | (apply AL_len ttok; (iterate 4 exact rfl)) | (apply AL_bsZ ttok; (iterate 12 exact rfl)) | (apply AW_drawE 5 hmix; (decide +kernel); (kernel_rfl); (kernel_rfl); (kernel_rfl); exact rfl; exact rfl) | (apply AE_consZ; (iterate 4 exact rfl)) | exact AE.nil _ _ _ _ | (apply AEk_puT; exact rfl) | (apply AOt_mk; exact rfl; exact rfl; (decide +kernel); exact rfl) | (apply AO_puT; exact rfl) | exact AO.nil _ _ _ | (apply AOs_skip; (decide +kernel)) | exact AOs.nil | exact qY_ok rfl rfl | exact qY_wk rfl rfl rfl rfl rfl | (apply AL_append ttok; (iterate 6 exact rfl); (first | with_reducible assumption | decide +kernel | exact rfl | rotate_left); exact rfl; exact rfl; (first | exact uniB_ok rfl | with_reducible assumption | decide +kernel | rotate_left); (first | exact uniB_ok rfl | with_reducible assumption | decide +kernel | rotate_left); (first | exact List.cons_ne_nil _ _ | with_reducible assumption | decide +kernel | rotate_left); (first | with_reducible assumption | decide +kernel | rotate_left); (first | with_reducible assumption | decide +kernel | rotate_left); exact rfl; exact rfl))
     all_goals first | ((apply endQ []; (apply resG_ok ttok; exact rfl); (iterate 4 exact rfl))) | skip
     all_goals first | rfl | (first | rfl | (simp only [List.length_append, List.length_cons, List.length_nil, List.length_map, itEs_len]; done) | (simp only [List.length_append, List.length_cons, List.length_nil, List.length_map, itEs_len] at *; (try unfold maxLen); (try simp only [Nat.add_mul]); omega)) | (simp; done) | (simp; omega) | (simp; unfold maxLen; omega)
end Go.Proofs.YtpodhnaofhfinaaGreatDoor
end
section
open Go.RowKit Go.Pl Go.Av
namespace Go.Proofs.YtpodhnaofhfinaaGreatDoor
set_option maxHeartbeats 4000000
def openV (x : It) (a : Int) : List It × Int := match x with
 | .mk k n b l => match rightI (.mk k n b l) && (k == 4) with
  | false => ([], 3)
  | true => match decide (typeV l a < 0) with
   | true => ([], 3)
   | false => match typeV l a == 0 with
    | true => (l, 0)
    | false => match l[l.length - 1]? with
     | none => ([], 3)
     | some (.mk k1 n1 b1 l1) => match decide (((l.length - 1 : Nat) : Int) <= a) || (!(It.beq (.mk k1 n1 b1 l1) (.mk 2 0 b1 [])) || ((b1.length : Int) != ((2 * (typeV l a).toNat : Nat) : Int))) with
      | true => ([], 3)
      | false => match rightI (zeroL (typeV l a).toNat (l.take (l.length - 1))) with
       | false => ([], 3)
       | true => match sumB (typeV l a).toNat (putI (zeroL (typeV l a).toNat (l.take (l.length - 1)))) == b1 with
        | false => ([], 10)
        | true => (l.take (l.length - 1), 0)
abbrev openD (r : List It × Int) : D := .tup [.sl .ext (itEs r.1), .int .i64 r.2]
theorem wfs_take : ∀ {l : List It} (m : Nat), wfs l -> wfs (l.take m)
 | _, 0, _ => trivial
 | [], m + 1, h => h
 | x :: l, m + 1, h => ⟨h.1, wfs_take m h.2⟩
theorem av_open [Known] [KnownU8] (x : It) (a : Int) (hw : wfI x) (hxl : x.l.length <= 1000000) (hlim : ∀ s m, s = 1 \/ s = 2 -> (putI (zeroL s (x.l.take m))).length <= 1000000000) : AP Tryz.prog 68 [itD x, .int .i64 a] (openD (openV x a)) [] := by
 have hR := av_rightI x hw
 obtain ⟨k, n, b, l⟩ := x
 have hws : wfs l := hw.2.2.2
 have hlen := itEs_len l
 have hU := uniI l
 dsimp only [It.l] at hxl hlim
 have hT := av_typeAt l hws a
 unfold openV
 dsimp only
 cases hr : rightI (.mk k n b l) with
 | false =>
  rw [hr] at hR
  rw [Bool.false_and]
  refine AP.ofA ?_
  refine AC_of Tryz.func68 rfl Tryz.ntmps68 rfl rfl ?_
  repeat' (first | (apply AL_callPw (hR); kernel_rfl; (iterate 4 exact rfl)) | (apply AL_go ttok; exact rfl) | (apply AW_go ttok; exact rfl) | (apply K_go ttok; exact rfl) | (apply AL_guardFf; (iterate 3 exact rfl); (first | with_reducible assumption | decide +kernel)) | (apply AL_pickT; exact rfl; (first | with_reducible assumption | decide +kernel); exact rfl; exact rfl) | (apply AW_condA; exact rfl; (first | with_reducible assumption | decide +kernel)))
  all_goals (apply endQ []; (apply resG_ok ttok; exact rfl); (iterate 4 exact rfl))
  all_goals rfl
 | true =>
 rw [hr] at hR
 rw [Bool.true_and]
 cases tk : (k == 4) with
 | false =>
  have tk2 : (k != 4) = true := by rw [bne, tk]; rfl
  refine AP.ofA ?_
  refine AC_of Tryz.func68 rfl Tryz.ntmps68 rfl rfl ?_
  repeat' (first | (apply AL_callPw (hR); kernel_rfl; (iterate 4 exact rfl)) | (apply AL_go ttok; exact rfl) | (apply AW_go ttok; exact rfl) | (apply K_go ttok; exact rfl) | (apply AL_guardT; (iterate 3 exact rfl); (first | with_reducible assumption | decide +kernel)) | (apply AL_pickF; exact rfl; (first | with_reducible assumption | decide +kernel); exact rfl; exact rfl) | (apply AW_condA; exact rfl; (first | with_reducible assumption | decide +kernel)))
  all_goals (apply endQ []; (apply resG_ok ttok; exact rfl); (iterate 4 exact rfl))
  all_goals rfl
 | true =>
 have tk2 : (k != 4) = false := by rw [bne, tk]; rfl
 rcases typeV_cases l a with e | ⟨e | e, h0, h1⟩
 ·rw [e] at hT ⊢
  refine AP.ofA ?_
  refine AC_of Tryz.func68 rfl Tryz.ntmps68 rfl rfl ?_
  repeat' (first | (apply AL_callPw (hR); kernel_rfl; (iterate 4 exact rfl)) | (apply AL_callPw (hT); kernel_rfl; (iterate 4 exact rfl)) | (apply AL_go ttok; exact rfl) | (apply AW_go ttok; exact rfl) | (apply K_go ttok; exact rfl) | (apply AL_guardT; (iterate 3 exact rfl); (first | with_reducible assumption | decide +kernel)) | (apply AL_pickF; exact rfl; (first | with_reducible assumption | decide +kernel); exact rfl; exact rfl) | (apply AW_condA; exact rfl; (first | with_reducible assumption | decide +kernel)) | (apply AW_condB; exact rfl; (first | with_reducible assumption | decide +kernel)))
  all_goals (apply endQ []; (apply resG_ok ttok; exact rfl); (iterate 4 exact rfl))
  all_goals rfl
 ·rw [e] at hT ⊢
  have hL := av_list l (by omega) hws
  replace hL : AP Tryz.prog 47 [.sl .ext (itEs l)] (.agg [.int .i64 4, .int .u64 0, .sl .ext [], .sl .ext (itEs l)]) [] := hL
  refine AP.ofA ?_
  refine AC_of Tryz.func68 rfl Tryz.ntmps68 rfl rfl ?_
  repeat' (first | (apply AL_callPw (hR); kernel_rfl; (iterate 4 exact rfl)) | (apply AL_callPw (hT); kernel_rfl; (iterate 4 exact rfl)) | (apply AL_callPw (hL); kernel_rfl; (iterate 4 exact rfl)) | (apply AL_go ttok; exact rfl) | (apply AW_go ttok; exact rfl) | (apply K_go ttok; exact rfl) | (apply AL_guardT; (iterate 3 exact rfl); (first | with_reducible assumption | decide +kernel)) | (apply AL_pickF; exact rfl; (first | with_reducible assumption | decide +kernel); exact rfl; exact rfl) | (apply AW_condA; exact rfl; (first | with_reducible assumption | decide +kernel)) | (apply AW_condB; exact rfl; (first | with_reducible assumption | decide +kernel)))
  all_goals (apply endQ []; (apply resG_ok ttok; exact rfl); (iterate 4 exact rfl))
  all_goals rfl
 ·obtain ⟨s, hs, es⟩ : ∃ s : Nat, (s = 1 \/ s = 2) /\ typeV l a = (s : Int) := ⟨(typeV l a).toNat, by omega, by omega⟩
  rw [es] at hT ⊢
  rw [Int.toNat_natCast]
  have d1 : decide ((s : Int) < 0) = false := decide_eq_false (by omega)
  have d2 : ((s : Int) == 0) = false := by rw [beq_eq_false_iff_ne]; omega
  rw [d1, d2]
  dsimp only
  obtain ⟨m, hm⟩ : ∃ m, m = l.length - 1 := ⟨_, rfl⟩
  have em : IntKind.i64.wrap (((itEs l).length : Int) - 1) = (m : Int) := by rw [IntWalk.i64_in _ (by omega)]; omega
  rw [<- hm]
  obtain ⟨⟨k1, n1, b1, l1⟩, hy⟩ : ∃ y, l[m]? = some y := ⟨_, List.getElem?_eq_getElem (by omega)⟩
  have hv : (itEs l)[((m : Nat) : Int).toNat]? = some (.agg [.int .i64 k1, .int .u64 (n1 : Int), .sl (b1.map E.byte), .sl (itEs l1)]) := by
   rw [Int.toNat_natCast, itEs_map, List.getElem?_map, hy]; rfl
  rw [hy]
  dsimp only
  have hw1 := wfs_mem hws _ (List.mem_of_getElem? hy)
  have hbl : (b1.map E.byte).length = b1.length := List.length_map ..
  have hB := av_bytes b1 (by have := hw1.2.1; omega)
  have hS := av_same (.mk k1 n1 b1 l1) hw1 (.mk 2 0 b1 []) ⟨by decide, by have := hw1.2.1; omega, by simp, trivial⟩
  have hZ := av_sumSize s hs
  rw [<- hbl]
  cases t1 : decide ((m : Int) <= a) with
  | true =>
   rw [Bool.true_or]
   refine AP.ofA ?_
   refine AC_of Tryz.func68 rfl Tryz.ntmps68 rfl rfl ?_
   repeat' (first | (apply AL_callPw (hR); kernel_rfl; (iterate 4 exact rfl)) | (apply AL_callPw (hT); kernel_rfl; (iterate 4 exact rfl)) | rw [em] | (apply AL_go ttok; exact rfl) | (apply AW_go ttok; exact rfl) | (apply K_go ttok; exact rfl) | (apply AL_guardT; (iterate 3 exact rfl); (first | with_reducible assumption | decide +kernel)) | (apply AL_guardFf; (iterate 3 exact rfl); (first | with_reducible assumption | decide +kernel)) | (apply AL_pickT; exact rfl; (first | with_reducible assumption | decide +kernel); exact rfl; exact rfl) | (apply AL_pickF; exact rfl; (first | with_reducible assumption | decide +kernel); exact rfl; exact rfl) | (apply AW_condA; exact rfl; (first | with_reducible assumption | decide +kernel)) | (apply AW_condB; exact rfl; (first | with_reducible assumption | decide +kernel)) | (apply AL_len ttok; (iterate 4 exact rfl)) | (apply AW_drawE 17 hmix; (decide +kernel); (kernel_rfl); (kernel_rfl); (kernel_rfl); exact rfl; exact rfl) | (apply AE_consZ; (iterate 4 exact rfl)) | exact AE.nil _ _ _ _ | (apply AEk_puT; exact rfl) | (apply AOt_mk; exact rfl; exact rfl; (decide +kernel); exact rfl) | (apply AO_puT; exact rfl) | exact AO.nil _ _ _ | (apply AOs_skip; (decide +kernel)) | exact AOs.nil | exact qY_ok rfl rfl | (apply AL_idx ttok; (iterate 6 exact rfl); (first | with_reducible assumption | decide +kernel | exact Int.natCast_nonneg _ | (guard_target = (0:Int) <= (OfNat.ofNat _ : Int); decide) | rotate_left); (first | with_reducible assumption | decide +kernel | exact rfl); (first | exact uniB_ok rfl | with_reducible assumption | decide +kernel | rotate_left)))
   all_goals (apply endQ []; (apply resG_ok ttok; exact rfl); (iterate 4 exact rfl))
   all_goals rfl
  | false =>
  rw [Bool.false_or]
  cases t2 : It.beq (.mk k1 n1 b1 l1) (.mk 2 0 b1 []) with
  | false =>
   rw [t2] at hS
   rw [Bool.not_false, Bool.true_or]
   refine AP.ofA ?_
   refine AC_of Tryz.func68 rfl Tryz.ntmps68 rfl rfl ?_
   repeat' (first | (apply AL_callPw (hR); kernel_rfl; (iterate 4 exact rfl)) | (apply AL_callPw (hT); kernel_rfl; (iterate 4 exact rfl)) | rw [em] | (apply AL_callPw (hB); kernel_rfl; (iterate 4 exact rfl)) | (apply AL_callPw (hS); kernel_rfl; (iterate 4 exact rfl)) | (apply AL_go ttok; exact rfl) | (apply AW_go ttok; exact rfl) | (apply K_go ttok; exact rfl) | (apply AL_guardT; (iterate 3 exact rfl); (first | with_reducible assumption | decide +kernel)) | (apply AL_guardFf; (iterate 3 exact rfl); (first | with_reducible assumption | decide +kernel)) | (apply AL_pickT; exact rfl; (first | with_reducible assumption | decide +kernel); exact rfl; exact rfl) | (apply AL_pickF; exact rfl; (first | with_reducible assumption | decide +kernel); exact rfl; exact rfl) | (apply AW_condA; exact rfl; (first | with_reducible assumption | decide +kernel)) | (apply AW_condB; exact rfl; (first | with_reducible assumption | decide +kernel)) | (apply AL_len ttok; (iterate 4 exact rfl)) | (apply AW_drawE 17 hmix; (decide +kernel); (kernel_rfl); (kernel_rfl); (kernel_rfl); exact rfl; exact rfl) | (apply AE_consZ; (iterate 4 exact rfl)) | exact AE.nil _ _ _ _ | (apply AEk_puT; exact rfl) | (apply AOt_mk; exact rfl; exact rfl; (decide +kernel); exact rfl) | (apply AO_puT; exact rfl) | exact AO.nil _ _ _ | (apply AOs_skip; (decide +kernel)) | exact AOs.nil | exact qY_ok rfl rfl | (apply AL_idx ttok; (iterate 6 exact rfl); (first | with_reducible assumption | decide +kernel | exact Int.natCast_nonneg _ | (guard_target = (0:Int) <= (OfNat.ofNat _ : Int); decide) | rotate_left); (first | with_reducible assumption | decide +kernel | exact rfl); (first | exact uniB_ok rfl | with_reducible assumption | decide +kernel | rotate_left)))
   all_goals (apply endQ []; (apply resG_ok ttok; exact rfl); (iterate 4 exact rfl))
   all_goals rfl
  | true =>
  rw [t2] at hS
  rw [Bool.not_true, Bool.false_or]
  cases t3 : (((b1.map E.byte).length : Int) != ((2 * s : Nat) : Int)) with
  | true =>
   refine AP.ofA ?_
   refine AC_of Tryz.func68 rfl Tryz.ntmps68 rfl rfl ?_
   repeat' (first | (apply AL_callPw (hR); kernel_rfl; (iterate 4 exact rfl)) | (apply AL_callPw (hT); kernel_rfl; (iterate 4 exact rfl)) | rw [em] | (apply AL_callPw (hB); kernel_rfl; (iterate 4 exact rfl)) | (apply AL_callPw (hS); kernel_rfl; (iterate 4 exact rfl)) | (apply AL_callPw (hZ); kernel_rfl; (iterate 4 exact rfl)) | (apply AL_go ttok; exact rfl) | (apply AW_go ttok; exact rfl) | (apply K_go ttok; exact rfl) | (apply AL_guardT; (iterate 3 exact rfl); (first | with_reducible assumption | decide +kernel)) | (apply AL_pickF; exact rfl; (first | with_reducible assumption | decide +kernel); exact rfl; exact rfl) | (apply AW_condA; exact rfl; (first | with_reducible assumption | decide +kernel)) | (apply AW_condB; exact rfl; (first | with_reducible assumption | decide +kernel)) | (apply AL_len ttok; (iterate 4 exact rfl)) | (apply AW_drawE 17 hmix; (decide +kernel); (kernel_rfl); (kernel_rfl); (kernel_rfl); exact rfl; exact rfl) | (apply AE_consZ; (iterate 4 exact rfl)) | exact AE.nil _ _ _ _ | (apply AEk_puT; exact rfl) | (apply AOt_mk; exact rfl; exact rfl; (decide +kernel); exact rfl) | (apply AO_puT; exact rfl) | exact AO.nil _ _ _ | (apply AOs_skip; (decide +kernel)) | exact AOs.nil | exact qY_ok rfl rfl | (apply AL_idx ttok; (iterate 6 exact rfl); (first | with_reducible assumption | decide +kernel | exact Int.natCast_nonneg _ | (guard_target = (0:Int) <= (OfNat.ofNat _ : Int); decide) | rotate_left); (first | with_reducible assumption | decide +kernel | exact rfl); (first | exact uniB_ok rfl | with_reducible assumption | decide +kernel | rotate_left)))
   all_goals (apply endQ []; (apply resG_ok ttok; exact rfl); (iterate 4 exact rfl))
   all_goals rfl
  | false =>
  dsimp only
  have hne : l.take m ≠ [] := by
   intro h
   have h9 := congrArg List.length h
   rw [List.length_take, List.length_nil] at h9
   have := of_decide_eq_false t1
   omega
  have htl : (l.take m).length <= 1000000 := by rw [List.length_take]; omega
  have hSu := av_sumOf (l.take m) s hs hne (wfs_take m hws) htl (hlim s m hs)
  have eT : itEs (l.take m) = (itEs l).take m := by rw [itEs_map, itEs_map, List.map_take]
  have hmle : ((m : Nat) : Int).toNat <= (itEs l).length := by rw [Int.toNat_natCast]; omega
  rw [eT] at hSu
  cases hz : rightI (zeroL s (l.take m)) with
  | false =>
   rw [hz] at hSu
   dsimp only at hSu
   refine AP.ofA ?_
   refine AC_of Tryz.func68 rfl Tryz.ntmps68 rfl rfl ?_
   repeat' (first | (apply AL_callPw (hR); kernel_rfl; (iterate 4 exact rfl)) | (apply AL_callPw (hT); kernel_rfl; (iterate 4 exact rfl)) | rw [em] | (apply AL_callPw (hB); kernel_rfl; (iterate 4 exact rfl)) | (apply AL_callPw (hS); kernel_rfl; (iterate 4 exact rfl)) | (apply AL_callPw (hZ); kernel_rfl; (iterate 4 exact rfl)) | (apply AL_callPw (hSu); kernel_rfl; (iterate 4 exact rfl)) | (apply AL_uptoE ttok; (iterate 6 exact rfl); exact hU; exact Int.natCast_nonneg _; exact hmle; exact rfl) | (apply AL_go ttok; exact rfl) | (apply AW_go ttok; exact rfl) | (apply K_go ttok; exact rfl) | (apply AL_guardT; (iterate 3 exact rfl); (first | with_reducible assumption | decide +kernel)) | (apply AL_pickF; exact rfl; (first | with_reducible assumption | decide +kernel); exact rfl; exact rfl) | (apply AW_condA; exact rfl; (first | with_reducible assumption | decide +kernel)) | (apply AW_condB; exact rfl; (first | with_reducible assumption | decide +kernel)) | (apply AL_len ttok; (iterate 4 exact rfl)) | (apply AW_drawE 17 hmix; (decide +kernel); (kernel_rfl); (kernel_rfl); (kernel_rfl); exact rfl; exact rfl) | (apply AE_consZ; (iterate 4 exact rfl)) | exact AE.nil _ _ _ _ | (apply AEk_puT; exact rfl) | (apply AOt_mk; exact rfl; exact rfl; (decide +kernel); exact rfl) | (apply AO_puT; exact rfl) | exact AO.nil _ _ _ | (apply AOs_skip; (decide +kernel)) | exact AOs.nil | exact qY_ok rfl rfl | (apply AL_idx ttok; (iterate 6 exact rfl); (first | with_reducible assumption | decide +kernel | exact Int.natCast_nonneg _ | (guard_target = (0:Int) <= (OfNat.ofNat _ : Int); decide) | rotate_left); (first | with_reducible assumption | decide +kernel | exact rfl); (first | exact uniB_ok rfl | with_reducible assumption | decide +kernel | rotate_left)))
   all_goals (apply endQ []; (apply resG_ok ttok; exact rfl); (iterate 4 exact rfl))
   all_goals rfl
  | true =>
  rw [hz] at hSu
  dsimp only at hSu ⊢
  generalize sumB s (putI (zeroL s (l.take m))) = SB at *
  have hE := av_bEq SB b1
  cases t4 : (SB == b1) with
  | false =>
   rw [t4] at hE
   refine AP.ofA ?_
   refine AC_of Tryz.func68 rfl Tryz.ntmps68 rfl rfl ?_
   repeat' (first | (apply AL_callPw (hR); kernel_rfl; (iterate 4 exact rfl)) | (apply AL_callPw (hT); kernel_rfl; (iterate 4 exact rfl)) | rw [em] | (apply AL_callPw (hB); kernel_rfl; (iterate 4 exact rfl)) | (apply AL_callPw (hS); kernel_rfl; (iterate 4 exact rfl)) | (apply AL_callPw (hZ); kernel_rfl; (iterate 4 exact rfl)) | (apply AL_callPw (hSu); kernel_rfl; (iterate 4 exact rfl)) | (apply AL_callPw (hE); kernel_rfl; (iterate 4 exact rfl)) | (apply AL_uptoE ttok; (iterate 6 exact rfl); exact hU; exact Int.natCast_nonneg _; exact hmle; exact rfl) | (apply AL_go ttok; exact rfl) | (apply AW_go ttok; exact rfl) | (apply K_go ttok; exact rfl) | (apply AL_guardT; (iterate 3 exact rfl); (first | with_reducible assumption | decide +kernel)) | (apply AL_pickF; exact rfl; (first | with_reducible assumption | decide +kernel); exact rfl; exact rfl) | (apply AW_condA; exact rfl; (first | with_reducible assumption | decide +kernel)) | (apply AW_condB; exact rfl; (first | with_reducible assumption | decide +kernel)) | (apply AL_len ttok; (iterate 4 exact rfl)) | (apply AW_drawE 17 hmix; (decide +kernel); (kernel_rfl); (kernel_rfl); (kernel_rfl); exact rfl; exact rfl) | (apply AE_consZ; (iterate 4 exact rfl)) | exact AE.nil _ _ _ _ | (apply AEk_puT; exact rfl) | (apply AOt_mk; exact rfl; exact rfl; (decide +kernel); exact rfl) | (apply AO_puT; exact rfl) | exact AO.nil _ _ _ | (apply AOs_skip; (decide +kernel)) | exact AOs.nil | exact qY_ok rfl rfl | (apply AL_idx ttok; (iterate 6 exact rfl); (first | with_reducible assumption | decide +kernel | exact Int.natCast_nonneg _ | (guard_target = (0:Int) <= (OfNat.ofNat _ : Int); decide) | rotate_left); (first | with_reducible assumption | decide +kernel | exact rfl); (first | exact uniB_ok rfl | with_reducible assumption | decide +kernel | rotate_left)))
   all_goals (apply endQ []; (apply resG_ok ttok; exact rfl); (iterate 4 exact rfl))
   all_goals rfl
  | true =>
   rw [t4] at hE
   have hL := av_list (l.take m) (by omega) (wfs_take m hws)
   rw [eT] at hL
   replace hL : AP Tryz.prog 47 [.sl .ext ((itEs l).take m)] (.agg [.int .i64 4, .int .u64 0, .sl .ext [], .sl .ext (itEs (l.take m))]) [] := hL
   refine AP.ofA ?_
   refine AC_of Tryz.func68 rfl Tryz.ntmps68 rfl rfl ?_
   repeat' (first | (apply AL_callPw (hR); kernel_rfl; (iterate 4 exact rfl)) | (apply AL_callPw (hT); kernel_rfl; (iterate 4 exact rfl)) | rw [em] | (apply AL_callPw (hB); kernel_rfl; (iterate 4 exact rfl)) | (apply AL_callPw (hS); kernel_rfl; (iterate 4 exact rfl)) | (apply AL_callPw (hZ); kernel_rfl; (iterate 4 exact rfl)) | (apply AL_callPw (hSu); kernel_rfl; (iterate 4 exact rfl)) | (apply AL_callPw (hE); kernel_rfl; (iterate 4 exact rfl)) | (apply AL_callPw (hL); kernel_rfl; (iterate 4 exact rfl)) | (apply AL_uptoE ttok; (iterate 6 exact rfl); exact hU; exact Int.natCast_nonneg _; exact hmle; exact rfl) | (apply AL_go ttok; exact rfl) | (apply AW_go ttok; exact rfl) | (apply K_go ttok; exact rfl) | (apply AL_guardT; (iterate 3 exact rfl); (first | with_reducible assumption | decide +kernel)) | (apply AL_pickF; exact rfl; (first | with_reducible assumption | decide +kernel); exact rfl; exact rfl) | (apply AW_condB; exact rfl; (first | with_reducible assumption | decide +kernel)) | (apply AL_len ttok; (iterate 4 exact rfl)) | (apply AW_drawE 17 hmix; (decide +kernel); (kernel_rfl); (kernel_rfl); (kernel_rfl); exact rfl; exact rfl) | (apply AE_consZ; (iterate 4 exact rfl)) | exact AE.nil _ _ _ _ | (apply AEk_puT; exact rfl) | (apply AOt_mk; exact rfl; exact rfl; (decide +kernel); exact rfl) | (apply AO_puT; exact rfl) | exact AO.nil _ _ _ | (apply AOs_skip; (decide +kernel)) | exact AOs.nil | exact qY_ok rfl rfl | (apply AL_idx ttok; (iterate 6 exact rfl); (first | with_reducible assumption | decide +kernel | exact Int.natCast_nonneg _ | (guard_target = (0:Int) <= (OfNat.ofNat _ : Int); decide) | rotate_left); (first | with_reducible assumption | decide +kernel | exact rfl); (first | exact uniB_ok rfl | with_reducible assumption | decide +kernel | rotate_left)))
   all_goals (apply endQ []; (apply resG_ok ttok; exact rfl); (iterate 4 exact rfl))
   all_goals rfl
end Go.Proofs.YtpodhnaofhfinaaGreatDoor
end
