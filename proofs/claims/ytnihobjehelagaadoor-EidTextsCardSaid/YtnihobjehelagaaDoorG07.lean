/- Items that are too much for a statement. -/
import Derived.Test.YtnihobjehelagaaDoorG06
import Derived.Test.YtnihobjehelagaaDoorG04
import Derived.Test.YtnihobjehelagaaDoorG01
import Derived.Test.YtnihobjehelagaaDoorG02
import Derived.Test.YtnihobjehelagaaDoorProg
import Derived.Lib.LaidU8
section
open Go.RowKit Go.Pl Go.Av
namespace Go.Proofs.YtnihobjehelagaaDoor
set_option linter.unusedVariables false
set_option linter.unusedSimpArgs false
set_option maxHeartbeats 4000000
mutual
/-- how many items more there may be; below 0: there are too many -/
def greatI : It → Nat → Int → Int
  | .mk k n b l, d, m => if 9 < d then -1 else if 3000 < b.length then -1 else greats l (d + 1) (m - 1)
def greats : List It → Nat → Int → Int
  | [], _, m => m
  | x :: l, d, m => if m < 0 then m else greats l d (greatI x d m)
end
mutual
theorem greatI_lt : ∀ (x : It) (d : Nat) (m : Int), 0 ≤ m → greatI x d m < m ∧ -1 ≤ greatI x d m
  | .mk k n b l, d, m, h => by
    rw [greatI]
    split
    · omega
    · split
      · omega
      · have := greats_le l (d + 1) (m - 1) (by omega); omega
theorem greats_le : ∀ (l : List It) (d : Nat) (m : Int), -1 ≤ m → greats l d m ≤ m ∧ -1 ≤ greats l d m
  | [], _, m, h => by rw [greats]; omega
  | x :: l, d, m, h => by
    rw [greats]
    split
    · omega
    · have h1 := greatI_lt x d m (by omega)
      have h2 := greats_le l d (greatI x d m) (by omega)
      omega
end
mutual
def nI : It → Prop
  | .mk _ n _ l => n < 18446744073709551616 ∧ nIs l
def nIs : List It → Prop
  | [] => True
  | x :: l => nI x ∧ nIs l
end
mutual
def deepI : It → Nat → Bool
  | .mk _ _ _ l, d => match d with
    | 0 => false
    | d + 1 => deeps l d
def deeps : List It → Nat → Bool
  | [], _ => true
  | x :: l, d => deepI x d && deeps l d
end
mutual
theorem small_wf : ∀ (x : It) (d : Nat) (m : Int), m ≤ 400 → 0 ≤ greatI x d m → nI x → wfI x ∧ (putI x).length ≤ 3009 * (m - greatI x d m) ∧ m - greatI x d m ≥ 1 ∧ deepI x (10 - d) = true
  | .mk k n b l, d, m, hm, h, hn => by
    rw [greatI] at h ⊢
    split at h
    · omega
    split at h
    · omega
    rename_i h1 h2
    rw [if_neg h1, if_neg h2]
    obtain ⟨q1, q2, q3, q4⟩ := smalls_wf l (d + 1) (m - 1) (by omega) h hn.2
    refine ⟨⟨hn.1, by omega, by omega, q1⟩, ?_, by omega, ?_⟩
    · rw [putI]
      have hw : (if rightB (k, (It.mk k n b l).hn, false) then writeL (k, (It.mk k n b l).hn, false) else []).length ≤ 9 := by
        split
        · rename_i hr; rw [writeL_length _ hr]; exact sizeN_le _
        · exact Nat.zero_le _
      rw [List.length_append, List.length_append]
      omega
    · obtain ⟨e, he⟩ : ∃ e, 10 - d = e + 1 := ⟨9 - d, by omega⟩
      rw [he, deepI]
      rw [show 10 - (d + 1) = e by omega] at q4
      exact q4
theorem smalls_wf : ∀ (l : List It) (d : Nat) (m : Int), m ≤ 400 → 0 ≤ greats l d m → nIs l → wfs l ∧ (puts l).length ≤ 3009 * (m - greats l d m) ∧ m - greats l d m ≥ l.length ∧ deeps l (10 - d) = true
  | [], _, m, _, h, hn => by simp [wfs, puts, greats, deeps]
  | x :: l, d, m, hm, h, hn => by
    rw [greats] at h ⊢
    split at h
    · omega
    rename_i h1
    rw [if_neg h1]
    have h0 : 0 ≤ greatI x d m := by
      rcases Int.lt_or_le (greatI x d m) 0 with hlt | hge
      · have := greats_le l d (greatI x d m) (by have := greatI_lt x d m (by omega); omega); omega
      · exact hge
    obtain ⟨q1, q2, q3, q4⟩ := small_wf x d m hm h0 hn.1
    obtain ⟨r1, r2, r3, r4⟩ := smalls_wf l d _ (by have := greatI_lt x d m (by omega); omega) h hn.2
    refine ⟨⟨q1, r1⟩, ?_, ?_, ?_⟩
    · rw [puts, List.length_append]; omega
    · rw [List.length_cons]; omega
    · rw [deeps, q4, r4]; rfl
end
theorem av_great [Known] : ∀ (x : It) (d : Nat) (m : Int), d ≤ 10 → 0 ≤ m → m ≤ 400 → AP Tryd.prog 38 [itD x, .int .i64 (d : Int), .int .i64 m] (.int .i64 (greatI x d m)) [] := by
  refine It.ind fun k n b l ih d m hd hm hm' => ?_
  have hlen := itEs_len l
  have hbl : (b.map E.byte).length = b.length := List.length_map ..
  show AP Tryd.prog _ [.agg (itC k n b l), _, _] _ _
  rw [greatI]
  have em : 0 ≤ m → IntKind.i64.wrap (m - 1) = m - 1 := fun h => by rw [IntWalk.i64_in _ (by omega)]
  have ed : IntKind.i64.wrap ((d : Int) + 1) = ((d + 1 : Nat) : Int) := by rw [IntWalk.i64_in _ (by omega)]; omega
  by_cases hd9 : 9 < d
  · rw [if_pos hd9]
    have t1 : decide ((d : Int) > 9) = true := by simp; omega
    refine AP.ofA ?_
    refine AC_of Tryd.func38 rfl Tryd.ntmps38 rfl rfl ?_
    repeat' (first | (apply AL_move; exact rfl; exact rfl) | (apply AL_assign; exact rfl; exact rfl) | (apply AL_bin; (iterate 5 exact rfl)) | (apply AL_box; (iterate 5 exact rfl)) | refine AL_nil ?_ | (apply AL_guardFf; (iterate 3 exact rfl); (first | with_reducible assumption | decide +kernel)) | (apply AL_pickT; exact rfl; (first | with_reducible assumption | decide +kernel); exact rfl; exact rfl) | refine AW_region ?_ | refine AW_seq' ?_ | (apply AW_condA; exact rfl; (first | with_reducible assumption | decide +kernel)) | refine then_norm ?_ | refine AW_ret ?_ | refine then_ret ?_)
    all_goals (apply endQ []; (repeat (first | exact ResL.nil | (apply ResL.cons; first | exact .tmp _ _ rfl | (apply res_n ttok; (iterate 6 exact rfl)) | (apply res_1 ttok; (iterate 5 exact rfl))))); (iterate 4 exact rfl))
    all_goals rfl
  have t1 : decide ((d : Int) > 9) = false := by simp; omega
  rw [if_neg hd9]
  by_cases hb : 3000 < b.length
  · rw [if_pos hb]
    have t2 : decide ((((b.map E.byte).length : Nat) : Int) > 3000) = true := by rw [hbl]; simp; omega
    refine AP.ofA ?_
    refine AC_of Tryd.func38 rfl Tryd.ntmps38 rfl rfl ?_
    repeat' (first | (apply AL_move; exact rfl; exact rfl) | (apply AL_assign; exact rfl; exact rfl) | (apply AL_bin; (iterate 5 exact rfl)) | (apply AL_load1 ttok; (iterate 6 exact rfl)) | (apply AL_fieldAddr ttok; (iterate 7 exact rfl)) | (apply AL_box; (iterate 5 exact rfl)) | refine AL_nil ?_ | (apply AL_guardT; (iterate 3 exact rfl); (first | with_reducible assumption | decide +kernel)) | (apply AL_pickF; exact rfl; (first | with_reducible assumption | decide +kernel); exact rfl; exact rfl) | refine AW_region ?_ | refine AW_seq' ?_ | (apply AW_condA; exact rfl; (first | with_reducible assumption | decide +kernel)) | refine then_norm ?_ | refine AW_ret ?_ | refine then_ret ?_ | (apply AL_len ttok; (iterate 4 exact rfl)))
    all_goals (apply endQ []; (repeat (first | exact ResL.nil | (apply ResL.cons; first | exact .tmp _ _ rfl | (apply res_n ttok; (iterate 6 exact rfl)) | (apply res_1 ttok; (iterate 5 exact rfl))))); (iterate 4 exact rfl))
    all_goals rfl
  have t2 : decide ((((b.map E.byte).length : Nat) : Int) > 3000) = false := by rw [hbl]; simp; omega
  rw [if_neg hb]
  generalize hfin : greats l (d + 1) (m - 1) = fin
  have em := em hm
  refine AP.ofA ?_
  refine AC_of Tryd.func38 rfl Tryd.ntmps38 rfl rfl ?_
  repeat' (first | rw [em] | (apply AL_move; exact rfl; exact rfl) | (apply AL_assign; exact rfl; exact rfl) | (apply AL_bin; (iterate 5 exact rfl)) | (apply AL_load1 ttok; (iterate 6 exact rfl)) | (apply AL_fieldAddr ttok; (iterate 7 exact rfl)) | (apply AL_box; (iterate 5 exact rfl)) | refine AL_nil ?_ | (apply AL_guardT; (iterate 3 exact rfl); (first | with_reducible assumption | decide +kernel)) | (apply AL_pickF; exact rfl; (first | with_reducible assumption | decide +kernel); exact rfl; exact rfl) | refine AW_region ?_ | refine AW_seq' ?_ | (apply AW_condB; exact rfl; (first | with_reducible assumption | decide +kernel)) | refine then_norm ?_ | refine AW_block ?_ | (apply AL_len ttok; (iterate 4 exact rfl)) | refine AW_skip ?_)
  refine AW_loopJ (fun f tm bx fr => ∃ (i : Nat) (m' : Int), f + i = l.length ∧ -1 ≤ m' ∧ m' + i ≤ 399 ∧ greats (l.drop i) (d + 1) m' = fin ∧ tm = [(1, .int .i64 (d : Int)), (2, .int .i64 m'), (3, .ptr 0 0), (7, .int .i64 (i : Int)), (6, .int .i64 0)] ∧ bx = [itC k n b l] ∧ fr = []) (l.length + 1) (Lands.mk' (m := l.length) (Nat.lt_succ_self _) ⟨0, m - 1, rfl, by omega, by omega, hfin, rfl, rfl, rfl⟩ ?_ rfl rfl rfl rfl rfl rfl) ?_
  · exact .cons rfl (.cons rfl (.cons rfl (.cons rfl (.cons rfl .nil))))
  rintro f tm bx fr ⟨i, m', hf, hm1, hm2, hfin, rfl, rfl, rfl⟩
  have hU := uniI l
  rcases Nat.lt_or_ge i l.length with hlt | hge
  · have hdl : decide ((i : Int) < ((itEs l).length : Int)) = true := decide_eq_true (by omega)
    obtain ⟨⟨k1, n1, b1, l1⟩, hy⟩ : ∃ y, l[i]? = some y := ⟨_, List.getElem?_eq_getElem hlt⟩
    have hv : (itEs l)[((i : Nat) : Int).toNat]? = some (.agg [.int .i64 k1, .int .u64 (n1 : Int), .sl (b1.map E.byte), .sl (itEs l1)]) := by
      rw [Int.toNat_natCast, itEs_map, List.getElem?_map, hy]; rfl
    have hdr : l.drop i = It.mk k1 n1 b1 l1 :: l.drop (i + 1) := by
      rw [List.drop_eq_getElem_cons hlt]; congr 1
      have := (List.getElem?_eq_some_iff.1 hy).2; exact this
    rw [hdr, greats] at hfin
    rcases Int.lt_or_le m' 0 with hml | hmg
    · have hdm : decide (m' ≥ 0) = false := decide_eq_false (by omega)
      rw [if_pos hml] at hfin
      subst hfin
      repeat' (first | (apply AL_move; exact rfl; exact rfl) | (apply AL_assign; exact rfl; exact rfl) | (apply AL_bin; (iterate 5 exact rfl)) | (apply AL_load1 ttok; (iterate 6 exact rfl)) | (apply AL_fieldAddr ttok; (iterate 7 exact rfl)) | refine AL_nil ?_ | (apply AL_guardT; (iterate 3 exact rfl); (first | with_reducible assumption | decide +kernel)) | (apply AL_pickT; exact rfl; (first | with_reducible assumption | decide +kernel); exact rfl; exact rfl) | refine AW_region ?_ | refine AW_seq' ?_ | (apply AW_condB; exact rfl; (first | with_reducible assumption | decide +kernel)) | refine then_norm ?_ | refine AW_exit ?_ | refine AW_ret ?_ | (apply AL_len ttok; (iterate 4 exact rfl)))
      all_goals (apply endQ []; (repeat (first | exact ResL.nil | (apply ResL.cons; first | exact .tmp _ _ rfl | (apply res_n ttok; (iterate 6 exact rfl)) | (apply res_1 ttok; (iterate 5 exact rfl))))); (iterate 4 exact rfl))
      all_goals rfl
    · have hdm : decide (m' ≥ 0) = true := decide_eq_true (by omega)
      rw [if_neg (by omega)] at hfin
      have hmem := List.mem_of_getElem? hy
      have hc := ih _ hmem (d + 1) m' (by omega) hmg (by omega)
      have ei : IntKind.i64.wrap ((i : Int) + 1) = ((i + 1 : Nat) : Int) := by rw [IntWalk.i64_in _ (by omega)]; omega
      have hgl := greatI_lt (.mk k1 n1 b1 l1) (d + 1) m' hmg
      generalize hgr : greatI (.mk k1 n1 b1 l1) (d + 1) m' = r at hc hfin hgl
      repeat' (first | rw [ed] | rw [ei] | (apply AL_callPw (hc); kernel_rfl; (iterate 4 exact rfl)) | (apply AL_move; exact rfl; exact rfl) | (apply AL_assign; exact rfl; exact rfl) | (apply AL_bin; (iterate 5 exact rfl)) | (apply AL_load1 ttok; (iterate 6 exact rfl)) | (apply AL_fieldAddr ttok; (iterate 7 exact rfl)) | refine AL_nil ?_ | (apply AL_guardT; (iterate 3 exact rfl); (first | with_reducible assumption | decide +kernel)) | (apply AL_pickT; exact rfl; (first | with_reducible assumption | decide +kernel); exact rfl; exact rfl) | refine AW_region ?_ | refine AW_seq' ?_ | (apply AW_condA; exact rfl; (first | with_reducible assumption | decide +kernel)) | refine then_norm ?_ | refine AW_block ?_ | (apply AL_len ttok; (iterate 4 exact rfl)) | (apply AL_eloadn ttok; (iterate 6 exact rfl)) | refine AW_skip ?_ | (apply AL_idx ttok; (iterate 6 exact rfl); (first | with_reducible assumption | decide +kernel | exact Int.natCast_nonneg _ | (guard_target = (0:Int) ≤ (OfNat.ofNat _ : Int); decide) | rotate_left); (first | with_reducible assumption | decide +kernel | exact rfl); (first | exact uniB_ok rfl | with_reducible assumption | decide +kernel | rotate_left)))
      refine Lands.mk' (m := f - 1) (by omega) ⟨i + 1, r, by omega, by omega, by omega, hfin, rfl, rfl, rfl⟩ ?_ rfl rfl rfl rfl rfl rfl
      exact .cons rfl (.cons rfl (.cons rfl (.cons rfl (.cons rfl .nil))))
  · have hdl : decide ((i : Int) < ((itEs l).length : Int)) = false := decide_eq_false (by omega)
    have hdr : l.drop i = [] := List.drop_eq_nil_of_le hge
    rw [hdr, greats] at hfin
    subst hfin
    repeat' (first | (apply AL_move; exact rfl; exact rfl) | (apply AL_assign; exact rfl; exact rfl) | (apply AL_bin; (iterate 5 exact rfl)) | (apply AL_load1 ttok; (iterate 6 exact rfl)) | (apply AL_fieldAddr ttok; (iterate 7 exact rfl)) | refine AL_nil ?_ | (apply AL_guardFt; (iterate 3 exact rfl); (first | with_reducible assumption | decide +kernel)) | (apply AL_pickF; exact rfl; (first | with_reducible assumption | decide +kernel); exact rfl; exact rfl) | refine AW_region ?_ | refine AW_seq' ?_ | (apply AW_condB; exact rfl; (first | with_reducible assumption | decide +kernel)) | refine then_norm ?_ | refine AW_exit ?_ | refine AW_ret ?_ | (apply AL_len ttok; (iterate 4 exact rfl)))
    all_goals (apply endQ []; (repeat (first | exact ResL.nil | (apply ResL.cons; first | exact .tmp _ _ rfl | (apply res_n ttok; (iterate 6 exact rfl)) | (apply res_1 ttok; (iterate 5 exact rfl))))); (iterate 4 exact rfl))
    all_goals rfl
/-- is an item too much for a statement? -/
def bigI (x : It) : Bool := decide (greatI x 1 400 < 0)
theorem av_bigI [Known] (x : It) : AP Tryd.prog 14 [itD x] (.bool (bigI x)) [] := by
  have hk := av_great x 1 400 (by omega) (by omega) (by omega)
  obtain ⟨k, n, b, l⟩ := x
  refine AP.ofA ?_
  refine AC_of Tryd.func14 rfl Tryd.ntmps14 rfl rfl ?_
  repeat' (first | (apply AL_callPw (hk); kernel_rfl; (iterate 4 exact rfl)) | (apply AL_assign; exact rfl; exact rfl) | (apply AL_bin; (iterate 5 exact rfl)) | (apply AL_loadn ttok; (iterate 7 exact rfl)) | (apply AL_box; (iterate 5 exact rfl)) | refine AL_nil ?_ | refine AW_region ?_ | refine AW_seq' ?_ | refine then_norm ?_ | refine AW_ret ?_)
  all_goals (apply endQ []; (repeat (first | exact ResL.nil | (apply ResL.cons; first | exact .tmp _ _ rfl | (apply res_n ttok; (iterate 6 exact rfl)) | (apply res_1 ttok; (iterate 5 exact rfl))))); (iterate 4 exact rfl))
  all_goals rfl
theorem bigI_no {x : It} (h : bigI x = false) (hn : nI x) : wfI x ∧ (putI x).length ≤ 1203600 ∧ deepI x 9 = true := by
  have h := of_decide_eq_false h
  obtain ⟨h1, h2, _, h4⟩ := small_wf x 1 400 (by omega) (by omega) hn
  exact ⟨h1, by omega, h4⟩
end Go.Proofs.YtnihobjehelagaaDoor
end
/- Items: which may be. -/
section
open Go.RowKit Go.Pl Go.Av
namespace Go.Proofs.YtnihobjehelagaaDoor
set_option linter.unusedVariables false
set_option linter.unusedSimpArgs false
set_option maxHeartbeats 4000000
theorem len0 {α : Type} {f : α → E} (b : List α) : (((b.map f).length : Int) == 0) = b.isEmpty := by cases b <;> simp <;> omega
theorem len0I (l : List It) : (((itEs l).length : Int) == 0) = l.isEmpty := by rw [itEs_len]; cases l <;> simp <;> omega
theorem n0 (n : Nat) : ((n : Int) == 0) = decide (n = 0) := by rw [Bool.eq_iff_iff]; simp
theorem av_own [Known] [KnownU8] (k : Int) (n : Nat) (b : List UInt8) (l : List It) (hb : b.length ≤ 1099511627776) : AP Tryd.prog 101 [.agg (itC k n b l)] (.bool (ownI k n b l)) [] := by
  have e1 := len0 (f := E.byte) b
  have e2 := len0I l
  have e3 := n0 n
  have hv := av_valid b hb
  by_cases k0 : k = 0
  · subst k0
    cases hbe : b.isEmpty <;> cases hle : l.isEmpty
    all_goals
      rw [hbe] at e1
      rw [hle] at e2
      have e : ownI 0 n b l = (b.isEmpty && l.isEmpty) := rfl
      rw [e, hbe, hle]
      refine AP.ofA ?_
      refine AC_of Tryd.func101 rfl Tryd.ntmps101 rfl rfl ?_
      repeat' (first | rw [e1] | rw [e2] | (apply AL_move; exact rfl; exact rfl) | (apply AL_assign; exact rfl; exact rfl) | (apply AL_bin; (iterate 5 exact rfl)) | (apply AL_load1 ttok; (iterate 6 exact rfl)) | (apply AL_fieldAddr ttok; (iterate 7 exact rfl)) | (apply AL_box; (iterate 5 exact rfl)) | refine AL_nil ?_ | (apply AL_guardT; (iterate 3 exact rfl); (first | with_reducible assumption | decide +kernel)) | (apply AL_guardFt; (iterate 3 exact rfl); (first | with_reducible assumption | decide +kernel)) | (apply AL_pickT; exact rfl; (first | with_reducible assumption | decide +kernel); exact rfl; exact rfl) | (apply AL_pickF; exact rfl; (first | with_reducible assumption | decide +kernel); exact rfl; exact rfl) | refine AW_region ?_ | refine AW_seq' ?_ | (apply AW_condA; exact rfl; (first | with_reducible assumption | decide +kernel)) | refine then_norm ?_ | refine AW_block ?_ | refine AW_ret ?_ | refine then_ret ?_ | refine blk_ret ?_ | (apply AL_len ttok; (iterate 4 exact rfl)))
      all_goals (apply endQ []; (repeat (first | exact ResL.nil | (apply ResL.cons; first | exact .tmp _ _ rfl | (apply res_n ttok; (iterate 6 exact rfl)) | (apply res_1 ttok; (iterate 5 exact rfl))))); (iterate 4 exact rfl))
      all_goals rfl
  by_cases k2 : k = 2
  · subst k2
    cases hbe : decide (n = 0) <;> cases hle : l.isEmpty
    all_goals
      rw [hbe] at e3
      rw [hle] at e2
      have e : ownI 2 n b l = (decide (n = 0) && l.isEmpty) := rfl
      rw [e, hbe, hle]
      refine AP.ofA ?_
      refine AC_of Tryd.func101 rfl Tryd.ntmps101 rfl rfl ?_
      repeat' (first | rw [e2] | rw [e3] | (apply AL_move; exact rfl; exact rfl) | (apply AL_assign; exact rfl; exact rfl) | (apply AL_bin; (iterate 5 exact rfl)) | (apply AL_load1 ttok; (iterate 6 exact rfl)) | (apply AL_fieldAddr ttok; (iterate 7 exact rfl)) | (apply AL_box; (iterate 5 exact rfl)) | refine AL_nil ?_ | (apply AL_guardT; (iterate 3 exact rfl); (first | with_reducible assumption | decide +kernel)) | (apply AL_guardFt; (iterate 3 exact rfl); (first | with_reducible assumption | decide +kernel)) | (apply AL_pickT; exact rfl; (first | with_reducible assumption | decide +kernel); exact rfl; exact rfl) | (apply AL_pickF; exact rfl; (first | with_reducible assumption | decide +kernel); exact rfl; exact rfl) | refine AW_region ?_ | refine AW_seq' ?_ | (apply AW_condA; exact rfl; (first | with_reducible assumption | decide +kernel)) | (apply AW_condB; exact rfl; (first | with_reducible assumption | decide +kernel)) | refine then_norm ?_ | refine AW_block ?_ | refine AW_ret ?_ | refine then_ret ?_ | refine blk_ret ?_ | (apply AL_len ttok; (iterate 4 exact rfl)))
      all_goals (apply endQ []; (repeat (first | exact ResL.nil | (apply ResL.cons; first | exact .tmp _ _ rfl | (apply res_n ttok; (iterate 6 exact rfl)) | (apply res_1 ttok; (iterate 5 exact rfl))))); (iterate 4 exact rfl))
      all_goals rfl
  by_cases k3 : k = 3
  · subst k3
    cases hbe : decide (n = 0) <;> cases hle : l.isEmpty
    all_goals
      rw [hbe] at e3
      rw [hle] at e2
      have e : ownI 3 n b l = (decide (n = 0) && (l.isEmpty && validU b)) := rfl
      rw [e, hbe, hle]
      refine AP.ofA ?_
      refine AC_of Tryd.func101 rfl Tryd.ntmps101 rfl rfl ?_
      repeat' (first | rw [e2] | rw [e3] | (apply AL_callPw (hv); kernel_rfl; (iterate 4 exact rfl)) | (apply AL_move; exact rfl; exact rfl) | (apply AL_assign; exact rfl; exact rfl) | (apply AL_bin; (iterate 5 exact rfl)) | (apply AL_load1 ttok; (iterate 6 exact rfl)) | (apply AL_fieldAddr ttok; (iterate 7 exact rfl)) | (apply AL_box; (iterate 5 exact rfl)) | refine AL_nil ?_ | (apply AL_guardT; (iterate 3 exact rfl); (first | with_reducible assumption | decide +kernel)) | (apply AL_guardFt; (iterate 3 exact rfl); (first | with_reducible assumption | decide +kernel)) | (apply AL_pickT; exact rfl; (first | with_reducible assumption | decide +kernel); exact rfl; exact rfl) | (apply AL_pickF; exact rfl; (first | with_reducible assumption | decide +kernel); exact rfl; exact rfl) | refine AW_region ?_ | refine AW_seq' ?_ | (apply AW_condA; exact rfl; (first | with_reducible assumption | decide +kernel)) | (apply AW_condB; exact rfl; (first | with_reducible assumption | decide +kernel)) | refine then_norm ?_ | refine AW_block ?_ | refine AW_ret ?_ | refine then_ret ?_ | refine blk_ret ?_ | (apply AL_len ttok; (iterate 4 exact rfl)))
      all_goals (apply endQ []; (repeat (first | exact ResL.nil | (apply ResL.cons; first | exact .tmp _ _ rfl | (apply res_n ttok; (iterate 6 exact rfl)) | (apply res_1 ttok; (iterate 5 exact rfl))))); (iterate 4 exact rfl))
      all_goals rfl
  by_cases k4 : k = 4
  · subst k4
    cases hbe : decide (n = 0) <;> cases hle : b.isEmpty
    all_goals
      rw [hbe] at e3
      rw [hle] at e1
      have e : ownI 4 n b l = (decide (n = 0) && b.isEmpty) := rfl
      rw [e, hbe, hle]
      refine AP.ofA ?_
      refine AC_of Tryd.func101 rfl Tryd.ntmps101 rfl rfl ?_
      repeat' (first | rw [e1] | rw [e3] | (apply AL_move; exact rfl; exact rfl) | (apply AL_assign; exact rfl; exact rfl) | (apply AL_bin; (iterate 5 exact rfl)) | (apply AL_load1 ttok; (iterate 6 exact rfl)) | (apply AL_fieldAddr ttok; (iterate 7 exact rfl)) | (apply AL_box; (iterate 5 exact rfl)) | refine AL_nil ?_ | (apply AL_guardT; (iterate 3 exact rfl); (first | with_reducible assumption | decide +kernel)) | (apply AL_guardFt; (iterate 3 exact rfl); (first | with_reducible assumption | decide +kernel)) | (apply AL_pickT; exact rfl; (first | with_reducible assumption | decide +kernel); exact rfl; exact rfl) | (apply AL_pickF; exact rfl; (first | with_reducible assumption | decide +kernel); exact rfl; exact rfl) | refine AW_region ?_ | refine AW_seq' ?_ | (apply AW_condA; exact rfl; (first | with_reducible assumption | decide +kernel)) | (apply AW_condB; exact rfl; (first | with_reducible assumption | decide +kernel)) | refine then_norm ?_ | refine AW_block ?_ | refine AW_ret ?_ | refine then_ret ?_ | refine blk_ret ?_ | (apply AL_len ttok; (iterate 4 exact rfl)))
      all_goals (apply endQ []; (repeat (first | exact ResL.nil | (apply ResL.cons; first | exact .tmp _ _ rfl | (apply res_n ttok; (iterate 6 exact rfl)) | (apply res_1 ttok; (iterate 5 exact rfl))))); (iterate 4 exact rfl))
      all_goals rfl
  · have t0 : (k == 0) = false := by simpa using k0
    have t2 : (k == 2) = false := by simpa using k2
    have t3 : (k == 3) = false := by simpa using k3
    have t4 : (k == 4) = false := by simpa using k4
    have e : ownI k n b l = false := by simp [ownI, k0, k2, k3, k4]
    rw [e]
    refine AP.ofA ?_
    refine AC_of Tryd.func101 rfl Tryd.ntmps101 rfl rfl ?_
    repeat' (first | (apply AL_assign; exact rfl; exact rfl) | (apply AL_bin; (iterate 5 exact rfl)) | (apply AL_load1 ttok; (iterate 6 exact rfl)) | (apply AL_fieldAddr ttok; (iterate 7 exact rfl)) | (apply AL_box; (iterate 5 exact rfl)) | refine AL_nil ?_ | refine AW_region ?_ | refine AW_seq' ?_ | (apply AW_condB; exact rfl; (first | with_reducible assumption | decide +kernel)) | refine then_norm ?_ | refine AW_block ?_ | refine AW_ret ?_ | refine AW_skip ?_)
    all_goals (apply endQ []; (repeat (first | exact ResL.nil | (apply ResL.cons; first | exact .tmp _ _ rfl | (apply res_n ttok; (iterate 6 exact rfl)) | (apply res_1 ttok; (iterate 5 exact rfl))))); (iterate 4 exact rfl))
    all_goals rfl
/-- what walk tells -/
def wkN : Option Nat → Int
  | some m => (m : Int)
  | none => -1
theorem av_walk [Known] [KnownU8] : ∀ (x : It), wfI x → ∀ d m : Nat, d ≤ 7 → m ≤ 256 → AP Tryd.prog 55 [itD x, .int .i64 (d : Int), .int .i64 (m : Int)] (.int .i64 (wkN (walkI x d m))) [] := by
  refine It.ind fun k n b l ih hw d m hd hm => ?_
  obtain ⟨hn, hb, hl, hws⟩ := hw
  have hown := av_own k n b l hb
  have hlen := itEs_len l
  show AP Tryd.prog _ [.agg (itC k n b l), _, _] _ _
  rw [walkI]
  have em : 1 ≤ m → IntKind.i64.wrap ((m : Int) - 1) = ((m - 1 : Nat) : Int) := fun h => by rw [IntWalk.i64_in _ (by omega)]; omega
  have ed : IntKind.i64.wrap ((d : Int) + 1) = ((d + 1 : Nat) : Int) := by rw [IntWalk.i64_in _ (by omega)]; omega
  by_cases hd6 : 6 < d
  · rw [if_pos hd6]
    have t1 : decide ((d : Int) > 6) = true := by simp; omega
    refine AP.ofA ?_
    refine AC_of Tryd.func55 rfl Tryd.ntmps55 rfl rfl ?_
    repeat' (first | (apply AL_move; exact rfl; exact rfl) | (apply AL_assign; exact rfl; exact rfl) | (apply AL_bin; (iterate 5 exact rfl)) | (apply AL_box; (iterate 5 exact rfl)) | refine AL_nil ?_ | (apply AL_guardFf; (iterate 3 exact rfl); (first | with_reducible assumption | decide +kernel)) | (apply AL_pickT; exact rfl; (first | with_reducible assumption | decide +kernel); exact rfl; exact rfl) | refine AW_region ?_ | refine AW_seq' ?_ | (apply AW_condA; exact rfl; (first | with_reducible assumption | decide +kernel)) | refine then_norm ?_ | refine AW_ret ?_ | refine then_ret ?_)
    all_goals (apply endQ []; (repeat (first | exact ResL.nil | (apply ResL.cons; first | exact .tmp _ _ rfl | (apply res_n ttok; (iterate 6 exact rfl)) | (apply res_1 ttok; (iterate 5 exact rfl))))); (iterate 4 exact rfl))
    all_goals rfl
  have t1 : decide ((d : Int) > 6) = false := by simp; omega
  rw [if_neg hd6]
  by_cases hm1 : m < 1
  · rw [if_pos hm1]
    have t2 : decide ((m : Int) < 1) = true := by simp; omega
    refine AP.ofA ?_
    refine AC_of Tryd.func55 rfl Tryd.ntmps55 rfl rfl ?_
    repeat' (first | (apply AL_move; exact rfl; exact rfl) | (apply AL_assign; exact rfl; exact rfl) | (apply AL_bin; (iterate 5 exact rfl)) | (apply AL_box; (iterate 5 exact rfl)) | refine AL_nil ?_ | (apply AL_guardT; (iterate 3 exact rfl); (first | with_reducible assumption | decide +kernel)) | (apply AL_guardFf; (iterate 3 exact rfl); (first | with_reducible assumption | decide +kernel)) | (apply AL_pickT; exact rfl; (first | with_reducible assumption | decide +kernel); exact rfl; exact rfl) | (apply AL_pickF; exact rfl; (first | with_reducible assumption | decide +kernel); exact rfl; exact rfl) | refine AW_region ?_ | refine AW_seq' ?_ | (apply AW_condA; exact rfl; (first | with_reducible assumption | decide +kernel)) | refine then_norm ?_ | refine AW_ret ?_ | refine then_ret ?_)
    all_goals (apply endQ []; (repeat (first | exact ResL.nil | (apply ResL.cons; first | exact .tmp _ _ rfl | (apply res_n ttok; (iterate 6 exact rfl)) | (apply res_1 ttok; (iterate 5 exact rfl))))); (iterate 4 exact rfl))
    all_goals rfl
  have t2 : decide ((m : Int) < 1) = false := by simp; omega
  rw [if_neg hm1]
  have em := em (by omega)
  cases ho : ownI k n b l with
  | false =>
    rw [ho] at hown
    dsimp only
    refine AP.ofA ?_
    refine AC_of Tryd.func55 rfl Tryd.ntmps55 rfl rfl ?_
    repeat' (first | (apply AL_callPw (hown); kernel_rfl; (iterate 4 exact rfl)) | (apply AL_move; exact rfl; exact rfl) | (apply AL_assign; exact rfl; exact rfl) | (apply AL_bin; (iterate 5 exact rfl)) | (apply AL_loadn ttok; (iterate 7 exact rfl)) | (apply AL_box; (iterate 5 exact rfl)) | (apply AL_not; exact rfl; exact rfl) | refine AL_nil ?_ | (apply AL_guardT; (iterate 3 exact rfl); (first | with_reducible assumption | decide +kernel)) | (apply AL_pickF; exact rfl; (first | with_reducible assumption | decide +kernel); exact rfl; exact rfl) | refine AW_region ?_ | refine AW_seq' ?_ | (apply AW_condA; exact rfl; (first | with_reducible assumption | decide +kernel)) | refine then_norm ?_ | refine AW_ret ?_ | refine then_ret ?_)
    all_goals (apply endQ []; (repeat (first | exact ResL.nil | (apply ResL.cons; first | exact .tmp _ _ rfl | (apply res_n ttok; (iterate 6 exact rfl)) | (apply res_1 ttok; (iterate 5 exact rfl))))); (iterate 4 exact rfl))
    all_goals rfl
  | true =>
    rw [ho] at hown
    dsimp only
    generalize hfin : walks l (d + 1) (m - 1) = fin
    refine AP.ofA ?_
    refine AC_of Tryd.func55 rfl Tryd.ntmps55 rfl rfl ?_
    repeat' (first | rw [em] | (apply AL_callPw (hown); kernel_rfl; (iterate 4 exact rfl)) | (apply AL_move; exact rfl; exact rfl) | (apply AL_assign; exact rfl; exact rfl) | (apply AL_bin; (iterate 5 exact rfl)) | (apply AL_load1 ttok; (iterate 6 exact rfl)) | (apply AL_loadn ttok; (iterate 7 exact rfl)) | (apply AL_fieldAddr ttok; (iterate 7 exact rfl)) | (apply AL_box; (iterate 5 exact rfl)) | (apply AL_not; exact rfl; exact rfl) | refine AL_nil ?_ | (apply AL_guardT; (iterate 3 exact rfl); (first | with_reducible assumption | decide +kernel)) | (apply AL_pickF; exact rfl; (first | with_reducible assumption | decide +kernel); exact rfl; exact rfl) | refine AW_region ?_ | refine AW_seq' ?_ | (apply AW_condB; exact rfl; (first | with_reducible assumption | decide +kernel)) | refine then_norm ?_ | refine AW_block ?_ | (apply AL_len ttok; (iterate 4 exact rfl)) | refine AW_skip ?_)
    refine AW_loopJ (fun f tm bx fr => ∃ i m' : Nat, f + i = l.length ∧ m' ≤ 256 ∧ walks (l.drop i) (d + 1) m' = fin ∧ tm = [(1, .int .i64 (d : Int)), (2, .int .i64 (m' : Int)), (23, .sl .ext (itEs l)), (24, .int .i64 ((itEs l).length : Int)), (25, .int .i64 (i : Int)), (6, .int .i64 0)] ∧ bx = [itC k n b l] ∧ fr = []) (l.length + 1) (Lands.mk' (m := l.length) (Nat.lt_succ_self _) ⟨0, m - 1, rfl, by omega, hfin, rfl, rfl, rfl⟩ ?_ rfl rfl rfl rfl rfl rfl) ?_
    · exact .cons rfl (.cons rfl (.cons rfl (.cons rfl (.cons rfl (.cons rfl .nil)))))
    rintro f tm bx fr ⟨i, m', hf, hm', hfin, rfl, rfl, rfl⟩
    have hU := uniI l
    rcases Nat.lt_or_ge i l.length with hlt | hge
    · have hdl : decide ((i : Int) < ((itEs l).length : Int)) = true := decide_eq_true (by omega)
      obtain ⟨⟨k1, n1, b1, l1⟩, hy⟩ : ∃ y, l[i]? = some y := ⟨_, List.getElem?_eq_getElem hlt⟩
      have hv : (itEs l)[((i : Nat) : Int).toNat]? = some (.agg [.int .i64 k1, .int .u64 (n1 : Int), .sl (b1.map E.byte), .sl (itEs l1)]) := by
        rw [Int.toNat_natCast, itEs_map, List.getElem?_map, hy]; rfl
      have hmem := List.mem_of_getElem? hy
      have hc := ih _ hmem (wfs_mem hws _ hmem) (d + 1) m' (by omega) hm'
      have hdr : l.drop i = It.mk k1 n1 b1 l1 :: l.drop (i + 1) := by
        rw [List.drop_eq_getElem_cons hlt]; congr 1
        have := (List.getElem?_eq_some_iff.1 hy).2; exact this
      rw [hdr, walks] at hfin
      have ei : IntKind.i64.wrap ((i : Int) + 1) = ((i + 1 : Nat) : Int) := by rw [IntWalk.i64_in _ (by omega)]; omega
      cases hwk : walkI (.mk k1 n1 b1 l1) (d + 1) m' with
      | none =>
        rw [hwk] at hfin hc
        subst hfin
        repeat' (first | rw [ed] | (apply AL_callPw (hc); kernel_rfl; (iterate 4 exact rfl)) | (apply AL_move; exact rfl; exact rfl) | (apply AL_assign; exact rfl; exact rfl) | (apply AL_bin; (iterate 5 exact rfl)) | (apply AL_loadn ttok; (iterate 7 exact rfl)) | (apply AL_store ttok; (iterate 8 exact rfl)) | refine AL_nil ?_ | refine AW_region ?_ | refine AW_seq' ?_ | (apply AW_condA; exact rfl; (first | with_reducible assumption | decide +kernel)) | refine then_norm ?_ | refine AW_block ?_ | refine AW_ret ?_ | refine then_ret ?_ | refine blk_ret ?_ | (apply AL_eloadn ttok; (iterate 6 exact rfl)) | (apply AL_alloc ttok; (iterate 4 exact rfl)) | refine AW_skip ?_ | (apply AL_idx ttok; (iterate 6 exact rfl); (first | with_reducible assumption | decide +kernel | exact Int.natCast_nonneg _ | (guard_target = (0:Int) ≤ (OfNat.ofNat _ : Int); decide) | rotate_left); (first | with_reducible assumption | decide +kernel | exact rfl); (first | exact uniB_ok rfl | with_reducible assumption | decide +kernel | rotate_left)))
        all_goals (apply endQ []; (repeat (first | exact ResL.nil | (apply ResL.cons; first | exact .tmp _ _ rfl | (apply res_n ttok; (iterate 6 exact rfl)) | (apply res_1 ttok; (iterate 5 exact rfl))))); (iterate 4 exact rfl))
        all_goals rfl
      | some r =>
        rw [hwk] at hfin hc
        simp only [wkN] at hc
        have hlt2 := walkI_lt hwk
        have tr : decide ((r : Int) < 0) = false := by simp
        repeat' (first | rw [ed] | rw [ei] | (apply AL_callPw (hc); kernel_rfl; (iterate 4 exact rfl)) | (apply AL_move; exact rfl; exact rfl) | (apply AL_assign; exact rfl; exact rfl) | (apply AL_bin; (iterate 5 exact rfl)) | (apply AL_loadn ttok; (iterate 7 exact rfl)) | (apply AL_store ttok; (iterate 8 exact rfl)) | refine AL_nil ?_ | refine AW_region ?_ | refine AW_seq' ?_ | (apply AW_condA; exact rfl; (first | with_reducible assumption | decide +kernel)) | (apply AW_condB; exact rfl; (first | with_reducible assumption | decide +kernel)) | refine then_norm ?_ | refine AW_block ?_ | (apply AL_eloadn ttok; (iterate 6 exact rfl)) | (apply AL_alloc ttok; (iterate 4 exact rfl)) | refine AW_skip ?_ | (apply AL_idx ttok; (iterate 6 exact rfl); (first | with_reducible assumption | decide +kernel | exact Int.natCast_nonneg _ | (guard_target = (0:Int) ≤ (OfNat.ofNat _ : Int); decide) | rotate_left); (first | with_reducible assumption | decide +kernel | exact rfl); (first | exact uniB_ok rfl | with_reducible assumption | decide +kernel | rotate_left)))
        refine Lands.mk' (m := f - 1) (by omega) ⟨i + 1, r, by omega, by omega, hfin, rfl, rfl, rfl⟩ ?_ rfl rfl rfl rfl rfl rfl
        exact .cons rfl (.cons rfl (.cons rfl (.cons rfl (.cons rfl (.cons rfl .nil)))))
    · have hdl : decide ((i : Int) < ((itEs l).length : Int)) = false := decide_eq_false (by omega)
      have hdr : l.drop i = [] := List.drop_eq_nil_of_le hge
      rw [hdr, walks] at hfin
      subst hfin
      repeat' (first | (apply AL_move; exact rfl; exact rfl) | (apply AL_assign; exact rfl; exact rfl) | (apply AL_bin; (iterate 5 exact rfl)) | refine AL_nil ?_ | refine AW_region ?_ | refine AW_seq' ?_ | (apply AW_condB; exact rfl; (first | with_reducible assumption | decide +kernel)) | refine then_norm ?_ | refine AW_exit ?_ | refine AW_ret ?_)
      all_goals (apply endQ []; (repeat (first | exact ResL.nil | (apply ResL.cons; first | exact .tmp _ _ rfl | (apply res_n ttok; (iterate 6 exact rfl)) | (apply res_1 ttok; (iterate 5 exact rfl))))); (iterate 4 exact rfl))
      all_goals rfl
theorem av_rightI [Known] [KnownU8] (x : It) (hw : wfI x) : AP Tryd.prog 21 [itD x] (.bool (rightI x)) [] := by
  have hk := av_walk x hw 1 256 (by omega) (by omega)
  have e : decide (wkN (walkI x 1 256) ≥ 0) = rightI x := by
    unfold rightI
    cases walkI x 1 256 <;> simp [wkN]
  obtain ⟨k, n, b, l⟩ := x
  refine AP.ofA ?_
  refine AC_of Tryd.func21 rfl Tryd.ntmps21 rfl rfl ?_
  repeat' (first | rw [e] | (apply AL_callPw (hk); kernel_rfl; (iterate 4 exact rfl)) | (apply AL_assign; exact rfl; exact rfl) | (apply AL_bin; (iterate 5 exact rfl)) | (apply AL_loadn ttok; (iterate 7 exact rfl)) | (apply AL_box; (iterate 5 exact rfl)) | refine AL_nil ?_ | refine AW_region ?_ | refine AW_seq' ?_ | refine then_norm ?_ | refine AW_ret ?_)
  all_goals (apply endQ []; (repeat (first | exact ResL.nil | (apply ResL.cons; first | exact .tmp _ _ rfl | (apply res_n ttok; (iterate 6 exact rfl)) | (apply res_1 ttok; (iterate 5 exact rfl))))); (iterate 4 exact rfl))
  all_goals rfl
end Go.Proofs.YtnihobjehelagaaDoor
end
/- The law's fixed calls. -/
section
open Go.RowKit Go.Pl Go.Av
namespace Go.Proofs.YtnihobjehelagaaDoor
set_option linter.unusedVariables false
set_option linter.unusedSimpArgs false
set_option maxHeartbeats 4000000
theorem av_writeT [Known] [KnownU8] (x : It) (hw : wfI x) (hr : rightI x = true) (hlim : (putI x).length ≤ 1099511627776) : AT Tryd.prog 16 [itD x] [] [] (.tup [.sl (.own 0) ((putI x).map E.byte), .int .i64 0]) [] [⟨(putI x).length, 1, 5⟩] := by
  have hR := av_rightI x hw
  rw [hr] at hR
  have hp := av_putN x hw (right_okx hr) hlim
  obtain ⟨k, n, b, l⟩ := x
  refine AC_of Tryd.func16 rfl Tryd.ntmps16 rfl rfl ?_
  repeat' (first | (apply AL_callPw (hR); kernel_rfl; (iterate 4 exact rfl)) | (apply AL_callT [] [] (hp); kernel_rfl; (iterate 10 exact rfl)) | (apply AL_assign; exact rfl; exact rfl) | (apply AL_loadn ttok; (iterate 7 exact rfl)) | (apply AL_boxZ; (iterate 5 exact rfl)) | (apply AL_not; exact rfl; exact rfl) | refine AL_nil ?_ | refine AW_region ?_ | refine AW_seq' ?_ | (apply AW_condB; exact rfl; (first | with_reducible assumption | decide +kernel)) | refine then_norm ?_ | refine AW_ret ?_ | refine AW_skip ?_)
  all_goals (apply endT [] [0]; (repeat (first | exact ResL.nil | (apply ResL.cons; first | exact .tmp _ _ rfl | (apply res_n ttok; (iterate 6 exact rfl)) | (apply res_1 ttok; (iterate 5 exact rfl))))); (iterate 7 exact rfl))
  all_goals rfl
/-- the fixed item -/
def x0 : It := .mk 4 0 [] [.mk 0 1 [] [], .mk 3 0 [97, 98] []]
theorem x0_wf : wfI x0 := by simp [x0, wfI, wfs]
theorem x0_right : rightI x0 = true := by decide +kernel
theorem x0_put : putI x0 = [130, 1, 98, 97, 98] := by decide +kernel
theorem av_aliveC [Known] [KnownU8] : AP Tryd.prog 15 [] (.bool true) [] := by
  have hL := av_list [.mk 0 1 [] [], .mk 3 0 [97, 98] []] (by decide) (by simp [wfI, wfs])
  have hW := av_writeT x0 x0_wf x0_right (by rw [x0_put]; decide)
  rw [x0_put] at hW
  have hN := av_num 1
  have hT := av_text [97, 98]
  have hR1 := av_readC [159, 24, 1, 127, 97, 97, 97, 98, 255, 255, 9] 0 (by decide)
  have hR2 := av_readC [130, 1] 0 (by decide)
  have hR3 := av_readC [129, 32] 0 (by decide)
  rw [show readI [159, 24, 1, 127, 97, 97, 97, 98, 255, 255, 9] 0 = (x0, 10, 0) by decide +kernel] at hR1
  rw [show readI [130, 1] 0 = (.mk 0 0 [] [], 0, 8) by decide +kernel] at hR2
  rw [show readI [129, 32] 0 = (.mk 0 0 [] [], 0, 3) by decide +kernel] at hR3
  have hS1 := av_shortestI [130, 1, 98, 97, 98] (by decide)
  have hS2 := av_shortestI [130, 1, 98, 97, 98, 0] (by decide)
  rw [show shortI [130, 1, 98, 97, 98] = true by decide +kernel] at hS1
  rw [show shortI [130, 1, 98, 97, 98, 0] = false by decide +kernel] at hS2
  replace hR1 : AP Tryd.prog _ _ (.tup [itD x0, .int .i64 10, .int .i64 0]) [] := hR1
  replace hR2 : AP Tryd.prog _ _ (.tup [itD (.mk 0 0 [] []), .int .i64 0, .int .i64 8]) [] := hR2
  replace hR3 : AP Tryd.prog _ _ (.tup [itD (.mk 0 0 [] []), .int .i64 0, .int .i64 3]) [] := hR3
  refine AP.ofA ?_
  refine AC_of Tryd.func15 rfl Tryd.ntmps15 rfl rfl ?_
  repeat' (first | (apply AL_callPw (hN); kernel_rfl; (iterate 4 exact rfl)) | (apply AL_callPw (hT); kernel_rfl; (iterate 4 exact rfl)) | (apply AL_callPw (hL); kernel_rfl; (iterate 4 exact rfl)) | (apply AL_callT [] [] (hW); kernel_rfl; (iterate 10 exact rfl)) | (apply AL_callPw (hR1); kernel_rfl; (iterate 4 exact rfl)) | (apply AL_callPw (hR2); kernel_rfl; (iterate 4 exact rfl)) | (apply AL_callPw (hR3); kernel_rfl; (iterate 4 exact rfl)) | (apply AL_callPw (hS1); kernel_rfl; (iterate 4 exact rfl)) | (apply AL_callPw (hS2); kernel_rfl; (iterate 4 exact rfl)) | (apply AL_appendZ ttok; (iterate 11 exact rfl); exact uniB_ok rfl; exact uniB_ok rfl; exact List.cons_ne_nil _ _; decide +kernel; decide +kernel; exact rfl; exact rfl) | (apply AL_move; exact rfl; exact rfl) | (apply AL_assign; exact rfl; exact rfl) | (apply AL_bin; (iterate 5 exact rfl)) | (apply AL_loadn ttok; (iterate 7 exact rfl)) | (apply AL_store ttok; (iterate 8 exact rfl)) | (apply AL_not; exact rfl; exact rfl) | (apply AL_extract; (iterate 3 exact rfl)) | refine AL_nil ?_ | (apply AL_guardT; (iterate 3 exact rfl); (first | with_reducible assumption | decide +kernel)) | (apply AL_pickT; exact rfl; (first | with_reducible assumption | decide +kernel); exact rfl; exact rfl) | refine AW_region ?_ | refine AW_seq' ?_ | refine then_norm ?_ | refine AW_ret ?_ | (apply AL_allocZ ttok; (iterate 4 exact rfl)) | (apply AL_bsZ ttok; (iterate 12 exact rfl)) | (apply AL_str; (iterate 5 exact rfl)) | (apply AL_b2s ttok; (iterate 9 exact rfl)))
  all_goals (apply endQ []; (repeat (first | exact ResL.nil | (apply ResL.cons; first | exact .tmp _ _ rfl | (apply res_n ttok; (iterate 6 exact rfl)) | (apply res_1 ttok; (iterate 5 exact rfl))))); (iterate 4 exact rfl))
  all_goals rfl
end Go.Proofs.YtnihobjehelagaaDoor
end
/- CborCut: the law's walk. -/
section
open Go.RowKit Go.Pl Go.Av
namespace Go.Proofs.YtnihobjehelagaaDoor
set_option linter.unusedVariables false
set_option linter.unusedSimpArgs false
set_option maxHeartbeats 4000000
theorem read_put {x : It} (hw : wfI x) (hr : rightI x = true) (r : List UInt8) : itemS 6 256 (putI x ++ r) = .ok (x, r, ((walkI x 1 256).getD 0)) := by
  unfold rightI at hr
  cases h : walkI x 1 256 with
  | none => rw [h] at hr; cases hr
  | some m => exact item_put x 6 256 m r hw (Nat.le_refl _) h
theorem read_put0 {x : It} (hw : wfI x) (hr : rightI x = true) (r : List UInt8) : readI (putI x ++ r) 0 = (x, (putI x).length, 0) := by
  rw [readI, if_neg (by omega), show (0 : Int).toNat = 0 from rfl, List.drop_zero, read_put hw hr]
  dsimp only
  rw [List.length_append, Nat.add_sub_cancel]
theorem read_cut0 {x : It} (hw : wfI x) (hr : rightI x = true) (c : Nat) (hc : c < (putI x).length) : readI ((putI x).take c) 0 = (.mk 0 0 [] [], 0, 8) := by
  rw [readI, if_neg (by omega)]
  show (match itemS 6 256 ((putI x).take c) with
    | .error e => (It.mk 0 0 [] [], 0, e)
    | .ok (y, r', _) => (y, ((putI x).take c).length - r'.length, 0)) = _
  unfold rightI at hr
  cases h : walkI x 1 256 with
  | none => rw [h] at hr; cases hr
  | some m => rw [item_cut x 6 256 m c hw (Nat.le_refl _) h hc]
theorem av_writeNo [Known] [KnownU8] (x : It) (hw : wfI x) (hlim : (putI x).length ≤ 1099511627776) (hr : rightI x = false) : AP Tryd.prog 16 [itD x] (.tup [byE [], .int .i64 3]) [] := by
  have h := av_writeI x hw hlim (av_rightI x hw)
  rw [hr] at h
  exact h
theorem av_writeYes [Known] [KnownU8] (x : It) (hw : wfI x) (hlim : (putI x).length ≤ 1099511627776) (hr : rightI x = true) : AP Tryd.prog 16 [itD x] (.tup [byE (putI x), .int .i64 0]) [] := by
  have h := av_writeI x hw hlim (av_rightI x hw)
  rw [hr] at h
  exact h
theorem put_ne (x : It) (hw : wfI x) (hr : rightI x = true) : ∃ c t, putI x = c :: t := by
  cases hp : putI x with
  | cons c t => exact ⟨c, t, rfl⟩
  | nil =>
    have h := read_put hw hr []
    rw [hp] at h
    have e : itemS 6 256 [] = .error 8 := rfl
    rw [List.append_nil, e] at h
    cases h
theorem av_cborCut [Known] [KnownU8] (x : It) (hx : nI x) (cut : Int) (behind : List UInt8) : AP Tryd.prog 6 [itD x, .int .i64 cut, byE behind] (.bool true) [] := by
  have hA := av_aliveC
  have hG := av_bigI x
  have hbl : (behind.map E.byte).length = behind.length := List.length_map ..
  cases hg : bigI x with
  | true =>
    rw [hg] at hG
    obtain ⟨k, n, b, l⟩ := x
    refine AP.ofA ?_
    refine AC_of Tryd.func6 rfl Tryd.ntmps6 rfl rfl ?_
    repeat' (first | (apply AL_callPw (hG); kernel_rfl; (iterate 4 exact rfl)) | (apply AL_callPw (hA); kernel_rfl; (iterate 4 exact rfl)) | (apply AL_move; exact rfl; exact rfl) | (apply AL_assign; exact rfl; exact rfl) | (apply AL_loadn ttok; (iterate 7 exact rfl)) | (apply AL_box; (iterate 5 exact rfl)) | refine AL_nil ?_ | (apply AL_guardFf; (iterate 3 exact rfl); (first | with_reducible assumption | decide +kernel)) | (apply AL_pickT; exact rfl; (first | with_reducible assumption | decide +kernel); exact rfl; exact rfl) | refine AW_region ?_ | refine AW_seq' ?_ | (apply AW_condA; exact rfl; (first | with_reducible assumption | decide +kernel)) | refine then_norm ?_ | refine AW_ret ?_ | refine then_ret ?_)
    all_goals (apply endQ []; (repeat (first | exact ResL.nil | (apply ResL.cons; first | exact .tmp _ _ rfl | (apply res_n ttok; (iterate 6 exact rfl)) | (apply res_1 ttok; (iterate 5 exact rfl))))); (iterate 4 exact rfl))
    all_goals rfl
  | false =>
    rw [hg] at hG
    by_cases hl : 100 < behind.length
    · have t1 : decide (((behind.map E.byte).length : Int) > 100) = true := by rw [hbl]; simp; omega
      obtain ⟨k, n, b, l⟩ := x
      refine AP.ofA ?_
      refine AC_of Tryd.func6 rfl Tryd.ntmps6 rfl rfl ?_
      repeat' (first | (apply AL_callPw (hG); kernel_rfl; (iterate 4 exact rfl)) | (apply AL_callPw (hA); kernel_rfl; (iterate 4 exact rfl)) | (apply AL_move; exact rfl; exact rfl) | (apply AL_assign; exact rfl; exact rfl) | (apply AL_bin; (iterate 5 exact rfl)) | (apply AL_loadn ttok; (iterate 7 exact rfl)) | (apply AL_box; (iterate 5 exact rfl)) | refine AL_nil ?_ | (apply AL_guardT; (iterate 3 exact rfl); (first | with_reducible assumption | decide +kernel)) | (apply AL_pickF; exact rfl; (first | with_reducible assumption | decide +kernel); exact rfl; exact rfl) | refine AW_region ?_ | refine AW_seq' ?_ | (apply AW_condA; exact rfl; (first | with_reducible assumption | decide +kernel)) | refine then_norm ?_ | refine AW_ret ?_ | refine then_ret ?_ | (apply AL_len ttok; (iterate 4 exact rfl)))
      all_goals (apply endQ []; (repeat (first | exact ResL.nil | (apply ResL.cons; first | exact .tmp _ _ rfl | (apply res_n ttok; (iterate 6 exact rfl)) | (apply res_1 ttok; (iterate 5 exact rfl))))); (iterate 4 exact rfl))
      all_goals rfl
    have t1 : decide (((behind.map E.byte).length : Int) > 100) = false := by rw [hbl]; simp; omega
    obtain ⟨hw, hlim, _⟩ := bigI_no hg hx
    cases hr : rightI x with
    | false =>
      have hW := av_writeNo x hw (by omega) hr
      obtain ⟨k, n, b, l⟩ := x
      refine AP.ofA ?_
      refine AC_of Tryd.func6 rfl Tryd.ntmps6 rfl rfl ?_
      repeat' (first | (apply AL_callPw (hG); kernel_rfl; (iterate 4 exact rfl)) | (apply AL_callPw (hA); kernel_rfl; (iterate 4 exact rfl)) | (apply AL_callPw (hW); kernel_rfl; (iterate 4 exact rfl)) | (apply AL_move; exact rfl; exact rfl) | (apply AL_assign; exact rfl; exact rfl) | (apply AL_bin; (iterate 5 exact rfl)) | (apply AL_loadn ttok; (iterate 7 exact rfl)) | (apply AL_box; (iterate 5 exact rfl)) | (apply AL_extract; (iterate 3 exact rfl)) | refine AL_nil ?_ | (apply AL_guardT; (iterate 3 exact rfl); (first | with_reducible assumption | decide +kernel)) | (apply AL_pickF; exact rfl; (first | with_reducible assumption | decide +kernel); exact rfl; exact rfl) | refine AW_region ?_ | refine AW_seq' ?_ | (apply AW_condA; exact rfl; (first | with_reducible assumption | decide +kernel)) | (apply AW_condB; exact rfl; (first | with_reducible assumption | decide +kernel)) | refine then_norm ?_ | refine AW_ret ?_ | refine then_ret ?_ | (apply AL_len ttok; (iterate 4 exact rfl)) | refine AW_skip ?_)
      all_goals (apply endQ []; (repeat (first | exact ResL.nil | (apply ResL.cons; first | exact .tmp _ _ rfl | (apply res_n ttok; (iterate 6 exact rfl)) | (apply res_1 ttok; (iterate 5 exact rfl))))); (iterate 4 exact rfl))
      all_goals rfl
    | true =>
      have hW := av_writeYes x hw (by omega) hr
      have hR1 := av_readC (putI x ++ behind) 0 (by rw [List.length_append]; omega)
      rw [read_put0 hw hr] at hR1
      have hSa := av_same x hw x hw
      rw [It.beq_iff.2 rfl] at hSa
      obtain ⟨c, t, hp⟩ := put_ne x hw hr
      have hcut := fun (i : Nat) => read_cut0 hw hr i
      have hRc := fun (i : Nat) => av_readC ((putI x).take i) 0 (by rw [List.length_take]; omega)
      generalize hP : putI x = P at hW hR1 hRc hcut hlim hp
      have hU1 := uniB1 P
      have hU2 := uniB1 behind
      have hPl : (P.map E.byte).length = P.length := List.length_map ..
      have t2 : ((P.length : Int) != ((P.map E.byte).length : Int)) = false := by rw [hPl]; simp
      have hne : P.map E.byte ≠ [] := by rw [hp]; exact List.cons_ne_nil _ _
      have hm1 : 0 + (P.map E.byte).length ≤ maxLen := by rw [hPl]; unfold maxLen; omega
      have hm2 : (0 + (P.map E.byte).length) * 1 ≤ 140737488355328 := by rw [hPl]; omega
      obtain ⟨k, n, b, l⟩ := x
      replace hR1 : AP Tryd.prog _ [.sl .ext ((P ++ behind).map E.byte), .int .i64 0] (.tup [itD (.mk k n b l), .int .i64 (P.length : Int), .int .i64 0]) [] := hR1
      rw [List.map_append] at hR1
      rcases Int.lt_or_le cut 0 with hc0 | hc0
      · have c1 : decide (cut < 0) = true := decide_eq_true hc0
        cases behind with
        | nil =>
          rw [List.map_nil, List.append_nil] at hR1
          refine AP.ofA ?_
          refine AC_of Tryd.func6 rfl Tryd.ntmps6 rfl rfl ?_
          repeat' (first | (apply AL_callPw (hG); kernel_rfl; (iterate 4 exact rfl)) | (apply AL_callPw (hA); kernel_rfl; (iterate 4 exact rfl)) | (apply AL_callPw (hW); kernel_rfl; (iterate 4 exact rfl)) | (apply AL_callPw (hR1); kernel_rfl; (iterate 4 exact rfl)) | (apply AL_callPw (hSa); kernel_rfl; (iterate 4 exact rfl)) | (apply AL_move; exact rfl; exact rfl) | (apply AL_assign; exact rfl; exact rfl) | (apply AL_bin; (iterate 5 exact rfl)) | (apply AL_loadn ttok; (iterate 7 exact rfl)) | (apply AL_box; (iterate 5 exact rfl)) | (apply AL_store ttok; (iterate 8 exact rfl)) | (apply AL_not; exact rfl; exact rfl) | (apply AL_extract; (iterate 3 exact rfl)) | refine AL_nil ?_ | (apply AL_guardT; (iterate 3 exact rfl); (first | with_reducible assumption | decide +kernel)) | (apply AL_guardFf; (iterate 3 exact rfl); (first | with_reducible assumption | decide +kernel)) | (apply AL_pickT; exact rfl; (first | with_reducible assumption | decide +kernel); exact rfl; exact rfl) | (apply AL_pickF; exact rfl; (first | with_reducible assumption | decide +kernel); exact rfl; exact rfl) | refine AW_region ?_ | refine AW_seq' ?_ | (apply AW_condA; exact rfl; (first | with_reducible assumption | decide +kernel)) | (apply AW_condB; exact rfl; (first | with_reducible assumption | decide +kernel)) | refine then_norm ?_ | refine AW_ret ?_ | refine then_ret ?_ | (apply AL_len ttok; (iterate 4 exact rfl)) | (apply AL_alloc ttok; (iterate 4 exact rfl)) | (apply AL_bs ttok; (iterate 12 exact rfl)) | refine AW_skip ?_ | (apply AL_append_none ttok; (iterate 6 exact rfl)) | (apply AL_append ttok; (iterate 6 exact rfl); (first | with_reducible assumption | decide +kernel | exact rfl | rotate_left); exact rfl; exact rfl; (first | exact uniB_ok rfl | with_reducible assumption | decide +kernel | rotate_left); (first | exact uniB_ok rfl | with_reducible assumption | decide +kernel | rotate_left); (first | exact List.cons_ne_nil _ _ | with_reducible assumption | decide +kernel | rotate_left); (first | with_reducible assumption | decide +kernel | rotate_left); (first | with_reducible assumption | decide +kernel | rotate_left); exact rfl; exact rfl))
          all_goals first | (apply endQ []; (repeat (first | exact ResL.nil | (apply ResL.cons; first | exact .tmp _ _ rfl | (apply res_n ttok; (iterate 6 exact rfl)) | (apply res_1 ttok; (iterate 5 exact rfl))))); (iterate 4 exact rfl)) | exact hm1 | exact hm2
          all_goals rfl
        | cons c' t' =>
          have hne2 : (c' :: t').map E.byte ≠ [] := List.cons_ne_nil _ _
          have hf1 : ([] : List E).length + (P.map E.byte).length = ([] ++ P.map E.byte).length := Nat.zero_add _
          have hm3 : ([] ++ P.map E.byte).length + ((c' :: t').map E.byte).length ≤ maxLen := by rw [hbl, List.nil_append, hPl]; unfold maxLen; omega
          have hm4 : (([] ++ P.map E.byte).length + ((c' :: t').map E.byte).length) * 1 ≤ 140737488355328 := by rw [hbl, List.nil_append, hPl]; omega
          refine AP.ofA ?_
          refine AC_of Tryd.func6 rfl Tryd.ntmps6 rfl rfl ?_
          repeat' (first | (apply AL_callPw (hG); kernel_rfl; (iterate 4 exact rfl)) | (apply AL_callPw (hA); kernel_rfl; (iterate 4 exact rfl)) | (apply AL_callPw (hW); kernel_rfl; (iterate 4 exact rfl)) | (apply AL_callPw (hR1); kernel_rfl; (iterate 4 exact rfl)) | (apply AL_callPw (hSa); kernel_rfl; (iterate 4 exact rfl)) | (apply AL_move; exact rfl; exact rfl) | (apply AL_assign; exact rfl; exact rfl) | (apply AL_bin; (iterate 5 exact rfl)) | (apply AL_loadn ttok; (iterate 7 exact rfl)) | (apply AL_box; (iterate 5 exact rfl)) | (apply AL_store ttok; (iterate 8 exact rfl)) | (apply AL_not; exact rfl; exact rfl) | (apply AL_extract; (iterate 3 exact rfl)) | refine AL_nil ?_ | (apply AL_guardT; (iterate 3 exact rfl); (first | with_reducible assumption | decide +kernel)) | (apply AL_guardFf; (iterate 3 exact rfl); (first | with_reducible assumption | decide +kernel)) | (apply AL_pickT; exact rfl; (first | with_reducible assumption | decide +kernel); exact rfl; exact rfl) | (apply AL_pickF; exact rfl; (first | with_reducible assumption | decide +kernel); exact rfl; exact rfl) | refine AW_region ?_ | refine AW_seq' ?_ | (apply AW_condA; exact rfl; (first | with_reducible assumption | decide +kernel)) | (apply AW_condB; exact rfl; (first | with_reducible assumption | decide +kernel)) | refine then_norm ?_ | refine AW_ret ?_ | refine then_ret ?_ | (apply AL_len ttok; (iterate 4 exact rfl)) | (apply AL_alloc ttok; (iterate 4 exact rfl)) | (apply AL_bs ttok; (iterate 12 exact rfl)) | refine AW_skip ?_ | (apply AL_append ttok; (iterate 6 exact rfl); (first | with_reducible assumption | decide +kernel | exact rfl | rotate_left); exact rfl; exact rfl; (first | exact uniB_ok rfl | with_reducible assumption | decide +kernel | rotate_left); (first | exact uniB_ok rfl | with_reducible assumption | decide +kernel | rotate_left); (first | exact List.cons_ne_nil _ _ | with_reducible assumption | decide +kernel | rotate_left); (first | with_reducible assumption | decide +kernel | rotate_left); (first | with_reducible assumption | decide +kernel | rotate_left); exact rfl; exact rfl))
          all_goals first | (apply endQ []; (repeat (first | exact ResL.nil | (apply ResL.cons; first | exact .tmp _ _ rfl | (apply res_n ttok; (iterate 6 exact rfl)) | (apply res_1 ttok; (iterate 5 exact rfl))))); (iterate 4 exact rfl)) | exact hf1 | exact hU1 | exact hne2 | exact hm1 | exact hm2 | exact hm3 | exact hm4
          all_goals rfl
      have c1 : decide (cut < 0) = false := decide_eq_false (by omega)
      rcases Int.lt_or_le cut P.length with hc2 | hc2
      · have c2 : decide (cut ≥ ((P.map E.byte).length : Int)) = false := decide_eq_false (by omega)
        have hR2 := hRc cut.toNat
        rw [hcut cut.toNat (by omega)] at hR2
        replace hR2 : AP Tryd.prog _ [byE (P.take cut.toNat), .int .i64 0] (.tup [itD (.mk 0 0 [] []), .int .i64 0, .int .i64 8]) [] := hR2
        have hq : cut.toNat ≤ P.length := by omega
        cases behind with
        | nil =>
          rw [List.map_nil, List.append_nil] at hR1
          refine AP.ofA ?_
          refine AC_of Tryd.func6 rfl Tryd.ntmps6 rfl rfl ?_
          repeat' (first | (apply AL_callPw (hG); kernel_rfl; (iterate 4 exact rfl)) | (apply AL_callPw (hA); kernel_rfl; (iterate 4 exact rfl)) | (apply AL_callPw (hW); kernel_rfl; (iterate 4 exact rfl)) | (apply AL_callPw (hR1); kernel_rfl; (iterate 4 exact rfl)) | (apply AL_callPw (hSa); kernel_rfl; (iterate 4 exact rfl)) | (apply AL_callPw (hR2); kernel_rfl; (iterate 4 exact rfl)) | (apply AL_upto ttok; (iterate 8 exact rfl); (first | with_reducible assumption | exact Int.natCast_nonneg _ | exact (by decide)); (first | with_reducible assumption | decide | (simp only [List.length_cons, List.length_drop, List.length_take, List.length_append, Int.toNat_natCast] at *; omega)); (first | with_reducible assumption | exact rfl)) | (apply AL_move; exact rfl; exact rfl) | (apply AL_assign; exact rfl; exact rfl) | (apply AL_bin; (iterate 5 exact rfl)) | (apply AL_loadn ttok; (iterate 7 exact rfl)) | (apply AL_box; (iterate 5 exact rfl)) | (apply AL_store ttok; (iterate 8 exact rfl)) | (apply AL_not; exact rfl; exact rfl) | (apply AL_extract; (iterate 3 exact rfl)) | refine AL_nil ?_ | (apply AL_guardT; (iterate 3 exact rfl); (first | with_reducible assumption | decide +kernel)) | (apply AL_guardFf; (iterate 3 exact rfl); (first | with_reducible assumption | decide +kernel)) | (apply AL_guardU; (iterate 3 exact rfl)) | (apply AL_pickT; exact rfl; (first | with_reducible assumption | decide +kernel); exact rfl; exact rfl) | (apply AL_pickF; exact rfl; (first | with_reducible assumption | decide +kernel); exact rfl; exact rfl) | refine AW_region ?_ | refine AW_seq' ?_ | (apply AW_condB; exact rfl; (first | with_reducible assumption | decide +kernel)) | refine then_norm ?_ | refine AW_ret ?_ | (apply AL_len ttok; (iterate 4 exact rfl)) | (apply AL_alloc ttok; (iterate 4 exact rfl)) | (apply AL_bs ttok; (iterate 12 exact rfl)) | refine AW_skip ?_ | (apply AL_append_none ttok; (iterate 6 exact rfl)) | (apply AL_append ttok; (iterate 6 exact rfl); (first | with_reducible assumption | decide +kernel | exact rfl | rotate_left); exact rfl; exact rfl; (first | exact uniB_ok rfl | with_reducible assumption | decide +kernel | rotate_left); (first | exact uniB_ok rfl | with_reducible assumption | decide +kernel | rotate_left); (first | exact List.cons_ne_nil _ _ | with_reducible assumption | decide +kernel | rotate_left); (first | with_reducible assumption | decide +kernel | rotate_left); (first | with_reducible assumption | decide +kernel | rotate_left); exact rfl; exact rfl))
          all_goals first | (apply endQ []; (repeat (first | exact ResL.nil | (apply ResL.cons; first | exact .tmp _ _ rfl | (apply res_n ttok; (iterate 6 exact rfl)) | (apply res_1 ttok; (iterate 5 exact rfl))))); (iterate 4 exact rfl)) | exact hm1 | exact hm2
          all_goals rfl
        | cons c' t' =>
          have hne2 : (c' :: t').map E.byte ≠ [] := List.cons_ne_nil _ _
          have hf1 : ([] : List E).length + (P.map E.byte).length = ([] ++ P.map E.byte).length := Nat.zero_add _
          have hm3 : ([] ++ P.map E.byte).length + ((c' :: t').map E.byte).length ≤ maxLen := by rw [hbl, List.nil_append, hPl]; unfold maxLen; omega
          have hm4 : (([] ++ P.map E.byte).length + ((c' :: t').map E.byte).length) * 1 ≤ 140737488355328 := by rw [hbl, List.nil_append, hPl]; omega
          refine AP.ofA ?_
          refine AC_of Tryd.func6 rfl Tryd.ntmps6 rfl rfl ?_
          repeat' (first | (apply AL_callPw (hG); kernel_rfl; (iterate 4 exact rfl)) | (apply AL_callPw (hA); kernel_rfl; (iterate 4 exact rfl)) | (apply AL_callPw (hW); kernel_rfl; (iterate 4 exact rfl)) | (apply AL_callPw (hR1); kernel_rfl; (iterate 4 exact rfl)) | (apply AL_callPw (hSa); kernel_rfl; (iterate 4 exact rfl)) | (apply AL_callPw (hR2); kernel_rfl; (iterate 4 exact rfl)) | (apply AL_upto ttok; (iterate 8 exact rfl); (first | with_reducible assumption | exact Int.natCast_nonneg _ | exact (by decide)); (first | with_reducible assumption | decide | (simp only [List.length_cons, List.length_drop, List.length_take, List.length_append, Int.toNat_natCast] at *; omega)); (first | with_reducible assumption | exact rfl)) | (apply AL_move; exact rfl; exact rfl) | (apply AL_assign; exact rfl; exact rfl) | (apply AL_bin; (iterate 5 exact rfl)) | (apply AL_loadn ttok; (iterate 7 exact rfl)) | (apply AL_box; (iterate 5 exact rfl)) | (apply AL_store ttok; (iterate 8 exact rfl)) | (apply AL_not; exact rfl; exact rfl) | (apply AL_extract; (iterate 3 exact rfl)) | refine AL_nil ?_ | (apply AL_guardT; (iterate 3 exact rfl); (first | with_reducible assumption | decide +kernel)) | (apply AL_guardFf; (iterate 3 exact rfl); (first | with_reducible assumption | decide +kernel)) | (apply AL_guardU; (iterate 3 exact rfl)) | (apply AL_pickT; exact rfl; (first | with_reducible assumption | decide +kernel); exact rfl; exact rfl) | (apply AL_pickF; exact rfl; (first | with_reducible assumption | decide +kernel); exact rfl; exact rfl) | refine AW_region ?_ | refine AW_seq' ?_ | (apply AW_condB; exact rfl; (first | with_reducible assumption | decide +kernel)) | refine then_norm ?_ | refine AW_ret ?_ | (apply AL_len ttok; (iterate 4 exact rfl)) | (apply AL_alloc ttok; (iterate 4 exact rfl)) | (apply AL_bs ttok; (iterate 12 exact rfl)) | refine AW_skip ?_ | (apply AL_append ttok; (iterate 6 exact rfl); (first | with_reducible assumption | decide +kernel | exact rfl | rotate_left); exact rfl; exact rfl; (first | exact uniB_ok rfl | with_reducible assumption | decide +kernel | rotate_left); (first | exact uniB_ok rfl | with_reducible assumption | decide +kernel | rotate_left); (first | exact List.cons_ne_nil _ _ | with_reducible assumption | decide +kernel | rotate_left); (first | with_reducible assumption | decide +kernel | rotate_left); (first | with_reducible assumption | decide +kernel | rotate_left); exact rfl; exact rfl))
          all_goals first | (apply endQ []; (repeat (first | exact ResL.nil | (apply ResL.cons; first | exact .tmp _ _ rfl | (apply res_n ttok; (iterate 6 exact rfl)) | (apply res_1 ttok; (iterate 5 exact rfl))))); (iterate 4 exact rfl)) | exact hf1 | exact hU1 | exact hne2 | exact hm1 | exact hm2 | exact hm3 | exact hm4
          all_goals rfl
      · have c2 : decide (cut ≥ ((P.map E.byte).length : Int)) = true := decide_eq_true (by omega)
        cases behind with
        | nil =>
          rw [List.map_nil, List.append_nil] at hR1
          refine AP.ofA ?_
          refine AC_of Tryd.func6 rfl Tryd.ntmps6 rfl rfl ?_
          repeat' (first | (apply AL_callPw (hG); kernel_rfl; (iterate 4 exact rfl)) | (apply AL_callPw (hA); kernel_rfl; (iterate 4 exact rfl)) | (apply AL_callPw (hW); kernel_rfl; (iterate 4 exact rfl)) | (apply AL_callPw (hR1); kernel_rfl; (iterate 4 exact rfl)) | (apply AL_callPw (hSa); kernel_rfl; (iterate 4 exact rfl)) | (apply AL_move; exact rfl; exact rfl) | (apply AL_assign; exact rfl; exact rfl) | (apply AL_bin; (iterate 5 exact rfl)) | (apply AL_loadn ttok; (iterate 7 exact rfl)) | (apply AL_box; (iterate 5 exact rfl)) | (apply AL_store ttok; (iterate 8 exact rfl)) | (apply AL_not; exact rfl; exact rfl) | (apply AL_extract; (iterate 3 exact rfl)) | refine AL_nil ?_ | (apply AL_guardT; (iterate 3 exact rfl); (first | with_reducible assumption | decide +kernel)) | (apply AL_pickF; exact rfl; (first | with_reducible assumption | decide +kernel); exact rfl; exact rfl) | refine AW_region ?_ | refine AW_seq' ?_ | (apply AW_condA; exact rfl; (first | with_reducible assumption | decide +kernel)) | (apply AW_condB; exact rfl; (first | with_reducible assumption | decide +kernel)) | refine then_norm ?_ | refine AW_ret ?_ | refine then_ret ?_ | (apply AL_len ttok; (iterate 4 exact rfl)) | (apply AL_alloc ttok; (iterate 4 exact rfl)) | (apply AL_bs ttok; (iterate 12 exact rfl)) | refine AW_skip ?_ | (apply AL_append_none ttok; (iterate 6 exact rfl)) | (apply AL_append ttok; (iterate 6 exact rfl); (first | with_reducible assumption | decide +kernel | exact rfl | rotate_left); exact rfl; exact rfl; (first | exact uniB_ok rfl | with_reducible assumption | decide +kernel | rotate_left); (first | exact uniB_ok rfl | with_reducible assumption | decide +kernel | rotate_left); (first | exact List.cons_ne_nil _ _ | with_reducible assumption | decide +kernel | rotate_left); (first | with_reducible assumption | decide +kernel | rotate_left); (first | with_reducible assumption | decide +kernel | rotate_left); exact rfl; exact rfl))
          all_goals first | (apply endQ []; (repeat (first | exact ResL.nil | (apply ResL.cons; first | exact .tmp _ _ rfl | (apply res_n ttok; (iterate 6 exact rfl)) | (apply res_1 ttok; (iterate 5 exact rfl))))); (iterate 4 exact rfl)) | exact hm1 | exact hm2
          all_goals rfl
        | cons c' t' =>
          have hne2 : (c' :: t').map E.byte ≠ [] := List.cons_ne_nil _ _
          have hf1 : ([] : List E).length + (P.map E.byte).length = ([] ++ P.map E.byte).length := Nat.zero_add _
          have hm3 : ([] ++ P.map E.byte).length + ((c' :: t').map E.byte).length ≤ maxLen := by rw [hbl, List.nil_append, hPl]; unfold maxLen; omega
          have hm4 : (([] ++ P.map E.byte).length + ((c' :: t').map E.byte).length) * 1 ≤ 140737488355328 := by rw [hbl, List.nil_append, hPl]; omega
          refine AP.ofA ?_
          refine AC_of Tryd.func6 rfl Tryd.ntmps6 rfl rfl ?_
          repeat' (first | (apply AL_callPw (hG); kernel_rfl; (iterate 4 exact rfl)) | (apply AL_callPw (hA); kernel_rfl; (iterate 4 exact rfl)) | (apply AL_callPw (hW); kernel_rfl; (iterate 4 exact rfl)) | (apply AL_callPw (hR1); kernel_rfl; (iterate 4 exact rfl)) | (apply AL_callPw (hSa); kernel_rfl; (iterate 4 exact rfl)) | (apply AL_move; exact rfl; exact rfl) | (apply AL_assign; exact rfl; exact rfl) | (apply AL_bin; (iterate 5 exact rfl)) | (apply AL_loadn ttok; (iterate 7 exact rfl)) | (apply AL_box; (iterate 5 exact rfl)) | (apply AL_store ttok; (iterate 8 exact rfl)) | (apply AL_not; exact rfl; exact rfl) | (apply AL_extract; (iterate 3 exact rfl)) | refine AL_nil ?_ | (apply AL_guardT; (iterate 3 exact rfl); (first | with_reducible assumption | decide +kernel)) | (apply AL_pickF; exact rfl; (first | with_reducible assumption | decide +kernel); exact rfl; exact rfl) | refine AW_region ?_ | refine AW_seq' ?_ | (apply AW_condA; exact rfl; (first | with_reducible assumption | decide +kernel)) | (apply AW_condB; exact rfl; (first | with_reducible assumption | decide +kernel)) | refine then_norm ?_ | refine AW_ret ?_ | refine then_ret ?_ | (apply AL_len ttok; (iterate 4 exact rfl)) | (apply AL_alloc ttok; (iterate 4 exact rfl)) | (apply AL_bs ttok; (iterate 12 exact rfl)) | refine AW_skip ?_ | (apply AL_append ttok; (iterate 6 exact rfl); (first | with_reducible assumption | decide +kernel | exact rfl | rotate_left); exact rfl; exact rfl; (first | exact uniB_ok rfl | with_reducible assumption | decide +kernel | rotate_left); (first | exact uniB_ok rfl | with_reducible assumption | decide +kernel | rotate_left); (first | exact List.cons_ne_nil _ _ | with_reducible assumption | decide +kernel | rotate_left); (first | with_reducible assumption | decide +kernel | rotate_left); (first | with_reducible assumption | decide +kernel | rotate_left); exact rfl; exact rfl))
          all_goals first | (apply endQ []; (repeat (first | exact ResL.nil | (apply ResL.cons; first | exact .tmp _ _ rfl | (apply res_n ttok; (iterate 6 exact rfl)) | (apply res_1 ttok; (iterate 5 exact rfl))))); (iterate 4 exact rfl)) | exact hf1 | exact hU1 | exact hne2 | exact hm1 | exact hm2 | exact hm3 | exact hm4
          all_goals rfl
end Go.Proofs.YtnihobjehelagaaDoor
end
/- An item as an argument: from the form's own reading to this seat's words. -/
section
open Go.RowKit Go.Pl Go.Av
namespace Go.Proofs.YtnihobjehelagaaDoor
set_option linter.unusedVariables false
def viaR {α β : Type} (R : Rep α) (f : β → α) : Rep β where
  n := R.n
  ok := fun w S cs x => R.ok w S cs (f x)
  len := R.len
  one := R.one
  frame := R.frame
  mono := R.mono
  lt := R.lt
def none4 : Rep It where
  n := 4
  ok := fun _ _ _ _ => False
  len := fun h => h.elim
  one := fun h => h.elim
  frame := fun _ h => h
  mono := fun _ h => h
  lt := fun h => h
def RI : Nat → {R : Rep It // R.n = 4}
  | 0 => ⟨none4, rfl⟩
  | m + 1 => ⟨viaR (Rep.i64.prod (Rep.u64.prod ((Rep.slice Rep.byte (by decide)).prod (Rep.slice (RI m).1 (by rw [(RI m).2]; decide))))) fun x => (x.k, x.n, x.b, x.l), rfl⟩
theorem toE_item : ∀ m : Nat, ToE (RI m).1 itE
  | 0 => ⟨fun _ _ _ _ _ _ h => h.elim⟩
  | m + 1 => ⟨fun w S C cs x hC h => by
    have h0 := ((ToE.i64.prod (ToE.u64.prod ((ToE.byte.slice (by decide)).prod ((toE_item m).slice (by rw [(RI m).2]; decide))))).cells w S C cs (x.k, x.n, x.b, x.l) hC h)
    obtain ⟨k, n, b, l⟩ := x
    have e : (itE (.mk k n b l)).cells = [.int .i64 k, .int .u64 (n : Int), .sl (b.map E.byte), .sl (l.map itE)] := by rw [← itEs_map]; rfl
    rw [e]
    exact h0⟩
theorem run_all {α : Type} {R : Rep α} {w : World} {S : Nat → Prop} : ∀ {l : List α} {cs : List Value}, Run R w S cs l → ∀ x ∈ l, ∃ cs', R.ok w S cs' x
  | [], _, _, x, hx => nomatch hx
  | y :: l, cs, h, x, hx => by
    obtain ⟨c1, c2, _, h1, h2⟩ := h
    rcases List.mem_cons.1 hx with rfl | hx
    · exact ⟨c1, h1⟩
    · exact run_all h2 x hx
theorem nIs_of : ∀ {l : List It}, (∀ x ∈ l, nI x) → nIs l
  | [], _ => trivial
  | x :: l, h => ⟨h x (List.mem_cons_self ..), nIs_of fun y hy => h y (List.mem_cons_of_mem _ hy)⟩
theorem item_nI : ∀ (m : Nat) {w : World} {S : Nat → Prop} {cs : List Value} {x : It}, (RI m).1.ok w S cs x → nI x
  | 0, _, _, _, _, h => h.elim
  | m + 1, w, S, cs, x, h => by
    obtain ⟨k, n, b, l⟩ := x
    obtain ⟨_, _, _, _, _, _, _, ⟨_, hn⟩, _, _, _, _, v, _, A, cap, _, _, _, cs', hr, _⟩ := h
    exact ⟨hn, nIs_of fun y hy => let ⟨c, hc⟩ := run_all hr y hy; item_nI m hc⟩
variable {P : Program} {t : TypeId}
theorem opens_sliceF {α : Type} {R : Rep α} {e : TypeId} (hR : 0 < R.n) (ht : P.underlying t = some (.slice e)) (hc : P.cellsOf e = R.n) {H : Type} {enc : TypeId × Value → H} {W : World} {spare : Nat → Bool} {held : Bool} {fuel : Nat} {cs : List Value} {y : DataW H × List MemPlace}
    (he : ∀ (f : Nat) (cs : List Value) (y : DataW H × List MemPlace), f < fuel → DataW.trod enc P W 0 spare held f e cs = some y → ∃ x, R.ok W (· < W.heap.size) cs x) (h : DataW.trod enc P W 0 spare held fuel t cs = some y) : ∃ x, (Rep.slice R hR).ok W (· < W.heap.size) cs x := by
  rcases DataW.trod_slice ht h with ⟨rfl, _⟩ | ⟨a, len, cap, elems, rest, n, hn, rfl, _, _, hl, hm, hlen, hi, _, _⟩
  · exact ⟨[], _, rfl, Sl.nil _ _ _⟩
  · rw [hc] at hi
    have key : ∀ k, k ≤ len → ∃ (l : List α) (cs : List Value), l.length = k ∧ Run R W (· < W.heap.size) cs l ∧ ∀ j, j < cs.length → W.cell? (a.add j) = cs[j]? := by
      intro k
      induction k with
      | zero => intro _; exact ⟨[], [], rfl, rfl, fun j hj => by simp at hj⟩
      | succ k ih =>
        intro hk
        obtain ⟨l, cs, hll, hr, hcc⟩ := ih (by omega)
        have hik := hi k (by omega)
        rw [List.getElem?_eq_getElem (by omega)] at hik
        obtain ⟨cs', hcs', ht'⟩ := Option.bind_eq_some_iff.1 hik
        obtain ⟨x, hx⟩ := he n cs' _ (by omega) ht'
        obtain ⟨_, hcl, hat⟩ := World.cells?_some hcs'
        refine ⟨l ++ [x], cs ++ cs', by simp [hll], hr.append (Run.single hx), fun j hj => ?_⟩
        have hlen := hr.length
        rw [hll] at hlen
        rcases Nat.lt_or_ge j cs.length with h1 | h1
        · rw [List.getElem?_append_left h1]; exact hcc j h1
        · rw [List.getElem?_append_right h1]
          have h2 : j - cs.length < R.n := by rw [List.length_append, hcl] at hj; omega
          have := hat (j - cs.length) h2
          rw [Go.Deep.add_add] at this
          rw [← this]
          congr 2
          omega
    obtain ⟨l, cs, hll, hr, hcc⟩ := key len (Nat.le_refl _)
    subst hll
    refine ⟨l, _, rfl, some a, cap, rfl, hl, hm, cs, hr, fun hne => ?_⟩
    have hlen := hr.length
    have hpos : 0 < cs.length := by rw [hlen]; exact Nat.mul_pos (List.length_pos_iff.2 hne) hR
    obtain ⟨b, off, spot⟩ := a
    have h0 := (hcc 0 hpos).trans (List.getElem?_eq_getElem hpos)
    have hspot : spot = none := by simpa [Addr.add] using World.cell?_spot h0
    subst hspot
    refine ⟨b, off, rfl, World.block_lt_of_cell? W _ (by simpa [Addr.add] using h0), fun j hj => ?_⟩
    rw [← hcc j hj]
    congr 1
    unfold Addr.add; split <;> simp_all
theorem opens_item {fs : Array Field} {f0 f1 f2 f3 : Field} (hs : P.underlying t = some (.struct fs)) (hfs : fs = #[f0, f1, f2, f3]) (hc : P.cellsOf t = 4)
    (h00 : f0.offset = 0) (h01 : f1.offset = 1) (h02 : f2.offset = 2) (h03 : f3.offset = 3) (hc0 : P.cellsOf f0.type = 1) (hc1 : P.cellsOf f1.type = 1) (hc2 : P.cellsOf f2.type = 1) (hc3 : P.cellsOf f3.type = 1)
    (h0 : Opens P f0.type Rep.i64) (h1 : Opens P f1.type Rep.u64) (h2 : Opens P f2.type (Rep.slice Rep.byte (by decide))) (h3 : P.underlying f3.type = some (.slice t))
    {H : Type} {enc : TypeId × Value → H} {W : World} {spare : Nat → Bool} {held : Bool} : ∀ (fuel : Nat) (cs : List Value) (y : DataW H × List MemPlace), DataW.trod enc P W 0 spare held fuel t cs = some y → ∀ j, fuel ≤ j → ∃ x, (RI j).1.ok W (· < W.heap.size) cs x := by
  intro fuel
  induction fuel using Nat.strongRecOn with
  | _ fuel ih =>
    intro cs y h j hj
    obtain ⟨xs, n, hn, _, hl, hxl, hg⟩ := DataW.trod_struct hs h
    subst hfs
    obtain ⟨j, rfl⟩ : ∃ i, j = i + 1 := ⟨j - 1, by omega⟩
    have e0 := hg 0 f0 rfl
    have e1 := hg 1 f1 rfl
    have e2 := hg 2 f2 rfl
    have e3 := hg 3 f3 rfl
    rw [hc] at hl
    match cs, hl with
    | [v0, v1, v2, v3], _ =>
    rw [h00, hc0] at e0
    rw [h01, hc1] at e1
    rw [h02, hc2] at e2
    rw [h03, hc3] at e3
    have hn4 : xs.length = 4 := hxl
    obtain ⟨k, hk⟩ := h0 H enc W spare held n _ _ (e0.trans (List.getElem?_eq_getElem (by omega)))
    obtain ⟨m, hm⟩ := h1 H enc W spare held n _ _ (e1.trans (List.getElem?_eq_getElem (by omega)))
    obtain ⟨b, hb⟩ := h2 H enc W spare held n _ _ (e2.trans (List.getElem?_eq_getElem (by omega)))
    obtain ⟨l, hll⟩ := opens_sliceF (R := (RI j).1) (by rw [(RI j).2]; decide) h3 (by rw [hc, (RI j).2]) (fun f cs y hf hy => ih f (by omega) cs y hy j (by omega)) (e3.trans (List.getElem?_eq_getElem (by omega)))
    exact ⟨.mk k m b l, [v0], [v1, v2, v3], rfl, hk, [v1], [v2, v3], rfl, hm, [v2], [v3], rfl, hb, hll⟩
end Go.Proofs.YtnihobjehelagaaDoor
end
/- What a row's tables tell of the world. -/
section
open Go.RowKit Go.Pl Go.Av Go.Lib
namespace Go.Proofs.YtnihobjehelagaaDoor
set_option linter.unusedVariables false
theorem dcsl_ints (k : IntKind) : ∀ zs : List Int, dcsl (zs.map fun z => .lit (.int k z)) = zs.map fun z => Value.int k z
  | [] => rfl
  | z :: zs => by rw [List.map_cons, List.map_cons, dcsl, dcsl_ints k zs]; rfl
theorem cells_at {P : Program} {W : World} {n : String} {g : Nat} {t : TypeId} {d : DataW Unit} (hg : P.globalNamed n = some g) (ht : (P.globals[g]?).map (·.type) = some t) (h : VarReads P W n d)
    (key : ∀ (fuel : Nat) (cs : List Value) (p : List MemPlace), DataW.trod (fun _ => ()) P W 0 (fun _ => true) false fuel t cs = some (d, p) → ∀ (j : Nat) (v : Value), (dcs d)[j]? = some v → cs[j]? = some v) :
    ∀ (j : Nat) (v : Value), (dcs d)[j]? = some v → (g0 W).C g j ∧ W.cell? ⟨g, j, none⟩ = some v := by
  obtain ⟨g', t', cs, fuel, p, h1, h2, h3, h4⟩ := h
  obtain rfl := Option.some.inj (hg.symm.trans h1)
  obtain rfl := Option.some.inj (ht.symm.trans h2)
  intro j v hv
  have hc := key fuel cs.toList p h4 j v hv
  have hcell : W.cell? ⟨g, j, none⟩ = some v := by
    rw [World.var?_cell hg h3 j, ← Array.getElem?_toList]; exact hc
  exact ⟨World.block_lt_of_cell? W _ hcell, hcell⟩
theorem ints_at {P : Program} {W : World} {t e : TypeId} {n : Nat} {k : IntKind} {d : DataW Unit} (zs : List Int) (hd : d = tabData k zs) (ht : P.underlying t = some (.array n e)) (he : P.underlying e = some (.int k)) (hce : P.cellsOf e = 1) (hct : P.cellsOf t = n) :
    ∀ (fuel : Nat) (cs : List Value) (p : List MemPlace), DataW.trod (fun _ => ()) P W 0 (fun _ => true) false fuel t cs = some (d, p) → ∀ (j : Nat) (v : Value), (dcs d)[j]? = some v → cs[j]? = some v := by
  subst hd
  intro fuel cs p h j v hv
  rw [cells_of_tab ht he hce hct h]
  rw [tabData, dcs, dcsl_ints] at hv
  exact hv
theorem rows_at {P : Program} {W : World} {t e : TypeId} {n : Nat} {k : IntKind} {d : DataW Unit} {fs : Array Field} (rows : List (List Int)) (hd : d = .agg (rows.map fun r => .agg (r.map fun z => .lit (.int k z)))) (hn : rows.length = n) (ht : P.underlying t = some (.array n e)) (he : P.underlying e = some (.struct fs))
    (hf : ∀ (i : Nat) (f : Field), fs[i]? = some f → P.underlying f.type = some (.int k) ∧ f.offset = i ∧ P.cellsOf f.type = 1) (hce : P.cellsOf e = fs.size) :
    ∀ (fuel : Nat) (cs : List Value) (p : List MemPlace), DataW.trod (fun _ => ()) P W 0 (fun _ => true) false fuel t cs = some (d, p) → ∀ (j : Nat) (v : Value), (dcs d)[j]? = some v → cs[j]? = some v := by
  subst hd
  intro fuel cs p h j v hv
  have key : ∀ i, i ≤ n → cs.take (i * fs.size) = dcsl ((rows.take i).map fun r => .agg (r.map fun z => .lit (.int k z))) := by
    intro i
    induction i with
    | zero => intro _; rw [Nat.zero_mul, List.take_zero, List.take_zero]; rfl
    | succ i ih =>
      intro hi
      obtain ⟨fuel', d', q, hdi, he'⟩ := array_elem ht h i (by omega)
      rw [List.getElem?_map, List.getElem?_eq_getElem (by omega : i < rows.length)] at hdi
      simp only [Option.map_some, Option.some.injEq] at hdi
      subst hdi
      rw [hce] at he'
      have hcs := ints_of_struct he hf hce he'
      rw [Nat.succ_mul, List.take_add, ih (by omega), hcs, List.take_succ_eq_append_getElem (by omega : i < rows.length), List.map_append]
      have app : ∀ (a b : List (DataW Unit)), dcsl (a ++ b) = dcsl a ++ dcsl b := fun a b => by
        induction a with
        | nil => rfl
        | cons x a ih => rw [List.cons_append, dcsl, dcsl, ih, List.append_assoc]
      rw [app, List.map_cons, List.map_nil, dcsl, dcs, dcsl_ints]
      simp [dcsl]
  have h2 := key n (Nat.le_refl _)
  rw [← hn, List.take_length] at h2
  rw [dcs, ← h2] at hv
  rw [List.getElem?_take] at hv
  split at hv
  · exact hv
  · cases hv
/-- the tables of unicode/utf8 -/
abbrev knownU8 : Known := ⟨[0, 1]⟩
theorem knownU8_ok : @KnownU8 knownU8 := @KnownU8.mk knownU8 (List.mem_cons_self ..) (List.mem_cons_of_mem _ (List.mem_cons_self ..))
def firstZ : List Int := Pinned.utf8FirstZ.map Int.ofNat
def acceptZ : List (List Int) := [[128, 191], [160, 191], [128, 159], [144, 191], [128, 143], [0, 0], [0, 0], [0, 0], [0, 0], [0, 0], [0, 0], [0, 0], [0, 0], [0, 0], [0, 0], [0, 0]]
theorem gls_u8 {W : World} {laid : List (String × DataW Unit)} (h1 : ("unicode/utf8.first", Rows.laid_unicode_utf8_first) ∈ laid) (h2 : ("unicode/utf8.acceptRanges", Rows.laid_unicode_utf8_acceptRanges) ∈ laid) (h : laidMet Tryd.prog laid W) : @Gls knownU8 (g0 W).C W := by
  have r1 := laidMet.reads h h1
  have r2 := laidMet.reads h h2
  have c1 := cells_at (P := Tryd.prog) (g := 0) (t := 184) (by kernel_rfl) (by kernel_rfl) r1 (ints_at firstZ (by kernel_rfl) (n := 256) (by kernel_rfl) Tryd.underlying5 (by kernel_rfl) (by kernel_rfl))
  have c2 := cells_at (P := Tryd.prog) (g := 1) (t := 187) (by kernel_rfl) (by kernel_rfl) r2 (rows_at acceptZ (by kernel_rfl) (n := 16) rfl Tryd.underlying187 Tryd.underlying186 (fun i f hf => by
    match i, hf with
    | 0, hf => simp at hf; subst hf; exact ⟨Tryd.underlying5, rfl, by kernel_rfl⟩
    | 1, hf => simp at hf; subst hf; exact ⟨Tryd.underlying5, rfl, by kernel_rfl⟩
    | i + 2, hf => simp at hf) (by kernel_rfl))
  refine ⟨fun k cs hk => ?_, fun k t hk => ?_⟩
  · obtain ⟨hk, hm⟩ := hk
    simp only [tabs, List.mem_cons, List.not_mem_nil, or_false, Prod.mk.injEq] at hm
    have hk : k ∈ [0, 1] := hk
    simp only [List.mem_cons, List.not_mem_nil, or_false] at hk
    clear r1 r2 h1 h2 h
    rcases hk with rfl | rfl
    all_goals repeat' (refine Or.elim hm (fun hm => ?_) (fun hm => ?_))
    all_goals first
      | (obtain ⟨h, rfl⟩ := hm; exact c1)
      | (obtain ⟨h, rfl⟩ := hm; exact c2)
      | (obtain ⟨h, _⟩ := hm; exact absurd h (by decide))
  · obtain ⟨hk, hm⟩ := hk
    have hk : k ∈ [0, 1] := hk
    simp only [List.mem_cons, List.not_mem_nil, or_false] at hk
    simp only [tabI, List.mem_cons, List.not_mem_nil, or_false, Prod.mk.injEq] at hm
    omega
end Go.Proofs.YtnihobjehelagaaDoor
end
/- CborCut: the walk, from the row's arguments. -/
section
open Go.RowKit Go.Pl Go.Av
namespace Go.Proofs.YtnihobjehelagaaDoor
set_option linter.unusedVariables false
theorem item_V {W : World} {cs : List Value} {x : It} {m : Nat} (h : (RI m).1.ok W (· < W.heap.size) cs x) : V W (g0 W) [] (itD x) (.agg cs.toArray) := by
  obtain ⟨k, n, b, l⟩ := x
  have h1 := ToE.agg (toE_item m) (l := [.int .i64 k, .int .u64 (n : Int), .sl (b.map E.byte), .sl (itEs l)]) (hf := rfl) h
  exact h1
theorem bytes_V {W : World} {v : Value} {b : List UInt8} (h : Sl Rep.byte W (· < W.heap.size) v b) : V W (g0 W) [] (byE b) v := .sl .ext _ _ (ToE.byte.sl (C := (g0 W).C) (fun k hk o => hk) h) trivial
theorem cborCut_walk (cs : List Value) (a1 : Int) (v2 : Value) (x : It) (b : List UInt8) (W : World) (hx : ∃ m, (RI m).1.ok W (· < W.heap.size) cs x) (ha : -9223372036854775808 ≤ a1 ∧ a1 ≤ 9223372036854775807) (hs : Sl Rep.byte W (· < W.heap.size) v2 b) (hl : laidMet Tryd.prog Rows.cborCutRow.laid W) :
    Calls Tryd.prog 6 #[.agg ⟨cs⟩, .int .i64 a1, v2] W fun e w' => e = .returned (.bool true) ∧ Below W.heap.size W w' := by
  obtain ⟨m, hx⟩ := hx
  have hg := gls_u8 (laid := Rows.cborCutRow.laid) (List.mem_cons_of_mem _ (List.mem_cons_self ..)) (List.mem_cons_self ..) hl
  have h := @av_cborCut knownU8 knownU8_ok x (item_nI m hx) a1 b
  refine @topG knownU8 Tryd.prog 6 _ (@AC.mono knownU8 _ _ _ _ _ _ _ h fun r b t h => h.1) W [.agg ⟨cs⟩, .int .i64 a1, v2] hg rfl ?_
  intro j d v hd hv
  match j, hd, hv with
  | 0, hd, hv => cases hd; cases hv; exact item_V hx
  | 1, hd, hv => cases hd; cases hv; exact .int _ _
  | 2, hd, hv => cases hd; cases hv; exact bytes_V hs
  | j + 3, hd, hv => cases hd
end Go.Proofs.YtnihobjehelagaaDoor
end
