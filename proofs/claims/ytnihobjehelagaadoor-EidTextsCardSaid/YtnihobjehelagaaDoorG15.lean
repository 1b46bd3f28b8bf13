/- Package strings: a prefix cut off; a text cut at a byte. -/
import Derived.Test.YtnihobjehelagaaDoorG10
section
open Go.RowKit Go.Pl Go.Av
namespace Go.Proofs.YtnihobjehelagaaDoor
set_option linter.unusedVariables false
set_option linter.unusedSimpArgs false
set_option maxHeartbeats 4000000
theorem av_hasPre [Known] (s p : List UInt8) (hs : s.length ≤ 4611686018427387904) (hp : p.length ≤ 4611686018427387904) : AP Tryd.prog 128 [.str s, .str p] (.bool (s.take p.length == p)) [] := by
  by_cases h : p.length ≤ s.length
  · have t1 : decide ((s.length : Int) ≥ (p.length : Int)) = true := decide_eq_true (by omega)
    have hq : ((p.length : Nat) : Int).toNat ≤ s.length := by rw [Int.toNat_natCast]; exact h
    have hs2 : (s.take ((p.length : Nat) : Int).toNat).drop 0 = s.take p.length := by rw [Int.toNat_natCast, List.drop_zero]
    generalize s.take p.length = s2 at *
    refine AP.ofA ?_
    refine AC_of Tryd.func128 rfl Tryd.ntmps128 rfl rfl ?_
    repeat' (first | (apply AL_sliceS ttok; (iterate 4 exact rfl); exact .dft _; exact .lit _ _ _ _ rfl (Int.natCast_nonneg _); exact Nat.zero_le _; exact hq; exact hs2) | (apply AL_move; exact rfl; exact rfl) | (apply AL_assign; exact rfl; exact rfl) | (apply AL_bin; (iterate 5 exact rfl)) | refine AL_nil ?_ | (apply AL_guardT; (iterate 3 exact rfl); (first | with_reducible assumption | decide +kernel)) | (apply AL_pickT; exact rfl; (first | with_reducible assumption | decide +kernel); exact rfl; exact rfl) | refine AW_region ?_ | refine AW_seq' ?_ | refine then_norm ?_ | refine AW_ret ?_ | (apply AL_lens ttok; (iterate 4 exact rfl)) | (apply AL_str; (iterate 5 exact rfl)))
    all_goals (apply endQ []; (repeat (first | exact ResL.nil | (apply ResL.cons; first | exact .tmp _ _ rfl | (apply res_n ttok; (iterate 6 exact rfl)) | (apply res_1 ttok; (iterate 5 exact rfl))))); (iterate 4 exact rfl))
    all_goals rfl
  · have t1 : decide ((s.length : Int) ≥ (p.length : Int)) = false := decide_eq_false (by omega)
    have e : (s.take p.length == p) = false := by
      rw [beq_eq_false_iff_ne]
      intro e
      have := congrArg List.length e
      rw [List.length_take] at this
      omega
    rw [e]
    refine AP.ofA ?_
    refine AC_of Tryd.func128 rfl Tryd.ntmps128 rfl rfl ?_
    repeat' (first | (apply AL_move; exact rfl; exact rfl) | (apply AL_assign; exact rfl; exact rfl) | (apply AL_bin; (iterate 5 exact rfl)) | refine AL_nil ?_ | (apply AL_guardFt; (iterate 3 exact rfl); (first | with_reducible assumption | decide +kernel)) | (apply AL_pickF; exact rfl; (first | with_reducible assumption | decide +kernel); exact rfl; exact rfl) | refine AW_region ?_ | refine AW_seq' ?_ | refine then_norm ?_ | refine AW_ret ?_ | (apply AL_lens ttok; (iterate 4 exact rfl)))
    all_goals (apply endQ []; (repeat (first | exact ResL.nil | (apply ResL.cons; first | exact .tmp _ _ rfl | (apply res_n ttok; (iterate 6 exact rfl)) | (apply res_1 ttok; (iterate 5 exact rfl))))); (iterate 4 exact rfl))
    all_goals rfl
theorem av_cutPreY [Known] (p r : List UInt8) (hs : (p ++ r).length ≤ 4611686018427387904) : AP Tryd.prog 72 [.str (p ++ r), .str p] (.tup [.str r, .bool true]) [] := by
  have hH := av_hasPre (p ++ r) p hs (by rw [List.length_append] at hs; omega)
  rw [List.take_left, beq_self_eq_true] at hH
  have hq : ((p.length : Nat) : Int).toNat ≤ (p ++ r).length := by rw [Int.toNat_natCast, List.length_append]; omega
  have hs2 : ((p ++ r).take (p ++ r).length).drop ((p.length : Nat) : Int).toNat = r := by rw [Int.toNat_natCast, List.take_length, List.drop_left]
  have hC : AP Tryd.prog 106 [.str (p ++ r), .str p] (.tup [.str r, .bool true]) [] := by
    generalize p ++ r = s at *
    refine AP.ofA ?_
    refine AC_of Tryd.func106 rfl Tryd.ntmps106 rfl rfl ?_
    repeat' (first | (apply AL_callPw (hH); kernel_rfl; (iterate 4 exact rfl)) | (apply AL_sliceS ttok; (iterate 4 exact rfl); exact .lit _ _ _ _ rfl (Int.natCast_nonneg _); exact .dft _; exact hq; exact Nat.le_refl _; exact hs2) | (apply AL_move; exact rfl; exact rfl) | (apply AL_assign; exact rfl; exact rfl) | (apply AL_not; exact rfl; exact rfl) | refine AL_nil ?_ | refine AW_region ?_ | refine AW_seq' ?_ | (apply AW_condB; exact rfl; (first | with_reducible assumption | decide +kernel)) | refine then_norm ?_ | refine AW_ret ?_ | (apply AL_lens ttok; (iterate 4 exact rfl)) | refine AW_skip ?_)
    all_goals (apply endQ []; (repeat (first | exact ResL.nil | (apply ResL.cons; first | exact .tmp _ _ rfl | (apply res_n ttok; (iterate 6 exact rfl)) | (apply res_1 ttok; (iterate 5 exact rfl))))); (iterate 4 exact rfl))
    all_goals rfl
  refine AP.ofA ?_
  refine AC_of Tryd.func72 rfl Tryd.ntmps72 rfl rfl ?_
  repeat' (first | (apply AL_callPw (hC); kernel_rfl; (iterate 4 exact rfl)) | (apply AL_move; exact rfl; exact rfl) | (apply AL_assign; exact rfl; exact rfl) | (apply AL_extract; (iterate 3 exact rfl)) | refine AL_nil ?_ | refine AW_region ?_ | refine AW_seq' ?_ | refine then_norm ?_ | refine AW_ret ?_)
  all_goals (apply endQ []; (repeat (first | exact ResL.nil | (apply ResL.cons; first | exact .tmp _ _ rfl | (apply res_n ttok; (iterate 6 exact rfl)) | (apply res_1 ttok; (iterate 5 exact rfl))))); (iterate 4 exact rfl))
  all_goals rfl
theorem av_cutPreN [Known] (s p : List UInt8) (hs : s.length ≤ 4611686018427387904) (hp : p.length ≤ 4611686018427387904) (h : (s.take p.length == p) = false) : AP Tryd.prog 72 [.str s, .str p] (.tup [.str s, .bool false]) [] := by
  have hH := av_hasPre s p hs hp
  rw [h] at hH
  have hC : AP Tryd.prog 106 [.str s, .str p] (.tup [.str s, .bool false]) [] := by
    refine AP.ofA ?_
    refine AC_of Tryd.func106 rfl Tryd.ntmps106 rfl rfl ?_
    repeat' (first | (apply AL_callPw (hH); kernel_rfl; (iterate 4 exact rfl)) | (apply AL_move; exact rfl; exact rfl) | (apply AL_assign; exact rfl; exact rfl) | (apply AL_not; exact rfl; exact rfl) | refine AL_nil ?_ | refine AW_region ?_ | refine AW_seq' ?_ | (apply AW_condA; exact rfl; (first | with_reducible assumption | decide +kernel)) | refine then_norm ?_ | refine AW_ret ?_ | refine then_ret ?_)
    all_goals (apply endQ []; (repeat (first | exact ResL.nil | (apply ResL.cons; first | exact .tmp _ _ rfl | (apply res_n ttok; (iterate 6 exact rfl)) | (apply res_1 ttok; (iterate 5 exact rfl))))); (iterate 4 exact rfl))
    all_goals rfl
  refine AP.ofA ?_
  refine AC_of Tryd.func72 rfl Tryd.ntmps72 rfl rfl ?_
  repeat' (first | (apply AL_callPw (hC); kernel_rfl; (iterate 4 exact rfl)) | (apply AL_move; exact rfl; exact rfl) | (apply AL_assign; exact rfl; exact rfl) | (apply AL_extract; (iterate 3 exact rfl)) | refine AL_nil ?_ | refine AW_region ?_ | refine AW_seq' ?_ | refine then_norm ?_ | refine AW_ret ?_)
  all_goals (apply endQ []; (repeat (first | exact ResL.nil | (apply ResL.cons; first | exact .tmp _ _ rfl | (apply res_n ttok; (iterate 6 exact rfl)) | (apply res_1 ttok; (iterate 5 exact rfl))))); (iterate 4 exact rfl))
  all_goals rfl
theorem pre_cases (s p : List UInt8) : (∃ r, s = p ++ r) ∨ (s.take p.length == p) = false := by
  cases h : s.take p.length == p with
  | true =>
    refine .inl ⟨s.drop p.length, ?_⟩
    have := beq_iff_eq.1 h
    conv => lhs; rw [← List.take_append_drop p.length s, this]
  | false => exact .inr rfl
theorem ixb_no : ∀ {l : List UInt8} {c : UInt8}, c ∉ l → Lib.indexByte l c = -1
  | [], _, _ => rfl
  | x :: l, c, h => by
    have h1 : ¬ x = c := fun e => h (by rw [e]; exact List.mem_cons_self ..)
    have h2 := ixb_no (l := l) (c := c) fun hm => h (List.mem_cons_of_mem _ hm)
    simp [Lib.indexByte, h1, h2]
theorem ixb_yes : ∀ {a b : List UInt8} {c : UInt8}, c ∉ a → Lib.indexByte (a ++ c :: b) c = (a.length : Int)
  | [], b, c, _ => by simp [Lib.indexByte]
  | x :: a, b, c, h => by
    have h1 : ¬ x = c := fun e => h (by rw [e]; exact List.mem_cons_self ..)
    have h2 := ixb_yes (a := a) (b := b) (c := c) fun hm => h (List.mem_cons_of_mem _ hm)
    rw [List.cons_append]
    simp only [Lib.indexByte, h2, List.length_cons, beq_iff_eq, h1, if_false]
    (repeat' split) <;> omega
theorem av_index1 [Known] (s : List UInt8) (c : UInt8) : AP Tryd.prog 140 [.str s, .str [c]] (.int .i64 (Lib.indexByte s c)) [] := by
  have hI := av_ixb s (c.toNat : Int)
  have e : ((c.toNat : Int)).toNat.toUInt8 = c := by rw [Int.toNat_natCast]; simp
  rw [e] at hI
  have t0 : ((([c] : List UInt8).length : Int) == 0) = false := rfl
  have t1 : ((([c] : List UInt8).length : Int) == 1) = true := rfl
  by_cases hs : [c] = s
  · subst hs
    have t2 : ([c] == [c]) = true := by simp
    have e0 : Lib.indexByte [c] c = 0 := by simp [Lib.indexByte]
    rw [e0]
    refine AP.ofA ?_
    refine AC_of Tryd.func140 rfl Tryd.ntmps140 rfl rfl ?_
    repeat' (first | (apply AL_move; exact rfl; exact rfl) | (apply AL_assign; exact rfl; exact rfl) | (apply AL_bin; (iterate 5 exact rfl)) | refine AL_nil ?_ | (apply AL_guardT; (iterate 3 exact rfl); (first | with_reducible assumption | decide +kernel)) | (apply AL_pickF; exact rfl; (first | with_reducible assumption | decide +kernel); exact rfl; exact rfl) | refine AW_region ?_ | refine AW_seq' ?_ | (apply AW_condA; exact rfl; (first | with_reducible assumption | decide +kernel)) | refine then_norm ?_ | refine AW_block ?_ | refine AW_ret ?_ | refine then_ret ?_ | refine blk_ret ?_ | (apply AL_lens ttok; (iterate 4 exact rfl)) | (apply AL_str; (iterate 5 exact rfl)))
    all_goals (apply endQ []; (repeat (first | exact ResL.nil | (apply ResL.cons; first | exact .tmp _ _ rfl | (apply res_n ttok; (iterate 6 exact rfl)) | (apply res_1 ttok; (iterate 5 exact rfl))))); (iterate 4 exact rfl))
    all_goals rfl
  · have t2 : ([c] == s) = false := by simpa using hs
    refine AP.ofA ?_
    refine AC_of Tryd.func140 rfl Tryd.ntmps140 rfl rfl ?_
    repeat' (first | (apply AL_callPw (hI); kernel_rfl; (iterate 4 exact rfl)) | (apply AL_idxs ttok; (iterate 5 exact rfl); decide +kernel; exact rfl) | (apply AL_move; exact rfl; exact rfl) | (apply AL_assign; exact rfl; exact rfl) | (apply AL_bin; (iterate 5 exact rfl)) | refine AL_nil ?_ | (apply AL_guardT; (iterate 3 exact rfl); (first | with_reducible assumption | decide +kernel)) | (apply AL_pickF; exact rfl; (first | with_reducible assumption | decide +kernel); exact rfl; exact rfl) | refine AW_region ?_ | refine AW_seq' ?_ | (apply AW_condA; exact rfl; (first | with_reducible assumption | decide +kernel)) | (apply AW_condB; exact rfl; (first | with_reducible assumption | decide +kernel)) | refine then_norm ?_ | refine AW_block ?_ | refine AW_ret ?_ | refine then_ret ?_ | refine blk_ret ?_ | (apply AL_lens ttok; (iterate 4 exact rfl)) | (apply AL_str; (iterate 5 exact rfl)))
    all_goals (apply endQ []; (repeat (first | exact ResL.nil | (apply ResL.cons; first | exact .tmp _ _ rfl | (apply res_n ttok; (iterate 6 exact rfl)) | (apply res_1 ttok; (iterate 5 exact rfl))))); (iterate 4 exact rfl))
    all_goals rfl
theorem av_cutN [Known] (s : List UInt8) (c : UInt8) (h : c ∉ s) : AP Tryd.prog 107 [.str s, .str [c]] (.tup [.str s, .str [], .bool false]) [] := by
  have hI := av_index1 s c
  rw [ixb_no h] at hI
  have hC : AP Tryd.prog 129 [.str s, .str [c]] (.tup [.str s, .str [], .bool false]) [] := by
    refine AP.ofA ?_
    refine AC_of Tryd.func129 rfl Tryd.ntmps129 rfl rfl ?_
    repeat' (first | (apply AL_callPw (hI); kernel_rfl; (iterate 4 exact rfl)) | (apply AL_move; exact rfl; exact rfl) | (apply AL_assign; exact rfl; exact rfl) | (apply AL_bin; (iterate 5 exact rfl)) | refine AL_nil ?_ | refine AW_region ?_ | refine AW_seq' ?_ | (apply AW_condB; exact rfl; (first | with_reducible assumption | decide +kernel)) | refine then_norm ?_ | refine AW_ret ?_ | refine AW_skip ?_)
    all_goals (apply endQ []; (repeat (first | exact ResL.nil | (apply ResL.cons; first | exact .tmp _ _ rfl | (apply res_n ttok; (iterate 6 exact rfl)) | (apply res_1 ttok; (iterate 5 exact rfl))))); (iterate 4 exact rfl))
    all_goals rfl
  refine AP.ofA ?_
  refine AC_of Tryd.func107 rfl Tryd.ntmps107 rfl rfl ?_
  repeat' (first | (apply AL_callPw (hC); kernel_rfl; (iterate 4 exact rfl)) | (apply AL_move; exact rfl; exact rfl) | (apply AL_assign; exact rfl; exact rfl) | (apply AL_extract; (iterate 3 exact rfl)) | refine AL_nil ?_ | refine AW_region ?_ | refine AW_seq' ?_ | refine then_norm ?_ | refine AW_ret ?_)
  all_goals (apply endQ []; (repeat (first | exact ResL.nil | (apply ResL.cons; first | exact .tmp _ _ rfl | (apply res_n ttok; (iterate 6 exact rfl)) | (apply res_1 ttok; (iterate 5 exact rfl))))); (iterate 4 exact rfl))
  all_goals rfl
theorem av_cutY [Known] (a b : List UInt8) (c : UInt8) (h : c ∉ a) (hl : (a ++ c :: b).length ≤ 4611686018427387904) : AP Tryd.prog 107 [.str (a ++ c :: b), .str [c]] (.tup [.str a, .str b, .bool true]) [] := by
  have hI := av_index1 (a ++ c :: b) c
  rw [ixb_yes h] at hI
  have hal : a.length + 1 ≤ (a ++ c :: b).length := by rw [List.length_append, List.length_cons]; omega
  have t1 : decide ((a.length : Int) ≥ 0) = true := decide_eq_true (by omega)
  have e1 : IntKind.i64.wrap ((a.length : Int) + (([c] : List UInt8).length : Int)) = ((a.length + 1 : Nat) : Int) := by
    rw [IntWalk.i64_in _ (by simp; omega)]; simp
  have q1 : ((a.length : Nat) : Int).toNat ≤ (a ++ c :: b).length := by rw [Int.toNat_natCast]; omega
  have q2 : ((a.length + 1 : Nat) : Int).toNat ≤ (a ++ c :: b).length := by rw [Int.toNat_natCast]; omega
  have s1 : ((a ++ c :: b).take ((a.length : Nat) : Int).toNat).drop 0 = a := by rw [Int.toNat_natCast, List.drop_zero, List.take_left]
  have s2 : ((a ++ c :: b).take (a ++ c :: b).length).drop ((a.length + 1 : Nat) : Int).toNat = b := by
    rw [Int.toNat_natCast, List.take_length, show a.length + 1 = (a ++ [c]).length by simp, show a ++ c :: b = (a ++ [c]) ++ b by simp, List.drop_left]
  have hC : AP Tryd.prog 129 [.str (a ++ c :: b), .str [c]] (.tup [.str a, .str b, .bool true]) [] := by
    generalize a ++ c :: b = s at *
    refine AP.ofA ?_
    refine AC_of Tryd.func129 rfl Tryd.ntmps129 rfl rfl ?_
    repeat' (first | rw [e1] | (apply AL_callPw (hI); kernel_rfl; (iterate 4 exact rfl)) | (apply AL_sliceS ttok; (iterate 4 exact rfl); exact .dft _; exact .lit _ _ _ _ rfl (Int.natCast_nonneg _); exact Nat.zero_le _; exact q1; exact s1) | (apply AL_sliceS ttok; (iterate 4 exact rfl); exact .lit _ _ _ _ rfl (Int.natCast_nonneg _); exact .dft _; exact q2; exact Nat.le_refl _; exact s2) | (apply AL_move; exact rfl; exact rfl) | (apply AL_assign; exact rfl; exact rfl) | (apply AL_bin; (iterate 5 exact rfl)) | refine AL_nil ?_ | refine AW_region ?_ | refine AW_seq' ?_ | (apply AW_condA; exact rfl; (first | with_reducible assumption | decide +kernel)) | refine then_norm ?_ | refine AW_ret ?_ | refine then_ret ?_ | (apply AL_lens ttok; (iterate 4 exact rfl)) | (apply AW_drawE 10 hmix; (decide +kernel); (kernel_rfl); (kernel_rfl); (kernel_rfl); exact rfl; exact rfl) | (apply AE_consZ; (iterate 4 exact rfl)) | exact AE.nil _ _ _ _ | (apply AEk_puT; exact rfl) | (apply AOt_mk; exact rfl; exact rfl; (decide +kernel); exact rfl) | (apply AO_puT; exact rfl) | exact AO.nil _ _ _ | (apply AOs_skip; (decide +kernel)) | exact AOs.nil | exact qY_ok rfl rfl)
    all_goals (apply endQ []; (repeat (first | exact ResL.nil | (apply ResL.cons; first | exact .tmp _ _ rfl | (apply res_n ttok; (iterate 6 exact rfl)) | (apply res_1 ttok; (iterate 5 exact rfl))))); (iterate 4 exact rfl))
    all_goals rfl
  refine AP.ofA ?_
  refine AC_of Tryd.func107 rfl Tryd.ntmps107 rfl rfl ?_
  repeat' (first | (apply AL_callPw (hC); kernel_rfl; (iterate 4 exact rfl)) | (apply AL_move; exact rfl; exact rfl) | (apply AL_assign; exact rfl; exact rfl) | (apply AL_extract; (iterate 3 exact rfl)) | refine AL_nil ?_ | refine AW_region ?_ | refine AW_seq' ?_ | refine then_norm ?_ | refine AW_ret ?_)
  all_goals (apply endQ []; (repeat (first | exact ResL.nil | (apply ResL.cons; first | exact .tmp _ _ rfl | (apply res_n ttok; (iterate 6 exact rfl)) | (apply res_1 ttok; (iterate 5 exact rfl))))); (iterate 4 exact rfl))
  all_goals rfl
theorem cut_cases (c : UInt8) : ∀ s : List UInt8, (c ∉ s) ∨ ∃ a b, s = a ++ c :: b ∧ c ∉ a
  | [] => .inl (by simp)
  | x :: s => by
    by_cases e : x = c
    · subst e; exact .inr ⟨[], s, rfl, by simp⟩
    · rcases cut_cases c s with h | ⟨a, b, rfl, h⟩
      · refine .inl fun hm => ?_
        rcases List.mem_cons.1 hm with h2 | h2
        · exact e h2.symm
        · exact h h2
      · refine .inr ⟨x :: a, b, rfl, fun hm => ?_⟩
        rcases List.mem_cons.1 hm with h2 | h2
        · exact e h2.symm
        · exact h h2
end Go.Proofs.YtnihobjehelagaaDoor
end
