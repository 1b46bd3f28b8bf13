/- Package strings: a prefix cut off; a text cut at a byte. -/
import Derived.Test.YtdhkfbolnkikgaaGreatDoorG14
import Derived.Test.YtdhkfbolnkikgaaGreatDoorG08
import Derived.LaidEql
import Derived.Test.YtdhkfbolnkikgaaGreatDoorG11
section
open Go.RowKit Go.Pl Go.Av
namespace Go.Proofs.YtdhkfbolnkikgaaGreatDoor
set_option linter.unusedVariables false
set_option linter.unusedSimpArgs false
set_option maxHeartbeats 4000000
theorem av_hasPre [Known] (s p : List UInt8) (hs : s.length ≤ 4611686018427387904) (hp : p.length ≤ 4611686018427387904) : AP Tryz.prog 73 [.str s, .str p] (.bool (s.take p.length == p)) [] := by
  by_cases h : p.length ≤ s.length
  · have t1 : decide ((s.length : Int) ≥ (p.length : Int)) = true := decide_eq_true (by omega)
    have hq : ((p.length : Nat) : Int).toNat ≤ s.length := by rw [Int.toNat_natCast]; exact h
    have hs2 : (s.take ((p.length : Nat) : Int).toNat).drop 0 = s.take p.length := by rw [Int.toNat_natCast, List.drop_zero]
    generalize s.take p.length = s2 at *
    refine AP.ofA ?_
    refine AC_of Tryz.func73 rfl Tryz.ntmps73 rfl rfl ?_
    repeat' (first | (apply AL_sliceS ttok; (iterate 4 exact rfl); exact .dft _; exact .lit _ _ _ _ rfl (Int.natCast_nonneg _); exact Nat.zero_le _; exact hq; exact hs2) | (apply AL_move; exact rfl; exact rfl) | (apply AL_assign; exact rfl; exact rfl) | (apply AL_bin; (iterate 5 exact rfl)) | refine AL_nil ?_ | (apply AL_guardT; (iterate 3 exact rfl); (first | with_reducible assumption | decide +kernel)) | (apply AL_pickT; exact rfl; (first | with_reducible assumption | decide +kernel); exact rfl; exact rfl) | refine AW_region ?_ | refine AW_seq' ?_ | refine then_norm ?_ | refine AW_ret ?_ | (apply AL_lens ttok; (iterate 4 exact rfl)) | (apply AL_str; (iterate 5 exact rfl)))
    all_goals (apply endQ []; (repeat (first | exact ResL.nil | (apply ResL.cons; first | exact .tmp _ _ rfl | (apply res_n ttok; (iterate 6 exact rfl)) | (apply res_1 ttok; (iterate 5 exact rfl))))); (iterate 4 exact rfl))
    all_goals rfl
  · have t1 : decide ((s.length : Int) ≥ (p.length : Int)) = false := decide_eq_false (by omega)
    have e : (s.take p.length == p) = false := by
      rw [beq_eq_false_iff_ne]
      intro e
      have := congrArg List.length e
      rw [List.length_take] at this
      omega
    rw [e]
    refine AP.ofA ?_
    refine AC_of Tryz.func73 rfl Tryz.ntmps73 rfl rfl ?_
    repeat' (first | (apply AL_move; exact rfl; exact rfl) | (apply AL_assign; exact rfl; exact rfl) | (apply AL_bin; (iterate 5 exact rfl)) | refine AL_nil ?_ | (apply AL_guardFt; (iterate 3 exact rfl); (first | with_reducible assumption | decide +kernel)) | (apply AL_pickF; exact rfl; (first | with_reducible assumption | decide +kernel); exact rfl; exact rfl) | refine AW_region ?_ | refine AW_seq' ?_ | refine then_norm ?_ | refine AW_ret ?_ | (apply AL_lens ttok; (iterate 4 exact rfl)))
    all_goals (apply endQ []; (repeat (first | exact ResL.nil | (apply ResL.cons; first | exact .tmp _ _ rfl | (apply res_n ttok; (iterate 6 exact rfl)) | (apply res_1 ttok; (iterate 5 exact rfl))))); (iterate 4 exact rfl))
    all_goals rfl
theorem av_cutPreY [Known] (p r : List UInt8) (hs : (p ++ r).length ≤ 4611686018427387904) : AP Tryz.prog 60 [.str (p ++ r), .str p] (.tup [.str r, .bool true]) [] := by
  have hH := av_hasPre (p ++ r) p hs (by rw [List.length_append] at hs; omega)
  rw [List.take_left, beq_self_eq_true] at hH
  have hq : ((p.length : Nat) : Int).toNat ≤ (p ++ r).length := by rw [Int.toNat_natCast, List.length_append]; omega
  have hs2 : ((p ++ r).take (p ++ r).length).drop ((p.length : Nat) : Int).toNat = r := by rw [Int.toNat_natCast, List.take_length, List.drop_left]
  have hC : AP Tryz.prog 66 [.str (p ++ r), .str p] (.tup [.str r, .bool true]) [] := by
    generalize p ++ r = s at *
    refine AP.ofA ?_
    refine AC_of Tryz.func66 rfl Tryz.ntmps66 rfl rfl ?_
    repeat' (first | (apply AL_callPw (hH); kernel_rfl; (iterate 4 exact rfl)) | (apply AL_sliceS ttok; (iterate 4 exact rfl); exact .lit _ _ _ _ rfl (Int.natCast_nonneg _); exact .dft _; exact hq; exact Nat.le_refl _; exact hs2) | (apply AL_move; exact rfl; exact rfl) | (apply AL_assign; exact rfl; exact rfl) | (apply AL_not; exact rfl; exact rfl) | refine AL_nil ?_ | refine AW_region ?_ | refine AW_seq' ?_ | (apply AW_condB; exact rfl; (first | with_reducible assumption | decide +kernel)) | refine then_norm ?_ | refine AW_ret ?_ | (apply AL_lens ttok; (iterate 4 exact rfl)) | refine AW_skip ?_)
    all_goals (apply endQ []; (repeat (first | exact ResL.nil | (apply ResL.cons; first | exact .tmp _ _ rfl | (apply res_n ttok; (iterate 6 exact rfl)) | (apply res_1 ttok; (iterate 5 exact rfl))))); (iterate 4 exact rfl))
    all_goals rfl
  refine AP.ofA ?_
  refine AC_of Tryz.func60 rfl Tryz.ntmps60 rfl rfl ?_
  repeat' (first | (apply AL_callPw (hC); kernel_rfl; (iterate 4 exact rfl)) | (apply AL_move; exact rfl; exact rfl) | (apply AL_assign; exact rfl; exact rfl) | (apply AL_extract; (iterate 3 exact rfl)) | refine AL_nil ?_ | refine AW_region ?_ | refine AW_seq' ?_ | refine then_norm ?_ | refine AW_ret ?_)
  all_goals (apply endQ []; (repeat (first | exact ResL.nil | (apply ResL.cons; first | exact .tmp _ _ rfl | (apply res_n ttok; (iterate 6 exact rfl)) | (apply res_1 ttok; (iterate 5 exact rfl))))); (iterate 4 exact rfl))
  all_goals rfl
theorem av_cutPreN [Known] (s p : List UInt8) (hs : s.length ≤ 4611686018427387904) (hp : p.length ≤ 4611686018427387904) (h : (s.take p.length == p) = false) : AP Tryz.prog 60 [.str s, .str p] (.tup [.str s, .bool false]) [] := by
  have hH := av_hasPre s p hs hp
  rw [h] at hH
  have hC : AP Tryz.prog 66 [.str s, .str p] (.tup [.str s, .bool false]) [] := by
    refine AP.ofA ?_
    refine AC_of Tryz.func66 rfl Tryz.ntmps66 rfl rfl ?_
    repeat' (first | (apply AL_callPw (hH); kernel_rfl; (iterate 4 exact rfl)) | (apply AL_move; exact rfl; exact rfl) | (apply AL_assign; exact rfl; exact rfl) | (apply AL_not; exact rfl; exact rfl) | refine AL_nil ?_ | refine AW_region ?_ | refine AW_seq' ?_ | (apply AW_condA; exact rfl; (first | with_reducible assumption | decide +kernel)) | refine then_norm ?_ | refine AW_ret ?_ | refine then_ret ?_)
    all_goals (apply endQ []; (repeat (first | exact ResL.nil | (apply ResL.cons; first | exact .tmp _ _ rfl | (apply res_n ttok; (iterate 6 exact rfl)) | (apply res_1 ttok; (iterate 5 exact rfl))))); (iterate 4 exact rfl))
    all_goals rfl
  refine AP.ofA ?_
  refine AC_of Tryz.func60 rfl Tryz.ntmps60 rfl rfl ?_
  repeat' (first | (apply AL_callPw (hC); kernel_rfl; (iterate 4 exact rfl)) | (apply AL_move; exact rfl; exact rfl) | (apply AL_assign; exact rfl; exact rfl) | (apply AL_extract; (iterate 3 exact rfl)) | refine AL_nil ?_ | refine AW_region ?_ | refine AW_seq' ?_ | refine then_norm ?_ | refine AW_ret ?_)
  all_goals (apply endQ []; (repeat (first | exact ResL.nil | (apply ResL.cons; first | exact .tmp _ _ rfl | (apply res_n ttok; (iterate 6 exact rfl)) | (apply res_1 ttok; (iterate 5 exact rfl))))); (iterate 4 exact rfl))
  all_goals rfl
theorem pre_cases (s p : List UInt8) : (∃ r, s = p ++ r) ∨ (s.take p.length == p) = false := by
  cases h : s.take p.length == p with
  | true =>
    refine .inl ⟨s.drop p.length, ?_⟩
    have := beq_iff_eq.1 h
    conv => lhs; rw [← List.take_append_drop p.length s, this]
  | false => exact .inr rfl
theorem ixb_no : ∀ {l : List UInt8} {c : UInt8}, c ∉ l → Lib.indexByte l c = -1
  | [], _, _ => rfl
  | x :: l, c, h => by
    have h1 : ¬ x = c := fun e => h (by rw [e]; exact List.mem_cons_self ..)
    have h2 := ixb_no (l := l) (c := c) fun hm => h (List.mem_cons_of_mem _ hm)
    simp [Lib.indexByte, h1, h2]
theorem ixb_yes : ∀ {a b : List UInt8} {c : UInt8}, c ∉ a → Lib.indexByte (a ++ c :: b) c = (a.length : Int)
  | [], b, c, _ => by simp [Lib.indexByte]
  | x :: a, b, c, h => by
    have h1 : ¬ x = c := fun e => h (by rw [e]; exact List.mem_cons_self ..)
    have h2 := ixb_yes (a := a) (b := b) (c := c) fun hm => h (List.mem_cons_of_mem _ hm)
    rw [List.cons_append]
    simp only [Lib.indexByte, h2, List.length_cons, beq_iff_eq, h1, if_false]
    (repeat' split) <;> omega
theorem av_index1 [Known] (s : List UInt8) (c : UInt8) : AP Tryz.prog 82 [.str s, .str [c]] (.int .i64 (Lib.indexByte s c)) [] := by
  have hI := av_ixb s (c.toNat : Int)
  have e : ((c.toNat : Int)).toNat.toUInt8 = c := by rw [Int.toNat_natCast]; simp
  rw [e] at hI
  have t0 : ((([c] : List UInt8).length : Int) == 0) = false := rfl
  have t1 : ((([c] : List UInt8).length : Int) == 1) = true := rfl
  by_cases hs : [c] = s
  · subst hs
    have t2 : ([c] == [c]) = true := by simp
    have e0 : Lib.indexByte [c] c = 0 := by simp [Lib.indexByte]
    rw [e0]
    refine AP.ofA ?_
    refine AC_of Tryz.func82 rfl Tryz.ntmps82 rfl rfl ?_
    repeat' (first | (apply AL_move; exact rfl; exact rfl) | (apply AL_assign; exact rfl; exact rfl) | (apply AL_bin; (iterate 5 exact rfl)) | refine AL_nil ?_ | (apply AL_guardT; (iterate 3 exact rfl); (first | with_reducible assumption | decide +kernel)) | (apply AL_pickF; exact rfl; (first | with_reducible assumption | decide +kernel); exact rfl; exact rfl) | refine AW_region ?_ | refine AW_seq' ?_ | (apply AW_condA; exact rfl; (first | with_reducible assumption | decide +kernel)) | refine then_norm ?_ | refine AW_block ?_ | refine AW_ret ?_ | refine then_ret ?_ | refine blk_ret ?_ | (apply AL_lens ttok; (iterate 4 exact rfl)) | (apply AL_str; (iterate 5 exact rfl)))
    all_goals (apply endQ []; (repeat (first | exact ResL.nil | (apply ResL.cons; first | exact .tmp _ _ rfl | (apply res_n ttok; (iterate 6 exact rfl)) | (apply res_1 ttok; (iterate 5 exact rfl))))); (iterate 4 exact rfl))
    all_goals rfl
  · have t2 : ([c] == s) = false := by simpa using hs
    refine AP.ofA ?_
    refine AC_of Tryz.func82 rfl Tryz.ntmps82 rfl rfl ?_
    repeat' (first | (apply AL_callPw (hI); kernel_rfl; (iterate 4 exact rfl)) | (apply AL_idxs ttok; (iterate 5 exact rfl); decide +kernel; exact rfl) | (apply AL_move; exact rfl; exact rfl) | (apply AL_assign; exact rfl; exact rfl) | (apply AL_bin; (iterate 5 exact rfl)) | refine AL_nil ?_ | (apply AL_guardT; (iterate 3 exact rfl); (first | with_reducible assumption | decide +kernel)) | (apply AL_pickF; exact rfl; (first | with_reducible assumption | decide +kernel); exact rfl; exact rfl) | refine AW_region ?_ | refine AW_seq' ?_ | (apply AW_condA; exact rfl; (first | with_reducible assumption | decide +kernel)) | (apply AW_condB; exact rfl; (first | with_reducible assumption | decide +kernel)) | refine then_norm ?_ | refine AW_block ?_ | refine AW_ret ?_ | refine then_ret ?_ | refine blk_ret ?_ | (apply AL_lens ttok; (iterate 4 exact rfl)) | (apply AL_str; (iterate 5 exact rfl)))
    all_goals (apply endQ []; (repeat (first | exact ResL.nil | (apply ResL.cons; first | exact .tmp _ _ rfl | (apply res_n ttok; (iterate 6 exact rfl)) | (apply res_1 ttok; (iterate 5 exact rfl))))); (iterate 4 exact rfl))
    all_goals rfl
theorem av_cutN [Known] (s : List UInt8) (c : UInt8) (h : c ∉ s) : AP Tryz.prog 67 [.str s, .str [c]] (.tup [.str s, .str [], .bool false]) [] := by
  have hI := av_index1 s c
  rw [ixb_no h] at hI
  have hC : AP Tryz.prog 74 [.str s, .str [c]] (.tup [.str s, .str [], .bool false]) [] := by
    refine AP.ofA ?_
    refine AC_of Tryz.func74 rfl Tryz.ntmps74 rfl rfl ?_
    repeat' (first | (apply AL_callPw (hI); kernel_rfl; (iterate 4 exact rfl)) | (apply AL_move; exact rfl; exact rfl) | (apply AL_assign; exact rfl; exact rfl) | (apply AL_bin; (iterate 5 exact rfl)) | refine AL_nil ?_ | refine AW_region ?_ | refine AW_seq' ?_ | (apply AW_condB; exact rfl; (first | with_reducible assumption | decide +kernel)) | refine then_norm ?_ | refine AW_ret ?_ | refine AW_skip ?_)
    all_goals (apply endQ []; (repeat (first | exact ResL.nil | (apply ResL.cons; first | exact .tmp _ _ rfl | (apply res_n ttok; (iterate 6 exact rfl)) | (apply res_1 ttok; (iterate 5 exact rfl))))); (iterate 4 exact rfl))
    all_goals rfl
  refine AP.ofA ?_
  refine AC_of Tryz.func67 rfl Tryz.ntmps67 rfl rfl ?_
  repeat' (first | (apply AL_callPw (hC); kernel_rfl; (iterate 4 exact rfl)) | (apply AL_move; exact rfl; exact rfl) | (apply AL_assign; exact rfl; exact rfl) | (apply AL_extract; (iterate 3 exact rfl)) | refine AL_nil ?_ | refine AW_region ?_ | refine AW_seq' ?_ | refine then_norm ?_ | refine AW_ret ?_)
  all_goals (apply endQ []; (repeat (first | exact ResL.nil | (apply ResL.cons; first | exact .tmp _ _ rfl | (apply res_n ttok; (iterate 6 exact rfl)) | (apply res_1 ttok; (iterate 5 exact rfl))))); (iterate 4 exact rfl))
  all_goals rfl
theorem av_cutY [Known] (a b : List UInt8) (c : UInt8) (h : c ∉ a) (hl : (a ++ c :: b).length ≤ 4611686018427387904) : AP Tryz.prog 67 [.str (a ++ c :: b), .str [c]] (.tup [.str a, .str b, .bool true]) [] := by
  have hI := av_index1 (a ++ c :: b) c
  rw [ixb_yes h] at hI
  have hal : a.length + 1 ≤ (a ++ c :: b).length := by rw [List.length_append, List.length_cons]; omega
  have t1 : decide ((a.length : Int) ≥ 0) = true := decide_eq_true (by omega)
  have e1 : IntKind.i64.wrap ((a.length : Int) + (([c] : List UInt8).length : Int)) = ((a.length + 1 : Nat) : Int) := by
    rw [IntWalk.i64_in _ (by simp; omega)]; simp
  have q1 : ((a.length : Nat) : Int).toNat ≤ (a ++ c :: b).length := by rw [Int.toNat_natCast]; omega
  have q2 : ((a.length + 1 : Nat) : Int).toNat ≤ (a ++ c :: b).length := by rw [Int.toNat_natCast]; omega
  have s1 : ((a ++ c :: b).take ((a.length : Nat) : Int).toNat).drop 0 = a := by rw [Int.toNat_natCast, List.drop_zero, List.take_left]
  have s2 : ((a ++ c :: b).take (a ++ c :: b).length).drop ((a.length + 1 : Nat) : Int).toNat = b := by
    rw [Int.toNat_natCast, List.take_length, show a.length + 1 = (a ++ [c]).length by simp, show a ++ c :: b = (a ++ [c]) ++ b by simp, List.drop_left]
  have hC : AP Tryz.prog 74 [.str (a ++ c :: b), .str [c]] (.tup [.str a, .str b, .bool true]) [] := by
    generalize a ++ c :: b = s at *
    refine AP.ofA ?_
    refine AC_of Tryz.func74 rfl Tryz.ntmps74 rfl rfl ?_
    repeat' (first | rw [e1] | (apply AL_callPw (hI); kernel_rfl; (iterate 4 exact rfl)) | (apply AL_sliceS ttok; (iterate 4 exact rfl); exact .dft _; exact .lit _ _ _ _ rfl (Int.natCast_nonneg _); exact Nat.zero_le _; exact q1; exact s1) | (apply AL_sliceS ttok; (iterate 4 exact rfl); exact .lit _ _ _ _ rfl (Int.natCast_nonneg _); exact .dft _; exact q2; exact Nat.le_refl _; exact s2) | (apply AL_move; exact rfl; exact rfl) | (apply AL_assign; exact rfl; exact rfl) | (apply AL_bin; (iterate 5 exact rfl)) | refine AL_nil ?_ | refine AW_region ?_ | refine AW_seq' ?_ | (apply AW_condA; exact rfl; (first | with_reducible assumption | decide +kernel)) | refine then_norm ?_ | refine AW_ret ?_ | refine then_ret ?_ | (apply AL_lens ttok; (iterate 4 exact rfl)) | (apply AW_drawE 10 hmix; (decide +kernel); (kernel_rfl); (kernel_rfl); (kernel_rfl); exact rfl; exact rfl) | (apply AE_consZ; (iterate 4 exact rfl)) | exact AE.nil _ _ _ _ | (apply AEk_puT; exact rfl) | (apply AOt_mk; exact rfl; exact rfl; (decide +kernel); exact rfl) | (apply AO_puT; exact rfl) | exact AO.nil _ _ _ | (apply AOs_skip; (decide +kernel)) | exact AOs.nil | exact qY_ok rfl rfl)
    all_goals (apply endQ []; (repeat (first | exact ResL.nil | (apply ResL.cons; first | exact .tmp _ _ rfl | (apply res_n ttok; (iterate 6 exact rfl)) | (apply res_1 ttok; (iterate 5 exact rfl))))); (iterate 4 exact rfl))
    all_goals rfl
  refine AP.ofA ?_
  refine AC_of Tryz.func67 rfl Tryz.ntmps67 rfl rfl ?_
  repeat' (first | (apply AL_callPw (hC); kernel_rfl; (iterate 4 exact rfl)) | (apply AL_move; exact rfl; exact rfl) | (apply AL_assign; exact rfl; exact rfl) | (apply AL_extract; (iterate 3 exact rfl)) | refine AL_nil ?_ | refine AW_region ?_ | refine AW_seq' ?_ | refine then_norm ?_ | refine AW_ret ?_)
  all_goals (apply endQ []; (repeat (first | exact ResL.nil | (apply ResL.cons; first | exact .tmp _ _ rfl | (apply res_n ttok; (iterate 6 exact rfl)) | (apply res_1 ttok; (iterate 5 exact rfl))))); (iterate 4 exact rfl))
  all_goals rfl
theorem cut_cases (c : UInt8) : ∀ s : List UInt8, (c ∉ s) ∨ ∃ a b, s = a ++ c :: b ∧ c ∉ a
  | [] => .inl (by simp)
  | x :: s => by
    by_cases e : x = c
    · subst e; exact .inr ⟨[], s, rfl, by simp⟩
    · rcases cut_cases c s with h | ⟨a, b, rfl, h⟩
      · refine .inl fun hm => ?_
        rcases List.mem_cons.1 hm with h2 | h2
        · exact e h2.symm
        · exact h h2
      · refine .inr ⟨x :: a, b, rfl, fun hm => ?_⟩
        rcases List.mem_cons.1 hm with h2 | h2
        · exact e h2.symm
        · exact h h2
end Go.Proofs.YtdhkfbolnkikgaaGreatDoor
end
/- Interface values that are not nil, held against nil. -/
section
open Go.RowKit Go.Pl
namespace Go.Av
set_option linter.unusedSimpArgs false
set_option linter.unusedVariables false
section
variable {P : Program} {Q : X → St → Prop} {n : Nat} {ee : Nat × Nat} {tm : List (Nat × D)} {bx : List (List D)} {fr : List Fr}
variable {ops : Array Oper} {rest : List Oper} {t ty : Nat} {pos : String} {after : Array Edge}
theorem run_equal_iface_nil {ti : TypeId} {w : World} {ms : Array (String × TypeId)} (tp : TypeId) (v : Value) (hi : P.underlying ti = some (.interface ms)) : (Op.equal ti (.iface tp v) .nilIface).run P w = .ok false w := by
  have h : ∀ d : Nat, (Op.equalIn (d + 1) ti (.iface tp v) .nilIface).run P w = .ok false w := fun d => by simp [Op.equalIn, run_underlying hi]
  simp only [Op.equal]
  exact h _
theorem AL_ifnot [Known] [Dfr] {op : BinOp} {x : Operand} {xt yt : Nat} {d d0 : D} {t0 : TypeId} (hx : ev tm x = .iface t0 d0) (hu : P.underlying xt = some (.interface (P.methodsAt xt))) (hd : (match op with | .eql => some (D.bool false) | .neq => some (D.bool true) | _ => none) = some d) (htd : Nat.blt t n = true)
    (k : AL P ops rest ⟨n, (t, d) :: tm, bx, fr, ee⟩ Q) : AL P ops (⟨some t, .binOp op xt x (.const .nilIface) yt, ty, pos, after, none⟩ :: rest) ⟨n, tm, bx, fr, ee⟩ Q :=
  AL_val _ htd (fun g a w hi => by
    have h1 : V w g fr (ev tm x) (a.eval x) := hi.ev x
    rw [hx] at h1
    obtain ⟨v, h1⟩ : ∃ v, a.eval x = .iface t0 v := by
      generalize a.eval x = v at h1
      cases h1 with | iface _ _ v _ => exact ⟨v, rfl⟩
    have h2 : a.eval (.const .nilIface) = .nilIface := rfl
    have hrun : (Op.equal xt (.iface t0 v) .nilIface).run P w = .ok false w := run_equal_iface_nil t0 v hu
    cases op <;> simp at hd <;> subst hd <;> first | exact ⟨.bool false, by simp [execOp, h1, h2, eqGuard, binOp, Sem.run_bind, hrun], .bool _⟩ | exact ⟨.bool true, by simp [execOp, h1, h2, eqGuard, binOp, Sem.run_bind, hrun], .bool _⟩) k
end
end Go.Av
end
/- Package eid: a text's name. -/
section
open Go.RowKit Go.Pl Go.Av
namespace Go.Proofs.YtdhkfbolnkikgaaGreatDoor
set_option linter.unusedVariables false
set_option linter.unusedSimpArgs false
set_option maxHeartbeats 4000000
theorem cutV_len (c : UInt8) : ∀ s : List UInt8, (cutV c s).1.length ≤ s.length ∧ (cutV c s).2.1.length ≤ s.length
  | [] => ⟨Nat.le_refl _, Nat.le_refl _⟩
  | x :: s => by
    rw [cutV]
    have := cutV_len c s
    split
    · simp
    · simp; omega
theorem preV_len (p s : List UInt8) : (preV p s).1.length ≤ s.length := by
  unfold preV
  split
  · simp
  · exact Nat.le_refl _
theorem av_cut [Known] (s : List UInt8) (c : UInt8) (hl : s.length ≤ 4611686018427387904) : AP Tryz.prog 67 [.str s, .str [c]] (.tup [.str (cutV c s).1, .str (cutV c s).2.1, .bool (cutV c s).2.2]) [] := by
  rcases cut_cases c s with h | ⟨a, b, rfl, h⟩
  · rw [cutV_no h]; exact av_cutN s c h
  · rw [cutV_yes h]; exact av_cutY a b c h hl
theorem av_cutPre [Known] (s p : List UInt8) (hs : s.length ≤ 4611686018427387904) (hp : p.length ≤ 4611686018427387904) : AP Tryz.prog 60 [.str s, .str p] (.tup [.str (preV p s).1, .bool (preV p s).2]) [] := by
  rcases pre_cases s p with ⟨r, rfl⟩ | h
  · rw [preV_app]; exact av_cutPreY p r hs
  · rw [preV_no h]; exact av_cutPreN s p hs hp h
theorem av_pp [Known] (s : List UInt8) (hs : s.length ≤ 140737488351232) : AP Tryz.prog 62 [.str s] (.tup [.agg (eC (ppV s).1), .bool (ppV s).2]) [] := by
  have hP := av_cutPre s [47, 47] (by omega) (by decide)
  have hl := preV_len [47, 47] s
  unfold ppV
  dsimp only
  generalize (preV [47, 47] s).1 = r at *
  generalize (preV [47, 47] s).2 = ok at *
  have hC := av_cut r 47 (by omega)
  generalize (cutV 47 r).1 = a at *
  generalize (cutV 47 r).2.1 = b at *
  generalize (cutV 47 r).2.2 = k at *
  have hR := av_eRight ⟨false, 0, 0, a, b⟩
  generalize eRight ⟨false, 0, 0, a, b⟩ = R at *
  replace hR : AP Tryz.prog _ [.agg [.bool false, .int .u64 0, .int .u64 0, .str a, .str b]] (.bool R) [] := hR
  show AP Tryz.prog _ _ (.tup [.agg [.bool false, .int .u64 0, .int .u64 0, .str a, .str b], _]) _
  obtain ⟨ne, h1⟩ : ∃ ne, (a != []) = ne := ⟨_, rfl⟩
  rw [h1]
  cases ok with
  | false =>
    refine AP.ofA ?_
    refine AC_of Tryz.func62 rfl Tryz.ntmps62 rfl rfl ?_
    repeat' (first | (apply AL_callPw (hP); kernel_rfl; (iterate 4 exact rfl)) | (apply AL_callPw (hC); kernel_rfl; (iterate 4 exact rfl)) | (apply AL_move; exact rfl; exact rfl) | (apply AL_assign; exact rfl; exact rfl) | (apply AL_loadn ttok; (iterate 7 exact rfl)) | (apply AL_store ttok; (iterate 8 exact rfl)) | (apply AL_extract; (iterate 3 exact rfl)) | refine AL_nil ?_ | (apply AL_guardFt; (iterate 3 exact rfl); (first | with_reducible assumption | decide +kernel)) | (apply AL_pickF; exact rfl; (first | with_reducible assumption | decide +kernel); exact rfl; exact rfl) | refine AW_region ?_ | refine AW_seq' ?_ | refine then_norm ?_ | refine AW_ret ?_ | (apply AL_build ttok; (iterate 6 exact rfl)) | (apply AL_allocZ ttok; (iterate 4 exact rfl)) | (apply AW_drawE 14 hmix; (decide +kernel); (kernel_rfl); (kernel_rfl); (kernel_rfl); exact rfl; exact rfl) | (apply AE_consZ; (iterate 4 exact rfl)) | exact AE.nil _ _ _ _ | (apply AEk_puT; exact rfl) | (apply AEk_ef; exact rfl) | (apply AOt_mk; exact rfl; exact rfl; (decide +kernel); exact rfl) | (apply AO_puT; exact rfl) | (apply AO_ef; exact rfl) | exact AO.nil _ _ _ | (apply AOs_skip; (decide +kernel)) | (apply AOs_goZ; (iterate 3 exact rfl)) | exact AOs.nil | exact qY_ok rfl rfl | exact qY_efn rfl)
    all_goals (apply endQ []; (repeat (first | exact ResL.nil | (apply ResL.cons; first | exact .tmp _ _ rfl | (apply res_n ttok; (iterate 6 exact rfl)) | (apply res_1 ttok; (iterate 5 exact rfl))))); (iterate 4 exact rfl))
    all_goals rfl
  | true =>
    cases k with
    | false =>
      refine AP.ofA ?_
      refine AC_of Tryz.func62 rfl Tryz.ntmps62 rfl rfl ?_
      repeat' (first | (apply AL_callPw (hP); kernel_rfl; (iterate 4 exact rfl)) | (apply AL_callPw (hC); kernel_rfl; (iterate 4 exact rfl)) | (apply AL_move; exact rfl; exact rfl) | (apply AL_assign; exact rfl; exact rfl) | (apply AL_loadn ttok; (iterate 7 exact rfl)) | (apply AL_store ttok; (iterate 8 exact rfl)) | (apply AL_extract; (iterate 3 exact rfl)) | refine AL_nil ?_ | (apply AL_guardT; (iterate 3 exact rfl); (first | with_reducible assumption | decide +kernel)) | (apply AL_guardFt; (iterate 3 exact rfl); (first | with_reducible assumption | decide +kernel)) | (apply AL_pickT; exact rfl; (first | with_reducible assumption | decide +kernel); exact rfl; exact rfl) | (apply AL_pickF; exact rfl; (first | with_reducible assumption | decide +kernel); exact rfl; exact rfl) | refine AW_region ?_ | refine AW_seq' ?_ | refine then_norm ?_ | refine AW_ret ?_ | (apply AL_build ttok; (iterate 6 exact rfl)) | (apply AL_allocZ ttok; (iterate 4 exact rfl)) | (apply AW_drawE 14 hmix; (decide +kernel); (kernel_rfl); (kernel_rfl); (kernel_rfl); exact rfl; exact rfl) | (apply AE_consZ; (iterate 4 exact rfl)) | exact AE.nil _ _ _ _ | (apply AEk_puT; exact rfl) | (apply AEk_ef; exact rfl) | (apply AOt_mk; exact rfl; exact rfl; (decide +kernel); exact rfl) | (apply AO_puT; exact rfl) | (apply AO_ef; exact rfl) | exact AO.nil _ _ _ | (apply AOs_skip; (decide +kernel)) | (apply AOs_goZ; (iterate 3 exact rfl)) | exact AOs.nil | exact qY_ok rfl rfl | exact qY_efn rfl)
      all_goals (apply endQ []; (repeat (first | exact ResL.nil | (apply ResL.cons; first | exact .tmp _ _ rfl | (apply res_n ttok; (iterate 6 exact rfl)) | (apply res_1 ttok; (iterate 5 exact rfl))))); (iterate 4 exact rfl))
      all_goals rfl
    | true =>
      cases ne <;> cases R
      all_goals
        refine AP.ofA ?_
        refine AC_of Tryz.func62 rfl Tryz.ntmps62 rfl rfl ?_
        repeat' (first | rw [h1] | (apply AL_callPw (hP); kernel_rfl; (iterate 4 exact rfl)) | (apply AL_callPw (hC); kernel_rfl; (iterate 4 exact rfl)) | (apply AL_callPw (hR); kernel_rfl; (iterate 4 exact rfl)) | (apply AL_move; exact rfl; exact rfl) | (apply AL_assign; exact rfl; exact rfl) | (apply AL_loadn ttok; (iterate 7 exact rfl)) | (apply AL_store ttok; (iterate 8 exact rfl)) | (apply AL_extract; (iterate 3 exact rfl)) | refine AL_nil ?_ | (apply AL_guardT; (iterate 3 exact rfl); (first | with_reducible assumption | decide +kernel)) | (apply AL_guardFt; (iterate 3 exact rfl); (first | with_reducible assumption | decide +kernel)) | (apply AL_pickT; exact rfl; (first | with_reducible assumption | decide +kernel); exact rfl; exact rfl) | (apply AL_pickF; exact rfl; (first | with_reducible assumption | decide +kernel); exact rfl; exact rfl) | refine AW_region ?_ | refine AW_seq' ?_ | refine then_norm ?_ | refine AW_ret ?_ | (apply AL_build ttok; (iterate 6 exact rfl)) | (apply AL_allocZ ttok; (iterate 4 exact rfl)) | (apply AL_str; (iterate 5 exact rfl)) | (apply AW_drawE 14 hmix; (decide +kernel); (kernel_rfl); (kernel_rfl); (kernel_rfl); exact rfl; exact rfl) | (apply AE_consZ; (iterate 4 exact rfl)) | exact AE.nil _ _ _ _ | (apply AEk_puT; exact rfl) | (apply AEk_ef; exact rfl) | (apply AOt_mk; exact rfl; exact rfl; (decide +kernel); exact rfl) | (apply AO_puT; exact rfl) | (apply AO_ef; exact rfl) | exact AO.nil _ _ _ | (apply AOs_skip; (decide +kernel)) | (apply AOs_goZ; (iterate 3 exact rfl)) | exact AOs.nil | exact qY_ok rfl rfl | exact qY_efn rfl)
        all_goals (apply endQ []; (repeat (first | exact ResL.nil | (apply ResL.cons; first | exact .tmp _ _ rfl | (apply res_n ttok; (iterate 6 exact rfl)) | (apply res_1 ttok; (iterate 5 exact rfl))))); (iterate 4 exact rfl))
        all_goals rfl
end Go.Proofs.YtdhkfbolnkikgaaGreatDoor
end
/- Package request: a request's own parts; its parts. -/
section
open Go.RowKit Go.Pl Go.Av
namespace Go.Proofs.YtdhkfbolnkikgaaGreatDoor
set_option linter.unusedVariables false
set_option linter.unusedSimpArgs false
set_option maxHeartbeats 4000000
theorem av_rqOwn [Known] (x : RqV) : AP Tryz.prog 39 [.agg (rqC x)] (.agg (rqC (rqOwn x))) [] := by
  obtain ⟨id, kd, ⟨ei, en, es, eh, ed⟩, ⟨di, dn, dq, dh, dd⟩, pol, num, tik, pay, life, tok, on⟩ := x
  show AP Tryz.prog _ [.agg [.int .u64 (id : Int), .int .i64 kd, .bool ei, .int .u64 (en : Int), .int .u64 (es : Int), .str eh, .str ed, .bool di, .int .u64 (dn : Int), .int .u64 (dq : Int), .str dh, .str dd, .int .i64 pol, .int .i64 num, .int .i64 tik, .sl .ext (pay.map E.byte), .int .u64 (life : Int), .int .u64 (tok : Int), .bool on]] _ []
  rcases kcase kd with rfl | rfl | rfl | rfl | rfl | rfl | rfl | rfl | rfl | rfl | rfl | rfl | ⟨n1, n2, n3, n4, n5, n6, n7, n8, n9, n10, n11, n12⟩
  all_goals
    refine AP.ofA ?_
    refine AC_of Tryz.func39 rfl Tryz.ntmps39 rfl rfl ?_
    repeat' (first | (apply AL_assign; exact rfl; exact rfl) | (apply AL_bin; (iterate 5 exact rfl)) | (apply AL_load1 ttok; (iterate 6 exact rfl)) | (apply AL_loadn ttok; (iterate 7 exact rfl)) | (apply AL_fieldAddr ttok; (iterate 7 exact rfl)) | (apply AL_boxZ; (iterate 5 exact rfl)) | (apply AL_store ttok; (iterate 8 exact rfl)) | refine AL_nil ?_ | refine AW_region ?_ | refine AW_seq' ?_ | (apply AW_condA; exact rfl; (first | with_reducible assumption | decide +kernel)) | (apply AW_condB; exact rfl; (first | with_reducible assumption | decide +kernel)) | refine then_norm ?_ | refine AW_block ?_ | refine AW_ret ?_ | (apply AL_build ttok; (iterate 6 exact rfl)) | (apply AL_allocZ ttok; (iterate 4 exact rfl)) | (apply AW_drawE 6 hmix; (decide +kernel); (kernel_rfl); (kernel_rfl); (kernel_rfl); exact rfl; exact rfl) | (apply AW_drawE 18 hmix; (decide +kernel); (kernel_rfl); (kernel_rfl); (kernel_rfl); exact rfl; exact rfl) | (apply AE_consZ; (iterate 4 exact rfl)) | exact AE.nil _ _ _ _ | (apply AEk_puT; exact rfl) | (apply AEk_ef; exact rfl) | (apply AOt_mk; exact rfl; exact rfl; (decide +kernel); exact rfl) | (apply AO_puT; exact rfl) | (apply AO_ef; exact rfl) | exact AO.nil _ _ _ | (apply AOs_skip; (decide +kernel)) | (apply AOs_goZ; (iterate 3 exact rfl)) | exact AOs.nil | exact qY_ok rfl rfl | exact qY_efn rfl | refine AW_skip ?_)
    all_goals (apply endQ []; (repeat (first | exact ResL.nil | (apply ResL.cons; first | exact .tmp _ _ rfl | (apply res_n ttok; (iterate 6 exact rfl)) | (apply res_1 ttok; (iterate 5 exact rfl))))); (iterate 4 exact rfl))
    all_goals first | rfl | (unfold rqOwn; dsimp only; simp only [*]; rfl)
end Go.Proofs.YtdhkfbolnkikgaaGreatDoor
end
/- Package request: the parts of a request's kind. -/
section
open Go.RowKit Go.Pl Go.Av
namespace Go.Proofs.YtdhkfbolnkikgaaGreatDoor
set_option linter.unusedVariables false
set_option linter.unusedSimpArgs false
set_option maxHeartbeats 4000000
theorem av_rqParts [Known] (x : RqV) : AP Tryz.prog 38 [.agg (rqC x)] (.bool (rqParts x)) [] := by
  have hN := av_isName x.ep
  have hM := av_isName x.ds
  have hbl : (x.pay.map E.byte).length = x.pay.length := List.length_map ..
  unfold rqParts
  obtain ⟨id, kd, ⟨ei, en, es, eh, ed⟩, ⟨di, dn, dq, dh, dd⟩, pol, num, tik, pay, life, tok, on⟩ := x
  dsimp only at hN hM ⊢
  show AP Tryz.prog _ [.agg [.int .u64 (id : Int), .int .i64 kd, .bool ei, .int .u64 (en : Int), .int .u64 (es : Int), .str eh, .str ed, .bool di, .int .u64 (dn : Int), .int .u64 (dq : Int), .str dh, .str dd, .int .i64 pol, .int .i64 num, .int .i64 tik, .sl .ext (pay.map E.byte), .int .u64 (life : Int), .int .u64 (tok : Int), .bool on]] _ []
  generalize isNm ⟨ei, en, es, eh, ed⟩ = bN at *
  generalize isNm ⟨di, dn, dq, dh, dd⟩ = bM at *
  rcases kcase kd with rfl | rfl | rfl | rfl | rfl | rfl | rfl | rfl | rfl | rfl | rfl | rfl | ⟨n1, n2, n3, n4, n5, n6, n7, n8, n9, n10, n11, n12⟩
  all_goals
    try simp only [n1, n2, n3, n4, n5, n6, n7, n8, n9, n10, n11, n12]
    simp only [Int.reduceBEq, Bool.true_or, Bool.or_true, Bool.or_self, Bool.or_false, Bool.false_or, if_true, if_false, Bool.false_eq_true, hbl]
    refine AP.ofA ?_
    refine AC_of Tryz.func38 rfl Tryz.ntmps38 rfl rfl ?_
    repeat' (first | (apply AL_callPw (hN); kernel_rfl; (iterate 4 exact rfl)) | (apply AL_callPw (hM); kernel_rfl; (iterate 4 exact rfl)) | (apply AL_move; exact rfl; exact rfl) | (apply AL_assign; exact rfl; exact rfl) | (apply AL_bin; (iterate 5 exact rfl)) | (apply AL_load1 ttok; (iterate 6 exact rfl)) | (apply AL_loadn ttok; (iterate 7 exact rfl)) | (apply AL_fieldAddr ttok; (iterate 7 exact rfl)) | (apply AL_box; (iterate 5 exact rfl)) | refine AL_nil ?_ | (apply AL_guardT; (iterate 3 exact rfl); (first | with_reducible assumption | decide +kernel)) | (apply AL_guardFt; (iterate 3 exact rfl); (first | with_reducible assumption | decide +kernel)) | (apply AL_guardFf; (iterate 3 exact rfl); (first | with_reducible assumption | decide +kernel)) | (apply AL_guardS; exact rfl; exact rfl; all_goals intro hb) | (apply AL_pickT; exact rfl; (first | with_reducible assumption | decide +kernel); exact rfl; exact rfl) | (apply AL_pickF; exact rfl; (first | with_reducible assumption | decide +kernel); exact rfl; exact rfl) | refine AW_region ?_ | refine AW_seq' ?_ | (apply AW_condA; exact rfl; (first | with_reducible assumption | decide +kernel)) | (apply AW_condB; exact rfl; (first | with_reducible assumption | decide +kernel)) | refine then_norm ?_ | refine AW_block ?_ | refine AW_ret ?_ | refine then_ret ?_ | refine blk_ret ?_ | (apply AL_len ttok; (iterate 4 exact rfl)) | refine AW_skip ?_)
    all_goals (apply endQ []; (repeat (first | exact ResL.nil | (apply ResL.cons; first | exact .tmp _ _ rfl | (apply res_n ttok; (iterate 6 exact rfl)) | (apply res_1 ttok; (iterate 5 exact rfl))))); (iterate 4 exact rfl))
    all_goals first | rfl | (simp only [*]; done) | (simp only [*]; rfl) | (clear hN hM; simp_all; done) | (clear hN hM; simp_all; omega)
end Go.Proofs.YtdhkfbolnkikgaaGreatDoor
end
