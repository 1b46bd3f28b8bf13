/- The document's fields: texts; a reader's bounded numbers and texts. -/
import Derived.Test.YtdhkfbolnkikgaaGreatDoorG27
import Derived.Test.YtdhkfbolnkikgaaGreatDoorG11
import Derived.Test.YtdhkfbolnkikgaaGreatDoorG24
import Derived.Lib.ItoaNum
section
open Go.RowKit Go.Pl Go.Av
namespace Go.Proofs.YtdhkfbolnkikgaaGreatDoor
set_option linter.unusedVariables false
set_option linter.unusedSimpArgs false
set_option maxHeartbeats 4000000
/-- what is left is an end of all bytes -/
def Suf (B : List UInt8) (s : Nat × List UInt8) : Prop := s.2.length ≤ B.length ∧ s.2 = B.drop (B.length - s.2.length)
theorem suf_drop {B : List UInt8} {k e : Nat} : Suf B (e, B.drop k) := by
  refine ⟨by simp, ?_⟩
  dsimp only
  rcases Nat.lt_or_ge k B.length with h | h
  · rw [List.length_drop, show B.length - (B.length - k) = k by omega]
  · rw [List.drop_of_length_le h]; simp
theorem suf_num {B : List UInt8} {s : Nat × List UInt8} (h : Suf B s) : Suf B (numS s).2 := by
  unfold numS
  split
  · obtain ⟨k, h1, h2⟩ := rnF_suf s.2 0 0
    have e : (rnF s.2 0 0).2 = ((rnF s.2 0 0).2.1, B.drop (B.length - s.2.length + k)) := by
      rw [← List.drop_drop, ← h.2, ← h2]
    rw [e]
    exact suf_drop
  · exact h
theorem suf_fail {B : List UInt8} {f : Nat} {s : Nat × List UInt8} (h : Suf B s) : Suf B (failS f s) := by
  unfold Suf
  rw [failS_len]
  exact h
theorem suf_most {B : List UInt8} {t : Nat} {s : Nat × List UInt8} (h : Suf B s) : Suf B (mostS t s).2 := by
  unfold mostS
  split
  · exact suf_fail (suf_num h)
  · exact suf_num h
theorem suf_txt {B : List UInt8} {s : Nat × List UInt8} (h : Suf B s) : Suf B (txfS s).2 := by
  unfold txfS
  split
  · exact suf_num h
  · split
    · exact suf_fail (suf_num h)
    · have h2 := (suf_num h).2
      rw [h2, List.drop_drop]
      exact suf_drop
/-- the document's reader that stands where s stands -/
abbrev rfS (B : List UInt8) (s : Nat × List UInt8) : List (List D) := rfD B (B.length - s.2.length) s.1
theorem av_rfN [Known] (B : List UInt8) (s : Nat × List UInt8) (hs : Suf B s) (hB : B.length ≤ 1000000) : AQ Tryz.prog 33 [.ptr 0 0] (rfS B s) (.int .u64 ((numS s).1 : Int)) (rfS B (numS s).2) := by
  obtain ⟨e, q⟩ := s
  have h := av_rfrNum B (B.length - q.length) e (by omega) hB
  rw [← hs.2] at h
  exact h
theorem av_rfMost [Known] (B : List UInt8) (top : Nat) (s : Nat × List UInt8) (hs : Suf B s) (hB : B.length ≤ 1000000) : AQ Tryz.prog 34 [.ptr 0 0, .int .u64 (top : Int)] (rfS B s) (.int .u64 ((mostS top s).1 : Int)) (rfS B (mostS top s).2) := by
  have hN := av_rfN B s hs hB
  have hE : (numS s).1 > 0 → ((numS s).2.1 : Int) == 0 := fun h => by
    unfold numS at h ⊢
    split at h
    · rename_i h1
      have key : ∀ (b : List UInt8) (i a : Nat), (rnF b i a).1 > 0 → (rnF b i a).2.1 = 0 := by
        intro b
        induction b with
        | nil => intro i a h; simp [rnF] at h
        | cons c r ih =>
          intro i a h
          rw [rnF] at h ⊢
          split
          · rename_i hb; rw [if_pos hb] at h; simp at h
          · rename_i hb
            rw [if_neg hb] at h
            split
            · rfl
            · rename_i hc; rw [if_neg hc] at h; exact ih _ _ h
      rw [key _ _ _ h]; rfl
    · simp at h
  unfold mostS
  have hL := suf_num hs
  generalize numS s = p at *
  obtain ⟨n, e, q⟩ := p
  obtain ⟨e0, b⟩ := s
  dsimp only at hN hE ⊢
  cases t : decide ((n : Int) > (top : Int)) with
  | true =>
    have h0 := hE (by have := of_decide_eq_true t; omega)
    have e1 : failS 3 (e, q) = (3, q) := by unfold failS; rw [h0]
    dsimp only
    rw [e1]
    refine AQ.weak ?_
    refine AC_of Tryz.func34 rfl Tryz.ntmps34 rfl rfl ?_
    repeat' (first | (apply AL_callQw [0] (hN); kernel_rfl; (iterate 7 exact rfl)) | (apply AL_move; exact rfl; exact rfl) | (apply AL_assign; exact rfl; exact rfl) | (apply AL_bin; (iterate 5 exact rfl)) | (apply AL_fieldAddr ttok; (iterate 7 exact rfl)) | (apply AL_nilCheck; exact rfl; exact rfl) | (apply AL_store ttok; (iterate 8 exact rfl)) | refine AL_nil ?_ | refine AW_region ?_ | refine AW_seq' ?_ | (apply AW_condA; exact rfl; (first | with_reducible assumption | decide +kernel)) | refine then_norm ?_ | refine AW_ret ?_ | refine then_ret ?_)
    all_goals (apply endQ [0]; (repeat (first | exact ResL.nil | (apply ResL.cons; first | exact .tmp _ _ rfl | (apply res_n ttok; (iterate 6 exact rfl)) | (apply res_1 ttok; (iterate 5 exact rfl))))); (iterate 4 exact rfl))
    all_goals rfl
  | false =>
    dsimp only
    refine AQ.weak ?_
    refine AC_of Tryz.func34 rfl Tryz.ntmps34 rfl rfl ?_
    repeat' (first | (apply AL_callQw [0] (hN); kernel_rfl; (iterate 7 exact rfl)) | (apply AL_move; exact rfl; exact rfl) | (apply AL_assign; exact rfl; exact rfl) | (apply AL_bin; (iterate 5 exact rfl)) | refine AL_nil ?_ | refine AW_region ?_ | refine AW_seq' ?_ | (apply AW_condB; exact rfl; (first | with_reducible assumption | decide +kernel)) | refine then_norm ?_ | refine AW_ret ?_ | refine AW_skip ?_)
    all_goals (apply endQ [0]; (repeat (first | exact ResL.nil | (apply ResL.cons; first | exact .tmp _ _ rfl | (apply res_n ttok; (iterate 6 exact rfl)) | (apply res_1 ttok; (iterate 5 exact rfl))))); (iterate 4 exact rfl))
    all_goals rfl
theorem av_rfText [Known] (b : List UInt8) (hb : b.length ≤ 1000000) : AP Tryz.prog 56 [byE b] (byE (vn b.length ++ b)) [] := by
  have hbl : (b.map E.byte).length = b.length := List.length_map ..
  have hN := av_rfNumT b.length (by omega)
  have e2 : IntKind.u64.wrap (((b.map E.byte).length : Nat) : Int) = (b.length : Int) := by rw [hbl]; exact IntWalk.u64_in _ (by omega)
  have hvl := vnF_len 9 b.length
  have hMl : (vn b.length).length ≤ 10 := hvl.1
  generalize vn b.length = M at *
  have hU1 := uniB1 b
  have hU2 := uniB1 M
  have hMm : (M.map E.byte).length = M.length := List.length_map ..
  cases b with
  | nil =>
    rw [List.append_nil]
    refine AP.ofA ?_
    refine AC_of Tryz.func56 rfl Tryz.ntmps56 rfl rfl ?_
    repeat' (first | rw [e2] | (apply AL_callT [] [] (hN); kernel_rfl; (iterate 10 exact rfl)) | (apply AL_move; exact rfl; exact rfl) | (apply AL_assign; exact rfl; exact rfl) | (apply AL_convT ttok; (iterate 5 exact rfl)) | refine AL_nil ?_ | refine AW_region ?_ | refine AW_seq' ?_ | refine then_norm ?_ | refine AW_ret ?_ | (apply AL_len ttok; (iterate 4 exact rfl)) | (apply AL_append_none ttok; (iterate 6 exact rfl)))
    all_goals (apply endQ []; (repeat (first | exact ResL.nil | (apply ResL.cons; first | exact .tmp _ _ rfl | (apply res_n ttok; (iterate 6 exact rfl)) | (apply res_1 ttok; (iterate 5 exact rfl))))); (iterate 4 exact rfl))
    all_goals rfl
  | cons c b =>
    have hne : (c :: b).map E.byte ≠ [] := List.cons_ne_nil _ _
    have hf1 : M.length = (M.map E.byte).length := hMm.symm
    have hF : M.map E.byte ++ (c :: b).map E.byte = (M ++ c :: b).map E.byte := by simp
    refine AP.ofA ?_
    refine AC_of Tryz.func56 rfl Tryz.ntmps56 rfl rfl ?_
    repeat' (first | rw [e2] | (apply AL_callT [] [] (hN); kernel_rfl; (iterate 10 exact rfl)) | (apply AL_move; exact rfl; exact rfl) | (apply AL_assign; exact rfl; exact rfl) | (apply AL_convT ttok; (iterate 5 exact rfl)) | refine AL_nil ?_ | refine AW_region ?_ | refine AW_seq' ?_ | refine then_norm ?_ | refine AW_ret ?_ | (apply AL_len ttok; (iterate 4 exact rfl)) | (apply AL_append ttok; (iterate 6 exact rfl); (first | with_reducible assumption | decide +kernel | exact rfl | rotate_left); exact rfl; exact rfl; (first | exact uniB_ok rfl | with_reducible assumption | decide +kernel | rotate_left); (first | exact uniB_ok rfl | with_reducible assumption | decide +kernel | rotate_left); (first | exact List.cons_ne_nil _ _ | with_reducible assumption | decide +kernel | rotate_left); (first | with_reducible assumption | decide +kernel | rotate_left); (first | with_reducible assumption | decide +kernel | rotate_left); exact rfl; exact rfl))
    all_goals first | (apply endQ []; (repeat (first | exact ResL.nil | (apply ResL.cons; first | exact .tmp _ _ rfl | (apply res_n ttok; (iterate 6 exact rfl)) | (apply res_1 ttok; (iterate 5 exact rfl))))); (iterate 4 exact rfl)) | exact hne | exact hf1 | exact hU1 | exact hU2 | (rw [hMm, hbl]; unfold maxLen; omega) | (rw [hMm, hbl]; show (_ + _) * 1 ≤ _; omega)
    all_goals first | rfl | exact congrArg (fun l => D.sl .ext l) hF
end Go.Proofs.YtdhkfbolnkikgaaGreatDoor
end
/- The document's answers for requests: a part's bytes. -/
section
open Go.RowKit Go.Pl Go.Av
namespace Go.Proofs.YtdhkfbolnkikgaaGreatDoor
set_option linter.unusedVariables false
set_option linter.unusedSimpArgs false
set_option maxHeartbeats 4000000
theorem pt_e [Known] (id : Nat) (kd : Int) (ei : Bool) (en es : Nat) (eh ed : List UInt8) (di : Bool) (dn dq : Nat) (dh dd : List UInt8) (pol num tik : Int) (pay : List UInt8) (life tok : Nat) (on : Bool) (t : List UInt8) (ht : t.length ≤ 1000) (hT : AP Tryz.prog 53 [.agg [.bool ei, .int .u64 (en : Int), .int .u64 (es : Int), .str eh, .str ed]] (.str t) []) : AP Tryz.prog 44 [.agg [.int .u64 (id : Int), .int .i64 kd, .bool ei, .int .u64 (en : Int), .int .u64 (es : Int), .str eh, .str ed, .bool di, .int .u64 (dn : Int), .int .u64 (dq : Int), .str dh, .str dd, .int .i64 pol, .int .i64 num, .int .i64 tik, .sl .ext (pay.map E.byte), .int .u64 (life : Int), .int .u64 (tok : Int), .bool on], .int .u8 101] (byE (vn t.length ++ t)) [] := by
  have hX := av_rfText t (by omega)
  refine AP.ofA ?_
  refine AC_of Tryz.func44 rfl Tryz.ntmps44 rfl rfl ?_
  repeat' (first | (apply AL_callPw (hT); kernel_rfl; (iterate 4 exact rfl)) | (apply AL_callPw (hX); kernel_rfl; (iterate 4 exact rfl)) | (apply AL_s2b ttok; (iterate 8 exact rfl)) | (apply AL_move; exact rfl; exact rfl) | (apply AL_assign; exact rfl; exact rfl) | (apply AL_bin; (iterate 5 exact rfl)) | (apply AL_loadn ttok; (iterate 7 exact rfl)) | (apply AL_fieldAddr ttok; (iterate 7 exact rfl)) | (apply AL_boxZ; (iterate 5 exact rfl)) | refine AL_nil ?_ | refine AW_region ?_ | refine AW_seq' ?_ | (apply AW_condA; exact rfl; (first | with_reducible assumption | decide +kernel)) | refine then_norm ?_ | refine AW_block ?_ | refine AW_ret ?_ | refine then_ret ?_ | refine blk_ret ?_)
  all_goals (apply endQ []; (repeat (first | exact ResL.nil | (apply ResL.cons; first | exact .tmp _ _ rfl | (apply res_n ttok; (iterate 6 exact rfl)) | (apply res_1 ttok; (iterate 5 exact rfl))))); (iterate 4 exact rfl))
  all_goals rfl
theorem pt_d [Known] (id : Nat) (kd : Int) (ei : Bool) (en es : Nat) (eh ed : List UInt8) (di : Bool) (dn dq : Nat) (dh dd : List UInt8) (pol num tik : Int) (pay : List UInt8) (life tok : Nat) (on : Bool) (t : List UInt8) (ht : t.length ≤ 1000) (hT : AP Tryz.prog 53 [.agg [.bool di, .int .u64 (dn : Int), .int .u64 (dq : Int), .str dh, .str dd]] (.str t) []) : AP Tryz.prog 44 [.agg [.int .u64 (id : Int), .int .i64 kd, .bool ei, .int .u64 (en : Int), .int .u64 (es : Int), .str eh, .str ed, .bool di, .int .u64 (dn : Int), .int .u64 (dq : Int), .str dh, .str dd, .int .i64 pol, .int .i64 num, .int .i64 tik, .sl .ext (pay.map E.byte), .int .u64 (life : Int), .int .u64 (tok : Int), .bool on], .int .u8 100] (byE (vn t.length ++ t)) [] := by
  have hX := av_rfText t (by omega)
  refine AP.ofA ?_
  refine AC_of Tryz.func44 rfl Tryz.ntmps44 rfl rfl ?_
  repeat' (first | (apply AL_callPw (hT); kernel_rfl; (iterate 4 exact rfl)) | (apply AL_callPw (hX); kernel_rfl; (iterate 4 exact rfl)) | (apply AL_s2b ttok; (iterate 8 exact rfl)) | (apply AL_move; exact rfl; exact rfl) | (apply AL_assign; exact rfl; exact rfl) | (apply AL_bin; (iterate 5 exact rfl)) | (apply AL_loadn ttok; (iterate 7 exact rfl)) | (apply AL_fieldAddr ttok; (iterate 7 exact rfl)) | (apply AL_boxZ; (iterate 5 exact rfl)) | refine AL_nil ?_ | refine AW_region ?_ | refine AW_seq' ?_ | (apply AW_condA; exact rfl; (first | with_reducible assumption | decide +kernel)) | (apply AW_condB; exact rfl; (first | with_reducible assumption | decide +kernel)) | refine then_norm ?_ | refine AW_block ?_ | refine AW_ret ?_ | refine then_ret ?_ | refine blk_ret ?_)
  all_goals (apply endQ []; (repeat (first | exact ResL.nil | (apply ResL.cons; first | exact .tmp _ _ rfl | (apply res_n ttok; (iterate 6 exact rfl)) | (apply res_1 ttok; (iterate 5 exact rfl))))); (iterate 4 exact rfl))
  all_goals rfl
theorem pt_b [Known] (id : Nat) (kd : Int) (ei : Bool) (en es : Nat) (eh ed : List UInt8) (di : Bool) (dn dq : Nat) (dh dd : List UInt8) (pol num tik : Int) (pay : List UInt8) (life tok : Nat) (on : Bool) (ht : pay.length ≤ 1000) : AP Tryz.prog 44 [.agg [.int .u64 (id : Int), .int .i64 kd, .bool ei, .int .u64 (en : Int), .int .u64 (es : Int), .str eh, .str ed, .bool di, .int .u64 (dn : Int), .int .u64 (dq : Int), .str dh, .str dd, .int .i64 pol, .int .i64 num, .int .i64 tik, .sl .ext (pay.map E.byte), .int .u64 (life : Int), .int .u64 (tok : Int), .bool on], .int .u8 98] (byE (vn pay.length ++ pay)) [] := by
  have hX := av_rfText pay (by omega)
  refine AP.ofA ?_
  refine AC_of Tryz.func44 rfl Tryz.ntmps44 rfl rfl ?_
  repeat' (first | (apply AL_callPw (hX); kernel_rfl; (iterate 4 exact rfl)) | (apply AL_move; exact rfl; exact rfl) | (apply AL_assign; exact rfl; exact rfl) | (apply AL_bin; (iterate 5 exact rfl)) | (apply AL_load1 ttok; (iterate 6 exact rfl)) | (apply AL_fieldAddr ttok; (iterate 7 exact rfl)) | (apply AL_boxZ; (iterate 5 exact rfl)) | refine AL_nil ?_ | refine AW_region ?_ | refine AW_seq' ?_ | (apply AW_condA; exact rfl; (first | with_reducible assumption | decide +kernel)) | (apply AW_condB; exact rfl; (first | with_reducible assumption | decide +kernel)) | refine then_norm ?_ | refine AW_block ?_ | refine AW_ret ?_ | refine then_ret ?_ | refine blk_ret ?_)
  all_goals (apply endQ []; (repeat (first | exact ResL.nil | (apply ResL.cons; first | exact .tmp _ _ rfl | (apply res_n ttok; (iterate 6 exact rfl)) | (apply res_1 ttok; (iterate 5 exact rfl))))); (iterate 4 exact rfl))
  all_goals rfl
theorem pt_p [Known] (id : Nat) (kd : Int) (ei : Bool) (en es : Nat) (eh ed : List UInt8) (di : Bool) (dn dq : Nat) (dh dd : List UInt8) (pol num tik : Int) (pay : List UInt8) (life tok : Nat) (on : Bool) (m : Nat) (hm : pol = (m : Int)) (hl : m ≤ 1099511627776) : AP Tryz.prog 44 [.agg [.int .u64 (id : Int), .int .i64 kd, .bool ei, .int .u64 (en : Int), .int .u64 (es : Int), .str eh, .str ed, .bool di, .int .u64 (dn : Int), .int .u64 (dq : Int), .str dh, .str dd, .int .i64 pol, .int .i64 num, .int .i64 tik, .sl .ext (pay.map E.byte), .int .u64 (life : Int), .int .u64 (tok : Int), .bool on], .int .u8 112] (byE (vn m)) [] := by
  subst hm
  have hX := av_rfNum m (by omega)
  have e1 : IntKind.u64.wrap (m : Int) = (m : Int) := IntWalk.u64_in _ (by omega)
  refine AP.ofA ?_
  refine AC_of Tryz.func44 rfl Tryz.ntmps44 rfl rfl ?_
  repeat' (first | rw [e1] | (apply AL_callPw (hX); kernel_rfl; (iterate 4 exact rfl)) | (apply AL_move; exact rfl; exact rfl) | (apply AL_assign; exact rfl; exact rfl) | (apply AL_bin; (iterate 5 exact rfl)) | (apply AL_load1 ttok; (iterate 6 exact rfl)) | (apply AL_fieldAddr ttok; (iterate 7 exact rfl)) | (apply AL_boxZ; (iterate 5 exact rfl)) | (apply AL_convT ttok; (iterate 5 exact rfl)) | refine AL_nil ?_ | refine AW_region ?_ | refine AW_seq' ?_ | (apply AW_condA; exact rfl; (first | with_reducible assumption | decide +kernel)) | (apply AW_condB; exact rfl; (first | with_reducible assumption | decide +kernel)) | refine then_norm ?_ | refine AW_block ?_ | refine AW_ret ?_)
  all_goals (apply endQ []; (repeat (first | exact ResL.nil | (apply ResL.cons; first | exact .tmp _ _ rfl | (apply res_n ttok; (iterate 6 exact rfl)) | (apply res_1 ttok; (iterate 5 exact rfl))))); (iterate 4 exact rfl))
  all_goals rfl
theorem pt_n [Known] (id : Nat) (kd : Int) (ei : Bool) (en es : Nat) (eh ed : List UInt8) (di : Bool) (dn dq : Nat) (dh dd : List UInt8) (pol num tik : Int) (pay : List UInt8) (life tok : Nat) (on : Bool) (m : Nat) (hm : num = (m : Int)) (hl : m ≤ 1099511627776) : AP Tryz.prog 44 [.agg [.int .u64 (id : Int), .int .i64 kd, .bool ei, .int .u64 (en : Int), .int .u64 (es : Int), .str eh, .str ed, .bool di, .int .u64 (dn : Int), .int .u64 (dq : Int), .str dh, .str dd, .int .i64 pol, .int .i64 num, .int .i64 tik, .sl .ext (pay.map E.byte), .int .u64 (life : Int), .int .u64 (tok : Int), .bool on], .int .u8 110] (byE (vn m)) [] := by
  subst hm
  have hX := av_rfNum m (by omega)
  have e1 : IntKind.u64.wrap (m : Int) = (m : Int) := IntWalk.u64_in _ (by omega)
  refine AP.ofA ?_
  refine AC_of Tryz.func44 rfl Tryz.ntmps44 rfl rfl ?_
  repeat' (first | rw [e1] | (apply AL_callPw (hX); kernel_rfl; (iterate 4 exact rfl)) | (apply AL_move; exact rfl; exact rfl) | (apply AL_assign; exact rfl; exact rfl) | (apply AL_bin; (iterate 5 exact rfl)) | (apply AL_load1 ttok; (iterate 6 exact rfl)) | (apply AL_fieldAddr ttok; (iterate 7 exact rfl)) | (apply AL_boxZ; (iterate 5 exact rfl)) | (apply AL_convT ttok; (iterate 5 exact rfl)) | refine AL_nil ?_ | refine AW_region ?_ | refine AW_seq' ?_ | (apply AW_condA; exact rfl; (first | with_reducible assumption | decide +kernel)) | (apply AW_condB; exact rfl; (first | with_reducible assumption | decide +kernel)) | refine then_norm ?_ | refine AW_block ?_ | refine AW_ret ?_)
  all_goals (apply endQ []; (repeat (first | exact ResL.nil | (apply ResL.cons; first | exact .tmp _ _ rfl | (apply res_n ttok; (iterate 6 exact rfl)) | (apply res_1 ttok; (iterate 5 exact rfl))))); (iterate 4 exact rfl))
  all_goals rfl
theorem pt_t [Known] (id : Nat) (kd : Int) (ei : Bool) (en es : Nat) (eh ed : List UInt8) (di : Bool) (dn dq : Nat) (dh dd : List UInt8) (pol num tik : Int) (pay : List UInt8) (life tok : Nat) (on : Bool) (m : Nat) (hm : tik = (m : Int)) (hl : m ≤ 1099511627776) : AP Tryz.prog 44 [.agg [.int .u64 (id : Int), .int .i64 kd, .bool ei, .int .u64 (en : Int), .int .u64 (es : Int), .str eh, .str ed, .bool di, .int .u64 (dn : Int), .int .u64 (dq : Int), .str dh, .str dd, .int .i64 pol, .int .i64 num, .int .i64 tik, .sl .ext (pay.map E.byte), .int .u64 (life : Int), .int .u64 (tok : Int), .bool on], .int .u8 116] (byE (vn m)) [] := by
  subst hm
  have hX := av_rfNum m (by omega)
  have e1 : IntKind.u64.wrap (m : Int) = (m : Int) := IntWalk.u64_in _ (by omega)
  refine AP.ofA ?_
  refine AC_of Tryz.func44 rfl Tryz.ntmps44 rfl rfl ?_
  repeat' (first | rw [e1] | (apply AL_callPw (hX); kernel_rfl; (iterate 4 exact rfl)) | (apply AL_move; exact rfl; exact rfl) | (apply AL_assign; exact rfl; exact rfl) | (apply AL_bin; (iterate 5 exact rfl)) | (apply AL_load1 ttok; (iterate 6 exact rfl)) | (apply AL_fieldAddr ttok; (iterate 7 exact rfl)) | (apply AL_boxZ; (iterate 5 exact rfl)) | (apply AL_convT ttok; (iterate 5 exact rfl)) | refine AL_nil ?_ | refine AW_region ?_ | refine AW_seq' ?_ | (apply AW_condA; exact rfl; (first | with_reducible assumption | decide +kernel)) | (apply AW_condB; exact rfl; (first | with_reducible assumption | decide +kernel)) | refine then_norm ?_ | refine AW_block ?_ | refine AW_ret ?_)
  all_goals (apply endQ []; (repeat (first | exact ResL.nil | (apply ResL.cons; first | exact .tmp _ _ rfl | (apply res_n ttok; (iterate 6 exact rfl)) | (apply res_1 ttok; (iterate 5 exact rfl))))); (iterate 4 exact rfl))
  all_goals rfl
theorem pt_l [Known] (id : Nat) (kd : Int) (ei : Bool) (en es : Nat) (eh ed : List UInt8) (di : Bool) (dn dq : Nat) (dh dd : List UInt8) (pol num tik : Int) (pay : List UInt8) (life tok : Nat) (on : Bool) (hl : life < 18446744073709551616) : AP Tryz.prog 44 [.agg [.int .u64 (id : Int), .int .i64 kd, .bool ei, .int .u64 (en : Int), .int .u64 (es : Int), .str eh, .str ed, .bool di, .int .u64 (dn : Int), .int .u64 (dq : Int), .str dh, .str dd, .int .i64 pol, .int .i64 num, .int .i64 tik, .sl .ext (pay.map E.byte), .int .u64 (life : Int), .int .u64 (tok : Int), .bool on], .int .u8 108] (byE (vn life)) [] := by
  have hX := av_rfNum life hl
  refine AP.ofA ?_
  refine AC_of Tryz.func44 rfl Tryz.ntmps44 rfl rfl ?_
  repeat' (first | (apply AL_callPw (hX); kernel_rfl; (iterate 4 exact rfl)) | (apply AL_move; exact rfl; exact rfl) | (apply AL_assign; exact rfl; exact rfl) | (apply AL_bin; (iterate 5 exact rfl)) | (apply AL_load1 ttok; (iterate 6 exact rfl)) | (apply AL_fieldAddr ttok; (iterate 7 exact rfl)) | (apply AL_boxZ; (iterate 5 exact rfl)) | refine AL_nil ?_ | refine AW_region ?_ | refine AW_seq' ?_ | (apply AW_condA; exact rfl; (first | with_reducible assumption | decide +kernel)) | (apply AW_condB; exact rfl; (first | with_reducible assumption | decide +kernel)) | refine then_norm ?_ | refine AW_block ?_ | refine AW_ret ?_)
  all_goals (apply endQ []; (repeat (first | exact ResL.nil | (apply ResL.cons; first | exact .tmp _ _ rfl | (apply res_n ttok; (iterate 6 exact rfl)) | (apply res_1 ttok; (iterate 5 exact rfl))))); (iterate 4 exact rfl))
  all_goals rfl
theorem pt_k [Known] (id : Nat) (kd : Int) (ei : Bool) (en es : Nat) (eh ed : List UInt8) (di : Bool) (dn dq : Nat) (dh dd : List UInt8) (pol num tik : Int) (pay : List UInt8) (life tok : Nat) (on : Bool) (hl : tok < 18446744073709551616) : AP Tryz.prog 44 [.agg [.int .u64 (id : Int), .int .i64 kd, .bool ei, .int .u64 (en : Int), .int .u64 (es : Int), .str eh, .str ed, .bool di, .int .u64 (dn : Int), .int .u64 (dq : Int), .str dh, .str dd, .int .i64 pol, .int .i64 num, .int .i64 tik, .sl .ext (pay.map E.byte), .int .u64 (life : Int), .int .u64 (tok : Int), .bool on], .int .u8 107] (byE (vn tok)) [] := by
  have hX := av_rfNum tok hl
  refine AP.ofA ?_
  refine AC_of Tryz.func44 rfl Tryz.ntmps44 rfl rfl ?_
  repeat' (first | (apply AL_callPw (hX); kernel_rfl; (iterate 4 exact rfl)) | (apply AL_move; exact rfl; exact rfl) | (apply AL_assign; exact rfl; exact rfl) | (apply AL_bin; (iterate 5 exact rfl)) | (apply AL_load1 ttok; (iterate 6 exact rfl)) | (apply AL_fieldAddr ttok; (iterate 7 exact rfl)) | (apply AL_boxZ; (iterate 5 exact rfl)) | refine AL_nil ?_ | refine AW_region ?_ | refine AW_seq' ?_ | (apply AW_condA; exact rfl; (first | with_reducible assumption | decide +kernel)) | (apply AW_condB; exact rfl; (first | with_reducible assumption | decide +kernel)) | refine then_norm ?_ | refine AW_block ?_ | refine AW_ret ?_)
  all_goals (apply endQ []; (repeat (first | exact ResL.nil | (apply ResL.cons; first | exact .tmp _ _ rfl | (apply res_n ttok; (iterate 6 exact rfl)) | (apply res_1 ttok; (iterate 5 exact rfl))))); (iterate 4 exact rfl))
  all_goals rfl
theorem pt_o [Known] (id : Nat) (kd : Int) (ei : Bool) (en es : Nat) (eh ed : List UInt8) (di : Bool) (dn dq : Nat) (dh dd : List UInt8) (pol num tik : Int) (pay : List UInt8) (life tok : Nat) (on : Bool) : AP Tryz.prog 44 [.agg [.int .u64 (id : Int), .int .i64 kd, .bool ei, .int .u64 (en : Int), .int .u64 (es : Int), .str eh, .str ed, .bool di, .int .u64 (dn : Int), .int .u64 (dq : Int), .str dh, .str dd, .int .i64 pol, .int .i64 num, .int .i64 tik, .sl .ext (pay.map E.byte), .int .u64 (life : Int), .int .u64 (tok : Int), .bool on], .int .u8 111] (byE (vn on.toNat)) [] := by
  have h0 := av_rfNum 0 (by omega)
  have h1 := av_rfNum 1 (by omega)
  cases on
  all_goals
    refine AP.ofA ?_
    refine AC_of Tryz.func44 rfl Tryz.ntmps44 rfl rfl ?_
    repeat' (first | (apply AL_callPw (h0); kernel_rfl; (iterate 4 exact rfl)) | (apply AL_callPw (h1); kernel_rfl; (iterate 4 exact rfl)) | (apply AL_move; exact rfl; exact rfl) | (apply AL_assign; exact rfl; exact rfl) | (apply AL_bin; (iterate 5 exact rfl)) | (apply AL_load1 ttok; (iterate 6 exact rfl)) | (apply AL_fieldAddr ttok; (iterate 7 exact rfl)) | (apply AL_boxZ; (iterate 5 exact rfl)) | refine AL_nil ?_ | refine AW_region ?_ | refine AW_seq' ?_ | (apply AW_condA; exact rfl; (first | with_reducible assumption | decide +kernel)) | (apply AW_condB; exact rfl; (first | with_reducible assumption | decide +kernel)) | refine then_norm ?_ | refine AW_block ?_ | refine AW_ret ?_ | refine AW_skip ?_)
    all_goals (apply endQ []; (repeat (first | exact ResL.nil | (apply ResL.cons; first | exact .tmp _ _ rfl | (apply res_n ttok; (iterate 6 exact rfl)) | (apply res_1 ttok; (iterate 5 exact rfl))))); (iterate 4 exact rfl))
    all_goals rfl
end Go.Proofs.YtdhkfbolnkikgaaGreatDoor
end
/- The document's answers for requests: a request's bytes. -/
section
open Go.RowKit Go.Pl Go.Av
namespace Go.Proofs.YtdhkfbolnkikgaaGreatDoor
set_option linter.unusedVariables false
set_option linter.unusedSimpArgs false
set_option maxHeartbeats 4000000
theorem av_rfWrite0 [Known] (id : Nat) (kn : Nat) (ei : Bool) (en es : Nat) (eh ed : List UInt8) (di : Bool) (dn dq : Nat) (dh dd : List UInt8) (pol num tik : Int) (pay : List UInt8) (life tok : Nat) (on : Bool) (p : List UInt8) (prt : UInt8 → List UInt8) (hid : id < 18446744073709551616) (hk : kn < 1000) (hpl : p.length ≤ 10)
    (hP : AP Tryz.prog 35 [.int .i64 (kn : Int)] (.str p) [])
    (hpt : ∀ c ∈ p, AP Tryz.prog 44 [.agg [.int .u64 (id : Int), .int .i64 (kn : Int), .bool ei, .int .u64 (en : Int), .int .u64 (es : Int), .str eh, .str ed, .bool di, .int .u64 (dn : Int), .int .u64 (dq : Int), .str dh, .str dd, .int .i64 pol, .int .i64 num, .int .i64 tik, .sl .ext (pay.map E.byte), .int .u64 (life : Int), .int .u64 (tok : Int), .bool on], .int .u8 (c.toNat : Int)] (byE (prt c)) [])
    (hne : ∀ c ∈ p, prt c ≠ [] ∧ (prt c).length ≤ 1000) :
    AP Tryz.prog 16 [.agg [.int .u64 (id : Int), .int .i64 (kn : Int), .bool ei, .int .u64 (en : Int), .int .u64 (es : Int), .str eh, .str ed, .bool di, .int .u64 (dn : Int), .int .u64 (dq : Int), .str dh, .str dd, .int .i64 pol, .int .i64 num, .int .i64 tik, .sl .ext (pay.map E.byte), .int .u64 (life : Int), .int .u64 (tok : Int), .bool on]] (byE (vn id ++ vn kn ++ p.flatMap prt)) [] := by
  have hN := av_rfNumT id hid
  have hM := av_rfNum kn (by omega)
  have e1 : IntKind.u64.wrap (kn : Int) = (kn : Int) := IntWalk.u64_in _ (by omega)
  have hU1 := uniB1 (vn id)
  have hU2 := uniB1 (vn kn)
  have v1 : (vn id).length ≤ 10 := (vnF_len 9 id).1
  have v2 : (vn kn).length ≤ 10 := (vnF_len 9 kn).1
  have hl1 : ((vn id).map E.byte).length = (vn id).length := List.length_map ..
  have hl2 : ((vn kn).map E.byte).length = (vn kn).length := List.length_map ..
  have hne2 : (vn kn).map E.byte ≠ [] := by
    intro h
    have := congrArg List.length h
    rw [hl2] at this
    have w2 : 0 < (vn kn).length := (vnF_len 9 kn).2
    simp only [List.length_nil] at this
    omega
  refine AP.ofA ?_
  refine AC_of Tryz.func16 rfl Tryz.ntmps16 rfl rfl ?_
  repeat' (first | rw [e1] | (apply AL_callT [] [] (hN); kernel_rfl; (iterate 10 exact rfl)) | (apply AL_callPw (hM); kernel_rfl; (iterate 4 exact rfl)) | (apply AL_callPw (hP); kernel_rfl; (iterate 4 exact rfl)) | (apply AL_move; exact rfl; exact rfl) | (apply AL_assign; exact rfl; exact rfl) | (apply AL_load1 ttok; (iterate 6 exact rfl)) | (apply AL_fieldAddr ttok; (iterate 7 exact rfl)) | (apply AL_boxZ; (iterate 5 exact rfl)) | (apply AL_convT ttok; (iterate 5 exact rfl)) | refine AL_nil ?_ | refine AW_region ?_ | refine AW_seq' ?_ | refine then_norm ?_ | refine AW_block ?_ | (apply AL_append ttok; (iterate 6 exact rfl); (first | with_reducible assumption | decide +kernel | exact rfl | rotate_left); exact rfl; exact rfl; (first | exact uniB_ok rfl | with_reducible assumption | decide +kernel | rotate_left); (first | exact uniB_ok rfl | with_reducible assumption | decide +kernel | rotate_left); (first | exact List.cons_ne_nil _ _ | with_reducible assumption | decide +kernel | rotate_left); (first | with_reducible assumption | decide +kernel | rotate_left); (first | with_reducible assumption | decide +kernel | rotate_left); exact rfl; exact rfl))
  case k.k.k.k.k.k.k.k.k.kk.k.hfn => exact hl1.symm
  case k.k.k.k.k.k.k.k.k.kk.k.hlen => rw [hl1, hl2]; unfold maxLen; omega
  case k.k.k.k.k.k.k.k.k.kk.k.hby => rw [hl1, hl2]; show (_ + _) * 1 ≤ _; omega
  refine AW_loopJ (fun k tm bx fr => ∃ (i c : Nat) (M : List UInt8) (K : List E), k + i = p.length ∧ K = M.map E.byte ∧ c = K.length ∧ M = vn id ++ vn kn ++ (p.take i).flatMap prt ∧ M.length ≤ 100 + 1000 * i ∧ tm = [(1, .ptr 0 0), (2, .sl .nil []), (3, .sl (.own 0) K), (4, .str p), (5, .int .i64 (i : Int))] ∧ bx = [[.int .u64 (id : Int), .int .i64 (kn : Int), .bool ei, .int .u64 (en : Int), .int .u64 (es : Int), .str eh, .str ed, .bool di, .int .u64 (dn : Int), .int .u64 (dq : Int), .str dh, .str dd, .int .i64 pol, .int .i64 num, .int .i64 tik, .sl .ext (pay.map E.byte), .int .u64 (life : Int), .int .u64 (tok : Int), .bool on]] ∧ fr = [⟨c, 1, 5⟩]) (p.length + 1) (Lands.mk' (m := p.length) (Nat.lt_succ_self _) ⟨0, ((vn id).map E.byte).length + ((vn kn).map E.byte).length, vn id ++ vn kn, (vn id).map E.byte ++ (vn kn).map E.byte, rfl, by simp, by simp, by simp, by rw [List.length_append]; omega, rfl, rfl, rfl⟩ ?_ rfl rfl rfl rfl rfl rfl) ?_
  · exact .cons rfl (.cons rfl (.cons rfl (.cons rfl (.cons rfl .nil))))
  rintro k tm bx fr ⟨i, c, M, K, hk2, hK, hc, hM, hMl, rfl, rfl, rfl⟩
  have hU : Uni 1 K := hK ▸ uniB1 M
  have hKl : K.length = M.length := by rw [hK, List.length_map]
  subst hc
  rcases Nat.lt_or_ge i p.length with hlt | hge
  · have t1 : decide ((i : Int) < (p.length : Int)) = true := decide_eq_true (by omega)
    obtain ⟨d, hd⟩ : ∃ d, p[i]? = some d := ⟨_, List.getElem?_eq_getElem hlt⟩
    have hidx : p[((i : Nat) : Int).toNat]? = some d := by simpa using hd
    have ei2 : IntKind.i64.wrap ((i : Int) + 1) = ((i + 1 : Nat) : Int) := by rw [IntWalk.i64_in _ (by omega)]; omega
    have hX := hpt d (List.mem_of_getElem? hd)
    obtain ⟨hn1, hn2⟩ := hne d (List.mem_of_getElem? hd)
    have hM2 : M ++ prt d = vn id ++ vn kn ++ (p.take (i + 1)).flatMap prt := by
      rw [hM, List.take_add_one, hd]; simp
    generalize prt d = b at *
    have hb : b.map E.byte ≠ [] := by
      intro h
      exact hn1 (List.map_eq_nil_iff.1 h)
    have hUb := uniB1 b
    have hbl : (b.map E.byte).length = b.length := List.length_map ..
    repeat' (first | rw [ei2] | (apply AL_callPw (hX); kernel_rfl; (iterate 4 exact rfl)) | (apply AL_idxs ttok; (iterate 5 exact rfl); exact Int.natCast_nonneg _; exact hidx) | (apply AL_move; exact rfl; exact rfl) | (apply AL_assign; exact rfl; exact rfl) | (apply AL_bin; (iterate 5 exact rfl)) | (apply AL_loadn ttok; (iterate 7 exact rfl)) | refine AL_nil ?_ | refine AW_region ?_ | refine AW_seq' ?_ | (apply AW_condA; exact rfl; (first | with_reducible assumption | decide +kernel)) | refine then_norm ?_ | refine AW_block ?_ | (apply AL_lens ttok; (iterate 4 exact rfl)) | (apply AW_drawE 6 hmix; (decide +kernel); (kernel_rfl); (kernel_rfl); (kernel_rfl); exact rfl; exact rfl) | (apply AE_consZ; (iterate 4 exact rfl)) | exact AE.nil _ _ _ _ | (apply AEk_puT; exact rfl) | (apply AOt_mk; exact rfl; exact rfl; (decide +kernel); exact rfl) | (apply AO_puT; exact rfl) | exact AO.nil _ _ _ | (apply AOs_skip; (decide +kernel)) | exact AOs.nil | exact qY_ok rfl rfl | refine AW_skip ?_ | (apply AL_append ttok; (iterate 6 exact rfl); (first | with_reducible assumption | decide +kernel | exact rfl | rotate_left); exact rfl; exact rfl; (first | exact uniB_ok rfl | with_reducible assumption | decide +kernel | rotate_left); (first | exact uniB_ok rfl | with_reducible assumption | decide +kernel | rotate_left); (first | exact List.cons_ne_nil _ _ | with_reducible assumption | decide +kernel | rotate_left); (first | with_reducible assumption | decide +kernel | rotate_left); (first | with_reducible assumption | decide +kernel | rotate_left); exact rfl; exact rfl))
    all_goals first | exact hb | rfl | (rw [hbl, hKl]; unfold maxLen; omega) | (rw [hbl, hKl]; show (_ + _) * 1 ≤ _; omega) | skip
    refine Lands.mk' (m := k - 1) (by omega) ⟨i + 1, K.length + (b.map E.byte).length, M ++ b, K ++ b.map E.byte, by omega, by rw [hK, List.map_append], by rw [List.length_append], hM2, by rw [List.length_append]; omega, rfl, rfl, rfl⟩ ?_ rfl rfl rfl rfl rfl rfl
    exact .cons rfl (.cons rfl (.cons rfl (.cons rfl (.cons rfl .nil))))
  · have t1 : decide ((i : Int) < (p.length : Int)) = false := decide_eq_false (by omega)
    rw [List.take_of_length_le hge] at hM
    repeat' (first | (apply AL_move; exact rfl; exact rfl) | (apply AL_assign; exact rfl; exact rfl) | (apply AL_bin; (iterate 5 exact rfl)) | refine AL_nil ?_ | refine AW_region ?_ | refine AW_seq' ?_ | (apply AW_condB; exact rfl; (first | with_reducible assumption | decide +kernel)) | refine then_norm ?_ | refine AW_exit ?_ | refine AW_ret ?_ | (apply AL_lens ttok; (iterate 4 exact rfl)))
    all_goals (apply endQ []; (repeat (first | exact ResL.nil | (apply ResL.cons; first | exact .tmp _ _ rfl | (apply res_n ttok; (iterate 6 exact rfl)) | (apply res_1 ttok; (iterate 5 exact rfl))))); (iterate 4 exact rfl))
    all_goals first | rfl | (rw [hK, hM])
end Go.Proofs.YtdhkfbolnkikgaaGreatDoor
end
/- The document's answers for names: digits, texts. -/
section
open Go.RowKit Go.Pl Go.Av
namespace Go.Proofs.YtdhkfbolnkikgaaGreatDoor
set_option linter.unusedVariables false
set_option linter.unusedSimpArgs false
set_option maxHeartbeats 1000000
theorem dec_step {n : Nat} (h : 0 < n / 10) : Lib.decDigits n = Lib.decDigits (n / 10) ++ [UInt8.ofNat (48 + n % 10)] := by
  rw [Lib.decDigits, dif_neg (by omega)]
theorem dec_last {n : Nat} (h : n / 10 = 0) : Lib.decDigits n = [UInt8.ofNat (48 + n % 10)] := by
  rw [Lib.decDigits, dif_pos (by omega), Nat.mod_eq_of_lt (by omega)]
theorem dig_nat' {k : Nat} (h : k < 10) : (UInt8.ofNat (48 + k)).toNat = 48 + k := by
  rw [UInt8.toNat_ofNat']; omega
theorem dec_le : ∀ (k u : Nat), u < 10 ^ (k + 1) → (Lib.decDigits u).length ≤ k + 1
  | 0, u, h => by rw [Lib.decDigits, dif_pos (by simpa using h)]; simp
  | k + 1, u, h => by
    rw [Lib.decDigits]
    by_cases h1 : u < 10
    · rw [dif_pos h1]; simp
    · rw [dif_neg h1, List.length_append]
      have := dec_le k (u / 10) (by rw [Nat.pow_succ] at h; omega)
      simp; omega
theorem av_digits [Known] (N : Nat) (hN : N < 18446744073709551616) : AP Tryz.prog 63 [.int .u64 (N : Int)] (.str (Lib.decDigits N)) [] := by
  refine AP.ofA ?_
  refine AC_of Tryz.func63 rfl Tryz.ntmps63 rfl rfl ?_
  repeat' (first | (apply AL_assign; exact rfl; exact rfl) | refine AL_nil ?_ | refine AW_region ?_ | refine AW_seq' ?_ | refine AW_block ?_)
  refine AW_loopJ (fun k tm bx fr => ∃ (n : Nat) (out : List UInt8), k = n + (if out = [] then 1 else 0) ∧ n ≤ N ∧ ((out = [] ∧ n = N) ∨ (out ≠ [] ∧ (if n = 0 then out = Lib.decDigits N else Lib.decDigits n ++ out = Lib.decDigits N))) ∧ tm = [(0, .int .u64 (n : Int)), (2, .str []), (3, .str out)] ∧ bx = [] ∧ fr = []) (N + 2) (Lands.mk' (m := N + 1) (by omega) ⟨N, [], by simp, Nat.le_refl _, .inl ⟨rfl, rfl⟩, rfl, rfl, rfl⟩ ?_ rfl rfl rfl rfl rfl rfl) ?_
  · exact .cons rfl (.cons rfl (.cons rfl .nil))
  rintro k tm bx fr ⟨n, out, hk, hn, hI, rfl, rfl, rfl⟩
  have hol : out.length ≤ 20 := by
    have hd := dec_le 19 N (by omega)
    rcases hI with ⟨rfl, _⟩ | ⟨_, h⟩
    · simp
    · split at h
      · rw [h]; exact hd
      · rw [← h, List.length_append] at hd; omega
  have e0 : IntKind.u8.wrap (IntKind.u64.wrap (48 + ((n : Int)).tmod 10)) = ((UInt8.ofNat (48 + n % 10)).toNat : Int) := by
    have hm : ((n : Int)).tmod 10 = ((n % 10 : Nat) : Int) := by rw [Int.tmod_eq_emod_of_nonneg (by omega)]; omega
    rw [hm, IntWalk.u64_in _ (by omega), dig_nat' (by omega), IntWalk.u8_in _ (by omega)]; omega
  have e1 : ((n : Int)).tdiv 10 = ((n / 10 : Nat) : Int) := by rw [Int.tdiv_eq_ediv_of_nonneg (by omega)]; omega
  have e2 : IntKind.u64.wrap ((n / 10 : Nat) : Int) = ((n / 10 : Nat) : Int) := IntWalk.u64_in _ (by omega)
  have l1 : [UInt8.ofNat (48 + n % 10)].length + out.length ≤ maxLen := by simp; unfold maxLen; omega
  have hgo : ((out = [] ∧ n = N) ∨ (out ≠ [] ∧ 0 < n ∧ Lib.decDigits n ++ out = Lib.decDigits N)) → (if n / 10 = 0 then [UInt8.ofNat (48 + n % 10)] ++ out = Lib.decDigits N else Lib.decDigits (n / 10) ++ ([UInt8.ofNat (48 + n % 10)] ++ out) = Lib.decDigits N) := fun h => by
    have hh : Lib.decDigits n ++ out = Lib.decDigits N := by
      rcases h with ⟨rfl, rfl⟩ | ⟨_, _, h⟩
      · simp
      · exact h
    split
    · rename_i h1; rw [← hh, dec_last h1]
    · rename_i h1; rw [← hh, dec_step (n := n) (by omega), List.append_assoc]
  rcases Nat.eq_zero_or_pos n with h0 | h0
  · subst h0
    have t1 : decide (((0 : Nat) : Int) > 0) = false := by decide
    cases out with
    | nil =>
      repeat' (first | rw [e0] | rw [e2] | rw [e1] | (apply AL_b2s ttok; exact rfl; exact (show _ = [UInt8.ofNat (48 + 0 % 10)].map E.byte from rfl); (iterate 7 exact rfl)) | (apply AL_cat; exact rfl; exact rfl; exact l1; exact rfl) | (apply AL_move; exact rfl; exact rfl) | (apply AL_assign; exact rfl; exact rfl) | (apply AL_bin; (iterate 5 exact rfl)) | (apply AL_convT ttok; (iterate 5 exact rfl)) | refine AL_nil ?_ | (apply AL_guardT; (iterate 3 exact rfl); (first | with_reducible assumption | decide +kernel)) | (apply AL_pickF; exact rfl; (first | with_reducible assumption | decide +kernel); exact rfl; exact rfl) | refine AW_region ?_ | refine AW_seq' ?_ | (apply AW_condA; exact rfl; (first | with_reducible assumption | decide +kernel)) | refine then_norm ?_ | refine blk_norm ?_ | refine AW_block ?_ | (apply AL_bs ttok; (iterate 12 exact rfl)) | (apply AL_str; (iterate 5 exact rfl)) | refine AW_skip ?_ | (apply AL_quo; exact rfl; exact rfl; (first | (exact (by decide)) | with_reducible assumption | decide +kernel | rotate_left); exact rfl) | (apply AL_rem; exact rfl; exact rfl; (first | (exact (by decide)) | with_reducible assumption | decide +kernel | rotate_left); exact rfl))
      refine Lands.mk' (m := 0) (by simp at hk; omega) ⟨0, [UInt8.ofNat (48 + 0 % 10)] ++ [], by simp, by omega, .inr ⟨by simp, ?_⟩, rfl, rfl, rfl⟩ ?_ rfl rfl rfl rfl rfl rfl
      · rw [if_pos rfl]
        rcases hI with ⟨_, rfl⟩ | ⟨h, _⟩
        · rw [dec_last (by omega)]; rfl
        · exact absurd rfl h
      · exact .cons rfl (.cons rfl (.cons rfl .nil))
    | cons c r =>
      have t2 : (c :: r == []) = false := by simp
      have hR : c :: r = Lib.decDigits N := by
        rcases hI with ⟨h, _⟩ | ⟨_, h⟩
        · cases h
        · exact h
      repeat' (first | (apply AL_move; exact rfl; exact rfl) | (apply AL_assign; exact rfl; exact rfl) | (apply AL_bin; (iterate 5 exact rfl)) | refine AL_nil ?_ | (apply AL_guardT; (iterate 3 exact rfl); (first | with_reducible assumption | decide +kernel)) | (apply AL_pickF; exact rfl; (first | with_reducible assumption | decide +kernel); exact rfl; exact rfl) | refine AW_region ?_ | refine AW_seq' ?_ | (apply AW_condB; exact rfl; (first | with_reducible assumption | decide +kernel)) | refine then_norm ?_ | refine AW_exit ?_ | refine AW_ret ?_ | (apply AL_str; (iterate 5 exact rfl)))
      all_goals (apply endQ []; (repeat (first | exact ResL.nil | (apply ResL.cons; first | exact .tmp _ _ rfl | (apply res_n ttok; (iterate 6 exact rfl)) | (apply res_1 ttok; (iterate 5 exact rfl))))); (iterate 4 exact rfl))
      all_goals first | rfl | (rw [hR]; done) | (rw [← hR]; rfl)
  · have t1 : decide ((n : Int) > 0) = true := decide_eq_true (by omega)
    have hx := hgo (by
      rcases hI with h | ⟨h, h2⟩
      · exact .inl h
      · rw [if_neg (by omega)] at h2; exact .inr ⟨h, h0, h2⟩)
    repeat' (first | rw [e0] | rw [e2] | rw [e1] | (apply AL_b2s ttok; exact rfl; exact (show _ = [UInt8.ofNat (48 + n % 10)].map E.byte from rfl); (iterate 7 exact rfl)) | (apply AL_cat; exact rfl; exact rfl; exact l1; exact rfl) | (apply AL_move; exact rfl; exact rfl) | (apply AL_assign; exact rfl; exact rfl) | (apply AL_bin; (iterate 5 exact rfl)) | (apply AL_convT ttok; (iterate 5 exact rfl)) | refine AL_nil ?_ | (apply AL_guardFf; (iterate 3 exact rfl); (first | with_reducible assumption | decide +kernel)) | (apply AL_pickT; exact rfl; (first | with_reducible assumption | decide +kernel); exact rfl; exact rfl) | refine AW_region ?_ | refine AW_seq' ?_ | (apply AW_condA; exact rfl; (first | with_reducible assumption | decide +kernel)) | refine then_norm ?_ | refine blk_norm ?_ | refine AW_block ?_ | (apply AL_bs ttok; (iterate 12 exact rfl)) | refine AW_skip ?_ | (apply AL_quo; exact rfl; exact rfl; (first | (exact (by decide)) | with_reducible assumption | decide +kernel | rotate_left); exact rfl) | (apply AL_rem; exact rfl; exact rfl; (first | (exact (by decide)) | with_reducible assumption | decide +kernel | rotate_left); exact rfl))
    refine Lands.mk' (m := n / 10) (by omega) ⟨n / 10, [UInt8.ofNat (48 + n % 10)] ++ out, by simp, by omega, .inr ⟨by simp, hx⟩, rfl, rfl, rfl⟩ ?_ rfl rfl rfl rfl rfl rfl
    exact .cons rfl (.cons rfl (.cons rfl .nil))
end Go.Proofs.YtdhkfbolnkikgaaGreatDoor
end
/- The document's answers for names: numbers in a text, plain. -/
section
open Go.RowKit Go.Pl Go.Av
namespace Go.Proofs.YtdhkfbolnkikgaaGreatDoor
set_option linter.unusedVariables false
def isD (c : UInt8) : Bool := decide ((c.toNat : Int) ≥ 48) && decide ((c.toNat : Int) ≤ 57)
/-- a number of at most so many digits, and how many there are -/
def numR : Nat → Nat → List UInt8 → Nat × Nat
  | 0, a, _ => (a, 0)
  | f + 1, a, [] => (a, 0)
  | f + 1, a, c :: r => if isD c then ((numR f (10 * a + (c.toNat - 48)) r).1, (numR f (10 * a + (c.toNat - 48)) r).2 + 1) else (a, 0)
theorem isD_iff {c : UInt8} : isD c = true ↔ 48 ≤ c.toNat ∧ c.toNat ≤ 57 := by
  simp only [isD, Bool.and_eq_true, decide_eq_true_eq]; omega
end Go.Proofs.YtdhkfbolnkikgaaGreatDoor
end
