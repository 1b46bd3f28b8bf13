/- Package fields: a reader: bounded numbers, truths, texts, the end. -/
import Derived.Test.YtdhkfbolnkikgaaGreatDoorG17
import Derived.Test.YtdhkfbolnkikgaaGreatDoorG13
import Derived.Test.YtdhkfbolnkikgaaGreatDoorG14
import Derived.Test.YtdhkfbolnkikgaaGreatDoorG15
import Derived.Test.YtdhkfbolnkikgaaGreatDoorG16
import Derived.Test.YtdhkfbolnkikgaaGreatDoorG12
section
open Go.RowKit Go.Pl Go.Av
namespace Go.Proofs.YtdhkfbolnkikgaaGreatDoor
set_option linter.unusedVariables false
set_option linter.unusedSimpArgs false
set_option maxHeartbeats 4000000
theorem numS_len (s : Nat × List UInt8) : (numS s).2.2.length ≤ s.2.length := by
  unfold numS
  split
  · exact rnF_len _ _ _
  · exact Nat.le_refl _
theorem numS_lt (s : Nat × List UInt8) : (numS s).1 < 18446744073709551616 := by
  unfold numS
  split
  · exact rnF_lt _ _ _ (by decide) (by omega)
  · show 0 < _; omega
def mostS (top : Nat) (s : Nat × List UInt8) : Nat × Nat × List UInt8 := match decide (((numS s).1 : Int) > (top : Int)) with | true => (0, failS 3 (numS s).2) | false => numS s
theorem failS_len (f : Nat) (s : Nat × List UInt8) : (failS f s).2 = s.2 := by unfold failS; split <;> rfl
theorem mostS_len (top : Nat) (s : Nat × List UInt8) : (mostS top s).2.2.length ≤ s.2.length := by
  have := numS_len s
  unfold mostS
  split
  · show (failS 3 (numS s).2).2.length ≤ _; rw [failS_len]; exact this
  · exact this
theorem mostS_le (top : Nat) (s : Nat × List UInt8) : (mostS top s).1 ≤ top := by
  unfold mostS
  split
  · exact Nat.zero_le _
  · rename_i h; have := of_decide_eq_false h; omega
theorem av_rMost [Known] (top : Nat) (s : Nat × List UInt8) (hb : s.2.length ≤ 1000000) : AQ Tryz.prog 49 [.ptr 0 0, .int .u64 (top : Int)] (rdD s) (.int .u64 ((mostS top s).1 : Int)) (rdD (mostS top s).2) := by
  have hN := av_rNum s hb
  unfold mostS
  generalize numS s = p at *
  obtain ⟨n, e, q⟩ := p
  obtain ⟨e0, b⟩ := s
  have hX := av_fail (e, q) 3
  generalize failS 3 (e, q) = z at *
  obtain ⟨z1, z2⟩ := z
  dsimp only at hN hX ⊢
  replace hX : AQ Tryz.prog _ [.ptr 0 0, .int .i64 3] _ _ _ := hX
  cases t : decide ((n : Int) > (top : Int))
  all_goals
    dsimp only
    refine AQ.weak ?_
    refine AC_of Tryz.func49 rfl Tryz.ntmps49 rfl rfl ?_
    repeat' (first | (apply AL_callQw [0] (hN); kernel_rfl; (iterate 7 exact rfl)) | (apply AL_callQw [0] (hX); kernel_rfl; (iterate 7 exact rfl)) | (apply AL_move; exact rfl; exact rfl) | (apply AL_assign; exact rfl; exact rfl) | (apply AL_bin; (iterate 5 exact rfl)) | (apply AL_fieldAddr ttok; (iterate 7 exact rfl)) | (apply AL_nilCheck; exact rfl; exact rfl) | refine AL_nil ?_ | refine AW_region ?_ | refine AW_seq' ?_ | (apply AW_condA; exact rfl; (first | with_reducible assumption | decide +kernel)) | (apply AW_condB; exact rfl; (first | with_reducible assumption | decide +kernel)) | refine then_norm ?_ | refine AW_ret ?_ | refine then_ret ?_ | refine AW_skip ?_)
    all_goals (apply endQ [0]; (repeat (first | exact ResL.nil | (apply ResL.cons; first | exact .tmp _ _ rfl | (apply res_n ttok; (iterate 6 exact rfl)) | (apply res_1 ttok; (iterate 5 exact rfl))))); (iterate 4 exact rfl))
    all_goals rfl
theorem av_rInt [Known] (s : Nat × List UInt8) (hb : s.2.length ≤ 1000000) : AQ Tryz.prog 27 [.ptr 0 0] (rdD s) (.int .i64 ((mostS 1099511627776 s).1 : Int)) (rdD (mostS 1099511627776 s).2) := by
  have hM := av_rMost 1099511627776 s hb
  have hl := mostS_le 1099511627776 s
  replace hM : AQ Tryz.prog _ [.ptr 0 0, .int .u64 1099511627776] _ _ _ := hM
  generalize mostS 1099511627776 s = p at *
  obtain ⟨n, e, q⟩ := p
  obtain ⟨e0, b⟩ := s
  dsimp only at hM hl ⊢
  have e1 : IntKind.i64.wrap (n : Int) = (n : Int) := IntWalk.i64_in _ (by omega)
  refine AQ.weak ?_
  refine AC_of Tryz.func27 rfl Tryz.ntmps27 rfl rfl ?_
  repeat' (first | rw [e1] | (apply AL_callQw [0] (hM); kernel_rfl; (iterate 7 exact rfl)) | (apply AL_move; exact rfl; exact rfl) | (apply AL_assign; exact rfl; exact rfl) | (apply AL_convT ttok; (iterate 5 exact rfl)) | refine AL_nil ?_ | refine AW_region ?_ | refine AW_seq' ?_ | refine then_norm ?_ | refine AW_ret ?_)
  all_goals (apply endQ [0]; (repeat (first | exact ResL.nil | (apply ResL.cons; first | exact .tmp _ _ rfl | (apply res_n ttok; (iterate 6 exact rfl)) | (apply res_1 ttok; (iterate 5 exact rfl))))); (iterate 4 exact rfl))
  all_goals rfl
theorem av_rBool [Known] (s : Nat × List UInt8) (hb : s.2.length ≤ 1000000) : AQ Tryz.prog 30 [.ptr 0 0] (rdD s) (.bool (((mostS 1 s).1 : Int) == 1)) (rdD (mostS 1 s).2) := by
  have hM := av_rMost 1 s hb
  replace hM : AQ Tryz.prog _ [.ptr 0 0, .int .u64 1] _ _ _ := hM
  generalize mostS 1 s = p at *
  obtain ⟨n, e, q⟩ := p
  obtain ⟨e0, b⟩ := s
  dsimp only at hM ⊢
  refine AQ.weak ?_
  refine AC_of Tryz.func30 rfl Tryz.ntmps30 rfl rfl ?_
  repeat' (first | (apply AL_callQw [0] (hM); kernel_rfl; (iterate 7 exact rfl)) | (apply AL_move; exact rfl; exact rfl) | (apply AL_assign; exact rfl; exact rfl) | (apply AL_bin; (iterate 5 exact rfl)) | refine AL_nil ?_ | refine AW_region ?_ | refine AW_seq' ?_ | refine then_norm ?_ | refine AW_ret ?_)
  all_goals (apply endQ [0]; (repeat (first | exact ResL.nil | (apply ResL.cons; first | exact .tmp _ _ rfl | (apply res_n ttok; (iterate 6 exact rfl)) | (apply res_1 ttok; (iterate 5 exact rfl))))); (iterate 4 exact rfl))
  all_goals rfl
def txfS (s : Nat × List UInt8) : List UInt8 × Nat × List UInt8 := match ((numS s).2.1 : Int) == 0 with
  | false => ([], (numS s).2)
  | true => match decide (((numS s).1 : Int) > ((numS s).2.2.length : Int)) with
    | true => ([], failS 8 (numS s).2)
    | false => ((numS s).2.2.take (numS s).1, (numS s).2.1, (numS s).2.2.drop (numS s).1)
theorem txfS_len (s : Nat × List UInt8) : (txfS s).2.2.length ≤ s.2.length ∧ (txfS s).1.length ≤ s.2.length := by
  have := numS_len s
  unfold txfS
  split
  · exact ⟨this, Nat.zero_le _⟩
  · split
    · exact ⟨by show (failS 8 (numS s).2).2.length ≤ _; rw [failS_len]; exact this, Nat.zero_le _⟩
    · simp only [List.length_drop, List.length_take]; omega
theorem av_rText [Known] (s : Nat × List UInt8) (hb : s.2.length ≤ 1000000) : AQ Tryz.prog 29 [.ptr 0 0] (rdD s) (byE (txfS s).1) (rdD (txfS s).2) := by
  have hN := av_rNum s hb
  have hlt := numS_lt s
  have hle := numS_len s
  unfold txfS
  generalize numS s = p at *
  obtain ⟨n, e, q⟩ := p
  obtain ⟨e0, b⟩ := s
  have hF := av_fine (e, q)
  have hX := av_fail (e, q) 8
  generalize failS 8 (e, q) = z at *
  obtain ⟨z1, z2⟩ := z
  dsimp only at hN hX hF hb hlt hle ⊢
  replace hX : AQ Tryz.prog _ [.ptr 0 0, .int .i64 8] _ _ _ := hX
  have hql : (q.map E.byte).length = q.length := List.length_map ..
  have e1 : IntKind.u64.wrap (((q.map E.byte).length : Nat) : Int) = (q.length : Int) := by rw [hql]; exact IntWalk.u64_in _ (by omega)
  have hU := uniB1 q
  cases t1 : (e : Int) == 0 with
  | false =>
    rw [t1] at hF
    dsimp only
    refine AQ.weak ?_
    refine AC_of Tryz.func29 rfl Tryz.ntmps29 rfl rfl ?_
    repeat' (first | (apply AL_callQw [0] (hN); kernel_rfl; (iterate 7 exact rfl)) | (apply AL_callQw [0] (hF); kernel_rfl; (iterate 7 exact rfl)) | (apply AL_move; exact rfl; exact rfl) | (apply AL_assign; exact rfl; exact rfl) | (apply AL_not; exact rfl; exact rfl) | refine AL_nil ?_ | refine AW_region ?_ | refine AW_seq' ?_ | (apply AW_condA; exact rfl; (first | with_reducible assumption | decide +kernel)) | refine then_norm ?_ | refine AW_ret ?_ | refine then_ret ?_)
    all_goals (apply endQ [0]; (repeat (first | exact ResL.nil | (apply ResL.cons; first | exact .tmp _ _ rfl | (apply res_n ttok; (iterate 6 exact rfl)) | (apply res_1 ttok; (iterate 5 exact rfl))))); (iterate 4 exact rfl))
    all_goals rfl
  | true =>
    rw [t1] at hF
    cases t2 : decide ((n : Int) > (q.length : Int)) with
    | true =>
      dsimp only
      refine AQ.weak ?_
      refine AC_of Tryz.func29 rfl Tryz.ntmps29 rfl rfl ?_
      repeat' (first | rw [e1] | (apply AL_callQw [0] (hN); kernel_rfl; (iterate 7 exact rfl)) | (apply AL_callQw [0] (hF); kernel_rfl; (iterate 7 exact rfl)) | (apply AL_callQw [0] (hX); kernel_rfl; (iterate 7 exact rfl)) | (apply AL_move; exact rfl; exact rfl) | (apply AL_assign; exact rfl; exact rfl) | (apply AL_bin; (iterate 5 exact rfl)) | (apply AL_load1 ttok; (iterate 6 exact rfl)) | (apply AL_fieldAddr ttok; (iterate 7 exact rfl)) | (apply AL_nilCheck; exact rfl; exact rfl) | (apply AL_not; exact rfl; exact rfl) | (apply AL_convT ttok; (iterate 5 exact rfl)) | refine AL_nil ?_ | refine AW_region ?_ | refine AW_seq' ?_ | (apply AW_condA; exact rfl; (first | with_reducible assumption | decide +kernel)) | (apply AW_condB; exact rfl; (first | with_reducible assumption | decide +kernel)) | refine then_norm ?_ | refine AW_ret ?_ | refine then_ret ?_ | (apply AL_len ttok; (iterate 4 exact rfl)) | refine AW_skip ?_)
      all_goals (apply endQ [0]; (repeat (first | exact ResL.nil | (apply ResL.cons; first | exact .tmp _ _ rfl | (apply res_n ttok; (iterate 6 exact rfl)) | (apply res_1 ttok; (iterate 5 exact rfl))))); (iterate 4 exact rfl))
      all_goals rfl
    | false =>
      have hnq : n ≤ q.length := by have := of_decide_eq_false t2; omega
      have hC := av_cloneB (q.take n) (by rw [List.length_take]; omega)
      have hd : q.drop ((n : Nat) : Int).toNat = q.drop n := rfl
      have ht : q.take ((n : Nat) : Int).toNat = q.take n := rfl
      have hq2 : ((n : Nat) : Int).toNat ≤ q.length := hnq
      dsimp only
      refine AQ.weak ?_
      refine AC_of Tryz.func29 rfl Tryz.ntmps29 rfl rfl ?_
      repeat' (first | rw [e1] | (apply AL_callQw [0] (hN); kernel_rfl; (iterate 7 exact rfl)) | (apply AL_callQw [0] (hF); kernel_rfl; (iterate 7 exact rfl)) | (apply AL_callPw (hC); kernel_rfl; (iterate 4 exact rfl)) | (apply AL_from ttok; (iterate 8 exact rfl); (first | with_reducible assumption | exact Int.natCast_nonneg _ | exact (by decide)); (first | with_reducible assumption | decide | (simp only [List.length_cons, List.length_drop, List.length_take, List.length_append, Int.toNat_natCast] at *; omega)); (first | with_reducible assumption | exact rfl)) | (apply AL_upto ttok; (iterate 8 exact rfl); (first | with_reducible assumption | exact Int.natCast_nonneg _ | exact (by decide)); (first | with_reducible assumption | decide | (simp only [List.length_cons, List.length_drop, List.length_take, List.length_append, Int.toNat_natCast] at *; omega)); (first | with_reducible assumption | exact rfl)) | (apply AL_move; exact rfl; exact rfl) | (apply AL_assign; exact rfl; exact rfl) | (apply AL_bin; (iterate 5 exact rfl)) | (apply AL_load1 ttok; (iterate 6 exact rfl)) | (apply AL_fieldAddr ttok; (iterate 7 exact rfl)) | (apply AL_nilCheck; exact rfl; exact rfl) | (apply AL_store ttok; (iterate 8 exact rfl)) | (apply AL_not; exact rfl; exact rfl) | (apply AL_convT ttok; (iterate 5 exact rfl)) | refine AL_nil ?_ | refine AW_region ?_ | refine AW_seq' ?_ | (apply AW_condB; exact rfl; (first | with_reducible assumption | decide +kernel)) | refine then_norm ?_ | refine AW_ret ?_ | (apply AL_len ttok; (iterate 4 exact rfl)) | refine AW_skip ?_)
      all_goals (apply endQ [0]; (repeat (first | exact ResL.nil | (apply ResL.cons; first | exact .tmp _ _ rfl | (apply res_n ttok; (iterate 6 exact rfl)) | (apply res_1 ttok; (iterate 5 exact rfl))))); (iterate 4 exact rfl))
      all_goals rfl
def endS (s : Nat × List UInt8) : Nat := match (s.1 : Int) == 0 with
  | false => s.1
  | true => match decide ((s.2.length : Int) > 0) with | true => 2 | false => 0
theorem av_rEnd [Known] (s : Nat × List UInt8) : AQ Tryz.prog 31 [.ptr 0 0] (rdD s) (.int .i64 (endS s : Int)) (rdD s) := by
  obtain ⟨e, q⟩ := s
  unfold endS
  have hql : (q.map E.byte).length = q.length := List.length_map ..
  cases t1 : (e : Int) == 0 with
  | false =>
    have t2 : ((e : Int) != 0) = true := by rw [bne, t1]; rfl
    dsimp only
    refine AQ.weak ?_
    refine AC_of Tryz.func31 rfl Tryz.ntmps31 rfl rfl ?_
    repeat' (first | (apply AL_move; exact rfl; exact rfl) | (apply AL_assign; exact rfl; exact rfl) | (apply AL_bin; (iterate 5 exact rfl)) | (apply AL_load1 ttok; (iterate 6 exact rfl)) | (apply AL_fieldAddr ttok; (iterate 7 exact rfl)) | (apply AL_nilCheck; exact rfl; exact rfl) | (apply AL_not; exact rfl; exact rfl) | refine AL_nil ?_ | (apply AL_guardT; (iterate 3 exact rfl); (first | with_reducible assumption | decide +kernel)) | (apply AL_pickF; exact rfl; (first | with_reducible assumption | decide +kernel); exact rfl; exact rfl) | refine AW_region ?_ | refine AW_seq' ?_ | (apply AW_condA; exact rfl; (first | with_reducible assumption | decide +kernel)) | (apply AW_condB; exact rfl; (first | with_reducible assumption | decide +kernel)) | refine then_norm ?_ | refine AW_block ?_ | refine AW_ret ?_ | refine then_ret ?_ | refine blk_ret ?_ | (apply AL_nilp ttok; (iterate 6 exact rfl)))
    all_goals (apply endQ [0]; (repeat (first | exact ResL.nil | (apply ResL.cons; first | exact .tmp _ _ rfl | (apply res_n ttok; (iterate 6 exact rfl)) | (apply res_1 ttok; (iterate 5 exact rfl))))); (iterate 4 exact rfl))
    all_goals rfl
  | true =>
    have t2 : ((e : Int) != 0) = false := by rw [bne, t1]; rfl
    cases t3 : decide ((q.length : Int) > 0)
    all_goals
      rw [← hql] at t3
      dsimp only
      refine AQ.weak ?_
      refine AC_of Tryz.func31 rfl Tryz.ntmps31 rfl rfl ?_
      repeat' (first | (apply AL_move; exact rfl; exact rfl) | (apply AL_assign; exact rfl; exact rfl) | (apply AL_bin; (iterate 5 exact rfl)) | (apply AL_load1 ttok; (iterate 6 exact rfl)) | (apply AL_fieldAddr ttok; (iterate 7 exact rfl)) | (apply AL_nilCheck; exact rfl; exact rfl) | (apply AL_not; exact rfl; exact rfl) | refine AL_nil ?_ | (apply AL_guardT; (iterate 3 exact rfl); (first | with_reducible assumption | decide +kernel)) | (apply AL_pickF; exact rfl; (first | with_reducible assumption | decide +kernel); exact rfl; exact rfl) | refine AW_region ?_ | refine AW_seq' ?_ | (apply AW_condA; exact rfl; (first | with_reducible assumption | decide +kernel)) | (apply AW_condB; exact rfl; (first | with_reducible assumption | decide +kernel)) | refine then_norm ?_ | refine AW_block ?_ | refine AW_ret ?_ | refine then_ret ?_ | refine blk_ret ?_ | (apply AL_len ttok; (iterate 4 exact rfl)) | (apply AL_nilp ttok; (iterate 6 exact rfl)) | refine AW_skip ?_)
      all_goals (apply endQ [0]; (repeat (first | exact ResL.nil | (apply ResL.cons; first | exact .tmp _ _ rfl | (apply res_n ttok; (iterate 6 exact rfl)) | (apply res_1 ttok; (iterate 5 exact rfl))))); (iterate 4 exact rfl))
      all_goals rfl
end Go.Proofs.YtdhkfbolnkikgaaGreatDoor
end
/- Requests as bytes, plain: there and back. -/
section
open Go.RowKit Go.Pl Go.Av
namespace Go.Proofs.YtdhkfbolnkikgaaGreatDoor
set_option linter.unusedVariables false
set_option linter.unusedSimpArgs false
/-- a request's parts as bytes -/
def rqBody (x : RqV) : List UInt8 :=
  if x.kd == 1 || x.kd == 3 then vn (textE x.ep).length ++ (textE x.ep ++ vn x.pol.toNat)
  else if x.kd == 2 || x.kd == 6 then vn (textE x.ep).length ++ textE x.ep
  else if x.kd == 4 then vn (textE x.ep).length ++ (textE x.ep ++ (vn (textE x.ds).length ++ (textE x.ds ++ (vn x.pay.length ++ (x.pay ++ (vn x.life ++ vn x.on.toNat))))))
  else if x.kd == 5 || (x.kd == 8 || x.kd == 9) then vn x.num.toNat
  else if x.kd == 7 then vn (textE x.ep).length ++ (textE x.ep ++ vn x.tik.toNat)
  else if x.kd == 10 then vn x.on.toNat
  else if x.kd == 12 then vn x.tok
  else []
/-- a request's bytes -/
def rqPut (x : RqV) : List UInt8 := vn x.id ++ (vn x.kd.toNat ++ rqBody x)
abbrev Rd := Nat × List UInt8
def nmS (s : Rd) : EidV × Rd := ((if (parseE (txfS s).1).2 then (parseE (txfS s).1).1 else eidZ), (txfS s).2)
abbrev intS (s : Rd) : Nat × Rd := mostS 1099511627776 s
def bolS (s : Rd) : Bool × Rd := (((mostS 1 s).1 : Int) == 1, (mostS 1 s).2)
/-- a kind's parts, read -/
def rqTail (k : Nat) (z : RqV) (s : Rd) : RqV × Rd :=
  if k == 1 || k == 3 then ({ z with ep := (nmS s).1, pol := ((intS (nmS s).2).1 : Int) }, (intS (nmS s).2).2)
  else if k == 2 || k == 6 then ({ z with ep := (nmS s).1 }, (nmS s).2)
  else if k == 4 then
    ({ z with ep := (nmS s).1, ds := (nmS (nmS s).2).1, pay := (txfS (nmS (nmS s).2).2).1, life := (numS (txfS (nmS (nmS s).2).2).2).1, on := (bolS (numS (txfS (nmS (nmS s).2).2).2).2).1 }, (bolS (numS (txfS (nmS (nmS s).2).2).2).2).2)
  else if k == 5 || (k == 8 || k == 9) then ({ z with num := ((intS s).1 : Int) }, (intS s).2)
  else if k == 7 then ({ z with ep := (nmS s).1, tik := ((intS (nmS s).2).1 : Int) }, (intS (nmS s).2).2)
  else if k == 10 then ({ z with on := (bolS s).1 }, (bolS s).2)
  else if k == 12 then ({ z with tok := (numS s).1 }, (numS s).2)
  else (z, s)
abbrev rqZ0 (id k : Nat) : RqV := ⟨id, (k : Int), eidZ, eidZ, 0, 0, 0, [], 0, 0, false⟩
/-- the request that bytes are read as, and the reader behind it -/
def rqGet (b : List UInt8) : RqV × Rd := rqTail (intS (numS (0, b)).2).1 (rqZ0 (numS (0, b)).1 (intS (numS (0, b)).2).1) (intS (numS (0, b)).2).2
def rqOk (b : List UInt8) : Bool := rqRight (rqGet b).1 && ((endS (rqGet b).2 == 0) && (rqPut (rqGet b).1 == b))
/-! ### there and back -/
theorem num_vn {n : Nat} (hn : n < 18446744073709551616) (r : List UInt8) : numS (0, vn n ++ r) = (n, 0, r) := by
  have h := rnF_vn 9 n 0 0 r rfl (by simpa using hn) (by omega)
  have e : numS (0, vn n ++ r) = rnF (vn n ++ r) 0 0 := rfl
  rw [e, vn, h]
  simp
theorem most_vn {n top : Nat} (hn : n < 18446744073709551616) (ht : n ≤ top) (r : List UInt8) : mostS top (0, vn n ++ r) = (n, 0, r) := by
  unfold mostS
  rw [num_vn hn]
  have : decide ((n : Int) > (top : Int)) = false := decide_eq_false (by omega)
  dsimp only
  rw [this]
theorem txt_wt {b : List UInt8} (hb : b.length < 18446744073709551616) (r : List UInt8) : txfS (0, vn b.length ++ (b ++ r)) = (b, 0, r) := by
  unfold txfS
  rw [num_vn hb]
  have h1 : decide ((b.length : Int) > ((b ++ r).length : Int)) = false := decide_eq_false (by rw [List.length_append]; omega)
  dsimp only
  rw [h1]
  simp
theorem nm_wt {x : EidV} (h : eRight x = true) (r : List UInt8) : nmS (0, vn (textE x).length ++ (textE x ++ r)) = (x, 0, r) := by
  unfold nmS
  rw [txt_wt (by have := text_len h; omega), text_parse h]
  rfl
theorem bol_vn (b : Bool) (r : List UInt8) : bolS (0, vn b.toNat ++ r) = (b, 0, r) := by
  unfold bolS
  rw [most_vn (by cases b <;> decide) (by cases b <;> decide)]
  cases b <;> rfl
theorem rq_facts {x : RqV} (h : rqRight x = true) : x.id < 18446744073709551616 ∧ rqParts x = true ∧ rqSame x (rqOwn x) = true := by
  unfold rqRight at h
  simp only [Bool.and_eq_true, decide_eq_true_eq] at h
  exact ⟨by omega, h.2.2.1, h.2.2.2⟩
theorem same_eq {a b : RqV} (h : rqSame a b = true) : a = b := by
  unfold rqSame at h
  simp only [Bool.and_eq_true] at h
  obtain ⟨h1, h2, h3, h4, h5, h6, h7, h8, h9, h10, h11⟩ := h
  have e3 := eqE_iff.1 (by simpa only [eqE, Bool.and_eq_true] using h3)
  have e4 := eqE_iff.1 (by simpa only [eqE, Bool.and_eq_true] using h4)
  simp only [beq_iff_eq] at h1 h2 h5 h6 h7 h8 h9 h10 h11
  obtain ⟨i, k, e, d, p, n, t, y, l, o, w⟩ := a
  obtain ⟨i', k', e', d', p', n', t', y', l', o', w'⟩ := b
  simp only at *
  simp only [RqV.mk.injEq]
  exact ⟨by omega, h2, e3, e4, h5, h6, h7, h8, by omega, by omega, h11⟩
theorem nm_right {x : EidV} (h : isNm x = true) : eRight x = true := by
  unfold isNm at h
  rw [Bool.and_eq_true] at h
  exact h.1
theorem get_put {x : RqV} (h : rqRight x = true) (r : List UInt8) : rqGet (rqPut x ++ r) = (x, 0, r) := by
  have hk := rq_kind h
  obtain ⟨hid, hp, hs⟩ := rq_facts h
  have hs := same_eq hs
  obtain ⟨id, kd, ep, ds, pol, num, tik, pay, life, tok, on⟩ := x
  dsimp only at hk hid
  unfold rqParts at hp
  unfold rqOwn at hs
  unfold rqGet rqPut
  dsimp only
  rw [List.append_assoc, num_vn hid]
  dsimp only
  have hI : ∀ (n : Nat) (r : List UInt8), n ≤ 1099511627776 → intS (0, vn n ++ r) = (n, 0, r) := fun n r hn => most_vn (by omega) hn r
  rw [List.append_assoc, hI _ _ (by omega)]
  dsimp only
  rcases hk with rfl | rfl | rfl | rfl | rfl | rfl | rfl | rfl | rfl | rfl | rfl | rfl
  all_goals
    simp only [Int.reduceBEq, Bool.true_or, Bool.or_true, Bool.or_self, Bool.or_false, Bool.false_or, if_true, if_false, Bool.false_eq_true, Bool.and_eq_true, decide_eq_true_eq] at hp hs
    simp only [RqV.mk.injEq, true_and] at hs
    simp only [rqTail, rqBody, Int.reduceToNat, Nat.reduceBEq, Int.reduceBEq, Bool.true_or, Bool.or_true, Bool.or_self, Bool.or_false, Bool.false_or, if_true, if_false, Bool.false_eq_true, List.append_assoc, List.nil_append]
    first
      | (rw [nm_wt (nm_right hp.1)]; dsimp only; rw [hI _ _ (by omega)]; simp only [hs, Prod.mk.injEq, RqV.mk.injEq, true_and, and_true]; omega)
      | (rw [nm_wt (nm_right hp)]; simp only [hs]; rfl)
      | (rw [nm_wt (nm_right hp.1)]; dsimp only; rw [nm_wt (nm_right hp.2.1)]; dsimp only; rw [txt_wt (by omega)]; dsimp only; rw [num_vn (by omega)]; dsimp only; rw [bol_vn]; simp only [hs]; rfl)
      | (rw [hI _ _ (by omega)]; simp only [hs, Prod.mk.injEq, RqV.mk.injEq, true_and, and_true]; omega)
      | (rw [bol_vn]; simp only [hs]; rfl)
      | (rw [num_vn (by omega)]; simp only [hs]; rfl)
      | (simp only [hs]; rfl)
      | skip
  all_goals done
theorem ok_put {x : RqV} (h : rqRight x = true) : rqOk (rqPut x) = true ∧ rqGet (rqPut x) = (x, 0, []) := by
  have g := get_put h []
  rw [List.append_nil] at g
  refine ⟨?_, g⟩
  unfold rqOk
  rw [g]
  simp [h, endS]
end Go.Proofs.YtdhkfbolnkikgaaGreatDoor
end
/- Package request: a request's bytes. -/
section
open Go.RowKit Go.Pl Go.Av
namespace Go.Proofs.YtdhkfbolnkikgaaGreatDoor
set_option linter.unusedVariables false
set_option linter.unusedSimpArgs false
set_option maxHeartbeats 4000000
theorem av_wName [Known] [KnownPow] (L : List UInt8) (x : EidV) (h : eRight x = true) (hL : L.length ≤ 1000000) : AT Tryz.prog 21 [.ptr 0 0, .agg (eC x)] (wrC L) (wrF L) (.tup []) (wrC (L ++ vn (textE x).length ++ textE x)) (wrF (L ++ vn (textE x).length ++ textE x)) := by
  have hT := av_eText x
  rw [h, if_pos rfl, if_pos rfl] at hT
  have hX := av_wText L (textE x) (by have := text_len h; omega) hL
  generalize textE x = t at *
  obtain ⟨xi, xn, xs, xh, xd⟩ := x
  refine AC_of Tryz.func21 rfl Tryz.ntmps21 rfl rfl ?_
  repeat' (first | (apply AL_callPw (hT); kernel_rfl; (iterate 4 exact rfl)) | (apply AL_callT [0] [0] (hX); kernel_rfl; (iterate 10 exact rfl)) | (apply AL_s2b ttok; (iterate 8 exact rfl)) | (apply AL_move; exact rfl; exact rfl) | (apply AL_assign; exact rfl; exact rfl) | (apply AL_loadn ttok; (iterate 7 exact rfl)) | (apply AL_boxZ; (iterate 5 exact rfl)) | (apply AL_extract; (iterate 3 exact rfl)) | refine AL_nil ?_ | refine AW_region ?_ | refine AW_seq' ?_)
  all_goals (apply endTn [0] [0]; (repeat (first | exact ResL.nil | (apply ResL.cons; first | exact .tmp _ _ rfl | (apply res_n ttok; (iterate 6 exact rfl)) | (apply res_1 ttok; (iterate 5 exact rfl))))); (iterate 7 exact rfl))
  all_goals rfl
theorem vn_len (n : Nat) : (vn n).length ≤ 10 := (vnF_len 9 n).1
/-- a request that may not be -/
theorem rw_no [Known] (x : RqV) (h : rqRight x = false) : AP Tryz.prog 7 [.agg (rqC x)] (.tup [.sl .ext [], .int .i64 3]) [] := by
  have hR := av_rqRight x
  rw [h] at hR
  refine AP.ofA ?_
  refine AC_of Tryz.func7 rfl Tryz.ntmps7 rfl rfl ?_
  repeat' (first | (apply AL_callPw (hR); kernel_rfl; (iterate 4 exact rfl)) | (apply AL_assign; exact rfl; exact rfl) | (apply AL_loadn ttok; (iterate 7 exact rfl)) | (apply AL_boxZ; (iterate 5 exact rfl)) | (apply AL_not; exact rfl; exact rfl) | refine AL_nil ?_ | refine AW_region ?_ | refine AW_seq' ?_ | (apply AW_condA; exact rfl; (first | with_reducible assumption | decide +kernel)) | refine then_norm ?_ | refine AW_ret ?_ | refine then_ret ?_)
  all_goals (apply endQ []; (repeat (first | exact ResL.nil | (apply ResL.cons; first | exact .tmp _ _ rfl | (apply res_n ttok; (iterate 6 exact rfl)) | (apply res_1 ttok; (iterate 5 exact rfl))))); (iterate 4 exact rfl))
  all_goals rfl
theorem rw_yes [Known] [KnownPow] (x : RqV) (h : rqRight x = true) : AP Tryz.prog 7 [.agg (rqC x)] (.tup [byE (rqPut x), .int .i64 0]) [] := by
  have hR := av_rqRight x
  rw [h] at hR
  have hk := rq_kind h
  obtain ⟨hid, hp, _⟩ := rq_facts h
  obtain ⟨id, kd, ep, ds, pol, num, tik, pay, life, tok, on⟩ := x
  dsimp only at hk hid
  unfold rqParts at hp
  have v0 := vn_len id
  have vk := vn_len kd.toNat
  rcases hk with rfl | rfl | rfl | rfl | rfl | rfl | rfl | rfl | rfl | rfl | rfl | rfl
  all_goals
    simp only [Int.reduceBEq, Bool.true_or, Bool.or_true, Bool.or_self, Bool.or_false, Bool.false_or, if_true, if_false, Bool.false_eq_true, Bool.and_eq_true, decide_eq_true_eq] at hp
    simp only [Int.reduceToNat] at vk
  · have tep := text_len (nm_right hp.1)
    have uep := vn_len (textE ep).length
    obtain ⟨pol, rfl⟩ : ∃ n : Nat, pol = (n : Int) := ⟨pol.toNat, by omega⟩
    have upol := vn_len pol
    rw [show rqPut _ = (((vn id ++ vn 1) ++ vn (textE ep).length ++ textE ep) ++ vn pol) by simp only [rqPut, rqBody, Int.reduceToNat, Int.toNat_natCast, Int.reduceBEq, Bool.true_or, Bool.or_true, Bool.or_self, Bool.or_false, Bool.false_or, if_true, if_false, Bool.false_eq_true, List.append_assoc, List.append_nil]]
    exact rw_1 _ _ _ _ _ _ _ _ _ _ _ _ _ _ _ _ _ _ _ _ _ _ _ _ _ _ _ hR av_fNew (av_wNum0 id hid) (av_wInt (vn id) 1 (by omega) (by omega))
      (av_wName (vn id ++ vn 1) ep (nm_right hp.1) (by simp only [List.length_append]; omega))
      (av_wInt ((vn id ++ vn 1) ++ vn (textE ep).length ++ textE ep) pol (by omega) (by simp only [List.length_append]; omega)) (av_wBytes (((vn id ++ vn 1) ++ vn (textE ep).length ++ textE ep) ++ vn pol) (by simp only [List.length_append]; omega))
  · have tep := text_len (nm_right hp)
    have uep := vn_len (textE ep).length
    rw [show rqPut _ = ((vn id ++ vn 2) ++ vn (textE ep).length ++ textE ep) by simp only [rqPut, rqBody, Int.reduceToNat, Int.toNat_natCast, Int.reduceBEq, Bool.true_or, Bool.or_true, Bool.or_self, Bool.or_false, Bool.false_or, if_true, if_false, Bool.false_eq_true, List.append_assoc, List.append_nil]]
    exact rw_2 _ _ _ _ _ _ _ _ _ _ _ _ _ _ _ _ _ _ _ _ _ _ _ _ _ hR av_fNew (av_wNum0 id hid) (av_wInt (vn id) 2 (by omega) (by omega))
      (av_wName (vn id ++ vn 2) ep (nm_right hp) (by simp only [List.length_append]; omega)) (av_wBytes ((vn id ++ vn 2) ++ vn (textE ep).length ++ textE ep) (by simp only [List.length_append]; omega))
  · have tep := text_len (nm_right hp.1)
    have uep := vn_len (textE ep).length
    obtain ⟨pol, rfl⟩ : ∃ n : Nat, pol = (n : Int) := ⟨pol.toNat, by omega⟩
    have upol := vn_len pol
    rw [show rqPut _ = (((vn id ++ vn 3) ++ vn (textE ep).length ++ textE ep) ++ vn pol) by simp only [rqPut, rqBody, Int.reduceToNat, Int.toNat_natCast, Int.reduceBEq, Bool.true_or, Bool.or_true, Bool.or_self, Bool.or_false, Bool.false_or, if_true, if_false, Bool.false_eq_true, List.append_assoc, List.append_nil]]
    exact rw_3 _ _ _ _ _ _ _ _ _ _ _ _ _ _ _ _ _ _ _ _ _ _ _ _ _ _ _ hR av_fNew (av_wNum0 id hid) (av_wInt (vn id) 3 (by omega) (by omega))
      (av_wName (vn id ++ vn 3) ep (nm_right hp.1) (by simp only [List.length_append]; omega))
      (av_wInt ((vn id ++ vn 3) ++ vn (textE ep).length ++ textE ep) pol (by omega) (by simp only [List.length_append]; omega)) (av_wBytes (((vn id ++ vn 3) ++ vn (textE ep).length ++ textE ep) ++ vn pol) (by simp only [List.length_append]; omega))
  · have tep := text_len (nm_right hp.1)
    have uep := vn_len (textE ep).length
    have tds := text_len (nm_right hp.2.1)
    have uds := vn_len (textE ds).length
    have upay := vn_len pay.length
    have ulife := vn_len life
    have uon := vn_len on.toNat
    rw [show rqPut _ = ((((((vn id ++ vn 4) ++ vn (textE ep).length ++ textE ep) ++ vn (textE ds).length ++ textE ds) ++ vn pay.length ++ pay) ++ vn life) ++ vn on.toNat) by simp only [rqPut, rqBody, Int.reduceToNat, Int.toNat_natCast, Int.reduceBEq, Bool.true_or, Bool.or_true, Bool.or_self, Bool.or_false, Bool.false_or, if_true, if_false, Bool.false_eq_true, List.append_assoc, List.append_nil]]
    exact rw_4 _ _ _ _ _ _ _ _ _ _ _ _ _ _ _ _ _ _ _ _ _ _ _ _ _ _ _ _ _ _ _ _ _ hR av_fNew (av_wNum0 id hid) (av_wInt (vn id) 4 (by omega) (by omega))
      (av_wName (vn id ++ vn 4) ep (nm_right hp.1) (by simp only [List.length_append]; omega))
      (av_wName ((vn id ++ vn 4) ++ vn (textE ep).length ++ textE ep) ds (nm_right hp.2.1) (by simp only [List.length_append]; omega))
      (av_wText (((vn id ++ vn 4) ++ vn (textE ep).length ++ textE ep) ++ vn (textE ds).length ++ textE ds) pay (by omega) (by simp only [List.length_append]; omega))
      (av_wNum ((((vn id ++ vn 4) ++ vn (textE ep).length ++ textE ep) ++ vn (textE ds).length ++ textE ds) ++ vn pay.length ++ pay) life (by omega) (by simp only [List.length_append]; omega))
      (av_wBool (((((vn id ++ vn 4) ++ vn (textE ep).length ++ textE ep) ++ vn (textE ds).length ++ textE ds) ++ vn pay.length ++ pay) ++ vn life) on (by simp only [List.length_append]; omega)) (av_wBytes ((((((vn id ++ vn 4) ++ vn (textE ep).length ++ textE ep) ++ vn (textE ds).length ++ textE ds) ++ vn pay.length ++ pay) ++ vn life) ++ vn on.toNat) (by simp only [List.length_append]; omega))
  · obtain ⟨num, rfl⟩ : ∃ n : Nat, num = (n : Int) := ⟨num.toNat, by omega⟩
    have unum := vn_len num
    rw [show rqPut _ = ((vn id ++ vn 5) ++ vn num) by simp only [rqPut, rqBody, Int.reduceToNat, Int.toNat_natCast, Int.reduceBEq, Bool.true_or, Bool.or_true, Bool.or_self, Bool.or_false, Bool.false_or, if_true, if_false, Bool.false_eq_true, List.append_assoc, List.append_nil]]
    exact rw_5 _ _ _ _ _ _ _ _ _ _ _ _ _ _ _ _ _ _ _ _ _ _ _ _ _ hR av_fNew (av_wNum0 id hid) (av_wInt (vn id) 5 (by omega) (by omega))
      (av_wInt (vn id ++ vn 5) num (by omega) (by simp only [List.length_append]; omega)) (av_wBytes ((vn id ++ vn 5) ++ vn num) (by simp only [List.length_append]; omega))
  · have tep := text_len (nm_right hp)
    have uep := vn_len (textE ep).length
    rw [show rqPut _ = ((vn id ++ vn 6) ++ vn (textE ep).length ++ textE ep) by simp only [rqPut, rqBody, Int.reduceToNat, Int.toNat_natCast, Int.reduceBEq, Bool.true_or, Bool.or_true, Bool.or_self, Bool.or_false, Bool.false_or, if_true, if_false, Bool.false_eq_true, List.append_assoc, List.append_nil]]
    exact rw_6 _ _ _ _ _ _ _ _ _ _ _ _ _ _ _ _ _ _ _ _ _ _ _ _ _ hR av_fNew (av_wNum0 id hid) (av_wInt (vn id) 6 (by omega) (by omega))
      (av_wName (vn id ++ vn 6) ep (nm_right hp) (by simp only [List.length_append]; omega)) (av_wBytes ((vn id ++ vn 6) ++ vn (textE ep).length ++ textE ep) (by simp only [List.length_append]; omega))
  · have tep := text_len (nm_right hp.1)
    have uep := vn_len (textE ep).length
    obtain ⟨tik, rfl⟩ : ∃ n : Nat, tik = (n : Int) := ⟨tik.toNat, by omega⟩
    have utik := vn_len tik
    rw [show rqPut _ = (((vn id ++ vn 7) ++ vn (textE ep).length ++ textE ep) ++ vn tik) by simp only [rqPut, rqBody, Int.reduceToNat, Int.toNat_natCast, Int.reduceBEq, Bool.true_or, Bool.or_true, Bool.or_self, Bool.or_false, Bool.false_or, if_true, if_false, Bool.false_eq_true, List.append_assoc, List.append_nil]]
    exact rw_7 _ _ _ _ _ _ _ _ _ _ _ _ _ _ _ _ _ _ _ _ _ _ _ _ _ _ _ hR av_fNew (av_wNum0 id hid) (av_wInt (vn id) 7 (by omega) (by omega))
      (av_wName (vn id ++ vn 7) ep (nm_right hp.1) (by simp only [List.length_append]; omega))
      (av_wInt ((vn id ++ vn 7) ++ vn (textE ep).length ++ textE ep) tik (by omega) (by simp only [List.length_append]; omega)) (av_wBytes (((vn id ++ vn 7) ++ vn (textE ep).length ++ textE ep) ++ vn tik) (by simp only [List.length_append]; omega))
  · obtain ⟨num, rfl⟩ : ∃ n : Nat, num = (n : Int) := ⟨num.toNat, by omega⟩
    have unum := vn_len num
    rw [show rqPut _ = ((vn id ++ vn 8) ++ vn num) by simp only [rqPut, rqBody, Int.reduceToNat, Int.toNat_natCast, Int.reduceBEq, Bool.true_or, Bool.or_true, Bool.or_self, Bool.or_false, Bool.false_or, if_true, if_false, Bool.false_eq_true, List.append_assoc, List.append_nil]]
    exact rw_8 _ _ _ _ _ _ _ _ _ _ _ _ _ _ _ _ _ _ _ _ _ _ _ _ _ hR av_fNew (av_wNum0 id hid) (av_wInt (vn id) 8 (by omega) (by omega))
      (av_wInt (vn id ++ vn 8) num (by omega) (by simp only [List.length_append]; omega)) (av_wBytes ((vn id ++ vn 8) ++ vn num) (by simp only [List.length_append]; omega))
  · obtain ⟨num, rfl⟩ : ∃ n : Nat, num = (n : Int) := ⟨num.toNat, by omega⟩
    have unum := vn_len num
    rw [show rqPut _ = ((vn id ++ vn 9) ++ vn num) by simp only [rqPut, rqBody, Int.reduceToNat, Int.toNat_natCast, Int.reduceBEq, Bool.true_or, Bool.or_true, Bool.or_self, Bool.or_false, Bool.false_or, if_true, if_false, Bool.false_eq_true, List.append_assoc, List.append_nil]]
    exact rw_9 _ _ _ _ _ _ _ _ _ _ _ _ _ _ _ _ _ _ _ _ _ _ _ _ _ hR av_fNew (av_wNum0 id hid) (av_wInt (vn id) 9 (by omega) (by omega))
      (av_wInt (vn id ++ vn 9) num (by omega) (by simp only [List.length_append]; omega)) (av_wBytes ((vn id ++ vn 9) ++ vn num) (by simp only [List.length_append]; omega))
  · have uon := vn_len on.toNat
    rw [show rqPut _ = ((vn id ++ vn 10) ++ vn on.toNat) by simp only [rqPut, rqBody, Int.reduceToNat, Int.toNat_natCast, Int.reduceBEq, Bool.true_or, Bool.or_true, Bool.or_self, Bool.or_false, Bool.false_or, if_true, if_false, Bool.false_eq_true, List.append_assoc, List.append_nil]]
    exact rw_10 _ _ _ _ _ _ _ _ _ _ _ _ _ _ _ _ _ _ _ _ _ _ _ _ _ hR av_fNew (av_wNum0 id hid) (av_wInt (vn id) 10 (by omega) (by omega))
      (av_wBool (vn id ++ vn 10) on (by simp only [List.length_append]; omega)) (av_wBytes ((vn id ++ vn 10) ++ vn on.toNat) (by simp only [List.length_append]; omega))
  · rw [show rqPut _ = (vn id ++ vn 11) by simp only [rqPut, rqBody, Int.reduceToNat, Int.toNat_natCast, Int.reduceBEq, Bool.true_or, Bool.or_true, Bool.or_self, Bool.or_false, Bool.false_or, if_true, if_false, Bool.false_eq_true, List.append_assoc, List.append_nil]]
    exact rw_11 _ _ _ _ _ _ _ _ _ _ _ _ _ _ _ _ _ _ _ _ _ _ _ hR av_fNew (av_wNum0 id hid) (av_wInt (vn id) 11 (by omega) (by omega)) (av_wBytes (vn id ++ vn 11) (by simp only [List.length_append]; omega))
  · have utok := vn_len tok
    rw [show rqPut _ = ((vn id ++ vn 12) ++ vn tok) by simp only [rqPut, rqBody, Int.reduceToNat, Int.toNat_natCast, Int.reduceBEq, Bool.true_or, Bool.or_true, Bool.or_self, Bool.or_false, Bool.false_or, if_true, if_false, Bool.false_eq_true, List.append_assoc, List.append_nil]]
    exact rw_12 _ _ _ _ _ _ _ _ _ _ _ _ _ _ _ _ _ _ _ _ _ _ _ _ _ hR av_fNew (av_wNum0 id hid) (av_wInt (vn id) 12 (by omega) (by omega))
      (av_wNum (vn id ++ vn 12) tok (by omega) (by simp only [List.length_append]; omega)) (av_wBytes ((vn id ++ vn 12) ++ vn tok) (by simp only [List.length_append]; omega))
end Go.Proofs.YtdhkfbolnkikgaaGreatDoor
end
/- Package request: Read, by kinds (1). -/
section
open Go.RowKit Go.Pl Go.Av
namespace Go.Proofs.YtdhkfbolnkikgaaGreatDoor
set_option linter.unusedVariables false
set_option linter.unusedSimpArgs false
set_option maxHeartbeats 4000000
theorem rr_1w_all [Known] (b : List UInt8) (id : Nat) (ei : Bool) (en es : Nat) (eh ed : List UInt8) (di : Bool) (dn dq : Nat) (dh dd : List UInt8) (pol num tik : Int) (pay : List UInt8) (life tok : Nat) (on : Bool) (e0 e1 e2 e3 e4 w q : Int) (q0 q1 q2 q3 q4 c : List UInt8) (hN : AQ Tryz.prog 25 [.sl .ext (b.map E.byte)] [] (.ptr 0 0) [[.int .i64 e0, .bool true, .sl .ext (q0.map E.byte)]]) (h0 : AQ Tryz.prog 26 [.ptr 0 0] [[.int .i64 e0, .bool true, .sl .ext (q0.map E.byte)]] (.int .u64 (id : Int)) [[.int .i64 e1, .bool true, .sl .ext (q1.map E.byte)]]) (h1 : AQ Tryz.prog 27 [.ptr 0 0] [[.int .i64 e1, .bool true, .sl .ext (q1.map E.byte)]] (.int .i64 1) [[.int .i64 e2, .bool true, .sl .ext (q2.map E.byte)]]) (h2 : AQ Tryz.prog 28 [.ptr 0 0] [[.int .i64 e2, .bool true, .sl .ext (q2.map E.byte)]] (.agg [.bool ei, .int .u64 (en : Int), .int .u64 (es : Int), .str eh, .str ed]) [[.int .i64 e3, .bool true, .sl .ext (q3.map E.byte)]]) (h3 : AQ Tryz.prog 27 [.ptr 0 0] [[.int .i64 e3, .bool true, .sl .ext (q3.map E.byte)]] (.int .i64 pol) [[.int .i64 e4, .bool true, .sl .ext (q4.map E.byte)]]) (hW : AP Tryz.prog 7 [.agg [.int .u64 (id : Int), .int .i64 1, .bool ei, .int .u64 (en : Int), .int .u64 (es : Int), .str eh, .str ed, .bool false, .int .u64 0, .int .u64 0, .str [], .str [], .int .i64 pol, .int .i64 0, .int .i64 0, .sl .ext [], .int .u64 0, .int .u64 0, .bool false]] (.tup [.sl .ext (c.map E.byte), .int .i64 w]) []) :
    (∀ (t1 : (w != 0) = true),
    AP Tryz.prog 8 [.sl .ext (b.map E.byte)] (.tup [.agg [.int .u64 0, .int .i64 0, .bool false, .int .u64 0, .int .u64 0, .str [], .str [], .bool false, .int .u64 0, .int .u64 0, .str [], .str [], .int .i64 0, .int .i64 0, .int .i64 0, .sl .ext [], .int .u64 0, .int .u64 0, .bool false], .int .i64 3]) []) ∧
    (∀ (t1 : (w != 0) = false) (hE : AQ Tryz.prog 31 [.ptr 0 0] [[.int .i64 e4, .bool true, .sl .ext (q4.map E.byte)]] (.int .i64 q) [[.int .i64 e4, .bool true, .sl .ext (q4.map E.byte)]]) (t2 : (q != 0) = true),
    AP Tryz.prog 8 [.sl .ext (b.map E.byte)] (.tup [.agg [.int .u64 0, .int .i64 0, .bool false, .int .u64 0, .int .u64 0, .str [], .str [], .bool false, .int .u64 0, .int .u64 0, .str [], .str [], .int .i64 0, .int .i64 0, .int .i64 0, .sl .ext [], .int .u64 0, .int .u64 0, .bool false], .int .i64 3]) []) ∧
    (∀ (t1 : (w != 0) = false) (hE : AQ Tryz.prog 31 [.ptr 0 0] [[.int .i64 e4, .bool true, .sl .ext (q4.map E.byte)]] (.int .i64 q) [[.int .i64 e4, .bool true, .sl .ext (q4.map E.byte)]]) (t2 : (q != 0) = false) (hB : AP Tryz.prog 32 [.sl .ext (c.map E.byte), .sl .ext (b.map E.byte)] (.bool false) []),
    AP Tryz.prog 8 [.sl .ext (b.map E.byte)] (.tup [.agg [.int .u64 0, .int .i64 0, .bool false, .int .u64 0, .int .u64 0, .str [], .str [], .bool false, .int .u64 0, .int .u64 0, .str [], .str [], .int .i64 0, .int .i64 0, .int .i64 0, .sl .ext [], .int .u64 0, .int .u64 0, .bool false], .int .i64 3]) []) ∧
    (∀ (t1 : (w != 0) = false) (hE : AQ Tryz.prog 31 [.ptr 0 0] [[.int .i64 e4, .bool true, .sl .ext (q4.map E.byte)]] (.int .i64 q) [[.int .i64 e4, .bool true, .sl .ext (q4.map E.byte)]]) (t2 : (q != 0) = false) (hB : AP Tryz.prog 32 [.sl .ext (c.map E.byte), .sl .ext (b.map E.byte)] (.bool true) []),
    AP Tryz.prog 8 [.sl .ext (b.map E.byte)] (.tup [.agg [.int .u64 (id : Int), .int .i64 1, .bool ei, .int .u64 (en : Int), .int .u64 (es : Int), .str eh, .str ed, .bool false, .int .u64 0, .int .u64 0, .str [], .str [], .int .i64 pol, .int .i64 0, .int .i64 0, .sl .ext [], .int .u64 0, .int .u64 0, .bool false], .int .i64 0]) []) := by
  refine ⟨fun t1 => ?_, fun t1 hE t2 => ?_, fun t1 hE t2 hB => ?_, fun t1 hE t2 hB => ?_⟩
  all_goals
    refine AP.ofA ?_
    refine AC_of Tryz.func8 rfl Tryz.ntmps8 rfl rfl ?_
    repeat' (first | (apply AL_callPw (hW); kernel_rfl; (iterate 4 exact rfl)) | (apply AL_callQw [] (hN); kernel_rfl; (iterate 7 exact rfl)) | (apply AL_callQw [1] (h0); kernel_rfl; (iterate 7 exact rfl)) | (apply AL_callQw [1] (h1); kernel_rfl; (iterate 7 exact rfl)) | (apply AL_callQw [1] (h2); kernel_rfl; (iterate 7 exact rfl)) | (apply AL_callQw [1] (h3); kernel_rfl; (iterate 7 exact rfl)) | (apply AL_callQw [1] (hE); kernel_rfl; (iterate 7 exact rfl)) | (apply AL_callPw (hB); kernel_rfl; (iterate 4 exact rfl)) | (apply AL_move; exact rfl; exact rfl) | (apply AL_assign; exact rfl; exact rfl) | (apply AL_bin; (iterate 5 exact rfl)) | (apply AL_load1 ttok; (iterate 6 exact rfl)) | (apply AL_loadn ttok; (iterate 7 exact rfl)) | (apply AL_fieldAddr ttok; (iterate 7 exact rfl)) | (apply AL_store ttok; (iterate 8 exact rfl)) | (apply AL_not; exact rfl; exact rfl) | (apply AL_extract; (iterate 3 exact rfl)) | refine AL_nil ?_ | (apply AL_guardT; (iterate 3 exact rfl); (first | with_reducible assumption | decide +kernel)) | (apply AL_guardFf; (iterate 3 exact rfl); (first | with_reducible assumption | decide +kernel)) | (apply AL_pickT; exact rfl; (first | with_reducible assumption | decide +kernel); exact rfl; exact rfl) | (apply AL_pickF; exact rfl; (first | with_reducible assumption | decide +kernel); exact rfl; exact rfl) | refine AW_region ?_ | refine AW_seq' ?_ | (apply AW_condA; exact rfl; (first | with_reducible assumption | decide +kernel)) | (apply AW_condB; exact rfl; (first | with_reducible assumption | decide +kernel)) | refine then_norm ?_ | refine AW_block ?_ | refine AW_ret ?_ | refine then_ret ?_ | (apply AL_build ttok; (iterate 6 exact rfl)) | (apply AL_allocZ ttok; (iterate 4 exact rfl)) | refine AW_skip ?_)
    all_goals (apply endQ []; (repeat (first | exact ResL.nil | (apply ResL.cons; first | exact .tmp _ _ rfl | (apply res_n ttok; (iterate 6 exact rfl)) | (apply res_1 ttok; (iterate 5 exact rfl))))); (iterate 4 exact rfl))
    all_goals rfl
end Go.Proofs.YtdhkfbolnkikgaaGreatDoor
end
