/- Package request: a request, read. -/
import Derived.Test.YtdhkfbolnkikgaaGreatDoorG18
import Derived.Test.YtdhkfbolnkikgaaGreatDoorG19
import Derived.Test.YtdhkfbolnkikgaaGreatDoorG20
import Derived.Test.YtdhkfbolnkikgaaGreatDoorG21
import Derived.Test.YtdhkfbolnkikgaaGreatDoorG14
section
open Go.RowKit Go.Pl Go.Av
namespace Go.Proofs.YtdhkfbolnkikgaaGreatDoor
set_option linter.unusedVariables false
set_option linter.unusedSimpArgs false
set_option maxHeartbeats 4000000
theorem av_rName [Known] [KnownSc] [KnownPow] (s : Rd) (hb : s.2.length ≤ 1000000) : AQ Tryz.prog 28 [.ptr 0 0] (rdD s) (.agg (eC (nmS s).1)) (rdD (nmS s).2) := by
  have hT := av_rText s hb
  have hl := (txfS_len s).2
  unfold nmS
  generalize txfS s = p at *
  obtain ⟨t, e, q⟩ := p
  have hP := av_parse t (by dsimp only at hl; omega)
  generalize (if (parseE t).2 then (parseE t).1 else eidZ) = x at *
  generalize (if (parseE t).2 then (0 : Int) else 3) = w at *
  obtain ⟨xi, xn, xs, xh, xd⟩ := x
  obtain ⟨e0, b⟩ := s
  dsimp only at hT ⊢
  replace hP : AP Tryz.prog _ [.str t] (.tup [.agg [.bool xi, .int .u64 (xn : Int), .int .u64 (xs : Int), .str xh, .str xd], .int .i64 w]) [] := hP
  refine AQ.weak ?_
  refine AC_of Tryz.func28 rfl Tryz.ntmps28 rfl rfl ?_
  repeat' (first | (apply AL_callQw [0] (hT); kernel_rfl; (iterate 7 exact rfl)) | (apply AL_callPw (hP); kernel_rfl; (iterate 4 exact rfl)) | (apply AL_b2s ttok; (iterate 9 exact rfl)) | (apply AL_move; exact rfl; exact rfl) | (apply AL_assign; exact rfl; exact rfl) | (apply AL_loadn ttok; (iterate 7 exact rfl)) | (apply AL_store ttok; (iterate 8 exact rfl)) | (apply AL_extract; (iterate 3 exact rfl)) | refine AL_nil ?_ | refine AW_region ?_ | refine AW_seq' ?_ | refine then_norm ?_ | refine AW_ret ?_ | (apply AL_allocZ ttok; (iterate 4 exact rfl)) | (apply AL_b2s ttok; (iterate 9 exact rfl)))
  all_goals (apply endQ [0]; (repeat (first | exact ResL.nil | (apply ResL.cons; first | exact .tmp _ _ rfl | (apply res_n ttok; (iterate 6 exact rfl)) | (apply res_1 ttok; (iterate 5 exact rfl))))); (iterate 4 exact rfl))
  all_goals rfl
theorem nmS_len (s : Rd) : (nmS s).2.2.length ≤ s.2.length := (txfS_len s).1
theorem intS_len (s : Rd) : (intS s).2.2.length ≤ s.2.length := mostS_len _ s
theorem bolS_len (s : Rd) : (bolS s).2.2.length ≤ s.2.length := mostS_len 1 s
/-- none -/
def rqNo : RqV := ⟨0, 0, eidZ, eidZ, 0, 0, 0, [], 0, 0, false⟩
abbrev resQ (b : List UInt8) : D := .tup [.agg (rqC (match rqOk b with | true => (rqGet b).1 | false => rqNo)), .int .i64 (match rqOk b with | true => 0 | false => 3)]
theorem resQ_no {b : List UInt8} (h : rqOk b = false) : resQ b = .tup [.agg (rqC rqNo), .int .i64 3] := by unfold resQ; rw [h]
theorem resQ_yes {b : List UInt8} (h : rqOk b = true) : resQ b = .tup [.agg (rqC (rqGet b).1), .int .i64 0] := by unfold resQ; rw [h]
theorem ne_of_beq {i : Nat} {z : Bool} (h : (i == 0) = z) : ((i : Int) != 0) = !z := by
  subst h
  rw [bne]
  congr 1
  rw [Bool.eq_iff_iff, beq_iff_eq, beq_iff_eq]; omega
theorem ok_w {b : List UInt8} (h : rqRight (rqGet b).1 = false) : rqOk b = false := by unfold rqOk; rw [h]; rfl
theorem ok_e {b : List UInt8} (h : (endS (rqGet b).2 == 0) = false) : rqOk b = false := by unfold rqOk; rw [h]; simp
theorem ok_b {b : List UInt8} (h : (rqPut (rqGet b).1 == b) = false) : rqOk b = false := by unfold rqOk; rw [h]; simp
theorem ok_y {b : List UInt8} (h1 : rqRight (rqGet b).1 = true) (h2 : (endS (rqGet b).2 == 0) = true) (h3 : (rqPut (rqGet b).1 == b) = true) : rqOk b = true := by unfold rqOk; rw [h1, h2, h3]; rfl
theorem rg_1 [Known] [KnownPow] (b : List UInt8) (id : Nat) (ei : Bool) (en : Nat) (es : Nat) (eh : List UInt8) (ed : List UInt8) (pol : Int) (e0 e1 e2 e3 : Int) (eN : Nat) (q0 q1 q2 q3 q4 : List UInt8)
    (hN : AQ Tryz.prog 25 [.sl .ext (b.map E.byte)] [] (.ptr 0 0) [[.int .i64 e0, .bool true, .sl .ext (q0.map E.byte)]]) (h0 : AQ Tryz.prog 26 [.ptr 0 0] [[.int .i64 e0, .bool true, .sl .ext (q0.map E.byte)]] (.int .u64 (id : Int)) [[.int .i64 e1, .bool true, .sl .ext (q1.map E.byte)]]) (h1 : AQ Tryz.prog 27 [.ptr 0 0] [[.int .i64 e1, .bool true, .sl .ext (q1.map E.byte)]] (.int .i64 1) [[.int .i64 e2, .bool true, .sl .ext (q2.map E.byte)]])
    (h2 : AQ Tryz.prog 28 [.ptr 0 0] [[.int .i64 e2, .bool true, .sl .ext (q2.map E.byte)]] (.agg [.bool ei, .int .u64 (en : Int), .int .u64 (es : Int), .str eh, .str ed]) [[.int .i64 e3, .bool true, .sl .ext (q3.map E.byte)]])
    (h3 : AQ Tryz.prog 27 [.ptr 0 0] [[.int .i64 e3, .bool true, .sl .ext (q3.map E.byte)]] (.int .i64 pol) [[.int .i64 (eN : Int), .bool true, .sl .ext (q4.map E.byte)]])
    (hg : rqGet b = ((⟨id, 1, ⟨ei, en, es, eh, ed⟩, eidZ, pol, 0, 0, [], 0, 0, false⟩ : RqV), (eN, q4))) : AP Tryz.prog 8 [.sl .ext (b.map E.byte)] (resQ b) [] := by
  have hE := av_rEnd (eN, q4)
  have hB := av_bEq (rqPut (⟨id, 1, ⟨ei, en, es, eh, ed⟩, eidZ, pol, 0, 0, [], 0, 0, false⟩ : RqV)) b
  cases hr : rqRight (⟨id, 1, ⟨ei, en, es, eh, ed⟩, eidZ, pol, 0, 0, [], 0, 0, false⟩ : RqV) with
  | false =>
    rw [resQ_no (ok_w (by rw [hg]; exact hr))]
    exact (rr_1w_all b id ei en es eh ed false 0 0 [] [] pol 0 0 [] 0 0 false e0 e1 e2 e3 (eN : Int) 3 0 q0 q1 q2 q3 q4 [] hN h0 h1 h2 h3 (rw_no _ hr)).1 rfl
  | true =>
    have hW := rw_yes _ hr
    cases he : (endS (eN, q4) == 0) with
    | false =>
      rw [resQ_no (ok_e (by rw [hg]; exact he))]
      exact (rr_1w_all b id ei en es eh ed false 0 0 [] [] pol 0 0 [] 0 0 false e0 e1 e2 e3 (eN : Int) 0 _ q0 q1 q2 q3 q4 _ hN h0 h1 h2 h3 hW).2.1 rfl hE (ne_of_beq he)
    | true =>
      cases hz : (rqPut (⟨id, 1, ⟨ei, en, es, eh, ed⟩, eidZ, pol, 0, 0, [], 0, 0, false⟩ : RqV) == b) with
      | false =>
        rw [resQ_no (ok_b (by rw [hg]; exact hz))]
        rw [hz] at hB
        exact (rr_1w_all b id ei en es eh ed false 0 0 [] [] pol 0 0 [] 0 0 false e0 e1 e2 e3 (eN : Int) 0 _ q0 q1 q2 q3 q4 _ hN h0 h1 h2 h3 hW).2.2.1 rfl hE (ne_of_beq he) hB
      | true =>
        rw [resQ_yes (ok_y (by rw [hg]; exact hr) (by rw [hg]; exact he) (by rw [hg]; exact hz)), hg]
        rw [hz] at hB
        exact (rr_1w_all b id ei en es eh ed false 0 0 [] [] pol 0 0 [] 0 0 false e0 e1 e2 e3 (eN : Int) 0 _ q0 q1 q2 q3 q4 _ hN h0 h1 h2 h3 hW).2.2.2 rfl hE (ne_of_beq he) hB
theorem rh_1 [Known] [KnownSc] [KnownPow] (b : List UInt8) (hb : b.length ≤ 1000) (hk : (intS (numS (0, b)).2).1 = 1) : AP Tryz.prog 8 [byE b] (resQ b) [] := by
  have h0 := av_rNum (0, b) (by dsimp only; omega)
  have m0 := numS_len (0, b)
  dsimp only at m0
  have h1 := av_rInt (numS (0, b)).2 (by omega)
  have m1 := intS_len (numS (0, b)).2
  have l0 := nmS_len (intS (numS (0, b)).2).2
  have l1 := intS_len (nmS (intS (numS (0, b)).2).2).2
  rw [show (mostS 1099511627776 (numS (0, b)).2).1 = 1 from hk] at h1
  exact rg_1 b _ _ _ _ _ _ _ _ _ _ _ _ _ _ _ _ _ (av_rNew b (by omega)) h0 h1 (av_rName (intS (numS (0, b)).2).2 (by omega)) (av_rInt (nmS (intS (numS (0, b)).2).2).2 (by omega)) (by unfold rqGet; rw [hk]; rfl)
theorem rg_2 [Known] [KnownPow] (b : List UInt8) (id : Nat) (ei : Bool) (en : Nat) (es : Nat) (eh : List UInt8) (ed : List UInt8) (e0 e1 e2 : Int) (eN : Nat) (q0 q1 q2 q3 : List UInt8)
    (hN : AQ Tryz.prog 25 [.sl .ext (b.map E.byte)] [] (.ptr 0 0) [[.int .i64 e0, .bool true, .sl .ext (q0.map E.byte)]]) (h0 : AQ Tryz.prog 26 [.ptr 0 0] [[.int .i64 e0, .bool true, .sl .ext (q0.map E.byte)]] (.int .u64 (id : Int)) [[.int .i64 e1, .bool true, .sl .ext (q1.map E.byte)]]) (h1 : AQ Tryz.prog 27 [.ptr 0 0] [[.int .i64 e1, .bool true, .sl .ext (q1.map E.byte)]] (.int .i64 2) [[.int .i64 e2, .bool true, .sl .ext (q2.map E.byte)]])
    (h2 : AQ Tryz.prog 28 [.ptr 0 0] [[.int .i64 e2, .bool true, .sl .ext (q2.map E.byte)]] (.agg [.bool ei, .int .u64 (en : Int), .int .u64 (es : Int), .str eh, .str ed]) [[.int .i64 (eN : Int), .bool true, .sl .ext (q3.map E.byte)]])
    (hg : rqGet b = ((⟨id, 2, ⟨ei, en, es, eh, ed⟩, eidZ, 0, 0, 0, [], 0, 0, false⟩ : RqV), (eN, q3))) : AP Tryz.prog 8 [.sl .ext (b.map E.byte)] (resQ b) [] := by
  have hE := av_rEnd (eN, q3)
  have hB := av_bEq (rqPut (⟨id, 2, ⟨ei, en, es, eh, ed⟩, eidZ, 0, 0, 0, [], 0, 0, false⟩ : RqV)) b
  cases hr : rqRight (⟨id, 2, ⟨ei, en, es, eh, ed⟩, eidZ, 0, 0, 0, [], 0, 0, false⟩ : RqV) with
  | false =>
    rw [resQ_no (ok_w (by rw [hg]; exact hr))]
    exact (rr_2w_all b id ei en es eh ed false 0 0 [] [] 0 0 0 [] 0 0 false e0 e1 e2 (eN : Int) 3 0 q0 q1 q2 q3 [] hN h0 h1 h2 (rw_no _ hr)).1 rfl
  | true =>
    have hW := rw_yes _ hr
    cases he : (endS (eN, q3) == 0) with
    | false =>
      rw [resQ_no (ok_e (by rw [hg]; exact he))]
      exact (rr_2w_all b id ei en es eh ed false 0 0 [] [] 0 0 0 [] 0 0 false e0 e1 e2 (eN : Int) 0 _ q0 q1 q2 q3 _ hN h0 h1 h2 hW).2.1 rfl hE (ne_of_beq he)
    | true =>
      cases hz : (rqPut (⟨id, 2, ⟨ei, en, es, eh, ed⟩, eidZ, 0, 0, 0, [], 0, 0, false⟩ : RqV) == b) with
      | false =>
        rw [resQ_no (ok_b (by rw [hg]; exact hz))]
        rw [hz] at hB
        exact (rr_2w_all b id ei en es eh ed false 0 0 [] [] 0 0 0 [] 0 0 false e0 e1 e2 (eN : Int) 0 _ q0 q1 q2 q3 _ hN h0 h1 h2 hW).2.2.1 rfl hE (ne_of_beq he) hB
      | true =>
        rw [resQ_yes (ok_y (by rw [hg]; exact hr) (by rw [hg]; exact he) (by rw [hg]; exact hz)), hg]
        rw [hz] at hB
        exact (rr_2w_all b id ei en es eh ed false 0 0 [] [] 0 0 0 [] 0 0 false e0 e1 e2 (eN : Int) 0 _ q0 q1 q2 q3 _ hN h0 h1 h2 hW).2.2.2 rfl hE (ne_of_beq he) hB
theorem rh_2 [Known] [KnownSc] [KnownPow] (b : List UInt8) (hb : b.length ≤ 1000) (hk : (intS (numS (0, b)).2).1 = 2) : AP Tryz.prog 8 [byE b] (resQ b) [] := by
  have h0 := av_rNum (0, b) (by dsimp only; omega)
  have m0 := numS_len (0, b)
  dsimp only at m0
  have h1 := av_rInt (numS (0, b)).2 (by omega)
  have m1 := intS_len (numS (0, b)).2
  have l0 := nmS_len (intS (numS (0, b)).2).2
  rw [show (mostS 1099511627776 (numS (0, b)).2).1 = 2 from hk] at h1
  exact rg_2 b _ _ _ _ _ _ _ _ _ _ _ _ _ _ (av_rNew b (by omega)) h0 h1 (av_rName (intS (numS (0, b)).2).2 (by omega)) (by unfold rqGet; rw [hk]; rfl)
theorem rg_3 [Known] [KnownPow] (b : List UInt8) (id : Nat) (ei : Bool) (en : Nat) (es : Nat) (eh : List UInt8) (ed : List UInt8) (pol : Int) (e0 e1 e2 e3 : Int) (eN : Nat) (q0 q1 q2 q3 q4 : List UInt8)
    (hN : AQ Tryz.prog 25 [.sl .ext (b.map E.byte)] [] (.ptr 0 0) [[.int .i64 e0, .bool true, .sl .ext (q0.map E.byte)]]) (h0 : AQ Tryz.prog 26 [.ptr 0 0] [[.int .i64 e0, .bool true, .sl .ext (q0.map E.byte)]] (.int .u64 (id : Int)) [[.int .i64 e1, .bool true, .sl .ext (q1.map E.byte)]]) (h1 : AQ Tryz.prog 27 [.ptr 0 0] [[.int .i64 e1, .bool true, .sl .ext (q1.map E.byte)]] (.int .i64 3) [[.int .i64 e2, .bool true, .sl .ext (q2.map E.byte)]])
    (h2 : AQ Tryz.prog 28 [.ptr 0 0] [[.int .i64 e2, .bool true, .sl .ext (q2.map E.byte)]] (.agg [.bool ei, .int .u64 (en : Int), .int .u64 (es : Int), .str eh, .str ed]) [[.int .i64 e3, .bool true, .sl .ext (q3.map E.byte)]])
    (h3 : AQ Tryz.prog 27 [.ptr 0 0] [[.int .i64 e3, .bool true, .sl .ext (q3.map E.byte)]] (.int .i64 pol) [[.int .i64 (eN : Int), .bool true, .sl .ext (q4.map E.byte)]])
    (hg : rqGet b = ((⟨id, 3, ⟨ei, en, es, eh, ed⟩, eidZ, pol, 0, 0, [], 0, 0, false⟩ : RqV), (eN, q4))) : AP Tryz.prog 8 [.sl .ext (b.map E.byte)] (resQ b) [] := by
  have hE := av_rEnd (eN, q4)
  have hB := av_bEq (rqPut (⟨id, 3, ⟨ei, en, es, eh, ed⟩, eidZ, pol, 0, 0, [], 0, 0, false⟩ : RqV)) b
  cases hr : rqRight (⟨id, 3, ⟨ei, en, es, eh, ed⟩, eidZ, pol, 0, 0, [], 0, 0, false⟩ : RqV) with
  | false =>
    rw [resQ_no (ok_w (by rw [hg]; exact hr))]
    exact (rr_3w_all b id ei en es eh ed false 0 0 [] [] pol 0 0 [] 0 0 false e0 e1 e2 e3 (eN : Int) 3 0 q0 q1 q2 q3 q4 [] hN h0 h1 h2 h3 (rw_no _ hr)).1 rfl
  | true =>
    have hW := rw_yes _ hr
    cases he : (endS (eN, q4) == 0) with
    | false =>
      rw [resQ_no (ok_e (by rw [hg]; exact he))]
      exact (rr_3w_all b id ei en es eh ed false 0 0 [] [] pol 0 0 [] 0 0 false e0 e1 e2 e3 (eN : Int) 0 _ q0 q1 q2 q3 q4 _ hN h0 h1 h2 h3 hW).2.1 rfl hE (ne_of_beq he)
    | true =>
      cases hz : (rqPut (⟨id, 3, ⟨ei, en, es, eh, ed⟩, eidZ, pol, 0, 0, [], 0, 0, false⟩ : RqV) == b) with
      | false =>
        rw [resQ_no (ok_b (by rw [hg]; exact hz))]
        rw [hz] at hB
        exact (rr_3w_all b id ei en es eh ed false 0 0 [] [] pol 0 0 [] 0 0 false e0 e1 e2 e3 (eN : Int) 0 _ q0 q1 q2 q3 q4 _ hN h0 h1 h2 h3 hW).2.2.1 rfl hE (ne_of_beq he) hB
      | true =>
        rw [resQ_yes (ok_y (by rw [hg]; exact hr) (by rw [hg]; exact he) (by rw [hg]; exact hz)), hg]
        rw [hz] at hB
        exact (rr_3w_all b id ei en es eh ed false 0 0 [] [] pol 0 0 [] 0 0 false e0 e1 e2 e3 (eN : Int) 0 _ q0 q1 q2 q3 q4 _ hN h0 h1 h2 h3 hW).2.2.2 rfl hE (ne_of_beq he) hB
theorem rh_3 [Known] [KnownSc] [KnownPow] (b : List UInt8) (hb : b.length ≤ 1000) (hk : (intS (numS (0, b)).2).1 = 3) : AP Tryz.prog 8 [byE b] (resQ b) [] := by
  have h0 := av_rNum (0, b) (by dsimp only; omega)
  have m0 := numS_len (0, b)
  dsimp only at m0
  have h1 := av_rInt (numS (0, b)).2 (by omega)
  have m1 := intS_len (numS (0, b)).2
  have l0 := nmS_len (intS (numS (0, b)).2).2
  have l1 := intS_len (nmS (intS (numS (0, b)).2).2).2
  rw [show (mostS 1099511627776 (numS (0, b)).2).1 = 3 from hk] at h1
  exact rg_3 b _ _ _ _ _ _ _ _ _ _ _ _ _ _ _ _ _ (av_rNew b (by omega)) h0 h1 (av_rName (intS (numS (0, b)).2).2 (by omega)) (av_rInt (nmS (intS (numS (0, b)).2).2).2 (by omega)) (by unfold rqGet; rw [hk]; rfl)
theorem rg_4 [Known] [KnownPow] (b : List UInt8) (id : Nat) (ei : Bool) (en : Nat) (es : Nat) (eh : List UInt8) (ed : List UInt8) (di : Bool) (dn : Nat) (dq : Nat) (dh : List UInt8) (dd : List UInt8) (pay : List UInt8) (life : Nat) (on : Bool) (e0 e1 e2 e3 e4 e5 e6 : Int) (eN : Nat) (q0 q1 q2 q3 q4 q5 q6 q7 : List UInt8)
    (hN : AQ Tryz.prog 25 [.sl .ext (b.map E.byte)] [] (.ptr 0 0) [[.int .i64 e0, .bool true, .sl .ext (q0.map E.byte)]]) (h0 : AQ Tryz.prog 26 [.ptr 0 0] [[.int .i64 e0, .bool true, .sl .ext (q0.map E.byte)]] (.int .u64 (id : Int)) [[.int .i64 e1, .bool true, .sl .ext (q1.map E.byte)]]) (h1 : AQ Tryz.prog 27 [.ptr 0 0] [[.int .i64 e1, .bool true, .sl .ext (q1.map E.byte)]] (.int .i64 4) [[.int .i64 e2, .bool true, .sl .ext (q2.map E.byte)]])
    (h2 : AQ Tryz.prog 28 [.ptr 0 0] [[.int .i64 e2, .bool true, .sl .ext (q2.map E.byte)]] (.agg [.bool ei, .int .u64 (en : Int), .int .u64 (es : Int), .str eh, .str ed]) [[.int .i64 e3, .bool true, .sl .ext (q3.map E.byte)]])
    (h3 : AQ Tryz.prog 28 [.ptr 0 0] [[.int .i64 e3, .bool true, .sl .ext (q3.map E.byte)]] (.agg [.bool di, .int .u64 (dn : Int), .int .u64 (dq : Int), .str dh, .str dd]) [[.int .i64 e4, .bool true, .sl .ext (q4.map E.byte)]])
    (h4 : AQ Tryz.prog 29 [.ptr 0 0] [[.int .i64 e4, .bool true, .sl .ext (q4.map E.byte)]] (.sl .ext (pay.map E.byte)) [[.int .i64 e5, .bool true, .sl .ext (q5.map E.byte)]])
    (h5 : AQ Tryz.prog 26 [.ptr 0 0] [[.int .i64 e5, .bool true, .sl .ext (q5.map E.byte)]] (.int .u64 (life : Int)) [[.int .i64 e6, .bool true, .sl .ext (q6.map E.byte)]])
    (h6 : AQ Tryz.prog 30 [.ptr 0 0] [[.int .i64 e6, .bool true, .sl .ext (q6.map E.byte)]] (.bool on) [[.int .i64 (eN : Int), .bool true, .sl .ext (q7.map E.byte)]])
    (hg : rqGet b = ((⟨id, 4, ⟨ei, en, es, eh, ed⟩, ⟨di, dn, dq, dh, dd⟩, 0, 0, 0, pay, life, 0, on⟩ : RqV), (eN, q7))) : AP Tryz.prog 8 [.sl .ext (b.map E.byte)] (resQ b) [] := by
  have hE := av_rEnd (eN, q7)
  have hB := av_bEq (rqPut (⟨id, 4, ⟨ei, en, es, eh, ed⟩, ⟨di, dn, dq, dh, dd⟩, 0, 0, 0, pay, life, 0, on⟩ : RqV)) b
  cases hr : rqRight (⟨id, 4, ⟨ei, en, es, eh, ed⟩, ⟨di, dn, dq, dh, dd⟩, 0, 0, 0, pay, life, 0, on⟩ : RqV) with
  | false =>
    rw [resQ_no (ok_w (by rw [hg]; exact hr))]
    exact (rr_4w_all b id ei en es eh ed di dn dq dh dd 0 0 0 pay life 0 on e0 e1 e2 e3 e4 e5 e6 (eN : Int) 3 0 q0 q1 q2 q3 q4 q5 q6 q7 [] hN h0 h1 h2 h3 h4 h5 h6 (rw_no _ hr)).1 rfl
  | true =>
    have hW := rw_yes _ hr
    cases he : (endS (eN, q7) == 0) with
    | false =>
      rw [resQ_no (ok_e (by rw [hg]; exact he))]
      exact (rr_4w_all b id ei en es eh ed di dn dq dh dd 0 0 0 pay life 0 on e0 e1 e2 e3 e4 e5 e6 (eN : Int) 0 _ q0 q1 q2 q3 q4 q5 q6 q7 _ hN h0 h1 h2 h3 h4 h5 h6 hW).2.1 rfl hE (ne_of_beq he)
    | true =>
      cases hz : (rqPut (⟨id, 4, ⟨ei, en, es, eh, ed⟩, ⟨di, dn, dq, dh, dd⟩, 0, 0, 0, pay, life, 0, on⟩ : RqV) == b) with
      | false =>
        rw [resQ_no (ok_b (by rw [hg]; exact hz))]
        rw [hz] at hB
        exact (rr_4w_all b id ei en es eh ed di dn dq dh dd 0 0 0 pay life 0 on e0 e1 e2 e3 e4 e5 e6 (eN : Int) 0 _ q0 q1 q2 q3 q4 q5 q6 q7 _ hN h0 h1 h2 h3 h4 h5 h6 hW).2.2.1 rfl hE (ne_of_beq he) hB
      | true =>
        rw [resQ_yes (ok_y (by rw [hg]; exact hr) (by rw [hg]; exact he) (by rw [hg]; exact hz)), hg]
        rw [hz] at hB
        exact (rr_4w_all b id ei en es eh ed di dn dq dh dd 0 0 0 pay life 0 on e0 e1 e2 e3 e4 e5 e6 (eN : Int) 0 _ q0 q1 q2 q3 q4 q5 q6 q7 _ hN h0 h1 h2 h3 h4 h5 h6 hW).2.2.2 rfl hE (ne_of_beq he) hB
theorem rh_4 [Known] [KnownSc] [KnownPow] (b : List UInt8) (hb : b.length ≤ 1000) (hk : (intS (numS (0, b)).2).1 = 4) : AP Tryz.prog 8 [byE b] (resQ b) [] := by
  rcases ha : numS (0, b) with ⟨id, s1⟩
  rw [ha] at hk
  dsimp only at hk
  rcases hk2 : intS s1 with ⟨k, s2⟩
  rw [hk2] at hk
  dsimp only at hk
  subst hk
  rcases hp : nmS s2 with ⟨ep, s3⟩
  rcases hq : nmS s3 with ⟨ds, s4⟩
  rcases ht : txfS s4 with ⟨pay, s5⟩
  rcases hl : numS s5 with ⟨life, s6⟩
  rcases ho : bolS s6 with ⟨on, s7⟩
  have h0 := av_rNum (0, b) (by dsimp only; omega)
  have m0 := numS_len (0, b)
  rw [ha] at h0 m0
  dsimp only at h0 m0
  have h1 := av_rInt s1 (by omega)
  have m1 := intS_len s1
  have hk3 : mostS 1099511627776 s1 = (4, s2) := hk2
  rw [hk3] at h1
  rw [hk2] at m1
  dsimp only at h1 m1
  have h2 := av_rName s2 (by omega)
  have m2 := nmS_len s2
  rw [hp] at h2 m2
  dsimp only at h2 m2
  have h3 := av_rName s3 (by omega)
  have m3 := nmS_len s3
  rw [hq] at h3 m3
  dsimp only at h3 m3
  have h4 := av_rText s4 (by omega)
  have m4 := (txfS_len s4).1
  rw [ht] at h4 m4
  dsimp only at h4 m4
  have h5 := av_rNum s5 (by omega)
  have m5 := numS_len s5
  rw [hl] at h5 m5
  dsimp only at h5 m5
  have h6 := av_rBool s6 (by omega)
  have e1 : (((mostS 1 s6).1 : Int) == 1) = on := congrArg Prod.fst ho
  have e2 : (mostS 1 s6).2 = s7 := congrArg Prod.snd ho
  rw [e1, e2] at h6
  have hg : rqGet b = ((⟨id, 4, ep, ds, 0, 0, 0, pay, life, 0, on⟩ : RqV), s7) := by
    unfold rqGet
    rw [ha]
    dsimp only
    rw [hk2]
    dsimp only
    simp only [rqTail, Nat.reduceBEq, Bool.or_self, Bool.false_eq_true, if_false, if_true, hp, hq, ht, hl, ho]
    rfl
  clear ha hk2 hk3 hp hq ht hl ho e1 e2 m0 m1 m2 m3 m4 m5
  obtain ⟨ei, en, es, eh, ed⟩ := ep
  obtain ⟨di, dn, dq, dh, dd⟩ := ds
  obtain ⟨a1, a2⟩ := s1
  obtain ⟨b1, b2⟩ := s2
  obtain ⟨c1, c2⟩ := s3
  obtain ⟨d1, d2⟩ := s4
  obtain ⟨f1, f2⟩ := s5
  obtain ⟨g1, g2⟩ := s6
  obtain ⟨i1, i2⟩ := s7
  exact rg_4 b id ei en es eh ed di dn dq dh dd pay life on 0 (a1 : Int) (b1 : Int) (c1 : Int) (d1 : Int) (f1 : Int) (g1 : Int) i1 b a2 b2 c2 d2 f2 g2 i2 (av_rNew b (by omega)) h0 h1 h2 h3 h4 h5 h6 hg
theorem rg_5 [Known] [KnownPow] (b : List UInt8) (id : Nat) (num : Int) (e0 e1 e2 : Int) (eN : Nat) (q0 q1 q2 q3 : List UInt8)
    (hN : AQ Tryz.prog 25 [.sl .ext (b.map E.byte)] [] (.ptr 0 0) [[.int .i64 e0, .bool true, .sl .ext (q0.map E.byte)]]) (h0 : AQ Tryz.prog 26 [.ptr 0 0] [[.int .i64 e0, .bool true, .sl .ext (q0.map E.byte)]] (.int .u64 (id : Int)) [[.int .i64 e1, .bool true, .sl .ext (q1.map E.byte)]]) (h1 : AQ Tryz.prog 27 [.ptr 0 0] [[.int .i64 e1, .bool true, .sl .ext (q1.map E.byte)]] (.int .i64 5) [[.int .i64 e2, .bool true, .sl .ext (q2.map E.byte)]])
    (h2 : AQ Tryz.prog 27 [.ptr 0 0] [[.int .i64 e2, .bool true, .sl .ext (q2.map E.byte)]] (.int .i64 num) [[.int .i64 (eN : Int), .bool true, .sl .ext (q3.map E.byte)]])
    (hg : rqGet b = ((⟨id, 5, eidZ, eidZ, 0, num, 0, [], 0, 0, false⟩ : RqV), (eN, q3))) : AP Tryz.prog 8 [.sl .ext (b.map E.byte)] (resQ b) [] := by
  have hE := av_rEnd (eN, q3)
  have hB := av_bEq (rqPut (⟨id, 5, eidZ, eidZ, 0, num, 0, [], 0, 0, false⟩ : RqV)) b
  cases hr : rqRight (⟨id, 5, eidZ, eidZ, 0, num, 0, [], 0, 0, false⟩ : RqV) with
  | false =>
    rw [resQ_no (ok_w (by rw [hg]; exact hr))]
    exact (rr_5w_all b id false 0 0 [] [] false 0 0 [] [] 0 num 0 [] 0 0 false e0 e1 e2 (eN : Int) 3 0 q0 q1 q2 q3 [] hN h0 h1 h2 (rw_no _ hr)).1 rfl
  | true =>
    have hW := rw_yes _ hr
    cases he : (endS (eN, q3) == 0) with
    | false =>
      rw [resQ_no (ok_e (by rw [hg]; exact he))]
      exact (rr_5w_all b id false 0 0 [] [] false 0 0 [] [] 0 num 0 [] 0 0 false e0 e1 e2 (eN : Int) 0 _ q0 q1 q2 q3 _ hN h0 h1 h2 hW).2.1 rfl hE (ne_of_beq he)
    | true =>
      cases hz : (rqPut (⟨id, 5, eidZ, eidZ, 0, num, 0, [], 0, 0, false⟩ : RqV) == b) with
      | false =>
        rw [resQ_no (ok_b (by rw [hg]; exact hz))]
        rw [hz] at hB
        exact (rr_5w_all b id false 0 0 [] [] false 0 0 [] [] 0 num 0 [] 0 0 false e0 e1 e2 (eN : Int) 0 _ q0 q1 q2 q3 _ hN h0 h1 h2 hW).2.2.1 rfl hE (ne_of_beq he) hB
      | true =>
        rw [resQ_yes (ok_y (by rw [hg]; exact hr) (by rw [hg]; exact he) (by rw [hg]; exact hz)), hg]
        rw [hz] at hB
        exact (rr_5w_all b id false 0 0 [] [] false 0 0 [] [] 0 num 0 [] 0 0 false e0 e1 e2 (eN : Int) 0 _ q0 q1 q2 q3 _ hN h0 h1 h2 hW).2.2.2 rfl hE (ne_of_beq he) hB
theorem rh_5 [Known] [KnownSc] [KnownPow] (b : List UInt8) (hb : b.length ≤ 1000) (hk : (intS (numS (0, b)).2).1 = 5) : AP Tryz.prog 8 [byE b] (resQ b) [] := by
  have h0 := av_rNum (0, b) (by dsimp only; omega)
  have m0 := numS_len (0, b)
  dsimp only at m0
  have h1 := av_rInt (numS (0, b)).2 (by omega)
  have m1 := intS_len (numS (0, b)).2
  have l0 := intS_len (intS (numS (0, b)).2).2
  rw [show (mostS 1099511627776 (numS (0, b)).2).1 = 5 from hk] at h1
  exact rg_5 b _ _ _ _ _ _ _ _ _ _ (av_rNew b (by omega)) h0 h1 (av_rInt (intS (numS (0, b)).2).2 (by omega)) (by unfold rqGet; rw [hk]; rfl)
theorem rg_6 [Known] [KnownPow] (b : List UInt8) (id : Nat) (ei : Bool) (en : Nat) (es : Nat) (eh : List UInt8) (ed : List UInt8) (e0 e1 e2 : Int) (eN : Nat) (q0 q1 q2 q3 : List UInt8)
    (hN : AQ Tryz.prog 25 [.sl .ext (b.map E.byte)] [] (.ptr 0 0) [[.int .i64 e0, .bool true, .sl .ext (q0.map E.byte)]]) (h0 : AQ Tryz.prog 26 [.ptr 0 0] [[.int .i64 e0, .bool true, .sl .ext (q0.map E.byte)]] (.int .u64 (id : Int)) [[.int .i64 e1, .bool true, .sl .ext (q1.map E.byte)]]) (h1 : AQ Tryz.prog 27 [.ptr 0 0] [[.int .i64 e1, .bool true, .sl .ext (q1.map E.byte)]] (.int .i64 6) [[.int .i64 e2, .bool true, .sl .ext (q2.map E.byte)]])
    (h2 : AQ Tryz.prog 28 [.ptr 0 0] [[.int .i64 e2, .bool true, .sl .ext (q2.map E.byte)]] (.agg [.bool ei, .int .u64 (en : Int), .int .u64 (es : Int), .str eh, .str ed]) [[.int .i64 (eN : Int), .bool true, .sl .ext (q3.map E.byte)]])
    (hg : rqGet b = ((⟨id, 6, ⟨ei, en, es, eh, ed⟩, eidZ, 0, 0, 0, [], 0, 0, false⟩ : RqV), (eN, q3))) : AP Tryz.prog 8 [.sl .ext (b.map E.byte)] (resQ b) [] := by
  have hE := av_rEnd (eN, q3)
  have hB := av_bEq (rqPut (⟨id, 6, ⟨ei, en, es, eh, ed⟩, eidZ, 0, 0, 0, [], 0, 0, false⟩ : RqV)) b
  cases hr : rqRight (⟨id, 6, ⟨ei, en, es, eh, ed⟩, eidZ, 0, 0, 0, [], 0, 0, false⟩ : RqV) with
  | false =>
    rw [resQ_no (ok_w (by rw [hg]; exact hr))]
    exact (rr_6w_all b id ei en es eh ed false 0 0 [] [] 0 0 0 [] 0 0 false e0 e1 e2 (eN : Int) 3 0 q0 q1 q2 q3 [] hN h0 h1 h2 (rw_no _ hr)).1 rfl
  | true =>
    have hW := rw_yes _ hr
    cases he : (endS (eN, q3) == 0) with
    | false =>
      rw [resQ_no (ok_e (by rw [hg]; exact he))]
      exact (rr_6w_all b id ei en es eh ed false 0 0 [] [] 0 0 0 [] 0 0 false e0 e1 e2 (eN : Int) 0 _ q0 q1 q2 q3 _ hN h0 h1 h2 hW).2.1 rfl hE (ne_of_beq he)
    | true =>
      cases hz : (rqPut (⟨id, 6, ⟨ei, en, es, eh, ed⟩, eidZ, 0, 0, 0, [], 0, 0, false⟩ : RqV) == b) with
      | false =>
        rw [resQ_no (ok_b (by rw [hg]; exact hz))]
        rw [hz] at hB
        exact (rr_6w_all b id ei en es eh ed false 0 0 [] [] 0 0 0 [] 0 0 false e0 e1 e2 (eN : Int) 0 _ q0 q1 q2 q3 _ hN h0 h1 h2 hW).2.2.1 rfl hE (ne_of_beq he) hB
      | true =>
        rw [resQ_yes (ok_y (by rw [hg]; exact hr) (by rw [hg]; exact he) (by rw [hg]; exact hz)), hg]
        rw [hz] at hB
        exact (rr_6w_all b id ei en es eh ed false 0 0 [] [] 0 0 0 [] 0 0 false e0 e1 e2 (eN : Int) 0 _ q0 q1 q2 q3 _ hN h0 h1 h2 hW).2.2.2 rfl hE (ne_of_beq he) hB
theorem rh_6 [Known] [KnownSc] [KnownPow] (b : List UInt8) (hb : b.length ≤ 1000) (hk : (intS (numS (0, b)).2).1 = 6) : AP Tryz.prog 8 [byE b] (resQ b) [] := by
  have h0 := av_rNum (0, b) (by dsimp only; omega)
  have m0 := numS_len (0, b)
  dsimp only at m0
  have h1 := av_rInt (numS (0, b)).2 (by omega)
  have m1 := intS_len (numS (0, b)).2
  have l0 := nmS_len (intS (numS (0, b)).2).2
  rw [show (mostS 1099511627776 (numS (0, b)).2).1 = 6 from hk] at h1
  exact rg_6 b _ _ _ _ _ _ _ _ _ _ _ _ _ _ (av_rNew b (by omega)) h0 h1 (av_rName (intS (numS (0, b)).2).2 (by omega)) (by unfold rqGet; rw [hk]; rfl)
theorem rg_7 [Known] [KnownPow] (b : List UInt8) (id : Nat) (ei : Bool) (en : Nat) (es : Nat) (eh : List UInt8) (ed : List UInt8) (tik : Int) (e0 e1 e2 e3 : Int) (eN : Nat) (q0 q1 q2 q3 q4 : List UInt8)
    (hN : AQ Tryz.prog 25 [.sl .ext (b.map E.byte)] [] (.ptr 0 0) [[.int .i64 e0, .bool true, .sl .ext (q0.map E.byte)]]) (h0 : AQ Tryz.prog 26 [.ptr 0 0] [[.int .i64 e0, .bool true, .sl .ext (q0.map E.byte)]] (.int .u64 (id : Int)) [[.int .i64 e1, .bool true, .sl .ext (q1.map E.byte)]]) (h1 : AQ Tryz.prog 27 [.ptr 0 0] [[.int .i64 e1, .bool true, .sl .ext (q1.map E.byte)]] (.int .i64 7) [[.int .i64 e2, .bool true, .sl .ext (q2.map E.byte)]])
    (h2 : AQ Tryz.prog 28 [.ptr 0 0] [[.int .i64 e2, .bool true, .sl .ext (q2.map E.byte)]] (.agg [.bool ei, .int .u64 (en : Int), .int .u64 (es : Int), .str eh, .str ed]) [[.int .i64 e3, .bool true, .sl .ext (q3.map E.byte)]])
    (h3 : AQ Tryz.prog 27 [.ptr 0 0] [[.int .i64 e3, .bool true, .sl .ext (q3.map E.byte)]] (.int .i64 tik) [[.int .i64 (eN : Int), .bool true, .sl .ext (q4.map E.byte)]])
    (hg : rqGet b = ((⟨id, 7, ⟨ei, en, es, eh, ed⟩, eidZ, 0, 0, tik, [], 0, 0, false⟩ : RqV), (eN, q4))) : AP Tryz.prog 8 [.sl .ext (b.map E.byte)] (resQ b) [] := by
  have hE := av_rEnd (eN, q4)
  have hB := av_bEq (rqPut (⟨id, 7, ⟨ei, en, es, eh, ed⟩, eidZ, 0, 0, tik, [], 0, 0, false⟩ : RqV)) b
  cases hr : rqRight (⟨id, 7, ⟨ei, en, es, eh, ed⟩, eidZ, 0, 0, tik, [], 0, 0, false⟩ : RqV) with
  | false =>
    rw [resQ_no (ok_w (by rw [hg]; exact hr))]
    exact (rr_7w_all b id ei en es eh ed false 0 0 [] [] 0 0 tik [] 0 0 false e0 e1 e2 e3 (eN : Int) 3 0 q0 q1 q2 q3 q4 [] hN h0 h1 h2 h3 (rw_no _ hr)).1 rfl
  | true =>
    have hW := rw_yes _ hr
    cases he : (endS (eN, q4) == 0) with
    | false =>
      rw [resQ_no (ok_e (by rw [hg]; exact he))]
      exact (rr_7w_all b id ei en es eh ed false 0 0 [] [] 0 0 tik [] 0 0 false e0 e1 e2 e3 (eN : Int) 0 _ q0 q1 q2 q3 q4 _ hN h0 h1 h2 h3 hW).2.1 rfl hE (ne_of_beq he)
    | true =>
      cases hz : (rqPut (⟨id, 7, ⟨ei, en, es, eh, ed⟩, eidZ, 0, 0, tik, [], 0, 0, false⟩ : RqV) == b) with
      | false =>
        rw [resQ_no (ok_b (by rw [hg]; exact hz))]
        rw [hz] at hB
        exact (rr_7w_all b id ei en es eh ed false 0 0 [] [] 0 0 tik [] 0 0 false e0 e1 e2 e3 (eN : Int) 0 _ q0 q1 q2 q3 q4 _ hN h0 h1 h2 h3 hW).2.2.1 rfl hE (ne_of_beq he) hB
      | true =>
        rw [resQ_yes (ok_y (by rw [hg]; exact hr) (by rw [hg]; exact he) (by rw [hg]; exact hz)), hg]
        rw [hz] at hB
        exact (rr_7w_all b id ei en es eh ed false 0 0 [] [] 0 0 tik [] 0 0 false e0 e1 e2 e3 (eN : Int) 0 _ q0 q1 q2 q3 q4 _ hN h0 h1 h2 h3 hW).2.2.2 rfl hE (ne_of_beq he) hB
theorem rh_7 [Known] [KnownSc] [KnownPow] (b : List UInt8) (hb : b.length ≤ 1000) (hk : (intS (numS (0, b)).2).1 = 7) : AP Tryz.prog 8 [byE b] (resQ b) [] := by
  have h0 := av_rNum (0, b) (by dsimp only; omega)
  have m0 := numS_len (0, b)
  dsimp only at m0
  have h1 := av_rInt (numS (0, b)).2 (by omega)
  have m1 := intS_len (numS (0, b)).2
  have l0 := nmS_len (intS (numS (0, b)).2).2
  have l1 := intS_len (nmS (intS (numS (0, b)).2).2).2
  rw [show (mostS 1099511627776 (numS (0, b)).2).1 = 7 from hk] at h1
  exact rg_7 b _ _ _ _ _ _ _ _ _ _ _ _ _ _ _ _ _ (av_rNew b (by omega)) h0 h1 (av_rName (intS (numS (0, b)).2).2 (by omega)) (av_rInt (nmS (intS (numS (0, b)).2).2).2 (by omega)) (by unfold rqGet; rw [hk]; rfl)
theorem rg_8 [Known] [KnownPow] (b : List UInt8) (id : Nat) (num : Int) (e0 e1 e2 : Int) (eN : Nat) (q0 q1 q2 q3 : List UInt8)
    (hN : AQ Tryz.prog 25 [.sl .ext (b.map E.byte)] [] (.ptr 0 0) [[.int .i64 e0, .bool true, .sl .ext (q0.map E.byte)]]) (h0 : AQ Tryz.prog 26 [.ptr 0 0] [[.int .i64 e0, .bool true, .sl .ext (q0.map E.byte)]] (.int .u64 (id : Int)) [[.int .i64 e1, .bool true, .sl .ext (q1.map E.byte)]]) (h1 : AQ Tryz.prog 27 [.ptr 0 0] [[.int .i64 e1, .bool true, .sl .ext (q1.map E.byte)]] (.int .i64 8) [[.int .i64 e2, .bool true, .sl .ext (q2.map E.byte)]])
    (h2 : AQ Tryz.prog 27 [.ptr 0 0] [[.int .i64 e2, .bool true, .sl .ext (q2.map E.byte)]] (.int .i64 num) [[.int .i64 (eN : Int), .bool true, .sl .ext (q3.map E.byte)]])
    (hg : rqGet b = ((⟨id, 8, eidZ, eidZ, 0, num, 0, [], 0, 0, false⟩ : RqV), (eN, q3))) : AP Tryz.prog 8 [.sl .ext (b.map E.byte)] (resQ b) [] := by
  have hE := av_rEnd (eN, q3)
  have hB := av_bEq (rqPut (⟨id, 8, eidZ, eidZ, 0, num, 0, [], 0, 0, false⟩ : RqV)) b
  cases hr : rqRight (⟨id, 8, eidZ, eidZ, 0, num, 0, [], 0, 0, false⟩ : RqV) with
  | false =>
    rw [resQ_no (ok_w (by rw [hg]; exact hr))]
    exact (rr_8w_all b id false 0 0 [] [] false 0 0 [] [] 0 num 0 [] 0 0 false e0 e1 e2 (eN : Int) 3 0 q0 q1 q2 q3 [] hN h0 h1 h2 (rw_no _ hr)).1 rfl
  | true =>
    have hW := rw_yes _ hr
    cases he : (endS (eN, q3) == 0) with
    | false =>
      rw [resQ_no (ok_e (by rw [hg]; exact he))]
      exact (rr_8w_all b id false 0 0 [] [] false 0 0 [] [] 0 num 0 [] 0 0 false e0 e1 e2 (eN : Int) 0 _ q0 q1 q2 q3 _ hN h0 h1 h2 hW).2.1 rfl hE (ne_of_beq he)
    | true =>
      cases hz : (rqPut (⟨id, 8, eidZ, eidZ, 0, num, 0, [], 0, 0, false⟩ : RqV) == b) with
      | false =>
        rw [resQ_no (ok_b (by rw [hg]; exact hz))]
        rw [hz] at hB
        exact (rr_8w_all b id false 0 0 [] [] false 0 0 [] [] 0 num 0 [] 0 0 false e0 e1 e2 (eN : Int) 0 _ q0 q1 q2 q3 _ hN h0 h1 h2 hW).2.2.1 rfl hE (ne_of_beq he) hB
      | true =>
        rw [resQ_yes (ok_y (by rw [hg]; exact hr) (by rw [hg]; exact he) (by rw [hg]; exact hz)), hg]
        rw [hz] at hB
        exact (rr_8w_all b id false 0 0 [] [] false 0 0 [] [] 0 num 0 [] 0 0 false e0 e1 e2 (eN : Int) 0 _ q0 q1 q2 q3 _ hN h0 h1 h2 hW).2.2.2 rfl hE (ne_of_beq he) hB
theorem rh_8 [Known] [KnownSc] [KnownPow] (b : List UInt8) (hb : b.length ≤ 1000) (hk : (intS (numS (0, b)).2).1 = 8) : AP Tryz.prog 8 [byE b] (resQ b) [] := by
  have h0 := av_rNum (0, b) (by dsimp only; omega)
  have m0 := numS_len (0, b)
  dsimp only at m0
  have h1 := av_rInt (numS (0, b)).2 (by omega)
  have m1 := intS_len (numS (0, b)).2
  have l0 := intS_len (intS (numS (0, b)).2).2
  rw [show (mostS 1099511627776 (numS (0, b)).2).1 = 8 from hk] at h1
  exact rg_8 b _ _ _ _ _ _ _ _ _ _ (av_rNew b (by omega)) h0 h1 (av_rInt (intS (numS (0, b)).2).2 (by omega)) (by unfold rqGet; rw [hk]; rfl)
theorem rg_9 [Known] [KnownPow] (b : List UInt8) (id : Nat) (num : Int) (e0 e1 e2 : Int) (eN : Nat) (q0 q1 q2 q3 : List UInt8)
    (hN : AQ Tryz.prog 25 [.sl .ext (b.map E.byte)] [] (.ptr 0 0) [[.int .i64 e0, .bool true, .sl .ext (q0.map E.byte)]]) (h0 : AQ Tryz.prog 26 [.ptr 0 0] [[.int .i64 e0, .bool true, .sl .ext (q0.map E.byte)]] (.int .u64 (id : Int)) [[.int .i64 e1, .bool true, .sl .ext (q1.map E.byte)]]) (h1 : AQ Tryz.prog 27 [.ptr 0 0] [[.int .i64 e1, .bool true, .sl .ext (q1.map E.byte)]] (.int .i64 9) [[.int .i64 e2, .bool true, .sl .ext (q2.map E.byte)]])
    (h2 : AQ Tryz.prog 27 [.ptr 0 0] [[.int .i64 e2, .bool true, .sl .ext (q2.map E.byte)]] (.int .i64 num) [[.int .i64 (eN : Int), .bool true, .sl .ext (q3.map E.byte)]])
    (hg : rqGet b = ((⟨id, 9, eidZ, eidZ, 0, num, 0, [], 0, 0, false⟩ : RqV), (eN, q3))) : AP Tryz.prog 8 [.sl .ext (b.map E.byte)] (resQ b) [] := by
  have hE := av_rEnd (eN, q3)
  have hB := av_bEq (rqPut (⟨id, 9, eidZ, eidZ, 0, num, 0, [], 0, 0, false⟩ : RqV)) b
  cases hr : rqRight (⟨id, 9, eidZ, eidZ, 0, num, 0, [], 0, 0, false⟩ : RqV) with
  | false =>
    rw [resQ_no (ok_w (by rw [hg]; exact hr))]
    exact (rr_9w_all b id false 0 0 [] [] false 0 0 [] [] 0 num 0 [] 0 0 false e0 e1 e2 (eN : Int) 3 0 q0 q1 q2 q3 [] hN h0 h1 h2 (rw_no _ hr)).1 rfl
  | true =>
    have hW := rw_yes _ hr
    cases he : (endS (eN, q3) == 0) with
    | false =>
      rw [resQ_no (ok_e (by rw [hg]; exact he))]
      exact (rr_9w_all b id false 0 0 [] [] false 0 0 [] [] 0 num 0 [] 0 0 false e0 e1 e2 (eN : Int) 0 _ q0 q1 q2 q3 _ hN h0 h1 h2 hW).2.1 rfl hE (ne_of_beq he)
    | true =>
      cases hz : (rqPut (⟨id, 9, eidZ, eidZ, 0, num, 0, [], 0, 0, false⟩ : RqV) == b) with
      | false =>
        rw [resQ_no (ok_b (by rw [hg]; exact hz))]
        rw [hz] at hB
        exact (rr_9w_all b id false 0 0 [] [] false 0 0 [] [] 0 num 0 [] 0 0 false e0 e1 e2 (eN : Int) 0 _ q0 q1 q2 q3 _ hN h0 h1 h2 hW).2.2.1 rfl hE (ne_of_beq he) hB
      | true =>
        rw [resQ_yes (ok_y (by rw [hg]; exact hr) (by rw [hg]; exact he) (by rw [hg]; exact hz)), hg]
        rw [hz] at hB
        exact (rr_9w_all b id false 0 0 [] [] false 0 0 [] [] 0 num 0 [] 0 0 false e0 e1 e2 (eN : Int) 0 _ q0 q1 q2 q3 _ hN h0 h1 h2 hW).2.2.2 rfl hE (ne_of_beq he) hB
theorem rh_9 [Known] [KnownSc] [KnownPow] (b : List UInt8) (hb : b.length ≤ 1000) (hk : (intS (numS (0, b)).2).1 = 9) : AP Tryz.prog 8 [byE b] (resQ b) [] := by
  have h0 := av_rNum (0, b) (by dsimp only; omega)
  have m0 := numS_len (0, b)
  dsimp only at m0
  have h1 := av_rInt (numS (0, b)).2 (by omega)
  have m1 := intS_len (numS (0, b)).2
  have l0 := intS_len (intS (numS (0, b)).2).2
  rw [show (mostS 1099511627776 (numS (0, b)).2).1 = 9 from hk] at h1
  exact rg_9 b _ _ _ _ _ _ _ _ _ _ (av_rNew b (by omega)) h0 h1 (av_rInt (intS (numS (0, b)).2).2 (by omega)) (by unfold rqGet; rw [hk]; rfl)
theorem rg_10 [Known] [KnownPow] (b : List UInt8) (id : Nat) (on : Bool) (e0 e1 e2 : Int) (eN : Nat) (q0 q1 q2 q3 : List UInt8)
    (hN : AQ Tryz.prog 25 [.sl .ext (b.map E.byte)] [] (.ptr 0 0) [[.int .i64 e0, .bool true, .sl .ext (q0.map E.byte)]]) (h0 : AQ Tryz.prog 26 [.ptr 0 0] [[.int .i64 e0, .bool true, .sl .ext (q0.map E.byte)]] (.int .u64 (id : Int)) [[.int .i64 e1, .bool true, .sl .ext (q1.map E.byte)]]) (h1 : AQ Tryz.prog 27 [.ptr 0 0] [[.int .i64 e1, .bool true, .sl .ext (q1.map E.byte)]] (.int .i64 10) [[.int .i64 e2, .bool true, .sl .ext (q2.map E.byte)]])
    (h2 : AQ Tryz.prog 30 [.ptr 0 0] [[.int .i64 e2, .bool true, .sl .ext (q2.map E.byte)]] (.bool on) [[.int .i64 (eN : Int), .bool true, .sl .ext (q3.map E.byte)]])
    (hg : rqGet b = ((⟨id, 10, eidZ, eidZ, 0, 0, 0, [], 0, 0, on⟩ : RqV), (eN, q3))) : AP Tryz.prog 8 [.sl .ext (b.map E.byte)] (resQ b) [] := by
  have hE := av_rEnd (eN, q3)
  have hB := av_bEq (rqPut (⟨id, 10, eidZ, eidZ, 0, 0, 0, [], 0, 0, on⟩ : RqV)) b
  cases hr : rqRight (⟨id, 10, eidZ, eidZ, 0, 0, 0, [], 0, 0, on⟩ : RqV) with
  | false =>
    rw [resQ_no (ok_w (by rw [hg]; exact hr))]
    exact (rr_10w_all b id false 0 0 [] [] false 0 0 [] [] 0 0 0 [] 0 0 on e0 e1 e2 (eN : Int) 3 0 q0 q1 q2 q3 [] hN h0 h1 h2 (rw_no _ hr)).1 rfl
  | true =>
    have hW := rw_yes _ hr
    cases he : (endS (eN, q3) == 0) with
    | false =>
      rw [resQ_no (ok_e (by rw [hg]; exact he))]
      exact (rr_10w_all b id false 0 0 [] [] false 0 0 [] [] 0 0 0 [] 0 0 on e0 e1 e2 (eN : Int) 0 _ q0 q1 q2 q3 _ hN h0 h1 h2 hW).2.1 rfl hE (ne_of_beq he)
    | true =>
      cases hz : (rqPut (⟨id, 10, eidZ, eidZ, 0, 0, 0, [], 0, 0, on⟩ : RqV) == b) with
      | false =>
        rw [resQ_no (ok_b (by rw [hg]; exact hz))]
        rw [hz] at hB
        exact (rr_10w_all b id false 0 0 [] [] false 0 0 [] [] 0 0 0 [] 0 0 on e0 e1 e2 (eN : Int) 0 _ q0 q1 q2 q3 _ hN h0 h1 h2 hW).2.2.1 rfl hE (ne_of_beq he) hB
      | true =>
        rw [resQ_yes (ok_y (by rw [hg]; exact hr) (by rw [hg]; exact he) (by rw [hg]; exact hz)), hg]
        rw [hz] at hB
        exact (rr_10w_all b id false 0 0 [] [] false 0 0 [] [] 0 0 0 [] 0 0 on e0 e1 e2 (eN : Int) 0 _ q0 q1 q2 q3 _ hN h0 h1 h2 hW).2.2.2 rfl hE (ne_of_beq he) hB
theorem rh_10 [Known] [KnownSc] [KnownPow] (b : List UInt8) (hb : b.length ≤ 1000) (hk : (intS (numS (0, b)).2).1 = 10) : AP Tryz.prog 8 [byE b] (resQ b) [] := by
  have h0 := av_rNum (0, b) (by dsimp only; omega)
  have m0 := numS_len (0, b)
  dsimp only at m0
  have h1 := av_rInt (numS (0, b)).2 (by omega)
  have m1 := intS_len (numS (0, b)).2
  have l0 := bolS_len (intS (numS (0, b)).2).2
  rw [show (mostS 1099511627776 (numS (0, b)).2).1 = 10 from hk] at h1
  exact rg_10 b _ _ _ _ _ _ _ _ _ _ (av_rNew b (by omega)) h0 h1 (av_rBool (intS (numS (0, b)).2).2 (by omega)) (by unfold rqGet; rw [hk]; rfl)
theorem rg_11 [Known] [KnownPow] (b : List UInt8) (id : Nat) (e0 e1 : Int) (eN : Nat) (q0 q1 q2 : List UInt8)
    (hN : AQ Tryz.prog 25 [.sl .ext (b.map E.byte)] [] (.ptr 0 0) [[.int .i64 e0, .bool true, .sl .ext (q0.map E.byte)]]) (h0 : AQ Tryz.prog 26 [.ptr 0 0] [[.int .i64 e0, .bool true, .sl .ext (q0.map E.byte)]] (.int .u64 (id : Int)) [[.int .i64 e1, .bool true, .sl .ext (q1.map E.byte)]]) (h1 : AQ Tryz.prog 27 [.ptr 0 0] [[.int .i64 e1, .bool true, .sl .ext (q1.map E.byte)]] (.int .i64 11) [[.int .i64 (eN : Int), .bool true, .sl .ext (q2.map E.byte)]])
    (hg : rqGet b = ((⟨id, 11, eidZ, eidZ, 0, 0, 0, [], 0, 0, false⟩ : RqV), (eN, q2))) : AP Tryz.prog 8 [.sl .ext (b.map E.byte)] (resQ b) [] := by
  have hE := av_rEnd (eN, q2)
  have hB := av_bEq (rqPut (⟨id, 11, eidZ, eidZ, 0, 0, 0, [], 0, 0, false⟩ : RqV)) b
  cases hr : rqRight (⟨id, 11, eidZ, eidZ, 0, 0, 0, [], 0, 0, false⟩ : RqV) with
  | false =>
    rw [resQ_no (ok_w (by rw [hg]; exact hr))]
    exact (rr_11w_all b id false 0 0 [] [] false 0 0 [] [] 0 0 0 [] 0 0 false e0 e1 (eN : Int) 3 0 q0 q1 q2 [] hN h0 h1 (rw_no _ hr)).1 rfl
  | true =>
    have hW := rw_yes _ hr
    cases he : (endS (eN, q2) == 0) with
    | false =>
      rw [resQ_no (ok_e (by rw [hg]; exact he))]
      exact (rr_11w_all b id false 0 0 [] [] false 0 0 [] [] 0 0 0 [] 0 0 false e0 e1 (eN : Int) 0 _ q0 q1 q2 _ hN h0 h1 hW).2.1 rfl hE (ne_of_beq he)
    | true =>
      cases hz : (rqPut (⟨id, 11, eidZ, eidZ, 0, 0, 0, [], 0, 0, false⟩ : RqV) == b) with
      | false =>
        rw [resQ_no (ok_b (by rw [hg]; exact hz))]
        rw [hz] at hB
        exact (rr_11w_all b id false 0 0 [] [] false 0 0 [] [] 0 0 0 [] 0 0 false e0 e1 (eN : Int) 0 _ q0 q1 q2 _ hN h0 h1 hW).2.2.1 rfl hE (ne_of_beq he) hB
      | true =>
        rw [resQ_yes (ok_y (by rw [hg]; exact hr) (by rw [hg]; exact he) (by rw [hg]; exact hz)), hg]
        rw [hz] at hB
        exact (rr_11w_all b id false 0 0 [] [] false 0 0 [] [] 0 0 0 [] 0 0 false e0 e1 (eN : Int) 0 _ q0 q1 q2 _ hN h0 h1 hW).2.2.2 rfl hE (ne_of_beq he) hB
theorem rh_11 [Known] [KnownSc] [KnownPow] (b : List UInt8) (hb : b.length ≤ 1000) (hk : (intS (numS (0, b)).2).1 = 11) : AP Tryz.prog 8 [byE b] (resQ b) [] := by
  have h0 := av_rNum (0, b) (by dsimp only; omega)
  have m0 := numS_len (0, b)
  dsimp only at m0
  have h1 := av_rInt (numS (0, b)).2 (by omega)
  have m1 := intS_len (numS (0, b)).2
  rw [show (mostS 1099511627776 (numS (0, b)).2).1 = 11 from hk] at h1
  exact rg_11 b _ _ _ _ _ _ _ (av_rNew b (by omega)) h0 h1  (by unfold rqGet; rw [hk]; rfl)
theorem rg_12 [Known] [KnownPow] (b : List UInt8) (id : Nat) (tok : Nat) (e0 e1 e2 : Int) (eN : Nat) (q0 q1 q2 q3 : List UInt8)
    (hN : AQ Tryz.prog 25 [.sl .ext (b.map E.byte)] [] (.ptr 0 0) [[.int .i64 e0, .bool true, .sl .ext (q0.map E.byte)]]) (h0 : AQ Tryz.prog 26 [.ptr 0 0] [[.int .i64 e0, .bool true, .sl .ext (q0.map E.byte)]] (.int .u64 (id : Int)) [[.int .i64 e1, .bool true, .sl .ext (q1.map E.byte)]]) (h1 : AQ Tryz.prog 27 [.ptr 0 0] [[.int .i64 e1, .bool true, .sl .ext (q1.map E.byte)]] (.int .i64 12) [[.int .i64 e2, .bool true, .sl .ext (q2.map E.byte)]])
    (h2 : AQ Tryz.prog 26 [.ptr 0 0] [[.int .i64 e2, .bool true, .sl .ext (q2.map E.byte)]] (.int .u64 (tok : Int)) [[.int .i64 (eN : Int), .bool true, .sl .ext (q3.map E.byte)]])
    (hg : rqGet b = ((⟨id, 12, eidZ, eidZ, 0, 0, 0, [], 0, tok, false⟩ : RqV), (eN, q3))) : AP Tryz.prog 8 [.sl .ext (b.map E.byte)] (resQ b) [] := by
  have hE := av_rEnd (eN, q3)
  have hB := av_bEq (rqPut (⟨id, 12, eidZ, eidZ, 0, 0, 0, [], 0, tok, false⟩ : RqV)) b
  cases hr : rqRight (⟨id, 12, eidZ, eidZ, 0, 0, 0, [], 0, tok, false⟩ : RqV) with
  | false =>
    rw [resQ_no (ok_w (by rw [hg]; exact hr))]
    exact (rr_12w_all b id false 0 0 [] [] false 0 0 [] [] 0 0 0 [] 0 tok false e0 e1 e2 (eN : Int) 3 0 q0 q1 q2 q3 [] hN h0 h1 h2 (rw_no _ hr)).1 rfl
  | true =>
    have hW := rw_yes _ hr
    cases he : (endS (eN, q3) == 0) with
    | false =>
      rw [resQ_no (ok_e (by rw [hg]; exact he))]
      exact (rr_12w_all b id false 0 0 [] [] false 0 0 [] [] 0 0 0 [] 0 tok false e0 e1 e2 (eN : Int) 0 _ q0 q1 q2 q3 _ hN h0 h1 h2 hW).2.1 rfl hE (ne_of_beq he)
    | true =>
      cases hz : (rqPut (⟨id, 12, eidZ, eidZ, 0, 0, 0, [], 0, tok, false⟩ : RqV) == b) with
      | false =>
        rw [resQ_no (ok_b (by rw [hg]; exact hz))]
        rw [hz] at hB
        exact (rr_12w_all b id false 0 0 [] [] false 0 0 [] [] 0 0 0 [] 0 tok false e0 e1 e2 (eN : Int) 0 _ q0 q1 q2 q3 _ hN h0 h1 h2 hW).2.2.1 rfl hE (ne_of_beq he) hB
      | true =>
        rw [resQ_yes (ok_y (by rw [hg]; exact hr) (by rw [hg]; exact he) (by rw [hg]; exact hz)), hg]
        rw [hz] at hB
        exact (rr_12w_all b id false 0 0 [] [] false 0 0 [] [] 0 0 0 [] 0 tok false e0 e1 e2 (eN : Int) 0 _ q0 q1 q2 q3 _ hN h0 h1 h2 hW).2.2.2 rfl hE (ne_of_beq he) hB
theorem rh_12 [Known] [KnownSc] [KnownPow] (b : List UInt8) (hb : b.length ≤ 1000) (hk : (intS (numS (0, b)).2).1 = 12) : AP Tryz.prog 8 [byE b] (resQ b) [] := by
  have h0 := av_rNum (0, b) (by dsimp only; omega)
  have m0 := numS_len (0, b)
  dsimp only at m0
  have h1 := av_rInt (numS (0, b)).2 (by omega)
  have m1 := intS_len (numS (0, b)).2
  have l0 := numS_len (intS (numS (0, b)).2).2
  rw [show (mostS 1099511627776 (numS (0, b)).2).1 = 12 from hk] at h1
  exact rg_12 b _ _ _ _ _ _ _ _ _ _ (av_rNew b (by omega)) h0 h1 (av_rNum (intS (numS (0, b)).2).2 (by omega)) (by unfold rqGet; rw [hk]; rfl)
theorem rg_0 [Known] [KnownPow] (b : List UInt8) (kd : Int) (id : Nat) (e0 e1 : Int) (eN : Nat) (q0 q1 q2 : List UInt8)
    (k1 : (kd == 1) = false) (k2 : (kd == 2) = false) (k3 : (kd == 3) = false) (k4 : (kd == 4) = false) (k5 : (kd == 5) = false) (k6 : (kd == 6) = false) (k7 : (kd == 7) = false) (k8 : (kd == 8) = false) (k9 : (kd == 9) = false) (k10 : (kd == 10) = false) (k12 : (kd == 12) = false)
    (hN : AQ Tryz.prog 25 [.sl .ext (b.map E.byte)] [] (.ptr 0 0) [[.int .i64 e0, .bool true, .sl .ext (q0.map E.byte)]]) (h0 : AQ Tryz.prog 26 [.ptr 0 0] [[.int .i64 e0, .bool true, .sl .ext (q0.map E.byte)]] (.int .u64 (id : Int)) [[.int .i64 e1, .bool true, .sl .ext (q1.map E.byte)]]) (h1 : AQ Tryz.prog 27 [.ptr 0 0] [[.int .i64 e1, .bool true, .sl .ext (q1.map E.byte)]] (.int .i64 kd) [[.int .i64 (eN : Int), .bool true, .sl .ext (q2.map E.byte)]])
    (hg : rqGet b = ((⟨id, kd, eidZ, eidZ, 0, 0, 0, [], 0, 0, false⟩ : RqV), (eN, q2))) : AP Tryz.prog 8 [.sl .ext (b.map E.byte)] (resQ b) [] := by
  have hE := av_rEnd (eN, q2)
  have hB := av_bEq (rqPut (⟨id, kd, eidZ, eidZ, 0, 0, 0, [], 0, 0, false⟩ : RqV)) b
  cases hr : rqRight (⟨id, kd, eidZ, eidZ, 0, 0, 0, [], 0, 0, false⟩ : RqV) with
  | false =>
    rw [resQ_no (ok_w (by rw [hg]; exact hr))]
    exact (rr_0w_all b kd id false 0 0 [] [] false 0 0 [] [] 0 0 0 [] 0 0 false e0 e1 (eN : Int) 3 0 q0 q1 q2 [] k1 k2 k3 k4 k5 k6 k7 k8 k9 k10 k12 hN h0 h1 (rw_no _ hr)).1 rfl
  | true =>
    have hW := rw_yes _ hr
    cases he : (endS (eN, q2) == 0) with
    | false =>
      rw [resQ_no (ok_e (by rw [hg]; exact he))]
      exact (rr_0w_all b kd id false 0 0 [] [] false 0 0 [] [] 0 0 0 [] 0 0 false e0 e1 (eN : Int) 0 _ q0 q1 q2 _ k1 k2 k3 k4 k5 k6 k7 k8 k9 k10 k12 hN h0 h1 hW).2.1 rfl hE (ne_of_beq he)
    | true =>
      cases hz : (rqPut (⟨id, kd, eidZ, eidZ, 0, 0, 0, [], 0, 0, false⟩ : RqV) == b) with
      | false =>
        rw [resQ_no (ok_b (by rw [hg]; exact hz))]
        rw [hz] at hB
        exact (rr_0w_all b kd id false 0 0 [] [] false 0 0 [] [] 0 0 0 [] 0 0 false e0 e1 (eN : Int) 0 _ q0 q1 q2 _ k1 k2 k3 k4 k5 k6 k7 k8 k9 k10 k12 hN h0 h1 hW).2.2.1 rfl hE (ne_of_beq he) hB
      | true =>
        rw [resQ_yes (ok_y (by rw [hg]; exact hr) (by rw [hg]; exact he) (by rw [hg]; exact hz)), hg]
        rw [hz] at hB
        exact (rr_0w_all b kd id false 0 0 [] [] false 0 0 [] [] 0 0 0 [] 0 0 false e0 e1 (eN : Int) 0 _ q0 q1 q2 _ k1 k2 k3 k4 k5 k6 k7 k8 k9 k10 k12 hN h0 h1 hW).2.2.2 rfl hE (ne_of_beq he) hB
theorem rh_0 [Known] [KnownSc] [KnownPow] (b : List UInt8) (hb : b.length ≤ 1000) (k1 : (((intS (numS (0, b)).2).1 : Int) == 1) = false) (k2 : (((intS (numS (0, b)).2).1 : Int) == 2) = false) (k3 : (((intS (numS (0, b)).2).1 : Int) == 3) = false) (k4 : (((intS (numS (0, b)).2).1 : Int) == 4) = false) (k5 : (((intS (numS (0, b)).2).1 : Int) == 5) = false) (k6 : (((intS (numS (0, b)).2).1 : Int) == 6) = false) (k7 : (((intS (numS (0, b)).2).1 : Int) == 7) = false) (k8 : (((intS (numS (0, b)).2).1 : Int) == 8) = false) (k9 : (((intS (numS (0, b)).2).1 : Int) == 9) = false) (k10 : (((intS (numS (0, b)).2).1 : Int) == 10) = false) (k12 : (((intS (numS (0, b)).2).1 : Int) == 12) = false) : AP Tryz.prog 8 [byE b] (resQ b) [] := by
  have h0 := av_rNum (0, b) (by dsimp only; omega)
  have m0 := numS_len (0, b)
  dsimp only at m0
  have h1 := av_rInt (numS (0, b)).2 (by omega)
  have m1 := intS_len (numS (0, b)).2
  exact rg_0 b _ _ _ _ _ _ _ _ k1 k2 k3 k4 k5 k6 k7 k8 k9 k10 k12 (av_rNew b (by omega)) h0 h1  (by
      have kk : ∀ i : Nat, (((intS (numS (0, b)).2).1 : Int) == (i : Int)) = ((intS (numS (0, b)).2).1 == i) := fun i => by rw [Bool.eq_iff_iff, beq_iff_eq, beq_iff_eq]; omega
      unfold rqGet rqTail
      rw [show ((intS (numS (0, b)).2).1 == 1) = false from (kk 1).symm.trans k1, show ((intS (numS (0, b)).2).1 == 2) = false from (kk 2).symm.trans k2, show ((intS (numS (0, b)).2).1 == 3) = false from (kk 3).symm.trans k3, show ((intS (numS (0, b)).2).1 == 4) = false from (kk 4).symm.trans k4, show ((intS (numS (0, b)).2).1 == 5) = false from (kk 5).symm.trans k5, show ((intS (numS (0, b)).2).1 == 6) = false from (kk 6).symm.trans k6, show ((intS (numS (0, b)).2).1 == 7) = false from (kk 7).symm.trans k7, show ((intS (numS (0, b)).2).1 == 8) = false from (kk 8).symm.trans k8, show ((intS (numS (0, b)).2).1 == 9) = false from (kk 9).symm.trans k9, show ((intS (numS (0, b)).2).1 == 10) = false from (kk 10).symm.trans k10, show ((intS (numS (0, b)).2).1 == 12) = false from (kk 12).symm.trans k12]
      rfl)
theorem av_rqRead [Known] [KnownSc] [KnownPow] (b : List UInt8) (hb : b.length ≤ 1000) : AP Tryz.prog 8 [byE b] (resQ b) [] := by
  rcases kcase (((intS (numS (0, b)).2).1 : Nat) : Int) with h | h | h | h | h | h | h | h | h | h | h | h | ⟨k1, k2, k3, k4, k5, k6, k7, k8, k9, k10, k11, k12⟩
  · exact rh_1 b hb (by omega)
  · exact rh_2 b hb (by omega)
  · exact rh_3 b hb (by omega)
  · exact rh_4 b hb (by omega)
  · exact rh_5 b hb (by omega)
  · exact rh_6 b hb (by omega)
  · exact rh_7 b hb (by omega)
  · exact rh_8 b hb (by omega)
  · exact rh_9 b hb (by omega)
  · exact rh_10 b hb (by omega)
  · exact rh_11 b hb (by omega)
  · exact rh_12 b hb (by omega)
  · exact rh_0 b hb k1 k2 k3 k4 k5 k6 k7 k8 k9 k10 k12
end Go.Proofs.YtdhkfbolnkikgaaGreatDoor
end
/- Fixed calls of package eid, the rest; what must come of them. -/
section
open Go.RowKit Go.Pl Go.Av
namespace Go.Proofs.YtdhkfbolnkikgaaGreatDoor
set_option linter.unusedVariables false
set_option linter.unusedSimpArgs false
set_option maxHeartbeats 4000000
end Go.Proofs.YtdhkfbolnkikgaaGreatDoor
end
