/- The document's answers for requests: Read, joined. -/
import Derived.Test.YtdhkfbolnkikgaaGreatDoorG26
import Derived.Test.YtdhkfbolnkikgaaGreatDoorG29
import Derived.Test.YtdhkfbolnkikgaaGreatDoorG30
import Derived.Test.YtdhkfbolnkikgaaGreatDoorG31
import Derived.Test.YtdhkfbolnkikgaaGreatDoorG32
import Derived.Test.YtdhkfbolnkikgaaGreatDoorG33
import Derived.Test.YtdhkfbolnkikgaaGreatDoorG10
import Derived.Test.YtdhkfbolnkikgaaGreatDoorG11
section
open Go.RowKit Go.Pl Go.Av
namespace Go.Proofs.YtdhkfbolnkikgaaGreatDoor
set_option linter.unusedVariables false
set_option linter.unusedSimpArgs false
set_option maxHeartbeats 4000000
/-- none -/
def rfNo : RqV := ⟨0, 0, eidZ, eidZ, 0, 0, 0, [], 0, 0, false⟩
abbrev resF (b : List UInt8) : D := .tup [.agg (rqC (match rqOk b with | true => (rqGet b).1 | false => rfNo)), .bool (rqOk b)]
theorem resF_no {b : List UInt8} (h : rqOk b = false) : resF b = .tup [.agg (rqC rfNo), .bool false] := by unfold resF; rw [h]
theorem resF_yes {b : List UInt8} (h : rqOk b = true) : resF b = .tup [.agg (rqC (rqGet b).1), .bool true] := by unfold resF; rw [h]
theorem fo_w {b : List UInt8} (h : rqRight (rqGet b).1 = false) : rqOk b = false := by unfold rqOk; rw [h]; rfl
theorem fo_e {b : List UInt8} {x : RqV} {e : Nat} {q : List UInt8} (hg : rqGet b = (x, (e, q))) (h : ((e : Int) != 0) = true) : rqOk b = false := by
  have h1 : (endS (rqGet b).2 == 0) = false := by
    rw [hg]
    unfold endS
    have h2 : ((e : Int) == 0) = false := by simpa [bne] using h
    dsimp only
    rw [h2]
    simp at h2 ⊢
    exact h2
  unfold rqOk
  rw [h1]
  simp
theorem fo_b {b : List UInt8} (h : (rqPut (rqGet b).1 == b) = false) : rqOk b = false := by unfold rqOk; rw [h]; simp
theorem fo_y {b : List UInt8} (h1 : rqRight (rqGet b).1 = true) (h3 : (rqPut (rqGet b).1 == b) = true) : rqOk b = true := by
  have h := (ok_put h1).1
  rwa [beq_iff_eq.1 h3] at h
theorem parse_as (s : List UInt8) : ∃ ep ok, parseR s = .tup [.agg (eC ep), .bool ok] ∧ (if (parseE s).2 then (parseE s).1 else eidZ) = ep ∧ Fit ep := by
  cases h : (parseE s).2 with
  | false => exact ⟨eidZ, false, parseR_no h, by simp, by decide, by decide⟩
  | true => exact ⟨(parseE s).1, true, parseR_yes (by rw [← h]), by simp, fit_right (parse_text h).1⟩
theorem fit_Z : Fit eidZ := ⟨by decide, by decide⟩
theorem rj_1 [Known] (b : List UInt8) (hb : b.length ≤ 1000) (hk : (intS (numS (0, b)).2).1 = 1) : AP Tryz.prog 9 [byE b] (resF b) [] := by
  have hs0 : Suf b (0, b) := ⟨Nat.le_refl _, by simp⟩
  have h0 := av_rfN b (0, b) hs0 (by omega)
  have hs1 := suf_num hs0
  rcases ha : numS (0, b) with ⟨id, s1⟩
  rw [ha] at h0 hs1
  have h1 := av_rfMost b 1099511627776 s1 hs1 (by omega)
  have hs2 := suf_most (t := 1099511627776) hs1
  have wk := mostS_le 1099511627776 s1
  rcases hk2 : mostS 1099511627776 s1 with ⟨kn, s2⟩
  have hk3 : intS s1 = (kn, s2) := hk2
  rw [hk2] at h1 hs2 wk
  rw [ha] at hk
  dsimp only at hk
  rw [hk3] at hk
  dsimp only at hk
  subst hk
  have h2 := av_rfTxt b s2 hs2 (by omega)
  have hs3 := suf_txt hs2
  have l0 := (txfS_len s2).2
  have m0 := hs2.1
  dsimp only at m0
  rcases ht0 : txfS s2 with ⟨te, s3⟩
  rw [ht0] at h2 hs3 l0
  dsimp only at l0
  have ge := av_refParse te (by omega)
  obtain ⟨ep, oe, pe, pn, fe⟩ := parse_as te
  rw [pe] at ge
  have hn0 : nmS s2 = (ep, s3) := by unfold nmS; rw [ht0]; dsimp only; rw [pn]
  have h3 := av_rfMost b 1099511627776 s3 hs3 (by omega)
  have hs4 := suf_most (t := 1099511627776) hs3
  have wp := mostS_le 1099511627776 s3
  rcases ht1 : mostS 1099511627776 s3 with ⟨pol, s4⟩
  have hn1 : intS s3 = (pol, s4) := ht1
  rw [ht1] at h3 hs4 wp
  dsimp only at wp
  have wp2 : IntKind.i64.wrap (pol : Int) = (pol : Int) := IntWalk.i64_in _ (by omega)
  have hg : rqGet b = ((⟨id, 1, ep, eidZ, (pol : Int), 0, 0, [], 0, 0, false⟩ : RqV), s4) := by
    unfold rqGet
    rw [ha]
    dsimp only
    rw [hk3]
    dsimp only
    simp only [rqTail, Nat.reduceBEq, Bool.or_self, Bool.or_true, Bool.true_or, Bool.or_false, Bool.false_or, Bool.false_eq_true, if_false, if_true, hn0, hn1]
    rfl
  have hR := av_rfRight (⟨id, 1, ep, eidZ, (pol : Int), 0, 0, [], 0, 0, false⟩ : RqV) fe fit_Z
  have hP : AP Tryz.prog 35 [.int .i64 1] (.str [101, 112]) [] := av_ptsL 1
  clear ha hk2 hk3 ht0 ht1 hn0 hn1
  obtain ⟨a1, q1⟩ := s1
  obtain ⟨a2, q2⟩ := s2
  obtain ⟨a3, q3⟩ := s3
  obtain ⟨a4, q4⟩ := s4
  obtain ⟨ei, en, es, eh, ed⟩ := ep
  dsimp only [rfS, rfD] at h0 h1 h2 h3
  simp only [Nat.sub_self] at h0
  cases hr : rqRight (⟨id, 1, ⟨ei, en, es, eh, ed⟩, eidZ, (pol : Int), 0, 0, [], 0, 0, false⟩ : RqV) with
  | false =>
    rw [resF_no (fo_w (by rw [hg]; exact hr))]
    rw [hr] at hR
    cases he : ((a4 : Int) != 0) with
    | true => exact (rd_1w_all b id ei en es eh ed false 0 0 [] [] pol 0 0 [] 0 0 0 te [] oe false _ _ _ _ _ _ _ _ [] h0 h1 hP h2 ge h3 wp2).2.1 he
    | false => exact (rd_1w_all b id ei en es eh ed false 0 0 [] [] pol 0 0 [] 0 0 0 te [] oe false _ _ _ _ _ _ _ _ [] h0 h1 hP h2 ge h3 wp2).1 he hR
  | true =>
    have hW := av_rfWrite (⟨id, 1, ⟨ei, en, es, eh, ed⟩, eidZ, (pol : Int), 0, 0, [], 0, 0, false⟩ : RqV) hr
    rw [hr] at hR
    cases he : ((a4 : Int) != 0) with
    | true =>
      rw [resF_no (fo_e hg he)]
      exact (rd_1w_all b id ei en es eh ed false 0 0 [] [] pol 0 0 [] 0 0 0 te [] oe false _ _ _ _ _ _ _ _ [] h0 h1 hP h2 ge h3 wp2).2.1 he
    | false =>
      cases hz : (rqPut (⟨id, 1, ⟨ei, en, es, eh, ed⟩, eidZ, (pol : Int), 0, 0, [], 0, 0, false⟩ : RqV) == b) with
      | false =>
        rw [resF_no (fo_b (by rw [hg]; exact hz))]
        exact (rd_1w_all b id ei en es eh ed false 0 0 [] [] pol 0 0 [] 0 0 0 te [] oe false _ _ _ _ _ _ _ _ _ h0 h1 hP h2 ge h3 wp2).2.2.1 he hR hW (by rw [bne, hz]; rfl)
      | true =>
        rw [resF_yes (fo_y (by rw [hg]; exact hr) (by rw [hg]; exact hz)), hg]
        exact (rd_1w_all b id ei en es eh ed false 0 0 [] [] pol 0 0 [] 0 0 0 te [] oe false _ _ _ _ _ _ _ _ _ h0 h1 hP h2 ge h3 wp2).2.2.2 he hR hW (by rw [bne, hz]; rfl)
theorem rj_2 [Known] (b : List UInt8) (hb : b.length ≤ 1000) (hk : (intS (numS (0, b)).2).1 = 2) : AP Tryz.prog 9 [byE b] (resF b) [] := by
  have hs0 : Suf b (0, b) := ⟨Nat.le_refl _, by simp⟩
  have h0 := av_rfN b (0, b) hs0 (by omega)
  have hs1 := suf_num hs0
  rcases ha : numS (0, b) with ⟨id, s1⟩
  rw [ha] at h0 hs1
  have h1 := av_rfMost b 1099511627776 s1 hs1 (by omega)
  have hs2 := suf_most (t := 1099511627776) hs1
  have wk := mostS_le 1099511627776 s1
  rcases hk2 : mostS 1099511627776 s1 with ⟨kn, s2⟩
  have hk3 : intS s1 = (kn, s2) := hk2
  rw [hk2] at h1 hs2 wk
  rw [ha] at hk
  dsimp only at hk
  rw [hk3] at hk
  dsimp only at hk
  subst hk
  have h2 := av_rfTxt b s2 hs2 (by omega)
  have hs3 := suf_txt hs2
  have l0 := (txfS_len s2).2
  have m0 := hs2.1
  dsimp only at m0
  rcases ht0 : txfS s2 with ⟨te, s3⟩
  rw [ht0] at h2 hs3 l0
  dsimp only at l0
  have ge := av_refParse te (by omega)
  obtain ⟨ep, oe, pe, pn, fe⟩ := parse_as te
  rw [pe] at ge
  have hn0 : nmS s2 = (ep, s3) := by unfold nmS; rw [ht0]; dsimp only; rw [pn]
  have hg : rqGet b = ((⟨id, 2, ep, eidZ, 0, 0, 0, [], 0, 0, false⟩ : RqV), s3) := by
    unfold rqGet
    rw [ha]
    dsimp only
    rw [hk3]
    dsimp only
    simp only [rqTail, Nat.reduceBEq, Bool.or_self, Bool.or_true, Bool.true_or, Bool.or_false, Bool.false_or, Bool.false_eq_true, if_false, if_true, hn0]
    rfl
  have hR := av_rfRight (⟨id, 2, ep, eidZ, 0, 0, 0, [], 0, 0, false⟩ : RqV) fe fit_Z
  have hP : AP Tryz.prog 35 [.int .i64 2] (.str [101]) [] := av_ptsL 2
  clear ha hk2 hk3 ht0 hn0
  obtain ⟨a1, q1⟩ := s1
  obtain ⟨a2, q2⟩ := s2
  obtain ⟨a3, q3⟩ := s3
  obtain ⟨ei, en, es, eh, ed⟩ := ep
  dsimp only [rfS, rfD] at h0 h1 h2
  simp only [Nat.sub_self] at h0
  cases hr : rqRight (⟨id, 2, ⟨ei, en, es, eh, ed⟩, eidZ, 0, 0, 0, [], 0, 0, false⟩ : RqV) with
  | false =>
    rw [resF_no (fo_w (by rw [hg]; exact hr))]
    rw [hr] at hR
    cases he : ((a3 : Int) != 0) with
    | true => exact (rd_2w_all b id ei en es eh ed false 0 0 [] [] 0 0 0 [] 0 0 0 te [] oe false _ _ _ _ _ _ [] h0 h1 hP h2 ge).2.1 he
    | false => exact (rd_2w_all b id ei en es eh ed false 0 0 [] [] 0 0 0 [] 0 0 0 te [] oe false _ _ _ _ _ _ [] h0 h1 hP h2 ge).1 he hR
  | true =>
    have hW := av_rfWrite (⟨id, 2, ⟨ei, en, es, eh, ed⟩, eidZ, 0, 0, 0, [], 0, 0, false⟩ : RqV) hr
    rw [hr] at hR
    cases he : ((a3 : Int) != 0) with
    | true =>
      rw [resF_no (fo_e hg he)]
      exact (rd_2w_all b id ei en es eh ed false 0 0 [] [] 0 0 0 [] 0 0 0 te [] oe false _ _ _ _ _ _ [] h0 h1 hP h2 ge).2.1 he
    | false =>
      cases hz : (rqPut (⟨id, 2, ⟨ei, en, es, eh, ed⟩, eidZ, 0, 0, 0, [], 0, 0, false⟩ : RqV) == b) with
      | false =>
        rw [resF_no (fo_b (by rw [hg]; exact hz))]
        exact (rd_2w_all b id ei en es eh ed false 0 0 [] [] 0 0 0 [] 0 0 0 te [] oe false _ _ _ _ _ _ _ h0 h1 hP h2 ge).2.2.1 he hR hW (by rw [bne, hz]; rfl)
      | true =>
        rw [resF_yes (fo_y (by rw [hg]; exact hr) (by rw [hg]; exact hz)), hg]
        exact (rd_2w_all b id ei en es eh ed false 0 0 [] [] 0 0 0 [] 0 0 0 te [] oe false _ _ _ _ _ _ _ h0 h1 hP h2 ge).2.2.2 he hR hW (by rw [bne, hz]; rfl)
theorem rj_3 [Known] (b : List UInt8) (hb : b.length ≤ 1000) (hk : (intS (numS (0, b)).2).1 = 3) : AP Tryz.prog 9 [byE b] (resF b) [] := by
  have hs0 : Suf b (0, b) := ⟨Nat.le_refl _, by simp⟩
  have h0 := av_rfN b (0, b) hs0 (by omega)
  have hs1 := suf_num hs0
  rcases ha : numS (0, b) with ⟨id, s1⟩
  rw [ha] at h0 hs1
  have h1 := av_rfMost b 1099511627776 s1 hs1 (by omega)
  have hs2 := suf_most (t := 1099511627776) hs1
  have wk := mostS_le 1099511627776 s1
  rcases hk2 : mostS 1099511627776 s1 with ⟨kn, s2⟩
  have hk3 : intS s1 = (kn, s2) := hk2
  rw [hk2] at h1 hs2 wk
  rw [ha] at hk
  dsimp only at hk
  rw [hk3] at hk
  dsimp only at hk
  subst hk
  have h2 := av_rfTxt b s2 hs2 (by omega)
  have hs3 := suf_txt hs2
  have l0 := (txfS_len s2).2
  have m0 := hs2.1
  dsimp only at m0
  rcases ht0 : txfS s2 with ⟨te, s3⟩
  rw [ht0] at h2 hs3 l0
  dsimp only at l0
  have ge := av_refParse te (by omega)
  obtain ⟨ep, oe, pe, pn, fe⟩ := parse_as te
  rw [pe] at ge
  have hn0 : nmS s2 = (ep, s3) := by unfold nmS; rw [ht0]; dsimp only; rw [pn]
  have h3 := av_rfMost b 1099511627776 s3 hs3 (by omega)
  have hs4 := suf_most (t := 1099511627776) hs3
  have wp := mostS_le 1099511627776 s3
  rcases ht1 : mostS 1099511627776 s3 with ⟨pol, s4⟩
  have hn1 : intS s3 = (pol, s4) := ht1
  rw [ht1] at h3 hs4 wp
  dsimp only at wp
  have wp2 : IntKind.i64.wrap (pol : Int) = (pol : Int) := IntWalk.i64_in _ (by omega)
  have hg : rqGet b = ((⟨id, 3, ep, eidZ, (pol : Int), 0, 0, [], 0, 0, false⟩ : RqV), s4) := by
    unfold rqGet
    rw [ha]
    dsimp only
    rw [hk3]
    dsimp only
    simp only [rqTail, Nat.reduceBEq, Bool.or_self, Bool.or_true, Bool.true_or, Bool.or_false, Bool.false_or, Bool.false_eq_true, if_false, if_true, hn0, hn1]
    rfl
  have hR := av_rfRight (⟨id, 3, ep, eidZ, (pol : Int), 0, 0, [], 0, 0, false⟩ : RqV) fe fit_Z
  have hP : AP Tryz.prog 35 [.int .i64 3] (.str [101, 112]) [] := av_ptsL 3
  clear ha hk2 hk3 ht0 ht1 hn0 hn1
  obtain ⟨a1, q1⟩ := s1
  obtain ⟨a2, q2⟩ := s2
  obtain ⟨a3, q3⟩ := s3
  obtain ⟨a4, q4⟩ := s4
  obtain ⟨ei, en, es, eh, ed⟩ := ep
  dsimp only [rfS, rfD] at h0 h1 h2 h3
  simp only [Nat.sub_self] at h0
  cases hr : rqRight (⟨id, 3, ⟨ei, en, es, eh, ed⟩, eidZ, (pol : Int), 0, 0, [], 0, 0, false⟩ : RqV) with
  | false =>
    rw [resF_no (fo_w (by rw [hg]; exact hr))]
    rw [hr] at hR
    cases he : ((a4 : Int) != 0) with
    | true => exact (rd_3w_all b id ei en es eh ed false 0 0 [] [] pol 0 0 [] 0 0 0 te [] oe false _ _ _ _ _ _ _ _ [] h0 h1 hP h2 ge h3 wp2).2.1 he
    | false => exact (rd_3w_all b id ei en es eh ed false 0 0 [] [] pol 0 0 [] 0 0 0 te [] oe false _ _ _ _ _ _ _ _ [] h0 h1 hP h2 ge h3 wp2).1 he hR
  | true =>
    have hW := av_rfWrite (⟨id, 3, ⟨ei, en, es, eh, ed⟩, eidZ, (pol : Int), 0, 0, [], 0, 0, false⟩ : RqV) hr
    rw [hr] at hR
    cases he : ((a4 : Int) != 0) with
    | true =>
      rw [resF_no (fo_e hg he)]
      exact (rd_3w_all b id ei en es eh ed false 0 0 [] [] pol 0 0 [] 0 0 0 te [] oe false _ _ _ _ _ _ _ _ [] h0 h1 hP h2 ge h3 wp2).2.1 he
    | false =>
      cases hz : (rqPut (⟨id, 3, ⟨ei, en, es, eh, ed⟩, eidZ, (pol : Int), 0, 0, [], 0, 0, false⟩ : RqV) == b) with
      | false =>
        rw [resF_no (fo_b (by rw [hg]; exact hz))]
        exact (rd_3w_all b id ei en es eh ed false 0 0 [] [] pol 0 0 [] 0 0 0 te [] oe false _ _ _ _ _ _ _ _ _ h0 h1 hP h2 ge h3 wp2).2.2.1 he hR hW (by rw [bne, hz]; rfl)
      | true =>
        rw [resF_yes (fo_y (by rw [hg]; exact hr) (by rw [hg]; exact hz)), hg]
        exact (rd_3w_all b id ei en es eh ed false 0 0 [] [] pol 0 0 [] 0 0 0 te [] oe false _ _ _ _ _ _ _ _ _ h0 h1 hP h2 ge h3 wp2).2.2.2 he hR hW (by rw [bne, hz]; rfl)
theorem rj_4 [Known] (b : List UInt8) (hb : b.length ≤ 1000) (hk : (intS (numS (0, b)).2).1 = 4) : AP Tryz.prog 9 [byE b] (resF b) [] := by
  have hs0 : Suf b (0, b) := ⟨Nat.le_refl _, by simp⟩
  have h0 := av_rfN b (0, b) hs0 (by omega)
  have hs1 := suf_num hs0
  rcases ha : numS (0, b) with ⟨id, s1⟩
  rw [ha] at h0 hs1
  have h1 := av_rfMost b 1099511627776 s1 hs1 (by omega)
  have hs2 := suf_most (t := 1099511627776) hs1
  have wk := mostS_le 1099511627776 s1
  rcases hk2 : mostS 1099511627776 s1 with ⟨kn, s2⟩
  have hk3 : intS s1 = (kn, s2) := hk2
  rw [hk2] at h1 hs2 wk
  rw [ha] at hk
  dsimp only at hk
  rw [hk3] at hk
  dsimp only at hk
  subst hk
  have h2 := av_rfTxt b s2 hs2 (by omega)
  have hs3 := suf_txt hs2
  have l0 := (txfS_len s2).2
  have m0 := hs2.1
  dsimp only at m0
  rcases ht0 : txfS s2 with ⟨te, s3⟩
  rw [ht0] at h2 hs3 l0
  dsimp only at l0
  have ge := av_refParse te (by omega)
  obtain ⟨ep, oe, pe, pn, fe⟩ := parse_as te
  rw [pe] at ge
  have hn0 : nmS s2 = (ep, s3) := by unfold nmS; rw [ht0]; dsimp only; rw [pn]
  have h3 := av_rfTxt b s3 hs3 (by omega)
  have hs4 := suf_txt hs3
  have l1 := (txfS_len s3).2
  have m1 := hs3.1
  dsimp only at m1
  rcases ht1 : txfS s3 with ⟨td, s4⟩
  rw [ht1] at h3 hs4 l1
  dsimp only at l1
  have gd := av_refParse td (by omega)
  obtain ⟨ds, od, pe, pn, fd⟩ := parse_as td
  rw [pe] at gd
  have hn1 : nmS s3 = (ds, s4) := by unfold nmS; rw [ht1]; dsimp only; rw [pn]
  have h4 := av_rfTxt b s4 hs4 (by omega)
  have hs5 := suf_txt hs4
  rcases ht2 : txfS s4 with ⟨pay, s5⟩
  rw [ht2] at h4 hs5
  have h5 := av_rfN b s5 hs5 (by omega)
  have hs6 := suf_num hs5
  rcases ht3 : numS s5 with ⟨life, s6⟩
  rw [ht3] at h5 hs6
  have h6 := av_rfMost b 1 s6 hs6 (by omega)
  have hs7 := suf_most (t := 1) hs6
  rcases ht4 : mostS 1 s6 with ⟨on, s7⟩
  have hn4 : bolS s6 = (((on : Int) == 1), s7) := by unfold bolS; rw [ht4]
  rw [ht4] at h6 hs7
  have hg : rqGet b = ((⟨id, 4, ep, ds, 0, 0, 0, pay, life, 0, ((on : Int) == 1)⟩ : RqV), s7) := by
    unfold rqGet
    rw [ha]
    dsimp only
    rw [hk3]
    dsimp only
    simp only [rqTail, Nat.reduceBEq, Bool.or_self, Bool.or_true, Bool.true_or, Bool.or_false, Bool.false_or, Bool.false_eq_true, if_false, if_true, hn0, hn1, ht2, ht3, hn4]
    rfl
  have hR := av_rfRight (⟨id, 4, ep, ds, 0, 0, 0, pay, life, 0, ((on : Int) == 1)⟩ : RqV) fe fd
  have hP : AP Tryz.prog 35 [.int .i64 4] (.str [101, 100, 98, 108, 111]) [] := av_ptsL 4
  clear ha hk2 hk3 ht0 ht1 ht2 ht3 ht4 hn0 hn1 hn4
  obtain ⟨a1, q1⟩ := s1
  obtain ⟨a2, q2⟩ := s2
  obtain ⟨a3, q3⟩ := s3
  obtain ⟨a4, q4⟩ := s4
  obtain ⟨a5, q5⟩ := s5
  obtain ⟨a6, q6⟩ := s6
  obtain ⟨a7, q7⟩ := s7
  obtain ⟨ei, en, es, eh, ed⟩ := ep
  obtain ⟨di, dn, dq, dh, dd⟩ := ds
  dsimp only [rfS, rfD] at h0 h1 h2 h3 h4 h5 h6
  simp only [Nat.sub_self] at h0
  cases hr : rqRight (⟨id, 4, ⟨ei, en, es, eh, ed⟩, ⟨di, dn, dq, dh, dd⟩, 0, 0, 0, pay, life, 0, ((on : Int) == 1)⟩ : RqV) with
  | false =>
    rw [resF_no (fo_w (by rw [hg]; exact hr))]
    rw [hr] at hR
    cases he : ((a7 : Int) != 0) with
    | true => exact (rd_4w_all b id ei en es eh ed di dn dq dh dd 0 0 0 pay life 0 on te td oe od _ _ _ _ _ _ _ _ _ _ _ _ _ _ [] h0 h1 hP h2 ge h3 gd h4 h5 h6).2.1 he
    | false => exact (rd_4w_all b id ei en es eh ed di dn dq dh dd 0 0 0 pay life 0 on te td oe od _ _ _ _ _ _ _ _ _ _ _ _ _ _ [] h0 h1 hP h2 ge h3 gd h4 h5 h6).1 he hR
  | true =>
    have hW := av_rfWrite (⟨id, 4, ⟨ei, en, es, eh, ed⟩, ⟨di, dn, dq, dh, dd⟩, 0, 0, 0, pay, life, 0, ((on : Int) == 1)⟩ : RqV) hr
    rw [hr] at hR
    cases he : ((a7 : Int) != 0) with
    | true =>
      rw [resF_no (fo_e hg he)]
      exact (rd_4w_all b id ei en es eh ed di dn dq dh dd 0 0 0 pay life 0 on te td oe od _ _ _ _ _ _ _ _ _ _ _ _ _ _ [] h0 h1 hP h2 ge h3 gd h4 h5 h6).2.1 he
    | false =>
      cases hz : (rqPut (⟨id, 4, ⟨ei, en, es, eh, ed⟩, ⟨di, dn, dq, dh, dd⟩, 0, 0, 0, pay, life, 0, ((on : Int) == 1)⟩ : RqV) == b) with
      | false =>
        rw [resF_no (fo_b (by rw [hg]; exact hz))]
        exact (rd_4w_all b id ei en es eh ed di dn dq dh dd 0 0 0 pay life 0 on te td oe od _ _ _ _ _ _ _ _ _ _ _ _ _ _ _ h0 h1 hP h2 ge h3 gd h4 h5 h6).2.2.1 he hR hW (by rw [bne, hz]; rfl)
      | true =>
        rw [resF_yes (fo_y (by rw [hg]; exact hr) (by rw [hg]; exact hz)), hg]
        exact (rd_4w_all b id ei en es eh ed di dn dq dh dd 0 0 0 pay life 0 on te td oe od _ _ _ _ _ _ _ _ _ _ _ _ _ _ _ h0 h1 hP h2 ge h3 gd h4 h5 h6).2.2.2 he hR hW (by rw [bne, hz]; rfl)
theorem rj_5 [Known] (b : List UInt8) (hb : b.length ≤ 1000) (hk : (intS (numS (0, b)).2).1 = 5) : AP Tryz.prog 9 [byE b] (resF b) [] := by
  have hs0 : Suf b (0, b) := ⟨Nat.le_refl _, by simp⟩
  have h0 := av_rfN b (0, b) hs0 (by omega)
  have hs1 := suf_num hs0
  rcases ha : numS (0, b) with ⟨id, s1⟩
  rw [ha] at h0 hs1
  have h1 := av_rfMost b 1099511627776 s1 hs1 (by omega)
  have hs2 := suf_most (t := 1099511627776) hs1
  have wk := mostS_le 1099511627776 s1
  rcases hk2 : mostS 1099511627776 s1 with ⟨kn, s2⟩
  have hk3 : intS s1 = (kn, s2) := hk2
  rw [hk2] at h1 hs2 wk
  rw [ha] at hk
  dsimp only at hk
  rw [hk3] at hk
  dsimp only at hk
  subst hk
  have h2 := av_rfMost b 1099511627776 s2 hs2 (by omega)
  have hs3 := suf_most (t := 1099511627776) hs2
  have wn := mostS_le 1099511627776 s2
  rcases ht0 : mostS 1099511627776 s2 with ⟨num, s3⟩
  have hn0 : intS s2 = (num, s3) := ht0
  rw [ht0] at h2 hs3 wn
  dsimp only at wn
  have wn2 : IntKind.i64.wrap (num : Int) = (num : Int) := IntWalk.i64_in _ (by omega)
  have hg : rqGet b = ((⟨id, 5, eidZ, eidZ, 0, (num : Int), 0, [], 0, 0, false⟩ : RqV), s3) := by
    unfold rqGet
    rw [ha]
    dsimp only
    rw [hk3]
    dsimp only
    simp only [rqTail, Nat.reduceBEq, Bool.or_self, Bool.or_true, Bool.true_or, Bool.or_false, Bool.false_or, Bool.false_eq_true, if_false, if_true, hn0]
    rfl
  have hR := av_rfRight (⟨id, 5, eidZ, eidZ, 0, (num : Int), 0, [], 0, 0, false⟩ : RqV) fit_Z fit_Z
  have hP : AP Tryz.prog 35 [.int .i64 5] (.str [110]) [] := av_ptsL 5
  clear ha hk2 hk3 ht0 hn0
  obtain ⟨a1, q1⟩ := s1
  obtain ⟨a2, q2⟩ := s2
  obtain ⟨a3, q3⟩ := s3
  dsimp only [rfS, rfD] at h0 h1 h2
  simp only [Nat.sub_self] at h0
  cases hr : rqRight (⟨id, 5, eidZ, eidZ, 0, (num : Int), 0, [], 0, 0, false⟩ : RqV) with
  | false =>
    rw [resF_no (fo_w (by rw [hg]; exact hr))]
    rw [hr] at hR
    cases he : ((a3 : Int) != 0) with
    | true => exact (rd_5w_all b id false 0 0 [] [] false 0 0 [] [] 0 num 0 [] 0 0 0 [] [] false false _ _ _ _ _ _ [] h0 h1 hP h2 wn2).2.1 he
    | false => exact (rd_5w_all b id false 0 0 [] [] false 0 0 [] [] 0 num 0 [] 0 0 0 [] [] false false _ _ _ _ _ _ [] h0 h1 hP h2 wn2).1 he hR
  | true =>
    have hW := av_rfWrite (⟨id, 5, eidZ, eidZ, 0, (num : Int), 0, [], 0, 0, false⟩ : RqV) hr
    rw [hr] at hR
    cases he : ((a3 : Int) != 0) with
    | true =>
      rw [resF_no (fo_e hg he)]
      exact (rd_5w_all b id false 0 0 [] [] false 0 0 [] [] 0 num 0 [] 0 0 0 [] [] false false _ _ _ _ _ _ [] h0 h1 hP h2 wn2).2.1 he
    | false =>
      cases hz : (rqPut (⟨id, 5, eidZ, eidZ, 0, (num : Int), 0, [], 0, 0, false⟩ : RqV) == b) with
      | false =>
        rw [resF_no (fo_b (by rw [hg]; exact hz))]
        exact (rd_5w_all b id false 0 0 [] [] false 0 0 [] [] 0 num 0 [] 0 0 0 [] [] false false _ _ _ _ _ _ _ h0 h1 hP h2 wn2).2.2.1 he hR hW (by rw [bne, hz]; rfl)
      | true =>
        rw [resF_yes (fo_y (by rw [hg]; exact hr) (by rw [hg]; exact hz)), hg]
        exact (rd_5w_all b id false 0 0 [] [] false 0 0 [] [] 0 num 0 [] 0 0 0 [] [] false false _ _ _ _ _ _ _ h0 h1 hP h2 wn2).2.2.2 he hR hW (by rw [bne, hz]; rfl)
theorem rj_6 [Known] (b : List UInt8) (hb : b.length ≤ 1000) (hk : (intS (numS (0, b)).2).1 = 6) : AP Tryz.prog 9 [byE b] (resF b) [] := by
  have hs0 : Suf b (0, b) := ⟨Nat.le_refl _, by simp⟩
  have h0 := av_rfN b (0, b) hs0 (by omega)
  have hs1 := suf_num hs0
  rcases ha : numS (0, b) with ⟨id, s1⟩
  rw [ha] at h0 hs1
  have h1 := av_rfMost b 1099511627776 s1 hs1 (by omega)
  have hs2 := suf_most (t := 1099511627776) hs1
  have wk := mostS_le 1099511627776 s1
  rcases hk2 : mostS 1099511627776 s1 with ⟨kn, s2⟩
  have hk3 : intS s1 = (kn, s2) := hk2
  rw [hk2] at h1 hs2 wk
  rw [ha] at hk
  dsimp only at hk
  rw [hk3] at hk
  dsimp only at hk
  subst hk
  have h2 := av_rfTxt b s2 hs2 (by omega)
  have hs3 := suf_txt hs2
  have l0 := (txfS_len s2).2
  have m0 := hs2.1
  dsimp only at m0
  rcases ht0 : txfS s2 with ⟨te, s3⟩
  rw [ht0] at h2 hs3 l0
  dsimp only at l0
  have ge := av_refParse te (by omega)
  obtain ⟨ep, oe, pe, pn, fe⟩ := parse_as te
  rw [pe] at ge
  have hn0 : nmS s2 = (ep, s3) := by unfold nmS; rw [ht0]; dsimp only; rw [pn]
  have hg : rqGet b = ((⟨id, 6, ep, eidZ, 0, 0, 0, [], 0, 0, false⟩ : RqV), s3) := by
    unfold rqGet
    rw [ha]
    dsimp only
    rw [hk3]
    dsimp only
    simp only [rqTail, Nat.reduceBEq, Bool.or_self, Bool.or_true, Bool.true_or, Bool.or_false, Bool.false_or, Bool.false_eq_true, if_false, if_true, hn0]
    rfl
  have hR := av_rfRight (⟨id, 6, ep, eidZ, 0, 0, 0, [], 0, 0, false⟩ : RqV) fe fit_Z
  have hP : AP Tryz.prog 35 [.int .i64 6] (.str [101]) [] := av_ptsL 6
  clear ha hk2 hk3 ht0 hn0
  obtain ⟨a1, q1⟩ := s1
  obtain ⟨a2, q2⟩ := s2
  obtain ⟨a3, q3⟩ := s3
  obtain ⟨ei, en, es, eh, ed⟩ := ep
  dsimp only [rfS, rfD] at h0 h1 h2
  simp only [Nat.sub_self] at h0
  cases hr : rqRight (⟨id, 6, ⟨ei, en, es, eh, ed⟩, eidZ, 0, 0, 0, [], 0, 0, false⟩ : RqV) with
  | false =>
    rw [resF_no (fo_w (by rw [hg]; exact hr))]
    rw [hr] at hR
    cases he : ((a3 : Int) != 0) with
    | true => exact (rd_6w_all b id ei en es eh ed false 0 0 [] [] 0 0 0 [] 0 0 0 te [] oe false _ _ _ _ _ _ [] h0 h1 hP h2 ge).2.1 he
    | false => exact (rd_6w_all b id ei en es eh ed false 0 0 [] [] 0 0 0 [] 0 0 0 te [] oe false _ _ _ _ _ _ [] h0 h1 hP h2 ge).1 he hR
  | true =>
    have hW := av_rfWrite (⟨id, 6, ⟨ei, en, es, eh, ed⟩, eidZ, 0, 0, 0, [], 0, 0, false⟩ : RqV) hr
    rw [hr] at hR
    cases he : ((a3 : Int) != 0) with
    | true =>
      rw [resF_no (fo_e hg he)]
      exact (rd_6w_all b id ei en es eh ed false 0 0 [] [] 0 0 0 [] 0 0 0 te [] oe false _ _ _ _ _ _ [] h0 h1 hP h2 ge).2.1 he
    | false =>
      cases hz : (rqPut (⟨id, 6, ⟨ei, en, es, eh, ed⟩, eidZ, 0, 0, 0, [], 0, 0, false⟩ : RqV) == b) with
      | false =>
        rw [resF_no (fo_b (by rw [hg]; exact hz))]
        exact (rd_6w_all b id ei en es eh ed false 0 0 [] [] 0 0 0 [] 0 0 0 te [] oe false _ _ _ _ _ _ _ h0 h1 hP h2 ge).2.2.1 he hR hW (by rw [bne, hz]; rfl)
      | true =>
        rw [resF_yes (fo_y (by rw [hg]; exact hr) (by rw [hg]; exact hz)), hg]
        exact (rd_6w_all b id ei en es eh ed false 0 0 [] [] 0 0 0 [] 0 0 0 te [] oe false _ _ _ _ _ _ _ h0 h1 hP h2 ge).2.2.2 he hR hW (by rw [bne, hz]; rfl)
theorem rj_7 [Known] (b : List UInt8) (hb : b.length ≤ 1000) (hk : (intS (numS (0, b)).2).1 = 7) : AP Tryz.prog 9 [byE b] (resF b) [] := by
  have hs0 : Suf b (0, b) := ⟨Nat.le_refl _, by simp⟩
  have h0 := av_rfN b (0, b) hs0 (by omega)
  have hs1 := suf_num hs0
  rcases ha : numS (0, b) with ⟨id, s1⟩
  rw [ha] at h0 hs1
  have h1 := av_rfMost b 1099511627776 s1 hs1 (by omega)
  have hs2 := suf_most (t := 1099511627776) hs1
  have wk := mostS_le 1099511627776 s1
  rcases hk2 : mostS 1099511627776 s1 with ⟨kn, s2⟩
  have hk3 : intS s1 = (kn, s2) := hk2
  rw [hk2] at h1 hs2 wk
  rw [ha] at hk
  dsimp only at hk
  rw [hk3] at hk
  dsimp only at hk
  subst hk
  have h2 := av_rfTxt b s2 hs2 (by omega)
  have hs3 := suf_txt hs2
  have l0 := (txfS_len s2).2
  have m0 := hs2.1
  dsimp only at m0
  rcases ht0 : txfS s2 with ⟨te, s3⟩
  rw [ht0] at h2 hs3 l0
  dsimp only at l0
  have ge := av_refParse te (by omega)
  obtain ⟨ep, oe, pe, pn, fe⟩ := parse_as te
  rw [pe] at ge
  have hn0 : nmS s2 = (ep, s3) := by unfold nmS; rw [ht0]; dsimp only; rw [pn]
  have h3 := av_rfMost b 1099511627776 s3 hs3 (by omega)
  have hs4 := suf_most (t := 1099511627776) hs3
  have wt := mostS_le 1099511627776 s3
  rcases ht1 : mostS 1099511627776 s3 with ⟨tik, s4⟩
  have hn1 : intS s3 = (tik, s4) := ht1
  rw [ht1] at h3 hs4 wt
  dsimp only at wt
  have wt2 : IntKind.i64.wrap (tik : Int) = (tik : Int) := IntWalk.i64_in _ (by omega)
  have hg : rqGet b = ((⟨id, 7, ep, eidZ, 0, 0, (tik : Int), [], 0, 0, false⟩ : RqV), s4) := by
    unfold rqGet
    rw [ha]
    dsimp only
    rw [hk3]
    dsimp only
    simp only [rqTail, Nat.reduceBEq, Bool.or_self, Bool.or_true, Bool.true_or, Bool.or_false, Bool.false_or, Bool.false_eq_true, if_false, if_true, hn0, hn1]
    rfl
  have hR := av_rfRight (⟨id, 7, ep, eidZ, 0, 0, (tik : Int), [], 0, 0, false⟩ : RqV) fe fit_Z
  have hP : AP Tryz.prog 35 [.int .i64 7] (.str [101, 116]) [] := av_ptsL 7
  clear ha hk2 hk3 ht0 ht1 hn0 hn1
  obtain ⟨a1, q1⟩ := s1
  obtain ⟨a2, q2⟩ := s2
  obtain ⟨a3, q3⟩ := s3
  obtain ⟨a4, q4⟩ := s4
  obtain ⟨ei, en, es, eh, ed⟩ := ep
  dsimp only [rfS, rfD] at h0 h1 h2 h3
  simp only [Nat.sub_self] at h0
  cases hr : rqRight (⟨id, 7, ⟨ei, en, es, eh, ed⟩, eidZ, 0, 0, (tik : Int), [], 0, 0, false⟩ : RqV) with
  | false =>
    rw [resF_no (fo_w (by rw [hg]; exact hr))]
    rw [hr] at hR
    cases he : ((a4 : Int) != 0) with
    | true => exact (rd_7w_all b id ei en es eh ed false 0 0 [] [] 0 0 tik [] 0 0 0 te [] oe false _ _ _ _ _ _ _ _ [] h0 h1 hP h2 ge h3 wt2).2.1 he
    | false => exact (rd_7w_all b id ei en es eh ed false 0 0 [] [] 0 0 tik [] 0 0 0 te [] oe false _ _ _ _ _ _ _ _ [] h0 h1 hP h2 ge h3 wt2).1 he hR
  | true =>
    have hW := av_rfWrite (⟨id, 7, ⟨ei, en, es, eh, ed⟩, eidZ, 0, 0, (tik : Int), [], 0, 0, false⟩ : RqV) hr
    rw [hr] at hR
    cases he : ((a4 : Int) != 0) with
    | true =>
      rw [resF_no (fo_e hg he)]
      exact (rd_7w_all b id ei en es eh ed false 0 0 [] [] 0 0 tik [] 0 0 0 te [] oe false _ _ _ _ _ _ _ _ [] h0 h1 hP h2 ge h3 wt2).2.1 he
    | false =>
      cases hz : (rqPut (⟨id, 7, ⟨ei, en, es, eh, ed⟩, eidZ, 0, 0, (tik : Int), [], 0, 0, false⟩ : RqV) == b) with
      | false =>
        rw [resF_no (fo_b (by rw [hg]; exact hz))]
        exact (rd_7w_all b id ei en es eh ed false 0 0 [] [] 0 0 tik [] 0 0 0 te [] oe false _ _ _ _ _ _ _ _ _ h0 h1 hP h2 ge h3 wt2).2.2.1 he hR hW (by rw [bne, hz]; rfl)
      | true =>
        rw [resF_yes (fo_y (by rw [hg]; exact hr) (by rw [hg]; exact hz)), hg]
        exact (rd_7w_all b id ei en es eh ed false 0 0 [] [] 0 0 tik [] 0 0 0 te [] oe false _ _ _ _ _ _ _ _ _ h0 h1 hP h2 ge h3 wt2).2.2.2 he hR hW (by rw [bne, hz]; rfl)
theorem rj_8 [Known] (b : List UInt8) (hb : b.length ≤ 1000) (hk : (intS (numS (0, b)).2).1 = 8) : AP Tryz.prog 9 [byE b] (resF b) [] := by
  have hs0 : Suf b (0, b) := ⟨Nat.le_refl _, by simp⟩
  have h0 := av_rfN b (0, b) hs0 (by omega)
  have hs1 := suf_num hs0
  rcases ha : numS (0, b) with ⟨id, s1⟩
  rw [ha] at h0 hs1
  have h1 := av_rfMost b 1099511627776 s1 hs1 (by omega)
  have hs2 := suf_most (t := 1099511627776) hs1
  have wk := mostS_le 1099511627776 s1
  rcases hk2 : mostS 1099511627776 s1 with ⟨kn, s2⟩
  have hk3 : intS s1 = (kn, s2) := hk2
  rw [hk2] at h1 hs2 wk
  rw [ha] at hk
  dsimp only at hk
  rw [hk3] at hk
  dsimp only at hk
  subst hk
  have h2 := av_rfMost b 1099511627776 s2 hs2 (by omega)
  have hs3 := suf_most (t := 1099511627776) hs2
  have wn := mostS_le 1099511627776 s2
  rcases ht0 : mostS 1099511627776 s2 with ⟨num, s3⟩
  have hn0 : intS s2 = (num, s3) := ht0
  rw [ht0] at h2 hs3 wn
  dsimp only at wn
  have wn2 : IntKind.i64.wrap (num : Int) = (num : Int) := IntWalk.i64_in _ (by omega)
  have hg : rqGet b = ((⟨id, 8, eidZ, eidZ, 0, (num : Int), 0, [], 0, 0, false⟩ : RqV), s3) := by
    unfold rqGet
    rw [ha]
    dsimp only
    rw [hk3]
    dsimp only
    simp only [rqTail, Nat.reduceBEq, Bool.or_self, Bool.or_true, Bool.true_or, Bool.or_false, Bool.false_or, Bool.false_eq_true, if_false, if_true, hn0]
    rfl
  have hR := av_rfRight (⟨id, 8, eidZ, eidZ, 0, (num : Int), 0, [], 0, 0, false⟩ : RqV) fit_Z fit_Z
  have hP : AP Tryz.prog 35 [.int .i64 8] (.str [110]) [] := av_ptsL 8
  clear ha hk2 hk3 ht0 hn0
  obtain ⟨a1, q1⟩ := s1
  obtain ⟨a2, q2⟩ := s2
  obtain ⟨a3, q3⟩ := s3
  dsimp only [rfS, rfD] at h0 h1 h2
  simp only [Nat.sub_self] at h0
  cases hr : rqRight (⟨id, 8, eidZ, eidZ, 0, (num : Int), 0, [], 0, 0, false⟩ : RqV) with
  | false =>
    rw [resF_no (fo_w (by rw [hg]; exact hr))]
    rw [hr] at hR
    cases he : ((a3 : Int) != 0) with
    | true => exact (rd_8w_all b id false 0 0 [] [] false 0 0 [] [] 0 num 0 [] 0 0 0 [] [] false false _ _ _ _ _ _ [] h0 h1 hP h2 wn2).2.1 he
    | false => exact (rd_8w_all b id false 0 0 [] [] false 0 0 [] [] 0 num 0 [] 0 0 0 [] [] false false _ _ _ _ _ _ [] h0 h1 hP h2 wn2).1 he hR
  | true =>
    have hW := av_rfWrite (⟨id, 8, eidZ, eidZ, 0, (num : Int), 0, [], 0, 0, false⟩ : RqV) hr
    rw [hr] at hR
    cases he : ((a3 : Int) != 0) with
    | true =>
      rw [resF_no (fo_e hg he)]
      exact (rd_8w_all b id false 0 0 [] [] false 0 0 [] [] 0 num 0 [] 0 0 0 [] [] false false _ _ _ _ _ _ [] h0 h1 hP h2 wn2).2.1 he
    | false =>
      cases hz : (rqPut (⟨id, 8, eidZ, eidZ, 0, (num : Int), 0, [], 0, 0, false⟩ : RqV) == b) with
      | false =>
        rw [resF_no (fo_b (by rw [hg]; exact hz))]
        exact (rd_8w_all b id false 0 0 [] [] false 0 0 [] [] 0 num 0 [] 0 0 0 [] [] false false _ _ _ _ _ _ _ h0 h1 hP h2 wn2).2.2.1 he hR hW (by rw [bne, hz]; rfl)
      | true =>
        rw [resF_yes (fo_y (by rw [hg]; exact hr) (by rw [hg]; exact hz)), hg]
        exact (rd_8w_all b id false 0 0 [] [] false 0 0 [] [] 0 num 0 [] 0 0 0 [] [] false false _ _ _ _ _ _ _ h0 h1 hP h2 wn2).2.2.2 he hR hW (by rw [bne, hz]; rfl)
theorem rj_9 [Known] (b : List UInt8) (hb : b.length ≤ 1000) (hk : (intS (numS (0, b)).2).1 = 9) : AP Tryz.prog 9 [byE b] (resF b) [] := by
  have hs0 : Suf b (0, b) := ⟨Nat.le_refl _, by simp⟩
  have h0 := av_rfN b (0, b) hs0 (by omega)
  have hs1 := suf_num hs0
  rcases ha : numS (0, b) with ⟨id, s1⟩
  rw [ha] at h0 hs1
  have h1 := av_rfMost b 1099511627776 s1 hs1 (by omega)
  have hs2 := suf_most (t := 1099511627776) hs1
  have wk := mostS_le 1099511627776 s1
  rcases hk2 : mostS 1099511627776 s1 with ⟨kn, s2⟩
  have hk3 : intS s1 = (kn, s2) := hk2
  rw [hk2] at h1 hs2 wk
  rw [ha] at hk
  dsimp only at hk
  rw [hk3] at hk
  dsimp only at hk
  subst hk
  have h2 := av_rfMost b 1099511627776 s2 hs2 (by omega)
  have hs3 := suf_most (t := 1099511627776) hs2
  have wn := mostS_le 1099511627776 s2
  rcases ht0 : mostS 1099511627776 s2 with ⟨num, s3⟩
  have hn0 : intS s2 = (num, s3) := ht0
  rw [ht0] at h2 hs3 wn
  dsimp only at wn
  have wn2 : IntKind.i64.wrap (num : Int) = (num : Int) := IntWalk.i64_in _ (by omega)
  have hg : rqGet b = ((⟨id, 9, eidZ, eidZ, 0, (num : Int), 0, [], 0, 0, false⟩ : RqV), s3) := by
    unfold rqGet
    rw [ha]
    dsimp only
    rw [hk3]
    dsimp only
    simp only [rqTail, Nat.reduceBEq, Bool.or_self, Bool.or_true, Bool.true_or, Bool.or_false, Bool.false_or, Bool.false_eq_true, if_false, if_true, hn0]
    rfl
  have hR := av_rfRight (⟨id, 9, eidZ, eidZ, 0, (num : Int), 0, [], 0, 0, false⟩ : RqV) fit_Z fit_Z
  have hP : AP Tryz.prog 35 [.int .i64 9] (.str [110]) [] := av_ptsL 9
  clear ha hk2 hk3 ht0 hn0
  obtain ⟨a1, q1⟩ := s1
  obtain ⟨a2, q2⟩ := s2
  obtain ⟨a3, q3⟩ := s3
  dsimp only [rfS, rfD] at h0 h1 h2
  simp only [Nat.sub_self] at h0
  cases hr : rqRight (⟨id, 9, eidZ, eidZ, 0, (num : Int), 0, [], 0, 0, false⟩ : RqV) with
  | false =>
    rw [resF_no (fo_w (by rw [hg]; exact hr))]
    rw [hr] at hR
    cases he : ((a3 : Int) != 0) with
    | true => exact (rd_9w_all b id false 0 0 [] [] false 0 0 [] [] 0 num 0 [] 0 0 0 [] [] false false _ _ _ _ _ _ [] h0 h1 hP h2 wn2).2.1 he
    | false => exact (rd_9w_all b id false 0 0 [] [] false 0 0 [] [] 0 num 0 [] 0 0 0 [] [] false false _ _ _ _ _ _ [] h0 h1 hP h2 wn2).1 he hR
  | true =>
    have hW := av_rfWrite (⟨id, 9, eidZ, eidZ, 0, (num : Int), 0, [], 0, 0, false⟩ : RqV) hr
    rw [hr] at hR
    cases he : ((a3 : Int) != 0) with
    | true =>
      rw [resF_no (fo_e hg he)]
      exact (rd_9w_all b id false 0 0 [] [] false 0 0 [] [] 0 num 0 [] 0 0 0 [] [] false false _ _ _ _ _ _ [] h0 h1 hP h2 wn2).2.1 he
    | false =>
      cases hz : (rqPut (⟨id, 9, eidZ, eidZ, 0, (num : Int), 0, [], 0, 0, false⟩ : RqV) == b) with
      | false =>
        rw [resF_no (fo_b (by rw [hg]; exact hz))]
        exact (rd_9w_all b id false 0 0 [] [] false 0 0 [] [] 0 num 0 [] 0 0 0 [] [] false false _ _ _ _ _ _ _ h0 h1 hP h2 wn2).2.2.1 he hR hW (by rw [bne, hz]; rfl)
      | true =>
        rw [resF_yes (fo_y (by rw [hg]; exact hr) (by rw [hg]; exact hz)), hg]
        exact (rd_9w_all b id false 0 0 [] [] false 0 0 [] [] 0 num 0 [] 0 0 0 [] [] false false _ _ _ _ _ _ _ h0 h1 hP h2 wn2).2.2.2 he hR hW (by rw [bne, hz]; rfl)
theorem rj_10 [Known] (b : List UInt8) (hb : b.length ≤ 1000) (hk : (intS (numS (0, b)).2).1 = 10) : AP Tryz.prog 9 [byE b] (resF b) [] := by
  have hs0 : Suf b (0, b) := ⟨Nat.le_refl _, by simp⟩
  have h0 := av_rfN b (0, b) hs0 (by omega)
  have hs1 := suf_num hs0
  rcases ha : numS (0, b) with ⟨id, s1⟩
  rw [ha] at h0 hs1
  have h1 := av_rfMost b 1099511627776 s1 hs1 (by omega)
  have hs2 := suf_most (t := 1099511627776) hs1
  have wk := mostS_le 1099511627776 s1
  rcases hk2 : mostS 1099511627776 s1 with ⟨kn, s2⟩
  have hk3 : intS s1 = (kn, s2) := hk2
  rw [hk2] at h1 hs2 wk
  rw [ha] at hk
  dsimp only at hk
  rw [hk3] at hk
  dsimp only at hk
  subst hk
  have h2 := av_rfMost b 1 s2 hs2 (by omega)
  have hs3 := suf_most (t := 1) hs2
  rcases ht0 : mostS 1 s2 with ⟨on, s3⟩
  have hn0 : bolS s2 = (((on : Int) == 1), s3) := by unfold bolS; rw [ht0]
  rw [ht0] at h2 hs3
  have hg : rqGet b = ((⟨id, 10, eidZ, eidZ, 0, 0, 0, [], 0, 0, ((on : Int) == 1)⟩ : RqV), s3) := by
    unfold rqGet
    rw [ha]
    dsimp only
    rw [hk3]
    dsimp only
    simp only [rqTail, Nat.reduceBEq, Bool.or_self, Bool.or_true, Bool.true_or, Bool.or_false, Bool.false_or, Bool.false_eq_true, if_false, if_true, hn0]
    rfl
  have hR := av_rfRight (⟨id, 10, eidZ, eidZ, 0, 0, 0, [], 0, 0, ((on : Int) == 1)⟩ : RqV) fit_Z fit_Z
  have hP : AP Tryz.prog 35 [.int .i64 10] (.str [111]) [] := av_ptsL 10
  clear ha hk2 hk3 ht0 hn0
  obtain ⟨a1, q1⟩ := s1
  obtain ⟨a2, q2⟩ := s2
  obtain ⟨a3, q3⟩ := s3
  dsimp only [rfS, rfD] at h0 h1 h2
  simp only [Nat.sub_self] at h0
  cases hr : rqRight (⟨id, 10, eidZ, eidZ, 0, 0, 0, [], 0, 0, ((on : Int) == 1)⟩ : RqV) with
  | false =>
    rw [resF_no (fo_w (by rw [hg]; exact hr))]
    rw [hr] at hR
    cases he : ((a3 : Int) != 0) with
    | true => exact (rd_10w_all b id false 0 0 [] [] false 0 0 [] [] 0 0 0 [] 0 0 on [] [] false false _ _ _ _ _ _ [] h0 h1 hP h2).2.1 he
    | false => exact (rd_10w_all b id false 0 0 [] [] false 0 0 [] [] 0 0 0 [] 0 0 on [] [] false false _ _ _ _ _ _ [] h0 h1 hP h2).1 he hR
  | true =>
    have hW := av_rfWrite (⟨id, 10, eidZ, eidZ, 0, 0, 0, [], 0, 0, ((on : Int) == 1)⟩ : RqV) hr
    rw [hr] at hR
    cases he : ((a3 : Int) != 0) with
    | true =>
      rw [resF_no (fo_e hg he)]
      exact (rd_10w_all b id false 0 0 [] [] false 0 0 [] [] 0 0 0 [] 0 0 on [] [] false false _ _ _ _ _ _ [] h0 h1 hP h2).2.1 he
    | false =>
      cases hz : (rqPut (⟨id, 10, eidZ, eidZ, 0, 0, 0, [], 0, 0, ((on : Int) == 1)⟩ : RqV) == b) with
      | false =>
        rw [resF_no (fo_b (by rw [hg]; exact hz))]
        exact (rd_10w_all b id false 0 0 [] [] false 0 0 [] [] 0 0 0 [] 0 0 on [] [] false false _ _ _ _ _ _ _ h0 h1 hP h2).2.2.1 he hR hW (by rw [bne, hz]; rfl)
      | true =>
        rw [resF_yes (fo_y (by rw [hg]; exact hr) (by rw [hg]; exact hz)), hg]
        exact (rd_10w_all b id false 0 0 [] [] false 0 0 [] [] 0 0 0 [] 0 0 on [] [] false false _ _ _ _ _ _ _ h0 h1 hP h2).2.2.2 he hR hW (by rw [bne, hz]; rfl)
theorem rj_11 [Known] (b : List UInt8) (hb : b.length ≤ 1000) (hk : (intS (numS (0, b)).2).1 = 11) : AP Tryz.prog 9 [byE b] (resF b) [] := by
  have hs0 : Suf b (0, b) := ⟨Nat.le_refl _, by simp⟩
  have h0 := av_rfN b (0, b) hs0 (by omega)
  have hs1 := suf_num hs0
  rcases ha : numS (0, b) with ⟨id, s1⟩
  rw [ha] at h0 hs1
  have h1 := av_rfMost b 1099511627776 s1 hs1 (by omega)
  have hs2 := suf_most (t := 1099511627776) hs1
  have wk := mostS_le 1099511627776 s1
  rcases hk2 : mostS 1099511627776 s1 with ⟨kn, s2⟩
  have hk3 : intS s1 = (kn, s2) := hk2
  rw [hk2] at h1 hs2 wk
  rw [ha] at hk
  dsimp only at hk
  rw [hk3] at hk
  dsimp only at hk
  subst hk
  have hg : rqGet b = ((⟨id, 11, eidZ, eidZ, 0, 0, 0, [], 0, 0, false⟩ : RqV), s2) := by
    unfold rqGet
    rw [ha]
    dsimp only
    rw [hk3]
    dsimp only
    simp only [rqTail, Nat.reduceBEq, Bool.or_self, Bool.or_true, Bool.true_or, Bool.or_false, Bool.false_or, Bool.false_eq_true, if_false, if_true]
    rfl
  have hR := av_rfRight (⟨id, 11, eidZ, eidZ, 0, 0, 0, [], 0, 0, false⟩ : RqV) fit_Z fit_Z
  have hP : AP Tryz.prog 35 [.int .i64 11] (.str []) [] := av_ptsL 11
  clear ha hk2 hk3 
  obtain ⟨a1, q1⟩ := s1
  obtain ⟨a2, q2⟩ := s2
  dsimp only [rfS, rfD] at h0 h1
  simp only [Nat.sub_self] at h0
  cases hr : rqRight (⟨id, 11, eidZ, eidZ, 0, 0, 0, [], 0, 0, false⟩ : RqV) with
  | false =>
    rw [resF_no (fo_w (by rw [hg]; exact hr))]
    rw [hr] at hR
    cases he : ((a2 : Int) != 0) with
    | true => exact (rd_11w_all b id false 0 0 [] [] false 0 0 [] [] 0 0 0 [] 0 0 0 [] [] false false _ _ _ _ [] h0 h1 hP).2.1  he
    | false => exact (rd_11w_all b id false 0 0 [] [] false 0 0 [] [] 0 0 0 [] 0 0 0 [] [] false false _ _ _ _ [] h0 h1 hP).1  he hR
  | true =>
    have hW := av_rfWrite (⟨id, 11, eidZ, eidZ, 0, 0, 0, [], 0, 0, false⟩ : RqV) hr
    rw [hr] at hR
    cases he : ((a2 : Int) != 0) with
    | true =>
      rw [resF_no (fo_e hg he)]
      exact (rd_11w_all b id false 0 0 [] [] false 0 0 [] [] 0 0 0 [] 0 0 0 [] [] false false _ _ _ _ [] h0 h1 hP).2.1  he
    | false =>
      cases hz : (rqPut (⟨id, 11, eidZ, eidZ, 0, 0, 0, [], 0, 0, false⟩ : RqV) == b) with
      | false =>
        rw [resF_no (fo_b (by rw [hg]; exact hz))]
        exact (rd_11w_all b id false 0 0 [] [] false 0 0 [] [] 0 0 0 [] 0 0 0 [] [] false false _ _ _ _ _ h0 h1 hP).2.2.1  he hR hW (by rw [bne, hz]; rfl)
      | true =>
        rw [resF_yes (fo_y (by rw [hg]; exact hr) (by rw [hg]; exact hz)), hg]
        exact (rd_11w_all b id false 0 0 [] [] false 0 0 [] [] 0 0 0 [] 0 0 0 [] [] false false _ _ _ _ _ h0 h1 hP).2.2.2  he hR hW (by rw [bne, hz]; rfl)
theorem rj_12 [Known] (b : List UInt8) (hb : b.length ≤ 1000) (hk : (intS (numS (0, b)).2).1 = 12) : AP Tryz.prog 9 [byE b] (resF b) [] := by
  have hs0 : Suf b (0, b) := ⟨Nat.le_refl _, by simp⟩
  have h0 := av_rfN b (0, b) hs0 (by omega)
  have hs1 := suf_num hs0
  rcases ha : numS (0, b) with ⟨id, s1⟩
  rw [ha] at h0 hs1
  have h1 := av_rfMost b 1099511627776 s1 hs1 (by omega)
  have hs2 := suf_most (t := 1099511627776) hs1
  have wk := mostS_le 1099511627776 s1
  rcases hk2 : mostS 1099511627776 s1 with ⟨kn, s2⟩
  have hk3 : intS s1 = (kn, s2) := hk2
  rw [hk2] at h1 hs2 wk
  rw [ha] at hk
  dsimp only at hk
  rw [hk3] at hk
  dsimp only at hk
  subst hk
  have h2 := av_rfN b s2 hs2 (by omega)
  have hs3 := suf_num hs2
  rcases ht0 : numS s2 with ⟨tok, s3⟩
  rw [ht0] at h2 hs3
  have hg : rqGet b = ((⟨id, 12, eidZ, eidZ, 0, 0, 0, [], 0, tok, false⟩ : RqV), s3) := by
    unfold rqGet
    rw [ha]
    dsimp only
    rw [hk3]
    dsimp only
    simp only [rqTail, Nat.reduceBEq, Bool.or_self, Bool.or_true, Bool.true_or, Bool.or_false, Bool.false_or, Bool.false_eq_true, if_false, if_true, ht0]
    rfl
  have hR := av_rfRight (⟨id, 12, eidZ, eidZ, 0, 0, 0, [], 0, tok, false⟩ : RqV) fit_Z fit_Z
  have hP : AP Tryz.prog 35 [.int .i64 12] (.str [107]) [] := av_ptsL 12
  clear ha hk2 hk3 ht0
  obtain ⟨a1, q1⟩ := s1
  obtain ⟨a2, q2⟩ := s2
  obtain ⟨a3, q3⟩ := s3
  dsimp only [rfS, rfD] at h0 h1 h2
  simp only [Nat.sub_self] at h0
  cases hr : rqRight (⟨id, 12, eidZ, eidZ, 0, 0, 0, [], 0, tok, false⟩ : RqV) with
  | false =>
    rw [resF_no (fo_w (by rw [hg]; exact hr))]
    rw [hr] at hR
    cases he : ((a3 : Int) != 0) with
    | true => exact (rd_12w_all b id false 0 0 [] [] false 0 0 [] [] 0 0 0 [] 0 tok 0 [] [] false false _ _ _ _ _ _ [] h0 h1 hP h2).2.1 he
    | false => exact (rd_12w_all b id false 0 0 [] [] false 0 0 [] [] 0 0 0 [] 0 tok 0 [] [] false false _ _ _ _ _ _ [] h0 h1 hP h2).1 he hR
  | true =>
    have hW := av_rfWrite (⟨id, 12, eidZ, eidZ, 0, 0, 0, [], 0, tok, false⟩ : RqV) hr
    rw [hr] at hR
    cases he : ((a3 : Int) != 0) with
    | true =>
      rw [resF_no (fo_e hg he)]
      exact (rd_12w_all b id false 0 0 [] [] false 0 0 [] [] 0 0 0 [] 0 tok 0 [] [] false false _ _ _ _ _ _ [] h0 h1 hP h2).2.1 he
    | false =>
      cases hz : (rqPut (⟨id, 12, eidZ, eidZ, 0, 0, 0, [], 0, tok, false⟩ : RqV) == b) with
      | false =>
        rw [resF_no (fo_b (by rw [hg]; exact hz))]
        exact (rd_12w_all b id false 0 0 [] [] false 0 0 [] [] 0 0 0 [] 0 tok 0 [] [] false false _ _ _ _ _ _ _ h0 h1 hP h2).2.2.1 he hR hW (by rw [bne, hz]; rfl)
      | true =>
        rw [resF_yes (fo_y (by rw [hg]; exact hr) (by rw [hg]; exact hz)), hg]
        exact (rd_12w_all b id false 0 0 [] [] false 0 0 [] [] 0 0 0 [] 0 tok 0 [] [] false false _ _ _ _ _ _ _ h0 h1 hP h2).2.2.2 he hR hW (by rw [bne, hz]; rfl)
theorem rj_0 [Known] (b : List UInt8) (hb : b.length ≤ 1000) (k1 : (((intS (numS (0, b)).2).1 : Int) == 1) = false) (k2 : (((intS (numS (0, b)).2).1 : Int) == 2) = false) (k3 : (((intS (numS (0, b)).2).1 : Int) == 3) = false) (k4 : (((intS (numS (0, b)).2).1 : Int) == 4) = false) (k5 : (((intS (numS (0, b)).2).1 : Int) == 5) = false) (k6 : (((intS (numS (0, b)).2).1 : Int) == 6) = false) (k7 : (((intS (numS (0, b)).2).1 : Int) == 7) = false) (k8 : (((intS (numS (0, b)).2).1 : Int) == 8) = false) (k9 : (((intS (numS (0, b)).2).1 : Int) == 9) = false) (k10 : (((intS (numS (0, b)).2).1 : Int) == 10) = false) (k11 : (((intS (numS (0, b)).2).1 : Int) == 11) = false) (k12 : (((intS (numS (0, b)).2).1 : Int) == 12) = false) : AP Tryz.prog 9 [byE b] (resF b) [] := by
  have hs0 : Suf b (0, b) := ⟨Nat.le_refl _, by simp⟩
  have h0 := av_rfN b (0, b) hs0 (by omega)
  have hs1 := suf_num hs0
  rcases ha : numS (0, b) with ⟨id, s1⟩
  rw [ha] at h0 hs1
  have h1 := av_rfMost b 1099511627776 s1 hs1 (by omega)
  have hs2 := suf_most (t := 1099511627776) hs1
  have wk := mostS_le 1099511627776 s1
  rcases hk2 : mostS 1099511627776 s1 with ⟨kn, s2⟩
  have hk3 : intS s1 = (kn, s2) := hk2
  rw [hk2] at h1 hs2 wk
  rw [ha] at k1
  dsimp only at k1
  rw [hk3] at k1
  dsimp only at k1
  rw [ha] at k2
  dsimp only at k2
  rw [hk3] at k2
  dsimp only at k2
  rw [ha] at k3
  dsimp only at k3
  rw [hk3] at k3
  dsimp only at k3
  rw [ha] at k4
  dsimp only at k4
  rw [hk3] at k4
  dsimp only at k4
  rw [ha] at k5
  dsimp only at k5
  rw [hk3] at k5
  dsimp only at k5
  rw [ha] at k6
  dsimp only at k6
  rw [hk3] at k6
  dsimp only at k6
  rw [ha] at k7
  dsimp only at k7
  rw [hk3] at k7
  dsimp only at k7
  rw [ha] at k8
  dsimp only at k8
  rw [hk3] at k8
  dsimp only at k8
  rw [ha] at k9
  dsimp only at k9
  rw [hk3] at k9
  dsimp only at k9
  rw [ha] at k10
  dsimp only at k10
  rw [hk3] at k10
  dsimp only at k10
  rw [ha] at k11
  dsimp only at k11
  rw [hk3] at k11
  dsimp only at k11
  rw [ha] at k12
  dsimp only at k12
  rw [hk3] at k12
  dsimp only at k12
  have hg : rqGet b = ((⟨id, (kn : Int), eidZ, eidZ, 0, 0, 0, [], 0, 0, false⟩ : RqV), s2) := by
    unfold rqGet
    rw [ha]
    dsimp only
    rw [hk3]
    dsimp only
    have kk : ∀ i : Nat, ((kn : Int) == (i : Int)) = (kn == i) := fun i => by rw [Bool.eq_iff_iff, beq_iff_eq, beq_iff_eq]; omega
    unfold rqTail
    rw [show (kn == 1) = false from (kk 1).symm.trans k1, show (kn == 2) = false from (kk 2).symm.trans k2, show (kn == 3) = false from (kk 3).symm.trans k3, show (kn == 4) = false from (kk 4).symm.trans k4, show (kn == 5) = false from (kk 5).symm.trans k5, show (kn == 6) = false from (kk 6).symm.trans k6, show (kn == 7) = false from (kk 7).symm.trans k7, show (kn == 8) = false from (kk 8).symm.trans k8, show (kn == 9) = false from (kk 9).symm.trans k9, show (kn == 10) = false from (kk 10).symm.trans k10, show (kn == 12) = false from (kk 12).symm.trans k12]
    rfl
  have hP := av_ptsL (kn : Int)
  have ep : ptsL (kn : Int) = [63] := by
    unfold ptsL
    simp only [k1, k2, k3, k4, k5, k6, k7, k8, k9, k10, k11, k12, Bool.or_self, Bool.false_eq_true, if_false]
  rw [ep] at hP
  have wk2 : IntKind.i64.wrap (kn : Int) = (kn : Int) := IntWalk.i64_in _ (by dsimp only at wk; omega)
  have hR := av_rfRight (⟨id, (kn : Int), eidZ, eidZ, 0, 0, 0, [], 0, 0, false⟩ : RqV) fit_Z fit_Z
  clear ha hk2 hk3 
  obtain ⟨a1, q1⟩ := s1
  obtain ⟨a2, q2⟩ := s2
  dsimp only [rfS, rfD] at h0 h1
  simp only [Nat.sub_self] at h0
  have hr : rqRight (⟨id, (kn : Int), eidZ, eidZ, 0, 0, 0, [], 0, 0, false⟩ : RqV) = false := by
    cases h : rqRight (⟨id, (kn : Int), eidZ, eidZ, 0, 0, 0, [], 0, 0, false⟩ : RqV) with
    | false => rfl
    | true => rcases rq_kind h with h | h | h | h | h | h | h | h | h | h | h | h <;> (dsimp only at h; first | exact absurd h (beq_eq_false_iff_ne.1 k1) | exact absurd h (beq_eq_false_iff_ne.1 k2) | exact absurd h (beq_eq_false_iff_ne.1 k3) | exact absurd h (beq_eq_false_iff_ne.1 k4) | exact absurd h (beq_eq_false_iff_ne.1 k5) | exact absurd h (beq_eq_false_iff_ne.1 k6) | exact absurd h (beq_eq_false_iff_ne.1 k7) | exact absurd h (beq_eq_false_iff_ne.1 k8) | exact absurd h (beq_eq_false_iff_ne.1 k9) | exact absurd h (beq_eq_false_iff_ne.1 k10) | exact absurd h (beq_eq_false_iff_ne.1 k11) | exact absurd h (beq_eq_false_iff_ne.1 k12))
  rw [resF_no (fo_w (by rw [hg]; exact hr))]
  rw [hr] at hR
  cases he : ((a2 : Int) != 0) with
  | true => exact (rd_0e_all b id false 0 0 [] [] false 0 0 [] [] 0 0 0 [] 0 0 0 [] [] false false kn wk2 hP _ _ _ _ [] h0 h1).1  he
  | false => exact (rd_0e_all b id false 0 0 [] [] false 0 0 [] [] 0 0 0 [] 0 0 0 [] [] false false kn wk2 hP _ _ _ _ [] h0 h1).2  he hR
theorem av_rfRead [Known] (b : List UInt8) (hb : b.length ≤ 1000) : AP Tryz.prog 9 [byE b] (resF b) [] := by
  rcases kcase (((intS (numS (0, b)).2).1 : Nat) : Int) with h | h | h | h | h | h | h | h | h | h | h | h | ⟨k1, k2, k3, k4, k5, k6, k7, k8, k9, k10, k11, k12⟩
  · exact rj_1 b hb (by omega)
  · exact rj_2 b hb (by omega)
  · exact rj_3 b hb (by omega)
  · exact rj_4 b hb (by omega)
  · exact rj_5 b hb (by omega)
  · exact rj_6 b hb (by omega)
  · exact rj_7 b hb (by omega)
  · exact rj_8 b hb (by omega)
  · exact rj_9 b hb (by omega)
  · exact rj_10 b hb (by omega)
  · exact rj_11 b hb (by omega)
  · exact rj_12 b hb (by omega)
  · exact rj_0 b hb k1 k2 k3 k4 k5 k6 k7 k8 k9 k10 k11 k12
end Go.Proofs.YtdhkfbolnkikgaaGreatDoor
end
/- The document's answers for requests: the kinds' names. -/
section
open Go.RowKit Go.Pl Go.Av
namespace Go.Proofs.YtdhkfbolnkikgaaGreatDoor
set_option linter.unusedVariables false
set_option linter.unusedSimpArgs false
set_option maxHeartbeats 4000000
theorem av_rfNames [Known] : AP Tryz.prog 10 [] (.sl .ext [.str [114, 101, 103, 105, 115, 116, 101, 114], .str [117, 110, 114, 101, 103, 105, 115, 116, 101, 114], .str [112, 111, 108, 105, 99, 121], .str [115, 101, 110, 100], .str [99, 97, 110, 99, 101, 108], .str [112, 111, 108, 108], .str [112, 101, 101, 107], .str [97, 99, 107], .str [114, 101, 108, 101, 97, 115, 101], .str [119, 97, 116, 99, 104], .str [111, 112, 101, 110], .str [114, 101, 115, 117, 109, 101]]) [] := by
  refine AP.ofA ?_
  refine AC_of Tryz.func10 rfl Tryz.ntmps10 rfl rfl ?_
  repeat' (first | (apply AL_assign; exact rfl; exact rfl) | refine AL_nil ?_ | refine AW_region ?_ | refine AW_seq' ?_ | refine then_norm ?_ | refine AW_ret ?_ | (apply AL_bsZ ttok; (iterate 12 exact rfl)))
  all_goals (apply endQ []; (repeat (first | exact ResL.nil | (apply ResL.cons; first | exact .tmp _ _ rfl | (apply res_n ttok; (iterate 6 exact rfl)) | (apply res_1 ttok; (iterate 5 exact rfl))))); (iterate 4 exact rfl))
  all_goals rfl
end Go.Proofs.YtdhkfbolnkikgaaGreatDoor
end
