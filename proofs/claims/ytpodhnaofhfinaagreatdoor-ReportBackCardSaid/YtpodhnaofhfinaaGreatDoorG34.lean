/- ReportBack's walk by cases, the bundle that may not be (rpgen2.py). -/
import Derived.Test.YtpodhnaofhfinaaGreatDoorG32
import Derived.Test.YtpodhnaofhfinaaGreatDoorG33
import Derived.Test.YtpodhnaofhfinaaGreatDoorG19
import Derived.Test.YtpodhnaofhfinaaGreatDoorG01
import Derived.Test.YtpodhnaofhfinaaGreatDoorG26
import Derived.Test.YtpodhnaofhfinaaGreatDoorG07
import Derived.Test.YtpodhnaofhfinaaGreatDoorG10
import Derived.Test.YtpodhnaofhfinaaGreatDoorProg
import Derived.Lib.LaidU8
set_option linter.unusedVariables false
set_option linter.unusedSimpArgs false
section
open Go.RowKit Go.Pl Go.Av
namespace Go.Proofs.YtpodhnaofhfinaaGreatDoor
set_option maxHeartbeats 4000000
theorem rb_Bn [Known] (ra rb rc ji di xi : Bool) (rs rtm jn js jt jq dn ds xn xs xt xq : Nat) (jh jd dh dd xh xd : List UInt8) (b : List UInt8) (bn : BunV) (e : Int) (c1 c2 c3 : Bool) (sa sb sc zi : Bool) (ss stm zn zs zt zq : Nat) (zh zd : List UInt8) (f : Int) (cb : List UInt8) (g : Int)
  (hA : AP Tryz.prog 16 [] (.bool true) [])
  (hG : AP Tryz.prog 15 [.agg [.bool ji, .int .u64 (jn : Int), .int .u64 (js : Int), .str jh, .str jd, .int .u64 (jt : Int), .int .u64 (jq : Int)]] (.bool false) [])
  (hH : AP Tryz.prog 15 [.agg [.bool xi, .int .u64 (xn : Int), .int .u64 (xs : Int), .str xh, .str xd, .int .u64 (xt : Int), .int .u64 (xq : Int)]] (.bool false) [])
  (t3 : decide (IntKind.i64.wrap ((dh.length : Int) + (dd.length : Int)) > 300) = false)
  (t4 : decide (((b.map E.byte).length : Int) > 500) = false)
  (hB : AP Tryz.prog 17 [.agg [.bool ra, .bool rb, .bool rc, .int .u64 (rs : Int), .int .u64 (rtm : Int), .bool ji, .int .u64 (jn : Int), .int .u64 (js : Int), .str jh, .str jd, .int .u64 (jt : Int), .int .u64 (jq : Int)], .agg [.bool di, .int .u64 (dn : Int), .int .u64 (ds : Int), .str dh, .str dd], .agg [.bool xi, .int .u64 (xn : Int), .int .u64 (xs : Int), .str xh, .str xd, .int .u64 (xt : Int), .int .u64 (xq : Int)], .int .u64 7] (.tup [.agg (bnC bn), .int .i64 e]) [])
  (te : (e == 0) = false)
  (hQ1 : AP Tryz.prog 19 [.agg [.bool ra, .bool rb, .bool rc, .int .u64 (rs : Int), .int .u64 (rtm : Int), .bool ji, .int .u64 (jn : Int), .int .u64 (js : Int), .str jh, .str jd, .int .u64 (jt : Int), .int .u64 (jq : Int)]] (.bool c1) [])
  (hQ2 : AP Tryz.prog 20 [.agg [.bool di, .int .u64 (dn : Int), .int .u64 (ds : Int), .str dh, .str dd]] (.bool c2) [])
  (hQ3 : AP Tryz.prog 21 [.agg [.bool xi, .int .u64 (xn : Int), .int .u64 (xs : Int), .str xh, .str xd, .int .u64 (xt : Int), .int .u64 (xq : Int)]] (.bool c3) [])
  (hn : (c1 && (c2 && c3)) = false)
  (hRr : AP Tryz.prog 22 [byE b] (.tup [.agg [.bool sa, .bool sb, .bool sc, .int .u64 (ss : Int), .int .u64 (stm : Int), .bool zi, .int .u64 (zn : Int), .int .u64 (zs : Int), .str zh, .str zd, .int .u64 (zt : Int), .int .u64 (zq : Int)], .int .i64 f]) [])
  (hWr : AP Tryz.prog 23 [.agg [.bool sa, .bool sb, .bool sc, .int .u64 (ss : Int), .int .u64 (stm : Int), .bool zi, .int .u64 (zn : Int), .int .u64 (zs : Int), .str zh, .str zd, .int .u64 (zt : Int), .int .u64 (zq : Int)]] (.tup [byE cb, .int .i64 g]) [])
  (tf : (f != 0) = true) :
  AP Tryz.prog 4 [.agg [.bool ra, .bool rb, .bool rc, .int .u64 (rs : Int), .int .u64 (rtm : Int), .bool ji, .int .u64 (jn : Int), .int .u64 (js : Int), .str jh, .str jd, .int .u64 (jt : Int), .int .u64 (jq : Int)], .agg [.bool di, .int .u64 (dn : Int), .int .u64 (ds : Int), .str dh, .str dd], .agg [.bool xi, .int .u64 (xn : Int), .int .u64 (xs : Int), .str xh, .str xd, .int .u64 (xt : Int), .int .u64 (xq : Int)], byE b] (.bool true) [] := by
 obtain ⟨⟨pfl, psum, ⟨pdi, pdn, pds, pdh, pdd⟩, ⟨pri, prn, prs, prh, prd⟩, ⟨pxi, pxn, pxs, pxh, pxd⟩, pt, pq, plife⟩, pbl⟩ := bn
 try dsimp only at *
 cases c1 <;> cases c2 <;> cases c3
 case true.true.true => simp at hn
 all_goals
  refine AP.ofA ?_
  refine AC_of Tryz.func4 rfl Tryz.ntmps4 rfl rfl ?_
  repeat' (first | (apply AL_callPw (hA); kernel_rfl; (iterate 4 exact rfl)) | (apply AL_callPw (hG); kernel_rfl; (iterate 4 exact rfl)) | (apply AL_callPw (hH); kernel_rfl; (iterate 4 exact rfl)) | (apply AL_callPw (hB); kernel_rfl; (iterate 4 exact rfl)) | (apply AL_callPw (hQ1); kernel_rfl; (iterate 4 exact rfl)) | (apply AL_callPw (hQ2); kernel_rfl; (iterate 4 exact rfl)) | (apply AL_callPw (hQ3); kernel_rfl; (iterate 4 exact rfl)) | (apply AL_callPw (hRr); kernel_rfl; (iterate 4 exact rfl)) | (apply AL_callPw (hWr); kernel_rfl; (iterate 4 exact rfl)) | (apply AL_go ttok; exact rfl) | (apply AW_go ttok; exact rfl) | (apply K_go ttok; exact rfl) | (apply AL_guardT; (iterate 3 exact rfl); (first | with_reducible assumption | decide +kernel | (solve | simp only [bn]))) | (apply AL_guardFt; (iterate 3 exact rfl); (first | with_reducible assumption | decide +kernel | (solve | simp only [bn]))) | (apply AL_guardFf; (iterate 3 exact rfl); (first | with_reducible assumption | decide +kernel | (solve | simp only [bn]))) | (apply AL_guardU; (iterate 3 exact rfl)) | (apply AL_pickT; exact rfl; (first | with_reducible assumption | decide +kernel | (solve | simp only [bn])); exact rfl; exact rfl) | (apply AL_pickF; exact rfl; (first | with_reducible assumption | decide +kernel | (solve | simp only [bn])); exact rfl; exact rfl) | (apply AW_condB; exact rfl; (first | with_reducible assumption | decide +kernel | (solve | simp only [bn]))) | (apply AL_len ttok; (iterate 4 exact rfl)) | (apply AL_lens ttok; (iterate 4 exact rfl)))
  all_goals (apply endQ []; (apply resG_ok ttok; exact rfl); (iterate 4 exact rfl))
  all_goals first | rfl | exact congrArg D.bool tc
theorem rb_By [Known] (ra rb rc ji di xi : Bool) (rs rtm jn js jt jq dn ds xn xs xt xq : Nat) (jh jd dh dd xh xd : List UInt8) (b : List UInt8) (bn : BunV) (e : Int) (c1 c2 c3 : Bool) (sa sb sc zi : Bool) (ss stm zn zs zt zq : Nat) (zh zd : List UInt8) (f : Int) (cb : List UInt8) (g : Int)
  (hA : AP Tryz.prog 16 [] (.bool true) [])
  (hG : AP Tryz.prog 15 [.agg [.bool ji, .int .u64 (jn : Int), .int .u64 (js : Int), .str jh, .str jd, .int .u64 (jt : Int), .int .u64 (jq : Int)]] (.bool false) [])
  (hH : AP Tryz.prog 15 [.agg [.bool xi, .int .u64 (xn : Int), .int .u64 (xs : Int), .str xh, .str xd, .int .u64 (xt : Int), .int .u64 (xq : Int)]] (.bool false) [])
  (t3 : decide (IntKind.i64.wrap ((dh.length : Int) + (dd.length : Int)) > 300) = false)
  (t4 : decide (((b.map E.byte).length : Int) > 500) = false)
  (hB : AP Tryz.prog 17 [.agg [.bool ra, .bool rb, .bool rc, .int .u64 (rs : Int), .int .u64 (rtm : Int), .bool ji, .int .u64 (jn : Int), .int .u64 (js : Int), .str jh, .str jd, .int .u64 (jt : Int), .int .u64 (jq : Int)], .agg [.bool di, .int .u64 (dn : Int), .int .u64 (ds : Int), .str dh, .str dd], .agg [.bool xi, .int .u64 (xn : Int), .int .u64 (xs : Int), .str xh, .str xd, .int .u64 (xt : Int), .int .u64 (xq : Int)], .int .u64 7] (.tup [.agg (bnC bn), .int .i64 e]) [])
  (te : (e == 0) = false)
  (hQ1 : AP Tryz.prog 19 [.agg [.bool ra, .bool rb, .bool rc, .int .u64 (rs : Int), .int .u64 (rtm : Int), .bool ji, .int .u64 (jn : Int), .int .u64 (js : Int), .str jh, .str jd, .int .u64 (jt : Int), .int .u64 (jq : Int)]] (.bool c1) [])
  (hQ2 : AP Tryz.prog 20 [.agg [.bool di, .int .u64 (dn : Int), .int .u64 (ds : Int), .str dh, .str dd]] (.bool c2) [])
  (hQ3 : AP Tryz.prog 21 [.agg [.bool xi, .int .u64 (xn : Int), .int .u64 (xs : Int), .str xh, .str xd, .int .u64 (xt : Int), .int .u64 (xq : Int)]] (.bool c3) [])
  (hn : (c1 && (c2 && c3)) = false)
  (hRr : AP Tryz.prog 22 [byE b] (.tup [.agg [.bool sa, .bool sb, .bool sc, .int .u64 (ss : Int), .int .u64 (stm : Int), .bool zi, .int .u64 (zn : Int), .int .u64 (zs : Int), .str zh, .str zd, .int .u64 (zt : Int), .int .u64 (zq : Int)], .int .i64 f]) [])
  (hWr : AP Tryz.prog 23 [.agg [.bool sa, .bool sb, .bool sc, .int .u64 (ss : Int), .int .u64 (stm : Int), .bool zi, .int .u64 (zn : Int), .int .u64 (zs : Int), .str zh, .str zd, .int .u64 (zt : Int), .int .u64 (zq : Int)]] (.tup [byE cb, .int .i64 g]) [])
  (tf : (f != 0) = false)
  (tg : (g == 0) = true)
  (tc : (cb == b) = true) :
  AP Tryz.prog 4 [.agg [.bool ra, .bool rb, .bool rc, .int .u64 (rs : Int), .int .u64 (rtm : Int), .bool ji, .int .u64 (jn : Int), .int .u64 (js : Int), .str jh, .str jd, .int .u64 (jt : Int), .int .u64 (jq : Int)], .agg [.bool di, .int .u64 (dn : Int), .int .u64 (ds : Int), .str dh, .str dd], .agg [.bool xi, .int .u64 (xn : Int), .int .u64 (xs : Int), .str xh, .str xd, .int .u64 (xt : Int), .int .u64 (xq : Int)], byE b] (.bool true) [] := by
 obtain ⟨⟨pfl, psum, ⟨pdi, pdn, pds, pdh, pdd⟩, ⟨pri, prn, prs, prh, prd⟩, ⟨pxi, pxn, pxs, pxh, pxd⟩, pt, pq, plife⟩, pbl⟩ := bn
 try dsimp only at *
 cases c1 <;> cases c2 <;> cases c3
 case true.true.true => simp at hn
 all_goals
  refine AP.ofA ?_
  refine AC_of Tryz.func4 rfl Tryz.ntmps4 rfl rfl ?_
  repeat' (first | (apply AL_callPw (hA); kernel_rfl; (iterate 4 exact rfl)) | (apply AL_callPw (hG); kernel_rfl; (iterate 4 exact rfl)) | (apply AL_callPw (hH); kernel_rfl; (iterate 4 exact rfl)) | (apply AL_callPw (hB); kernel_rfl; (iterate 4 exact rfl)) | (apply AL_callPw (hQ1); kernel_rfl; (iterate 4 exact rfl)) | (apply AL_callPw (hQ2); kernel_rfl; (iterate 4 exact rfl)) | (apply AL_callPw (hQ3); kernel_rfl; (iterate 4 exact rfl)) | (apply AL_callPw (hRr); kernel_rfl; (iterate 4 exact rfl)) | (apply AL_callPw (hWr); kernel_rfl; (iterate 4 exact rfl)) | (apply AL_go ttok; exact rfl) | (apply AW_go ttok; exact rfl) | (apply K_go ttok; exact rfl) | (apply AL_guardT; (iterate 3 exact rfl); (first | with_reducible assumption | decide +kernel | (solve | simp only [bn]))) | (apply AL_guardFt; (iterate 3 exact rfl); (first | with_reducible assumption | decide +kernel | (solve | simp only [bn]))) | (apply AL_pickT; exact rfl; (first | with_reducible assumption | decide +kernel | (solve | simp only [bn])); exact rfl; exact rfl) | (apply AL_pickF; exact rfl; (first | with_reducible assumption | decide +kernel | (solve | simp only [bn])); exact rfl; exact rfl) | (apply AW_condB; exact rfl; (first | with_reducible assumption | decide +kernel | (solve | simp only [bn]))) | (apply AL_len ttok; (iterate 4 exact rfl)) | (apply AL_lens ttok; (iterate 4 exact rfl)) | (apply AL_b2s ttok; (iterate 9 exact rfl)))
  all_goals (apply endQ []; (apply resG_ok ttok; exact rfl); (iterate 4 exact rfl))
  all_goals first | rfl | exact congrArg D.bool tc
end Go.Proofs.YtpodhnaofhfinaaGreatDoor
end
section
open Go.RowKit Go.Pl Go.Av
namespace Go.Proofs.YtpodhnaofhfinaaGreatDoor
set_option maxHeartbeats 4000000
theorem av_reportBack [Known] [KnownU8] (r : RepV) (d : EidV) (i : EidV) (t q : Nat) (b : List UInt8) : AP Tryz.prog 4 [.agg (repC r), .agg (eC d), .agg (iC i t q), byE b] (.bool true) [] := by
 have hA := av_alive9
 have hG := av_greatN r.of r.t r.q
 have hH := av_greatN i t q
 have hB := av_rBundle r d i t q 7
 have hQ1 := av_rRight r
 have hQ2 := av_eRight d
 have hQ3 := av_iRight i t q
 cases g1 : decide (IntKind.i64.wrap ((r.of.h.length : Int) + (r.of.d.length : Int)) > 300) with
 | true =>
  rw [g1] at hG
  clear hB hQ1 hQ2 hQ3 hH
  obtain ⟨ra, rb, rc, rs, rtm, ⟨ji, jn, js, jh, jd⟩, jt, jq⟩ := r
  obtain ⟨di, dn, ds, dh, dd⟩ := d
  obtain ⟨xi, xn, xs, xh, xd⟩ := i
  exact rb_1 _ _ _ _ _ _ _ _ _ _ _ _ _ _ _ _ _ _ _ _ _ _ _ _ _ hA hG
 | false =>
 rw [g1] at hG
 cases g2 : decide (IntKind.i64.wrap ((i.h.length : Int) + (i.d.length : Int)) > 300) with
 | true =>
  rw [g2] at hH
  clear hB hQ1 hQ2 hQ3
  obtain ⟨ra, rb, rc, rs, rtm, ⟨ji, jn, js, jh, jd⟩, jt, jq⟩ := r
  obtain ⟨di, dn, ds, dh, dd⟩ := d
  obtain ⟨xi, xn, xs, xh, xd⟩ := i
  exact rb_2 _ _ _ _ _ _ _ _ _ _ _ _ _ _ _ _ _ _ _ _ _ _ _ _ _ hA hG hH
 | false =>
 rw [g2] at hH
 cases t3 : decide (IntKind.i64.wrap ((d.h.length : Int) + (d.d.length : Int)) > 300) with
 | true =>
  clear hB hQ1 hQ2 hQ3
  obtain ⟨ra, rb, rc, rs, rtm, ⟨ji, jn, js, jh, jd⟩, jt, jq⟩ := r
  obtain ⟨di, dn, ds, dh, dd⟩ := d
  obtain ⟨xi, xn, xs, xh, xd⟩ := i
  exact rb_3 _ _ _ _ _ _ _ _ _ _ _ _ _ _ _ _ _ _ _ _ _ _ _ _ _ hA hG hH t3
 | false =>
 cases t4 : decide (((b.map E.byte).length : Int) > 500) with
 | true =>
  clear hB hQ1 hQ2 hQ3
  obtain ⟨ra, rb, rc, rs, rtm, ⟨ji, jn, js, jh, jd⟩, jt, jq⟩ := r
  obtain ⟨di, dn, ds, dh, dd⟩ := d
  obtain ⟨xi, xn, xs, xh, xd⟩ := i
  exact rb_4 _ _ _ _ _ _ _ _ _ _ _ _ _ _ _ _ _ _ _ _ _ _ _ _ _ hA hG hH t3 t4
 | false =>
 have hbl : b.length <= 500 := by have := of_decide_eq_false t4; rw [List.length_map] at this; omega
 have hS : ∃ s f cb g, AP Tryz.prog 22 [byE b] (.tup [.agg (repC s), .int .i64 f]) [] /\ AP Tryz.prog 23 [.agg (repC s)] (.tup [byE cb, .int .i64 g]) [] /\ ((f != 0) = false -> (g == 0) = true /\ (cb == b) = true) := by
  have h1 := av_rRead b (by omega)
  rcases hr : readR b with ⟨s, f⟩
  rw [hr] at h1
  have h2 := av_rWrite s
  rcases hw : writeR s with ⟨cb, g⟩
  rw [hw] at h2
  refine ⟨s, f, cb, g, h1, h2, fun hf => ?_⟩
  have f0 : f = 0 := by simpa using hf
  subst f0
  have e := rp_read_write hr
  rw [hw] at e
  injection e with e1 e2
  subst e1 e2
  exact ⟨rfl, beq_self_eq_true _⟩
 obtain ⟨s, f, cb, g, hRr, hWr, hS⟩ := hS
 rcases hbr : bundleR r d i t q 7 with ⟨bn, e⟩
 rw [hbr] at hB
 cases te : (e == 0) with
 | true =>
  have e0 : e = 0 := by simpa using te
  subst e0
  have hX : rightR r = true /\ bn = bunR (putI (itemR r)) d i t q 7 /\ rightBn (bunR (putI (itemR r)) d i t q 7) = true := by
   cases hrr : rightR r with
   | false =>
    unfold bundleR at hbr
    rw [writeR_no hrr] at hbr
    simp at hbr
   | true =>
    unfold bundleR at hbr
    rw [writeR_yes hrr] at hbr
    dsimp only at hbr
    rw [show ((0 : Int) != 0) = false from rfl] at hbr
    dsimp only at hbr
    cases hrb : rightBn (bunR (putI (itemR r)) d i t q 7) with
    | false => rw [hrb] at hbr; simp at hbr
    | true =>
     rw [hrb] at hbr
     injection hbr with h1 h2
     exact ⟨rfl, h1.symm, rfl⟩
  obtain ⟨hrr, rfl, hrb⟩ := hX
  have hl := len_itemR hrr
  have hok := ok_bunR (putI (itemR r)) (by omega) d i t q 7
  have hW := av_bnWrite _ hok
  unfold writeBnD at hW
  rw [hrb] at hW
  have hwf := wfs_items hok.fl hok.bl
  have hpl := put_len600 hrb
  have hRd := av_bnRead (putBn (bunR (putI (itemR r)) d i t q 7)) (by omega)
  rw [bn_write_read hrb hwf] at hRd
  have hOf := av_rOf _ hok
  have hof : ofR (bunR (putI (itemR r)) d i t q 7) = (r, 0) := by
   have h : payV (bunR (putI (itemR r)) d i t q 7) = putI (itemR r) := rfl
   have h2 : (bits .and .u64 ((bunR (putI (itemR r)) d i t q 7).p.fl : Int) 2 == 0) = false := by
    show (bits .and .u64 ((2 : Nat) : Int) 2 == 0) = false
    kernel_rfl
   unfold ofR
   rw [h2, hrb, h, rp_write_read hrr]
  rw [hof] at hOf
  generalize putBn (bunR (putI (itemR r)) d i t q 7) = db at *
  generalize putI (itemR r) = B at *
  clear hrr hl hok hwf hpl hof hrb hbr hQ1 hQ2 hQ3
  obtain ⟨ra, rb, rc, rs, rtm, ⟨ji, jn, js, jh, jd⟩, jt, jq⟩ := r
  obtain ⟨di, dn, ds, dh, dd⟩ := d
  obtain ⟨xi, xn, xs, xh, xd⟩ := i
  obtain ⟨sa, sb, sc, ss, stm, ⟨zi, zn, zs, zh, zd⟩, zt, zq⟩ := s
  cases tf : (f != 0) with
  | true => exact rb_An _ _ _ _ _ _ _ _ _ _ _ _ _ _ _ _ _ _ _ _ _ _ _ _ _ _ _ _ _ _ _ _ _ _ _ _ _ _ _ _ _ _ hA hG hH t3 t4 hB hW hRd hOf (by simp) (by simp) (by simp) hRr hWr tf
  | false =>
   obtain ⟨tg, tc⟩ := hS tf
   exact rb_Ay _ _ _ _ _ _ _ _ _ _ _ _ _ _ _ _ _ _ _ _ _ _ _ _ _ _ _ _ _ _ _ _ _ _ _ _ _ _ _ _ _ _ hA hG hH t3 t4 hB hW hRd hOf (by simp) (by simp) (by simp) hRr hWr tf tg tc
 | false =>
  have hn : (rightR r && (eRight d && iRight i t q)) = false := by
   cases h1 : rightR r with
   | false => rfl
   | true =>
    cases h2 : eRight d with
    | false => rfl
    | true =>
     cases h3 : iRight i t q with
     | false => rfl
     | true =>
      exfalso
      have hl := len_itemR h1
      have := bun_right (B := putI (itemR r)) (by omega) (dest := d) (src := i) (t := t) (q := q) (life := 7) h2 h3 (by omega)
      unfold bundleR at hbr
      rw [writeR_yes h1] at hbr
      dsimp only at hbr
      rw [show ((0 : Int) != 0) = false from rfl] at hbr
      dsimp only at hbr
      rw [this] at hbr
      injection hbr with h4 h5
      subst h5
      simp at te
  generalize rightR r = c1 at *
  generalize eRight d = c2 at *
  generalize iRight i t q = c3 at *
  clear hbr
  obtain ⟨ra, rb, rc, rs, rtm, ⟨ji, jn, js, jh, jd⟩, jt, jq⟩ := r
  obtain ⟨di, dn, ds, dh, dd⟩ := d
  obtain ⟨xi, xn, xs, xh, xd⟩ := i
  obtain ⟨sa, sb, sc, ss, stm, ⟨zi, zn, zs, zh, zd⟩, zt, zq⟩ := s
  cases tf : (f != 0) with
  | true => exact rb_Bn _ _ _ _ _ _ _ _ _ _ _ _ _ _ _ _ _ _ _ _ _ _ _ _ _ _ _ _ _ _ _ _ _ _ _ _ _ _ _ _ _ _ _ _ _ hA hG hH t3 t4 hB te hQ1 hQ2 hQ3 hn hRr hWr tf
  | false =>
   obtain ⟨tg, tc⟩ := hS tf
   exact rb_By _ _ _ _ _ _ _ _ _ _ _ _ _ _ _ _ _ _ _ _ _ _ _ _ _ _ _ _ _ _ _ _ _ _ _ _ _ _ _ _ _ _ _ _ _ hA hG hH t3 t4 hB te hQ1 hQ2 hQ3 hn hRr hWr tf tg tc
end Go.Proofs.YtpodhnaofhfinaaGreatDoor
end
section
open Go.RowKit Go.Pl
namespace Go.Pl
def OpensF {α : Type} (P : Program) (fs : Array Field) (i o : Nat) (R : Rep α) : Prop :=
 ∀ (H : Type) (enc : TypeId × Value -> H) (W : World) (spare : Nat -> Bool) (held : Bool) (n : Nat) (cs : List Value) (xs : List (DataW H × List MemPlace)), cs.length = o + R.n -> xs.length = fs.size ->
  (∀ (j : Nat) (f : Field), fs[j]? = some f -> DataW.trod enc P W 0 spare held n f.type ((cs.drop f.offset).take (P.cellsOf f.type)) = xs[j]?) -> ∃ x, R.ok W (· < W.heap.size) (cs.drop o) x
variable {P : Program} {t : TypeId} {fs : Array Field}
theorem opensF_at {α : Type} {R : Rep α} {i o : Nat} {f : Field} (hf : fs[i]? = some f) (ho : f.offset = o) (hc : P.cellsOf f.type = R.n) (h : Opens P f.type R) {H : Type} {enc : TypeId × Value -> H} {W : World} {spare : Nat -> Bool} {held : Bool} {n : Nat} {cs : List Value} {xs : List (DataW H × List MemPlace)} (hl : xs.length = fs.size)
  (hg : ∀ (j : Nat) (f : Field), fs[j]? = some f -> DataW.trod enc P W 0 spare held n f.type ((cs.drop f.offset).take (P.cellsOf f.type)) = xs[j]?) : ∃ x, R.ok W (· < W.heap.size) ((cs.drop o).take R.n) x := by
 have e := hg i f hf
 rw [ho, hc] at e
 have hi : i < xs.length := by
  rw [hl]
  exact (Array.getElem?_eq_some_iff.1 hf).1
 exact h H enc W spare held n _ _ (e.trans (List.getElem?_eq_getElem hi))
theorem opensF_one {α : Type} {R : Rep α} {i o : Nat} {f : Field} (hf : fs[i]? = some f) (ho : f.offset = o) (hc : P.cellsOf f.type = R.n) (h : Opens P f.type R) : OpensF P fs i o R := by
 intro H enc W spare held n cs xs hcl hl hg
 obtain ⟨x, hx⟩ := opensF_at hf ho hc h hl hg
 rw [List.take_of_length_le (by rw [List.length_drop]; omega)] at hx
 exact ⟨x, hx⟩
theorem opensF_cons {α β : Type} {R : Rep α} {R' : Rep β} {i o : Nat} {f : Field} (hf : fs[i]? = some f) (ho : f.offset = o) (hc : P.cellsOf f.type = R.n) (h : Opens P f.type R) (h' : OpensF P fs (i + 1) (o + R.n) R') : OpensF P fs i o (R.prod R') := by
 intro H enc W spare held n cs xs hcl hl hg
 obtain ⟨x, hx⟩ := opensF_at hf ho hc h hl hg
 have hn : (R.prod R').n = R.n + R'.n := rfl
 obtain ⟨x', hx'⟩ := h' H enc W spare held n cs xs (by rw [hn] at hcl; omega) hl hg
 refine ⟨(x, x'), (cs.drop o).take R.n, (cs.drop o).drop R.n, (List.take_append_drop _ _).symm, hx, ?_⟩
 rw [List.drop_drop]
 exact hx'
theorem opens_struct {α : Type} {R : Rep α} (hs : P.underlying t = some (.struct fs)) (hc : P.cellsOf t = R.n) (h : OpensF P fs 0 0 R) : Opens P t R := by
 intro H enc W spare held fuel cs y hy
 obtain ⟨xs, n, _, _, hl, hxl, hg⟩ := DataW.trod_struct hs hy
 exact h H enc W spare held n cs xs (by omega) hxl hg
end Go.Pl
end
section
open Go.RowKit Go.Pl Go.Av
namespace Go.Proofs.YtpodhnaofhfinaaGreatDoor
set_option maxHeartbeats 4000000
abbrev XRp := Bool × Bool × Bool × Nat × Nat × (XE × Nat × Nat)
abbrev RRp : Rep XRp := Rep.bool.prod (Rep.bool.prod (Rep.bool.prod (Rep.u64.prod (Rep.u64.prod Go.Pl.RI))))
theorem openRp : Opens Tryz.prog 54 RRp :=
 opens_struct Tryz.underlying54 (by kernel_rfl) (opensF_cons rfl rfl (by kernel_rfl) (opens_bool Tryz.underlying4) (opensF_cons rfl rfl (by kernel_rfl) (opens_bool Tryz.underlying4)
  (opensF_cons rfl rfl (by kernel_rfl) (opens_bool Tryz.underlying4) (opensF_cons rfl rfl (by kernel_rfl) (opens_u64 Tryz.underlying22) (opensF_cons rfl rfl (by kernel_rfl) (opens_u64 Tryz.underlying22) (opensF_one rfl rfl (by kernel_rfl) openI))))))
def XRp.v (x : XRp) : RepV := ⟨x.1, x.2.1, x.2.2.1, x.2.2.2.1, x.2.2.2.2.1, x.2.2.2.2.2.1.v, x.2.2.2.2.2.2.1, x.2.2.2.2.2.2.2⟩
theorem rp_V [Known] {W : World} {cs : List Value} {x : XRp} (h : RRp.ok W (· < W.heap.size) cs x) : V W (g0 W) [] (.agg (repC x.v)) (.agg cs.toArray) := by
 obtain ⟨a, b, c, rs, tm, ⟨⟨xi, xn, xs, xh, xd⟩, t, q⟩⟩ := x
 have te := ToE.bool.prod (ToE.bool.prod (ToE.bool.prod (ToE.u64.prod (ToE.u64.prod (toE_eid.prod (ToE.u64.prod ToE.u64))))))
 exact ToE.agg te (l := [.bool a, .bool b, .bool c, .int .u64 (rs : Int), .int .u64 (tm : Int), .bool xi, .int .u64 (xn : Int), .int .u64 (xs : Int), .str xh, .str xd, .int .u64 (t : Int), .int .u64 (q : Int)]) rfl h
abbrev XId := XE × Nat × Nat
theorem id_V [Known] {W : World} {cs : List Value} {x : XId} (h : Go.Pl.RI.ok W (· < W.heap.size) cs x) : V W (g0 W) [] (.agg (iC x.1.v x.2.1 x.2.2)) (.agg cs.toArray) := by
 obtain ⟨⟨xi, xn, xs, xh, xd⟩, t, q⟩ := x
 have te := toE_eid.prod (ToE.u64.prod ToE.u64)
 exact ToE.agg te (l := [.bool xi, .int .u64 (xn : Int), .int .u64 (xs : Int), .str xh, .str xd, .int .u64 (t : Int), .int .u64 (q : Int)]) rfl h
end Go.Proofs.YtpodhnaofhfinaaGreatDoor
end
section
open Go.RowKit Go.Pl Go.Av
namespace Go.Proofs.YtpodhnaofhfinaaGreatDoor
set_option maxHeartbeats 4000000
theorem bytes_V {W : World} {v : Value} {b : List UInt8} (h : Sl Rep.byte W (· < W.heap.size) v b) : V W (g0 W) [] (byE b) v := .sl .ext _ _ (ToE.byte.sl (C := (g0 W).C) (fun k hk o => hk) h) trivial
end Go.Proofs.YtpodhnaofhfinaaGreatDoor
end
section
open Go.RowKit Go.Pl Go.Av Go.Lib
namespace Go.Proofs.YtpodhnaofhfinaaGreatDoor
theorem dcsl_ints (k : IntKind) : ∀ zs : List Int, dcsl (zs.map fun z => .lit (.int k z)) = zs.map fun z => Value.int k z
 | [] => rfl
 | z :: zs => by rw [List.map_cons, List.map_cons, dcsl, dcsl_ints k zs]; rfl
theorem cells_at {P : Program} {W : World} {n : String} {g : Nat} {t : TypeId} {d : DataW Unit} (hg : P.globalNamed n = some g) (ht : (P.globals[g]?).map (·.type) = some t) (h : VarReads P W n d)
  (key : ∀ (fuel : Nat) (cs : List Value) (p : List MemPlace), DataW.trod (fun _ => ()) P W 0 (fun _ => true) false fuel t cs = some (d, p) -> ∀ (j : Nat) (v : Value), (dcs d)[j]? = some v -> cs[j]? = some v) :
  ∀ (j : Nat) (v : Value), (dcs d)[j]? = some v -> (g0 W).C g j /\ W.cell? ⟨g, j, none⟩ = some v := by
 obtain ⟨g', t', cs, fuel, p, h1, h2, h3, h4⟩ := h
 obtain rfl := Option.some.inj (hg.symm.trans h1)
 obtain rfl := Option.some.inj (ht.symm.trans h2)
 intro j v hv
 have hc := key fuel cs.toList p h4 j v hv
 have hcell : W.cell? ⟨g, j, none⟩ = some v := by
  rw [World.var?_cell hg h3 j, <- Array.getElem?_toList]; exact hc
 exact ⟨World.block_lt_of_cell? W _ hcell, hcell⟩
theorem ints_at {P : Program} {W : World} {t e : TypeId} {n : Nat} {k : IntKind} {d : DataW Unit} (zs : List Int) (hd : d = tabData k zs) (ht : P.underlying t = some (.array n e)) (he : P.underlying e = some (.int k)) (hce : P.cellsOf e = 1) (hct : P.cellsOf t = n) :
  ∀ (fuel : Nat) (cs : List Value) (p : List MemPlace), DataW.trod (fun _ => ()) P W 0 (fun _ => true) false fuel t cs = some (d, p) -> ∀ (j : Nat) (v : Value), (dcs d)[j]? = some v -> cs[j]? = some v := by
 subst hd
 intro fuel cs p h j v hv
 rw [cells_of_tab ht he hce hct h]
 rw [tabData, dcs, dcsl_ints] at hv
 exact hv
theorem rows_at {P : Program} {W : World} {t e : TypeId} {n : Nat} {k : IntKind} {d : DataW Unit} {fs : Array Field} (rows : List (List Int)) (hd : d = .agg (rows.map fun r => .agg (r.map fun z => .lit (.int k z)))) (hn : rows.length = n) (ht : P.underlying t = some (.array n e)) (he : P.underlying e = some (.struct fs))
  (hf : ∀ (i : Nat) (f : Field), fs[i]? = some f -> P.underlying f.type = some (.int k) /\ f.offset = i /\ P.cellsOf f.type = 1) (hce : P.cellsOf e = fs.size) :
  ∀ (fuel : Nat) (cs : List Value) (p : List MemPlace), DataW.trod (fun _ => ()) P W 0 (fun _ => true) false fuel t cs = some (d, p) -> ∀ (j : Nat) (v : Value), (dcs d)[j]? = some v -> cs[j]? = some v := by
 subst hd
 intro fuel cs p h j v hv
 have key : ∀ i, i <= n -> cs.take (i * fs.size) = dcsl ((rows.take i).map fun r => .agg (r.map fun z => .lit (.int k z))) := by
  intro i
  induction i with
  | zero => intro _; rw [Nat.zero_mul, List.take_zero, List.take_zero]; rfl
  | succ i ih =>
   intro hi
   obtain ⟨fuel', d', q, hdi, he'⟩ := array_elem ht h i (by omega)
   rw [List.getElem?_map, List.getElem?_eq_getElem (by omega : i < rows.length)] at hdi
   simp only [Option.map_some, Option.some.injEq] at hdi
   subst hdi
   rw [hce] at he'
   have hcs := ints_of_struct he hf hce he'
   rw [Nat.succ_mul, List.take_add, ih (by omega), hcs, List.take_succ_eq_append_getElem (by omega : i < rows.length), List.map_append]
   have app : ∀ (a b : List (DataW Unit)), dcsl (a ++ b) = dcsl a ++ dcsl b := fun a b => by
    induction a with
    | nil => rfl
    | cons x a ih => rw [List.cons_append, dcsl, dcsl, ih, List.append_assoc]
   rw [app, List.map_cons, List.map_nil, dcsl, dcs, dcsl_ints]
   simp [dcsl]
 have h2 := key n (Nat.le_refl _)
 rw [<- hn, List.take_length] at h2
 rw [dcs, <- h2] at hv
 rw [List.getElem?_take] at hv
 split at hv
 ·exact hv
 ·cases hv
abbrev knownU8 : Known := ⟨[0, 1]⟩
theorem knownU8_ok : @KnownU8 knownU8 := @KnownU8.mk knownU8 (List.mem_cons_self ..) (List.mem_cons_of_mem _ (List.mem_cons_self ..))
def firstZ : List Int := Pinned.utf8FirstZ.map Int.ofNat
def acceptZ : List (List Int) := [[128, 191], [160, 191], [128, 159], [144, 191], [128, 143], [0, 0], [0, 0], [0, 0], [0, 0], [0, 0], [0, 0], [0, 0], [0, 0], [0, 0], [0, 0], [0, 0]]
theorem gls_u8 {W : World} {laid : List (String × DataW Unit)} (h1 : ("unicode/utf8.first", Rows.laid_unicode_utf8_first) ∈ laid) (h2 : ("unicode/utf8.acceptRanges", Rows.laid_unicode_utf8_acceptRanges) ∈ laid) (h : laidMet Tryz.prog laid W) : @Gls knownU8 (g0 W).C W := by
 have r1 := laidMet.reads h h1
 have r2 := laidMet.reads h h2
 have c1 := cells_at (P := Tryz.prog) (g := 0) (t := 177) (by kernel_rfl) (by kernel_rfl) r1 (ints_at firstZ (by kernel_rfl) (n := 256) (by kernel_rfl) Tryz.underlying5 (by kernel_rfl) (by kernel_rfl))
 have c2 := cells_at (P := Tryz.prog) (g := 1) (t := 180) (by kernel_rfl) (by kernel_rfl) r2 (rows_at acceptZ (by kernel_rfl) (n := 16) rfl Tryz.underlying180 Tryz.underlying179 (fun i f hf => by
  match i, hf with
  | 0, hf => simp at hf; subst hf; exact ⟨Tryz.underlying5, rfl, by kernel_rfl⟩
  | 1, hf => simp at hf; subst hf; exact ⟨Tryz.underlying5, rfl, by kernel_rfl⟩
  | i + 2, hf => simp at hf) (by kernel_rfl))
 refine ⟨fun k cs hk => ?_, fun k t hk => ?_⟩
 ·obtain ⟨hk, hm⟩ := hk
  simp only [tabs, List.mem_cons, List.not_mem_nil, or_false, Prod.mk.injEq] at hm
  have hk : k ∈ [0, 1] := hk
  simp only [List.mem_cons, List.not_mem_nil, or_false] at hk
  clear r1 r2 h1 h2 h
  rcases hk with rfl | rfl
  all_goals repeat' (refine Or.elim hm (fun hm => ?_) (fun hm => ?_))
  all_goals first
   | (obtain ⟨h, rfl⟩ := hm; exact c1)
   | (obtain ⟨h, rfl⟩ := hm; exact c2)
   | (obtain ⟨h, _⟩ := hm; exact absurd h (by decide))
 ·obtain ⟨hk, hm⟩ := hk
  have hk : k ∈ [0, 1] := hk
  simp only [List.mem_cons, List.not_mem_nil, or_false] at hk
  simp only [tabI, List.mem_cons, List.not_mem_nil, or_false, Prod.mk.injEq] at hm
  all_goals omega
end Go.Proofs.YtpodhnaofhfinaaGreatDoor
end
section
open Go.RowKit Go.Pl Go.Av
namespace Go.Proofs.YtpodhnaofhfinaaGreatDoor
theorem reportBack_walk (c0 : List Value) (c1 : List Value) (c2 : List Value) (v3 : Value) (x0 : XRp) (x1 : XE) (x2 : XId) (x3 : List UInt8) (W : World) (h0 : RRp.ok W (· < W.heap.size) c0 x0) (h1 : RE.ok W (· < W.heap.size) c1 x1) (h2 : Go.Pl.RI.ok W (· < W.heap.size) c2 x2) (h3 : Sl Rep.byte W (· < W.heap.size) v3 x3) (hl : laidMet Tryz.prog Rows.reportBackRow.laid W) :
  Calls Tryz.prog 4 #[.agg c0.toArray, .agg c1.toArray, .agg c2.toArray, v3] W fun e w' => e = .returned (.bool true) /\ Below W.heap.size W w' := by
 have hg := gls_u8 (laid := Rows.reportBackRow.laid) (by unfold Rows.reportBackRow; repeat (first | exact List.mem_cons_self .. | apply List.mem_cons_of_mem)) (by unfold Rows.reportBackRow; repeat (first | exact List.mem_cons_self .. | apply List.mem_cons_of_mem)) hl
 have h := @av_reportBack knownU8 knownU8_ok x0.v x1.v x2.1.v x2.2.1 x2.2.2 x3 
 refine @topG knownU8 Tryz.prog 4 _ (@AC.mono knownU8 _ _ _ _ _ _ _ h fun r b t h => h.1) W [.agg c0.toArray, .agg c1.toArray, .agg c2.toArray, v3] hg rfl ?_
 intro j d v hd hv
 match j, hd, hv with
 | 0, hd, hv => cases hd; cases hv; exact @rp_V knownU8 _ _ _ h0
 | 1, hd, hv => cases hd; cases hv; exact @eid_V knownU8 _ _ _ h1
 | 2, hd, hv => cases hd; cases hv; exact @id_V knownU8 _ _ _ h2
 | 3, hd, hv => cases hd; cases hv; exact bytes_V h3
 | j + 4, hd, hv => cases hd
end Go.Proofs.YtpodhnaofhfinaaGreatDoor
end
