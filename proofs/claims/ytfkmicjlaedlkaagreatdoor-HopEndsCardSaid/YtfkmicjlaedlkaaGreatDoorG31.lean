/- HopEnds: a bundle with hops is refused when they are used up. -/
import Derived.Test.YtfkmicjlaedlkaaGreatDoorG30
import Derived.Test.YtfkmicjlaedlkaaGreatDoorG01
import Derived.Test.YtfkmicjlaedlkaaGreatDoorG26
import Derived.Test.YtfkmicjlaedlkaaGreatDoorG06
import Derived.Test.YtfkmicjlaedlkaaGreatDoorG10
import Derived.Test.YtfkmicjlaedlkaaGreatDoorG24
import Derived.Test.YtfkmicjlaedlkaaGreatDoorG27
import Derived.Test.YtfkmicjlaedlkaaGreatDoorProg
import Derived.Lib.LaidU8
set_option linter.unusedVariables false
set_option linter.unusedSimpArgs false
section
open Go.RowKit Go.Pl Go.Av
namespace Go.Proofs.YtfkmicjlaedlkaaGreatDoor
set_option maxHeartbeats 4000000
theorem LeftH_top {b : BunV} {since now : Nat} (he : (LeftH b since now).2 = 0) : now <= 1099511627776 := by
 obtain ⟨hr, _⟩ := LeftH_right he
 rw [LeftH_2] at he
 unfold askH at he
 rw [hr] at he
 dsimp only at he
 cases c : (decide ((since : Int) > (now : Int)) || decide ((now : Int) > 1099511627776)) with
 | true => rw [c] at he; simp at he
 | false =>
  rw [Bool.or_eq_false_iff, decide_eq_false_iff_not, decide_eq_false_iff_not] at c
  omega
theorem ask_ok {b : BunV} {since now : Nat} (h : rightBn b = true) (h4 : since <= now) (h5 : now <= 1099511627776) : askH b since now = 0 := by
 rw [<- LeftH_2, LeftH_ok h h4 h5]
theorem on_mid {b : BunV} {self : EidV} {since now : Int} (ha : askH b since now = 0) (ho : overH b since now = false) (hs : spentH b = false) : onH b self since now = (bn0, 3) \/ ∃ out, onH b self since now = (out, 0) := by
 unfold onH
 rw [ha, ho, hs]
 split
 ·exact .inl rfl
 ·rw [show ((0 : Int) != 0) = false from rfl]
  dsimp only
  rcases onEnd_err (p := b.p) (o := onC self (IntKind.u64.wrap (now - since)) (onPre b self) b.bl) with h | ⟨l, h⟩
  ·exact .inl h
  ·exact .inr ⟨_, h⟩
theorem on_last {b : BunV} {self : EidV} {since now : Int} (ha : askH b since now = 0) (ho : overH b since now = false) (hs : spentH b = true) : onH b self since now = match (!eRight self || zE self) with
  | true => (bn0, 3)
  | false => (bn0, 19) := by
 unfold onH
 rw [ha, ho, hs]
 rw [show ((0 : Int) == 3) = false from rfl, Bool.false_or]
 cases (!eRight self || zE self) <;> rfl
theorem sent_over {b out : BunV} {self : EidV} {now : Nat} (h : Sent b out self now now) : overH out now now = overH b now now := by
 have h1 := LeftH_ok h.right (Nat.le_refl now) h.top
 have h2 := LeftH_ok h.was (Nat.le_refl now) h.top
 have h3 := (sent_age h).2
 have h4 : ageH out = ageH b := by
  rw [h3]
  unfold ageH
  cases b.bl.find? (isTy 7) with
  | none => rfl
  | some c => show ageB c + (now - now) = ageB c; omega
 unfold overH
 rw [h1, h2, h.p, h4]
structure OnWay (b : BunV) (L i now : Nat) : Prop where
 ok : BunOk b
 right : rightBn b = true
 over : overH b now now = false
 hops : ∃ c, b.bl.find? (isTy 10) = some c /\ hopL c = L /\ hopN c = i /\ askV c 10 = 0
theorem OnWay.spent {b : BunV} {L i now : Nat} (h : OnWay b L i now) : spentH b = decide (L <= i) := by
 obtain ⟨c, h1, h2, h3, h4⟩ := h.hops
 unfold spentH
 rw [h1]
 show ((askV c 10 == 0) && decide ((hopN c : Int) ≥ (hopL c : Int))) = _
 rw [h2, h3, h4]
 show decide ((i : Int) ≥ (L : Int)) = _
 by_cases e : L <= i
 ·rw [decide_eq_true e]; exact decide_eq_true (by omega)
 ·rw [decide_eq_false e]; exact decide_eq_false (by omega)
theorem OnWay.len {b : BunV} {L i now : Nat} (h : OnWay b L i now) : b.bl.length <= 1000 := by
 have := (fit_right_all (Bool.and_eq_true_iff.1 h.right).1).1
 omega
theorem OnWay.next {b out : BunV} {self : EidV} {L i now : Nat} (h : OnWay b L i now) (hi : i < 1000) (hs : Sent b out self now now) : OnWay out L (i + 1) now := by
 refine ⟨right_ok h.ok hs, hs.right, by rw [sent_over hs]; exact h.over, ?_⟩
 obtain ⟨c, h1, h2, h3, h4⟩ := h.hops
 have h5 := sent_hops h.ok hs
 rw [h1] at h5
 obtain ⟨d, d1, d2, d3, d4⟩ := h5
 refine ⟨d, d1, d2.trans h2, ?_, d4⟩
 rw [d3, h3]
 unfold add64
 rw [IntWalk.u64_in _ (by omega)]
 omega
theorem fit_hop {b : BunV} {c : BlkV} (hr : rightBn b = true) (hf : b.bl.find? (isTy 10) = some c) : bkRight c = true /\ c.ty = 10 :=
 ⟨(fit_right_all (Bool.and_eq_true_iff.1 hr).1).2 c (List.mem_of_find?_eq_some hf), isTy_eq (List.find?_some hf)⟩
theorem hops_le {c : BlkV} (h : bkRight c = true /\ c.ty = 10) : hopN c <= hopL c /\ hopL c <= 255 := by
 obtain ⟨hr, ht⟩ := h
 have h0 := ask_0 hr ht
 unfold hopN hopL
 rw [h0]
 rw [show ((0 : Int) != 0) = false from rfl]
 dsimp only
 unfold bkRight at hr
 simp only [Bool.and_eq_true] at hr
 have hd := hr.2.2.2.2
 unfold dataV at hd
 rw [Bool.and_eq_true] at hd
 have hk := hd.1
 unfold dataK at hk
 rw [ht] at hk
 have hk : (hopsV c.data).2.2 = true := hk
 unfold hopsV at hk ⊢
 generalize (readI c.data 0).1 = x at *
 generalize shortI c.data = ok at *
 unfold hopsX at hk ⊢
 repeat' (first | split at hk | (dsimp only at hk))
 all_goals first | (cases hk; done) | skip
 all_goals simp only [Bool.and_eq_true, decide_eq_true_eq] at hk
 all_goals simp_all
 all_goals omega
end Go.Proofs.YtfkmicjlaedlkaaGreatDoor
end
section
open Go.RowKit Go.Pl Go.Av
namespace Go.Proofs.YtfkmicjlaedlkaaGreatDoor
set_option maxHeartbeats 4000000
theorem av_hopEnds [Known] [KnownU8] (b : BunV) (hb : b.p.fl < 18446744073709551616 /\ ∀ c ∈ b.bl, c.fl < 18446744073709551616) (self : EidV) (now : Nat) : AP Tryz.prog 5 [.agg (bnC b), .agg (eC self), .int .u64 (now : Int)] (.bool true) [] := by
 have hA := av_alive10
 have hG := av_great8 b
 cases hg : greatBn b with
 | true =>
  rw [hg] at hG
  obtain ⟨⟨fl, sum, ⟨di, dn, ds, dh, dd⟩, ⟨ri, rn, rs, rh, rd⟩, ⟨xi, xn, xs, xh, xd⟩, t, q, life⟩, bl⟩ := b
  obtain ⟨si, sn, ss, sh, sd⟩ := self
  refine AP.ofA ?_
  refine AC_of Tryz.func5 rfl Tryz.ntmps5 rfl rfl ?_
  repeat' (first | (apply AL_callPw (hG); kernel_rfl; (iterate 4 exact rfl)) | (apply AL_callPw (hA); kernel_rfl; (iterate 4 exact rfl)) | (apply AL_go ttok; exact rfl) | (apply AW_go ttok; exact rfl) | (apply K_go ttok; exact rfl) | (apply AL_guardFf; (iterate 3 exact rfl); (first | with_reducible assumption | decide +kernel)) | (apply AL_pickT; exact rfl; (first | with_reducible assumption | decide +kernel); exact rfl; exact rfl) | (apply AW_condA; exact rfl; (first | with_reducible assumption | decide +kernel)))
  all_goals (apply endQ []; (apply resG_ok ttok; exact rfl); (iterate 4 exact rfl))
  all_goals rfl
 | false =>
 rw [hg] at hG
 have hok : BunOk b := ⟨hb.1, by have := (great_no hg).1; omega, fun c hc => ⟨hb.2 c hc, Nat.le_trans ((great_no hg).2 c hc) (by omega)⟩⟩
 have h20 := (great_no hg).1
 clear hg
 cases t0 : decide (IntKind.i64.wrap ((self.h.length : Int) + (self.d.length : Int)) > 300) with
 | true =>
  clear hok hb h20
  obtain ⟨⟨fl, sum, ⟨di, dn, ds, dh, dd⟩, ⟨ri, rn, rs, rh, rd⟩, ⟨xi, xn, xs, xh, xd⟩, t, q, life⟩, bl⟩ := b
  obtain ⟨si, sn, ss, sh, sd⟩ := self
  dsimp only at t0
  refine AP.ofA ?_
  refine AC_of Tryz.func5 rfl Tryz.ntmps5 rfl rfl ?_
  repeat' (first | (apply AL_callPw (hG); kernel_rfl; (iterate 4 exact rfl)) | (apply AL_callPw (hA); kernel_rfl; (iterate 4 exact rfl)) | (apply AL_go ttok; exact rfl) | (apply AW_go ttok; exact rfl) | (apply K_go ttok; exact rfl) | (apply AL_guardT; (iterate 3 exact rfl); (first | with_reducible assumption | decide +kernel)) | (apply AL_pickF; exact rfl; (first | with_reducible assumption | decide +kernel); exact rfl; exact rfl) | (apply AW_condA; exact rfl; (first | with_reducible assumption | decide +kernel)) | (apply AL_lens ttok; (iterate 4 exact rfl)))
  all_goals (apply endQ []; (apply resG_ok ttok; exact rfl); (iterate 4 exact rfl))
  all_goals rfl
 | false =>
 have hF := av_find b 10 hok.len (fun c hc => Nat.le_trans (hok.bl c hc).2 (by omega))
 have hV := av_hOver b hok (now : Int) (now : Int)
 cases hf : b.bl.find? (isTy 10) with
 | none =>
  rw [hf] at hF
  have hH := av_hopsH bk0 (by decide)
  dsimp only [findD] at hF
  generalize hopL bk0 = L0 at *
  generalize hopN bk0 = N0 at *
  generalize askV bk0 10 = e at *
  generalize overH b now now = ov at *
  generalize (LeftH b now now).2 = lf at *
  clear hok hb h20 hf
  obtain ⟨⟨fl, sum, ⟨di, dn, ds, dh, dd⟩, ⟨ri, rn, rs, rh, rd⟩, ⟨xi, xn, xs, xh, xd⟩, t, q, life⟩, bl⟩ := b
  obtain ⟨si, sn, ss, sh, sd⟩ := self
  dsimp only at t0
  refine AP.ofA ?_
  refine AC_of Tryz.func5 rfl Tryz.ntmps5 rfl rfl ?_
  repeat' (first | (apply AL_callPw (hG); kernel_rfl; (iterate 4 exact rfl)) | (apply AL_callPw (hA); kernel_rfl; (iterate 4 exact rfl)) | (apply AL_callPw (hF); kernel_rfl; (iterate 4 exact rfl)) | (apply AL_callPw (hH); kernel_rfl; (iterate 4 exact rfl)) | (apply AL_callPw (hV); kernel_rfl; (iterate 4 exact rfl)) | (apply AL_go ttok; exact rfl) | (apply AW_go ttok; exact rfl) | (apply K_go ttok; exact rfl) | (apply AL_guardT; (iterate 3 exact rfl); (first | with_reducible assumption | decide +kernel)) | (apply AL_guardFf; (iterate 3 exact rfl); (first | with_reducible assumption | decide +kernel)) | (apply AL_pickT; exact rfl; (first | with_reducible assumption | decide +kernel); exact rfl; exact rfl) | (apply AL_pickF; exact rfl; (first | with_reducible assumption | decide +kernel); exact rfl; exact rfl) | (apply AW_condA; exact rfl; (first | with_reducible assumption | decide +kernel)) | (apply AW_condB; exact rfl; (first | with_reducible assumption | decide +kernel)) | (apply AL_lens ttok; (iterate 4 exact rfl)))
  all_goals (apply endQ []; (apply resG_ok ttok; exact rfl); (iterate 4 exact rfl))
  all_goals rfl
 | some c =>
 rw [hf] at hF
 have hcm := List.mem_of_find?_eq_some hf
 have hH := av_hopsH c (Nat.le_trans (hok.bl c hcm).2 (by omega))
 dsimp only [findD] at hF
 cases t1 : (askV c 10 != 0) with
 | true =>
  generalize hopL c = L0 at *
  generalize hopN c = N0 at *
  generalize askV c 10 = e at *
  generalize overH b now now = ov at *
  generalize (LeftH b now now).2 = lf at *
  clear hok hb h20 hf hcm
  obtain ⟨cty, cnum, cfl, csum, cdata⟩ := c
  obtain ⟨⟨fl, sum, ⟨di, dn, ds, dh, dd⟩, ⟨ri, rn, rs, rh, rd⟩, ⟨xi, xn, xs, xh, xd⟩, t, q, life⟩, bl⟩ := b
  obtain ⟨si, sn, ss, sh, sd⟩ := self
  dsimp only at t0
  refine AP.ofA ?_
  refine AC_of Tryz.func5 rfl Tryz.ntmps5 rfl rfl ?_
  repeat' (first | (apply AL_callPw (hG); kernel_rfl; (iterate 4 exact rfl)) | (apply AL_callPw (hA); kernel_rfl; (iterate 4 exact rfl)) | (apply AL_callPw (hF); kernel_rfl; (iterate 4 exact rfl)) | (apply AL_callPw (hH); kernel_rfl; (iterate 4 exact rfl)) | (apply AL_callPw (hV); kernel_rfl; (iterate 4 exact rfl)) | (apply AL_go ttok; exact rfl) | (apply AW_go ttok; exact rfl) | (apply K_go ttok; exact rfl) | (apply AL_guardT; (iterate 3 exact rfl); (first | with_reducible assumption | decide +kernel)) | (apply AL_guardFf; (iterate 3 exact rfl); (first | with_reducible assumption | decide +kernel)) | (apply AL_pickT; exact rfl; (first | with_reducible assumption | decide +kernel); exact rfl; exact rfl) | (apply AL_pickF; exact rfl; (first | with_reducible assumption | decide +kernel); exact rfl; exact rfl) | (apply AW_condA; exact rfl; (first | with_reducible assumption | decide +kernel)) | (apply AW_condB; exact rfl; (first | with_reducible assumption | decide +kernel)) | (apply AL_lens ttok; (iterate 4 exact rfl)))
  all_goals (apply endQ []; (apply resG_ok ttok; exact rfl); (iterate 4 exact rfl))
  all_goals rfl
 | false =>
 have he0 : askV c 10 = 0 := by simpa using t1
 cases t2 : ((LeftH b now now).2 != 0) with
 | true =>
  generalize hopL c = L0 at *
  generalize hopN c = N0 at *
  generalize askV c 10 = e at *
  generalize overH b now now = ov at *
  generalize (LeftH b now now).2 = lf at *
  clear hok hb h20 hf hcm
  obtain ⟨cty, cnum, cfl, csum, cdata⟩ := c
  obtain ⟨⟨fl, sum, ⟨di, dn, ds, dh, dd⟩, ⟨ri, rn, rs, rh, rd⟩, ⟨xi, xn, xs, xh, xd⟩, t, q, life⟩, bl⟩ := b
  obtain ⟨si, sn, ss, sh, sd⟩ := self
  dsimp only at t0
  refine AP.ofA ?_
  refine AC_of Tryz.func5 rfl Tryz.ntmps5 rfl rfl ?_
  repeat' (first | (apply AL_callPw (hG); kernel_rfl; (iterate 4 exact rfl)) | (apply AL_callPw (hA); kernel_rfl; (iterate 4 exact rfl)) | (apply AL_callPw (hF); kernel_rfl; (iterate 4 exact rfl)) | (apply AL_callPw (hH); kernel_rfl; (iterate 4 exact rfl)) | (apply AL_callPw (hV); kernel_rfl; (iterate 4 exact rfl)) | (apply AL_go ttok; exact rfl) | (apply AW_go ttok; exact rfl) | (apply K_go ttok; exact rfl) | (apply AL_guardT; (iterate 3 exact rfl); (first | with_reducible assumption | decide +kernel)) | (apply AL_guardFf; (iterate 3 exact rfl); (first | with_reducible assumption | decide +kernel)) | (apply AL_pickT; exact rfl; (first | with_reducible assumption | decide +kernel); exact rfl; exact rfl) | (apply AL_pickF; exact rfl; (first | with_reducible assumption | decide +kernel); exact rfl; exact rfl) | (apply AW_condA; exact rfl; (first | with_reducible assumption | decide +kernel)) | (apply AW_condB; exact rfl; (first | with_reducible assumption | decide +kernel)) | (apply AL_lens ttok; (iterate 4 exact rfl)))
  all_goals (apply endQ []; (apply resG_ok ttok; exact rfl); (iterate 4 exact rfl))
  all_goals rfl
 | false =>
 have hlf : (LeftH b now now).2 = 0 := by simpa using t2
 rw [he0] at hH
 rw [hlf] at hV
 cases t3 : overH b now now with
 | true =>
  rw [t3] at hV
  generalize hopL c = L0 at *
  generalize hopN c = N0 at *
  clear hok hb h20 hf hcm he0 hlf t1 t2 t3
  obtain ⟨cty, cnum, cfl, csum, cdata⟩ := c
  obtain ⟨⟨fl, sum, ⟨di, dn, ds, dh, dd⟩, ⟨ri, rn, rs, rh, rd⟩, ⟨xi, xn, xs, xh, xd⟩, t, q, life⟩, bl⟩ := b
  obtain ⟨si, sn, ss, sh, sd⟩ := self
  dsimp only at t0
  refine AP.ofA ?_
  refine AC_of Tryz.func5 rfl Tryz.ntmps5 rfl rfl ?_
  repeat' (first | (apply AL_callPw (hG); kernel_rfl; (iterate 4 exact rfl)) | (apply AL_callPw (hA); kernel_rfl; (iterate 4 exact rfl)) | (apply AL_callPw (hF); kernel_rfl; (iterate 4 exact rfl)) | (apply AL_callPw (hH); kernel_rfl; (iterate 4 exact rfl)) | (apply AL_callPw (hV); kernel_rfl; (iterate 4 exact rfl)) | (apply AL_go ttok; exact rfl) | (apply AW_go ttok; exact rfl) | (apply K_go ttok; exact rfl) | (apply AL_guardT; (iterate 3 exact rfl); (first | with_reducible assumption | decide +kernel)) | (apply AL_guardFf; (iterate 3 exact rfl); (first | with_reducible assumption | decide +kernel)) | (apply AL_pickT; exact rfl; (first | with_reducible assumption | decide +kernel); exact rfl; exact rfl) | (apply AL_pickF; exact rfl; (first | with_reducible assumption | decide +kernel); exact rfl; exact rfl) | (apply AW_condA; exact rfl; (first | with_reducible assumption | decide +kernel)) | (apply AW_condB; exact rfl; (first | with_reducible assumption | decide +kernel)) | (apply AL_lens ttok; (iterate 4 exact rfl)))
  all_goals (apply endQ []; (apply resG_ok ttok; exact rfl); (iterate 4 exact rfl))
  all_goals rfl
 | false =>
 rw [t3] at hV
 cases t4 : decide (IntKind.u64.wrap ((hopL c : Int) - (hopN c : Int)) > 40) with
 | true =>
  generalize hopL c = L0 at *
  generalize hopN c = N0 at *
  clear hok hb h20 hf hcm he0 hlf t1 t2 t3
  obtain ⟨cty, cnum, cfl, csum, cdata⟩ := c
  obtain ⟨⟨fl, sum, ⟨di, dn, ds, dh, dd⟩, ⟨ri, rn, rs, rh, rd⟩, ⟨xi, xn, xs, xh, xd⟩, t, q, life⟩, bl⟩ := b
  obtain ⟨si, sn, ss, sh, sd⟩ := self
  dsimp only at t0
  refine AP.ofA ?_
  refine AC_of Tryz.func5 rfl Tryz.ntmps5 rfl rfl ?_
  repeat' (first | (apply AL_callPw (hG); kernel_rfl; (iterate 4 exact rfl)) | (apply AL_callPw (hA); kernel_rfl; (iterate 4 exact rfl)) | (apply AL_callPw (hF); kernel_rfl; (iterate 4 exact rfl)) | (apply AL_callPw (hH); kernel_rfl; (iterate 4 exact rfl)) | (apply AL_callPw (hV); kernel_rfl; (iterate 4 exact rfl)) | (apply AL_go ttok; exact rfl) | (apply AW_go ttok; exact rfl) | (apply K_go ttok; exact rfl) | (apply AL_guardT; (iterate 3 exact rfl); (first | with_reducible assumption | decide +kernel)) | (apply AL_pickF; exact rfl; (first | with_reducible assumption | decide +kernel); exact rfl; exact rfl) | (apply AW_condA; exact rfl; (first | with_reducible assumption | decide +kernel)) | (apply AW_condB; exact rfl; (first | with_reducible assumption | decide +kernel)) | (apply AL_lens ttok; (iterate 4 exact rfl)))
  all_goals (apply endQ []; (apply resG_ok ttok; exact rfl); (iterate 4 exact rfl))
  all_goals rfl
 | false =>
 obtain ⟨hr, _⟩ := LeftH_right hlf
 have htop := LeftH_top hlf
 obtain ⟨hle, hl255⟩ := hops_le (fit_hop hr hf)
 have hway : OnWay b (hopL c) (hopN c) now := ⟨hok, hr, t3, c, hf, rfl, rfl, he0⟩
 have hE := av_eRight self
 generalize hopL c = L at *
 generalize hopN c = N at *
 clear hcm he0 hlf t1 t2 t3 hok hb h20 hf hr
 obtain ⟨cty, cnum, cfl, csum, cdata⟩ := c
 have hbw := hway
 obtain ⟨⟨fl, sum, ⟨di, dn, ds, dh, dd⟩, ⟨ri, rn, rs, rh, rd⟩, ⟨xi, xn, xs, xh, xd⟩, t, q, life⟩, bl⟩ := b
 obtain ⟨si, sn, ss, sh, sd⟩ := self
 dsimp only at t0
 refine AP.ofA ?_
 refine AC_of Tryz.func5 rfl Tryz.ntmps5 rfl rfl ?_
 repeat' (first | (apply AL_callPw (hG); kernel_rfl; (iterate 4 exact rfl)) | (apply AL_callPw (hF); kernel_rfl; (iterate 4 exact rfl)) | (apply AL_callPw (hH); kernel_rfl; (iterate 4 exact rfl)) | (apply AL_callPw (hV); kernel_rfl; (iterate 4 exact rfl)) | (apply AL_go ttok; exact rfl) | (apply AW_go ttok; exact rfl) | (apply K_go ttok; exact rfl) | (apply AL_guardT; (iterate 3 exact rfl); (first | with_reducible assumption | decide +kernel)) | (apply AL_pickF; exact rfl; (first | with_reducible assumption | decide +kernel); exact rfl; exact rfl) | (apply AW_condB; exact rfl; (first | with_reducible assumption | decide +kernel)) | (apply AL_lens ttok; (iterate 4 exact rfl)))
 show AW _ _ _ _
 refine AW_loopJ (fun f tm bx fr => ∃ (i : Nat) (bi : BunV), f + i = L /\ N <= i /\ OnWay bi L i now /\ tm = [(2, .int .u64 (now : Int)), (3, .ptr 0 0), (4, .ptr 1 0), (9, .int .u64 (L : Int)), (10, .int .u64 (N : Int)), (14, .int .u64 (i : Int))] /\ bx = [bnC bi, [.bool si, .int .u64 (sn : Int), .int .u64 (ss : Int), .str sh, .str sd]] /\ fr = []) (L - N + 1) (Lands.mk' (m := L - N) (Nat.lt_succ_self _) ⟨N, _, by omega, by omega, hbw, rfl, rfl, rfl⟩ ?_ rfl rfl rfl rfl rfl rfl) ?_
 ·exact .cons rfl (.cons rfl (.cons rfl (.cons rfl (.cons rfl (.cons rfl .nil)))))
 rintro f tm bx fr ⟨i, bi, hf, hNi, hw, rfl, rfl, rfl⟩
 have hO := av_hOn bi hw.ok hw.len ⟨si, sn, ss, sh, sd⟩ (now : Int) (now : Int)
 have ha := ask_ok hw.right (Nat.le_refl now) htop
 have hsp := hw.spent
 rcases Nat.lt_or_ge i L with hlt | hge
 ·have hdl : decide ((i : Int) < (L : Int)) = true := decide_eq_true (by omega)
  have ei : IntKind.u64.wrap ((i : Int) + 1) = ((i + 1 : Nat) : Int) := by rw [IntWalk.u64_in _ (by omega)]; omega
  rcases on_mid (self := ⟨si, sn, ss, sh, sd⟩) ha hw.over (hsp.trans (decide_eq_false (by omega))) with ho | ⟨out, ho⟩
  ·rw [ho] at hO
   replace hO : AP Tryz.prog 31 _ (.tup [.agg (bnC bn0), .int .i64 3]) [] := hO
   clear ho hsp ha hw hbw hway hle hl255
   obtain ⟨⟨fl', sum', ⟨di', dn', ds', dh', dd'⟩, ⟨ri', rn', rs', rh', rd'⟩, ⟨xi', xn', xs', xh', xd'⟩, t', q', life'⟩, bl'⟩ := bi
   cases t5 : ((i : Int) == (N : Int))
   all_goals
    repeat' (first | (apply AL_callPw (hO); kernel_rfl; (iterate 4 exact rfl)) | (apply AL_callPw (hA); kernel_rfl; (iterate 4 exact rfl)) | (apply AL_go ttok; exact rfl) | (apply AW_go ttok; exact rfl) | (apply K_go ttok; exact rfl) | (apply AL_guardT; (iterate 3 exact rfl); (first | with_reducible assumption | decide +kernel)) | (apply AL_pickT; exact rfl; (first | with_reducible assumption | decide +kernel); exact rfl; exact rfl) | (apply AW_condA; exact rfl; (first | with_reducible assumption | decide +kernel)) | (apply AW_condB; exact rfl; (first | with_reducible assumption | decide +kernel)))
    all_goals (apply endQ []; (apply resG_ok ttok; exact rfl); (iterate 4 exact rfl))
    all_goals rfl
  ·have hn := hw.next (by omega) (on_sent ho)
   rw [ho] at hO
   replace hO : AP Tryz.prog 31 _ (.tup [.agg (bnC out), .int .i64 0]) [] := hO
   clear ho hsp ha hw hbw hway
   obtain ⟨⟨fl', sum', ⟨di', dn', ds', dh', dd'⟩, ⟨ri', rn', rs', rh', rd'⟩, ⟨xi', xn', xs', xh', xd'⟩, t', q', life'⟩, bl'⟩ := bi
   obtain ⟨⟨fl2, sum2, ⟨di2, dn2, ds2, dh2, dd2⟩, ⟨ri2, rn2, rs2, rh2, rd2⟩, ⟨xi2, xn2, xs2, xh2, xd2⟩, t2', q2, life2⟩, bl2⟩ := out
   repeat' (first | rw [ei] | (apply AL_callPw (hO); kernel_rfl; (iterate 4 exact rfl)) | (apply AL_go ttok; exact rfl) | (apply AW_go ttok; exact rfl) | (apply K_go ttok; exact rfl) | (apply AL_guardFt; (iterate 3 exact rfl); (first | with_reducible assumption | decide +kernel)) | (apply AL_pickF; exact rfl; (first | with_reducible assumption | decide +kernel); exact rfl; exact rfl) | (apply AW_condA; exact rfl; (first | with_reducible assumption | decide +kernel)) | (apply AW_condB; exact rfl; (first | with_reducible assumption | decide +kernel)))
   refine Lands.mk' (m := f - 1) (by omega) ⟨i + 1, _, by omega, by omega, hn, rfl, rfl, rfl⟩ ?_ rfl rfl rfl rfl rfl rfl
   exact .cons rfl (.cons rfl (.cons rfl (.cons rfl (.cons rfl (.cons rfl .nil)))))
 ·have hdl : decide ((i : Int) < (L : Int)) = false := decide_eq_false (by omega)
  have ho := on_last (self := ⟨si, sn, ss, sh, sd⟩) ha hw.over (hsp.trans (decide_eq_true hge))
  rw [ho] at hO
  clear ho hsp ha hw hbw hway hle hl255
  obtain ⟨⟨fl', sum', ⟨di', dn', ds', dh', dd'⟩, ⟨ri', rn', rs', rh', rd'⟩, ⟨xi', xn', xs', xh', xd'⟩, t', q', life'⟩, bl'⟩ := bi
  generalize hze : zE ⟨si, sn, ss, sh, sd⟩ = z at *
  generalize eRight ⟨si, sn, ss, sh, sd⟩ = er at *
  cases er with
  | false =>
   replace hO : AP Tryz.prog 31 _ (.tup [.agg (bnC bn0), .int .i64 3]) [] := hO
   repeat' (first | (apply AL_callPw (hO); kernel_rfl; (iterate 4 exact rfl)) | (apply AL_callPw (hA); kernel_rfl; (iterate 4 exact rfl)) | (apply AL_callPw (hE); kernel_rfl; (iterate 4 exact rfl)) | (apply AL_go ttok; exact rfl) | (apply AW_go ttok; exact rfl) | (apply AL_guardT; (iterate 3 exact rfl); (first | with_reducible assumption | decide +kernel)) | (apply AL_guardFf; (iterate 3 exact rfl); (first | with_reducible assumption | decide +kernel)) | (apply AL_pickT; exact rfl; (first | with_reducible assumption | decide +kernel); exact rfl; exact rfl) | (apply AL_pickF; exact rfl; (first | with_reducible assumption | decide +kernel); exact rfl; exact rfl) | (apply AW_condB; exact rfl; (first | with_reducible assumption | decide +kernel)))
   all_goals (apply endQ []; (apply resG_ok ttok; exact rfl); (iterate 4 exact rfl))
   all_goals rfl
  | true =>
   cases z with
   | true =>
    replace hO : AP Tryz.prog 31 _ (.tup [.agg (bnC bn0), .int .i64 3]) [] := hO
    repeat' (first | (apply AL_callPw (hO); kernel_rfl; (iterate 4 exact rfl)) | (apply AL_callPw (hA); kernel_rfl; (iterate 4 exact rfl)) | (apply AL_callPw (hE); kernel_rfl; (iterate 4 exact rfl)) | (apply AL_go ttok; exact rfl) | (apply AW_go ttok; exact rfl) | (apply AL_guardT; (iterate 3 exact rfl); (first | with_reducible assumption | decide +kernel)) | (apply AL_pickT; exact rfl; (first | with_reducible assumption | decide +kernel); exact rfl; exact rfl) | (apply AL_pickF; exact rfl; (first | with_reducible assumption | decide +kernel); exact rfl; exact rfl) | (apply AW_condB; exact rfl; (first | with_reducible assumption | decide +kernel)) | (apply AL_eqS ttok; (iterate 4 exact rfl); (kernel_rfl); (kernel_rfl); (iterate 3 exact rfl)))
    all_goals (apply endQ []; (apply resG_ok ttok; exact rfl); (iterate 4 exact rfl))
    all_goals first | rfl | exact congrArg D.bool hze
   | false =>
    replace hO : AP Tryz.prog 31 _ (.tup [.agg (bnC bn0), .int .i64 19]) [] := hO
    repeat' (first | (apply AL_callPw (hO); kernel_rfl; (iterate 4 exact rfl)) | (apply AL_callPw (hA); kernel_rfl; (iterate 4 exact rfl)) | (apply AL_go ttok; exact rfl) | (apply AW_go ttok; exact rfl) | (apply AL_guardT; (iterate 3 exact rfl); (first | with_reducible assumption | decide +kernel)) | (apply AL_guardFf; (iterate 3 exact rfl); (first | with_reducible assumption | decide +kernel)) | (apply AL_guardU; (iterate 3 exact rfl)) | (apply AL_pickT; exact rfl; (first | with_reducible assumption | decide +kernel); exact rfl; exact rfl) | (apply AW_condB; exact rfl; (first | with_reducible assumption | decide +kernel)))
    all_goals (apply endQ []; (apply resG_ok ttok; exact rfl); (iterate 4 exact rfl))
    all_goals rfl
end Go.Proofs.YtfkmicjlaedlkaaGreatDoor
end
section
open Go.RowKit Go.Pl
namespace Go.Pl
def OpensF {α : Type} (P : Program) (fs : Array Field) (i o : Nat) (R : Rep α) : Prop :=
 ∀ (H : Type) (enc : TypeId × Value -> H) (W : World) (spare : Nat -> Bool) (held : Bool) (n : Nat) (cs : List Value) (xs : List (DataW H × List MemPlace)), cs.length = o + R.n -> xs.length = fs.size ->
  (∀ (j : Nat) (f : Field), fs[j]? = some f -> DataW.trod enc P W 0 spare held n f.type ((cs.drop f.offset).take (P.cellsOf f.type)) = xs[j]?) -> ∃ x, R.ok W (· < W.heap.size) (cs.drop o) x
variable {P : Program} {t : TypeId} {fs : Array Field}
theorem opensF_at {α : Type} {R : Rep α} {i o : Nat} {f : Field} (hf : fs[i]? = some f) (ho : f.offset = o) (hc : P.cellsOf f.type = R.n) (h : Opens P f.type R) {H : Type} {enc : TypeId × Value -> H} {W : World} {spare : Nat -> Bool} {held : Bool} {n : Nat} {cs : List Value} {xs : List (DataW H × List MemPlace)} (hl : xs.length = fs.size)
  (hg : ∀ (j : Nat) (f : Field), fs[j]? = some f -> DataW.trod enc P W 0 spare held n f.type ((cs.drop f.offset).take (P.cellsOf f.type)) = xs[j]?) : ∃ x, R.ok W (· < W.heap.size) ((cs.drop o).take R.n) x := by
 have e := hg i f hf
 rw [ho, hc] at e
 have hi : i < xs.length := by
  rw [hl]
  exact (Array.getElem?_eq_some_iff.1 hf).1
 exact h H enc W spare held n _ _ (e.trans (List.getElem?_eq_getElem hi))
theorem opensF_one {α : Type} {R : Rep α} {i o : Nat} {f : Field} (hf : fs[i]? = some f) (ho : f.offset = o) (hc : P.cellsOf f.type = R.n) (h : Opens P f.type R) : OpensF P fs i o R := by
 intro H enc W spare held n cs xs hcl hl hg
 obtain ⟨x, hx⟩ := opensF_at hf ho hc h hl hg
 rw [List.take_of_length_le (by rw [List.length_drop]; omega)] at hx
 exact ⟨x, hx⟩
theorem opensF_cons {α β : Type} {R : Rep α} {R' : Rep β} {i o : Nat} {f : Field} (hf : fs[i]? = some f) (ho : f.offset = o) (hc : P.cellsOf f.type = R.n) (h : Opens P f.type R) (h' : OpensF P fs (i + 1) (o + R.n) R') : OpensF P fs i o (R.prod R') := by
 intro H enc W spare held n cs xs hcl hl hg
 obtain ⟨x, hx⟩ := opensF_at hf ho hc h hl hg
 have hn : (R.prod R').n = R.n + R'.n := rfl
 obtain ⟨x', hx'⟩ := h' H enc W spare held n cs xs (by rw [hn] at hcl; omega) hl hg
 refine ⟨(x, x'), (cs.drop o).take R.n, (cs.drop o).drop R.n, (List.take_append_drop _ _).symm, hx, ?_⟩
 rw [List.drop_drop]
 exact hx'
theorem opens_struct {α : Type} {R : Rep α} (hs : P.underlying t = some (.struct fs)) (hc : P.cellsOf t = R.n) (h : OpensF P fs 0 0 R) : Opens P t R := by
 intro H enc W spare held fuel cs y hy
 obtain ⟨xs, n, _, _, hl, hxl, hg⟩ := DataW.trod_struct hs hy
 exact h H enc W spare held n cs xs (by omega) hxl hg
end Go.Pl
end
section
open Go.RowKit Go.Pl Go.Av
namespace Go.Proofs.YtfkmicjlaedlkaaGreatDoor
set_option maxHeartbeats 4000000
abbrev RPr : Rep (Nat × Int × XE × XE × (XE × Nat × Nat) × Nat) := Rep.u64.prod (Rep.i64.prod (RE.prod (RE.prod (Go.Pl.RI.prod Rep.u64))))
theorem openPr : Opens Tryz.prog 28 RPr :=
 opens_struct Tryz.underlying28 (by kernel_rfl) (opensF_cons rfl rfl (by kernel_rfl) (opens_u64 Tryz.underlying22) (opensF_cons rfl rfl (by kernel_rfl) (opens_i64 Tryz.underlying3)
  (opensF_cons rfl rfl (by kernel_rfl) openE (opensF_cons rfl rfl (by kernel_rfl) openE (opensF_cons rfl rfl (by kernel_rfl) openI (opensF_one rfl rfl (by kernel_rfl) (opens_u64 Tryz.underlying22)))))))
abbrev XPr := Nat × Int × XE × XE × (XE × Nat × Nat) × Nat
def XPr.v (x : XPr) : PriV := ⟨x.1, x.2.1, x.2.2.1.v, x.2.2.2.1.v, x.2.2.2.2.1.1.v, x.2.2.2.2.1.2.1, x.2.2.2.2.1.2.2, x.2.2.2.2.2⟩
end Go.Proofs.YtfkmicjlaedlkaaGreatDoor
end
section
open Go.RowKit Go.Pl Go.Av
namespace Go.Proofs.YtfkmicjlaedlkaaGreatDoor
set_option maxHeartbeats 4000000
end Go.Proofs.YtfkmicjlaedlkaaGreatDoor
end
section
open Go.RowKit Go.Pl Go.Av
namespace Go.Proofs.YtfkmicjlaedlkaaGreatDoor
set_option maxHeartbeats 4000000
abbrev RB : Rep (Nat × Nat × Nat × Int × List UInt8) := Rep.u64.prod (Rep.u64.prod (Rep.u64.prod (Rep.i64.prod (Rep.slice Rep.byte (by decide)))))
theorem openB : Opens Tryz.prog 69 RB :=
 opens_struct Tryz.underlying69 (by kernel_rfl) (opensF_cons rfl rfl (by kernel_rfl) (opens_u64 Tryz.underlying22) (opensF_cons rfl rfl (by kernel_rfl) (opens_u64 Tryz.underlying22)
  (opensF_cons rfl rfl (by kernel_rfl) (opens_u64 Tryz.underlying22) (opensF_cons rfl rfl (by kernel_rfl) (opens_i64 Tryz.underlying3)
   (opensF_one rfl rfl (by kernel_rfl) (opens_slice (R := Rep.byte) (by decide) Tryz.underlying29 (by kernel_rfl) (opens_byte Tryz.underlying5)))))))
abbrev XB := Nat × Nat × Nat × Int × List UInt8
def XB.v (x : XB) : BlkV := ⟨x.1, x.2.1, x.2.2.1, x.2.2.2.1, x.2.2.2.2⟩
end Go.Proofs.YtfkmicjlaedlkaaGreatDoor
end
section
open Go.RowKit Go.Pl Go.Av
namespace Go.Proofs.YtfkmicjlaedlkaaGreatDoor
set_option maxHeartbeats 4000000
abbrev RBn : Rep ((Nat × Int × XE × XE × (XE × Nat × Nat) × Nat) × List XB) := RPr.prod (Rep.slice RB (by decide))
theorem openBn : Opens Tryz.prog 59 RBn :=
 opens_struct Tryz.underlying59 (by kernel_rfl) (opensF_cons rfl rfl (by kernel_rfl) openPr (opensF_one rfl rfl (by kernel_rfl) (opens_slice (R := RB) (by decide) Tryz.underlying57 (by kernel_rfl) openB)))
abbrev XBn := (Nat × Int × XE × XE × (XE × Nat × Nat) × Nat) × List XB
def XBn.v (x : XBn) : BunV := ⟨⟨x.1.1, x.1.2.1, x.1.2.2.1.v, x.1.2.2.2.1.v, x.1.2.2.2.2.1.1.v, x.1.2.2.2.2.1.2.1, x.1.2.2.2.2.1.2.2, x.1.2.2.2.2.2⟩, x.2.map XB.v⟩
theorem toE_bk : ToE RB (fun x => .agg [.int .u64 (x.1 : Int), .int .u64 (x.2.1 : Int), .int .u64 (x.2.2.1 : Int), .int .i64 x.2.2.2.1, .sl (x.2.2.2.2.map E.byte)]) := ToE.u64.prod (ToE.u64.prod (ToE.u64.prod (ToE.i64.prod (ToE.byte.slice (by decide)))))
theorem bn_V [Known] {W : World} {cs : List Value} {x : XBn} (h : RBn.ok W (· < W.heap.size) cs x) : V W (g0 W) [] (.agg (bnC x.v)) (.agg cs.toArray) := by
 obtain ⟨⟨fl, sum, ⟨di, dn, ds, dh, dd⟩, ⟨ri, rn, rs, rh, rd⟩, ⟨⟨xi, xn, xs, xh, xd⟩, t, q⟩, life⟩, bl⟩ := x
 have te := (ToE.u64.prod (ToE.i64.prod (toE_eid.prod (toE_eid.prod ((toE_eid.prod (ToE.u64.prod ToE.u64)).prod ToE.u64))))).prod (toE_bk.slice (by decide))
 have h2 := ToE.agg te (l := [.int .u64 (fl : Int), .int .i64 sum, .bool di, .int .u64 (dn : Int), .int .u64 (ds : Int), .str dh, .str dd, .bool ri, .int .u64 (rn : Int), .int .u64 (rs : Int), .str rh, .str rd, .bool xi, .int .u64 (xn : Int), .int .u64 (xs : Int), .str xh, .str xd, .int .u64 (t : Int), .int .u64 (q : Int), .int .u64 (life : Int), .sl (bl.map fun x => .agg [.int .u64 (x.1 : Int), .int .u64 (x.2.1 : Int), .int .u64 (x.2.2.1 : Int), .int .i64 x.2.2.2.1, .sl (x.2.2.2.2.map E.byte)])]) rfl h
 have e : bksE (bl.map XB.v) = bl.map fun x => .agg [.int .u64 (x.1 : Int), .int .u64 (x.2.1 : Int), .int .u64 (x.2.2.1 : Int), .int .i64 x.2.2.2.1, .sl (x.2.2.2.2.map E.byte)] := List.map_map ..
 rw [<- e] at h2
 exact h2
theorem run_each {α : Type} {R : Rep α} {w : World} {S : Nat -> Prop} : ∀ {l : List α} {cs : List Value}, Run R w S cs l -> ∀ x ∈ l, ∃ c, R.ok w S c x
 | [], _, _, x, hx => by simp at hx
 | y :: l, cs, ⟨c1, c2, _, h1, h2⟩, x, hx => by
  rcases List.mem_cons.1 hx with rfl | hx
  ·exact ⟨c1, h1⟩
  ·exact run_each h2 x hx
theorem bk_fl1 {W : World} {S : Nat -> Prop} {cs : List Value} {x : XB} (h : RB.ok W S cs x) : x.v.fl < 18446744073709551616 := by
 obtain ⟨ty, num, fl, sum, data⟩ := x
 obtain ⟨_, _, _, _, _, _, _, _, _, _, _, ⟨_, h1⟩, _⟩ := h
 exact h1
theorem bn_fl {W : World} {cs : List Value} {x : XBn} (h : RBn.ok W (· < W.heap.size) cs x) : x.v.p.fl < 18446744073709551616 /\ ∀ c ∈ x.v.bl, c.fl < 18446744073709551616 := by
 obtain ⟨⟨fl, r⟩, bl⟩ := x
 obtain ⟨_, _, _, ⟨_, _, _, ⟨_, h1⟩, _⟩, ⟨v, _, A, cap, _, _, _, c3, hr, _⟩⟩ := h
 refine ⟨h1, fun c hc => ?_⟩
 obtain ⟨y, hy, rfl⟩ := List.mem_map.1 hc
 obtain ⟨c4, h4⟩ := run_each hr y hy
 exact bk_fl1 h4
end Go.Proofs.YtfkmicjlaedlkaaGreatDoor
end
section
open Go.RowKit Go.Pl Go.Av Go.Lib
namespace Go.Proofs.YtfkmicjlaedlkaaGreatDoor
theorem dcsl_ints (k : IntKind) : ∀ zs : List Int, dcsl (zs.map fun z => .lit (.int k z)) = zs.map fun z => Value.int k z
 | [] => rfl
 | z :: zs => by rw [List.map_cons, List.map_cons, dcsl, dcsl_ints k zs]; rfl
theorem cells_at {P : Program} {W : World} {n : String} {g : Nat} {t : TypeId} {d : DataW Unit} (hg : P.globalNamed n = some g) (ht : (P.globals[g]?).map (·.type) = some t) (h : VarReads P W n d)
  (key : ∀ (fuel : Nat) (cs : List Value) (p : List MemPlace), DataW.trod (fun _ => ()) P W 0 (fun _ => true) false fuel t cs = some (d, p) -> ∀ (j : Nat) (v : Value), (dcs d)[j]? = some v -> cs[j]? = some v) :
  ∀ (j : Nat) (v : Value), (dcs d)[j]? = some v -> (g0 W).C g j /\ W.cell? ⟨g, j, none⟩ = some v := by
 obtain ⟨g', t', cs, fuel, p, h1, h2, h3, h4⟩ := h
 obtain rfl := Option.some.inj (hg.symm.trans h1)
 obtain rfl := Option.some.inj (ht.symm.trans h2)
 intro j v hv
 have hc := key fuel cs.toList p h4 j v hv
 have hcell : W.cell? ⟨g, j, none⟩ = some v := by
  rw [World.var?_cell hg h3 j, <- Array.getElem?_toList]; exact hc
 exact ⟨World.block_lt_of_cell? W _ hcell, hcell⟩
theorem ints_at {P : Program} {W : World} {t e : TypeId} {n : Nat} {k : IntKind} {d : DataW Unit} (zs : List Int) (hd : d = tabData k zs) (ht : P.underlying t = some (.array n e)) (he : P.underlying e = some (.int k)) (hce : P.cellsOf e = 1) (hct : P.cellsOf t = n) :
  ∀ (fuel : Nat) (cs : List Value) (p : List MemPlace), DataW.trod (fun _ => ()) P W 0 (fun _ => true) false fuel t cs = some (d, p) -> ∀ (j : Nat) (v : Value), (dcs d)[j]? = some v -> cs[j]? = some v := by
 subst hd
 intro fuel cs p h j v hv
 rw [cells_of_tab ht he hce hct h]
 rw [tabData, dcs, dcsl_ints] at hv
 exact hv
theorem rows_at {P : Program} {W : World} {t e : TypeId} {n : Nat} {k : IntKind} {d : DataW Unit} {fs : Array Field} (rows : List (List Int)) (hd : d = .agg (rows.map fun r => .agg (r.map fun z => .lit (.int k z)))) (hn : rows.length = n) (ht : P.underlying t = some (.array n e)) (he : P.underlying e = some (.struct fs))
  (hf : ∀ (i : Nat) (f : Field), fs[i]? = some f -> P.underlying f.type = some (.int k) /\ f.offset = i /\ P.cellsOf f.type = 1) (hce : P.cellsOf e = fs.size) :
  ∀ (fuel : Nat) (cs : List Value) (p : List MemPlace), DataW.trod (fun _ => ()) P W 0 (fun _ => true) false fuel t cs = some (d, p) -> ∀ (j : Nat) (v : Value), (dcs d)[j]? = some v -> cs[j]? = some v := by
 subst hd
 intro fuel cs p h j v hv
 have key : ∀ i, i <= n -> cs.take (i * fs.size) = dcsl ((rows.take i).map fun r => .agg (r.map fun z => .lit (.int k z))) := by
  intro i
  induction i with
  | zero => intro _; rw [Nat.zero_mul, List.take_zero, List.take_zero]; rfl
  | succ i ih =>
   intro hi
   obtain ⟨fuel', d', q, hdi, he'⟩ := array_elem ht h i (by omega)
   rw [List.getElem?_map, List.getElem?_eq_getElem (by omega : i < rows.length)] at hdi
   simp only [Option.map_some, Option.some.injEq] at hdi
   subst hdi
   rw [hce] at he'
   have hcs := ints_of_struct he hf hce he'
   rw [Nat.succ_mul, List.take_add, ih (by omega), hcs, List.take_succ_eq_append_getElem (by omega : i < rows.length), List.map_append]
   have app : ∀ (a b : List (DataW Unit)), dcsl (a ++ b) = dcsl a ++ dcsl b := fun a b => by
    induction a with
    | nil => rfl
    | cons x a ih => rw [List.cons_append, dcsl, dcsl, ih, List.append_assoc]
   rw [app, List.map_cons, List.map_nil, dcsl, dcs, dcsl_ints]
   simp [dcsl]
 have h2 := key n (Nat.le_refl _)
 rw [<- hn, List.take_length] at h2
 rw [dcs, <- h2] at hv
 rw [List.getElem?_take] at hv
 split at hv
 ·exact hv
 ·cases hv
abbrev knownU8 : Known := ⟨[0, 1]⟩
theorem knownU8_ok : @KnownU8 knownU8 := @KnownU8.mk knownU8 (List.mem_cons_self ..) (List.mem_cons_of_mem _ (List.mem_cons_self ..))
def firstZ : List Int := Pinned.utf8FirstZ.map Int.ofNat
def acceptZ : List (List Int) := [[128, 191], [160, 191], [128, 159], [144, 191], [128, 143], [0, 0], [0, 0], [0, 0], [0, 0], [0, 0], [0, 0], [0, 0], [0, 0], [0, 0], [0, 0], [0, 0]]
theorem gls_u8 {W : World} {laid : List (String × DataW Unit)} (h1 : ("unicode/utf8.first", Rows.laid_unicode_utf8_first) ∈ laid) (h2 : ("unicode/utf8.acceptRanges", Rows.laid_unicode_utf8_acceptRanges) ∈ laid) (h : laidMet Tryz.prog laid W) : @Gls knownU8 (g0 W).C W := by
 have r1 := laidMet.reads h h1
 have r2 := laidMet.reads h h2
 have c1 := cells_at (P := Tryz.prog) (g := 0) (t := 222) (by kernel_rfl) (by kernel_rfl) r1 (ints_at firstZ (by kernel_rfl) (n := 256) (by kernel_rfl) Tryz.underlying5 (by kernel_rfl) (by kernel_rfl))
 have c2 := cells_at (P := Tryz.prog) (g := 1) (t := 225) (by kernel_rfl) (by kernel_rfl) r2 (rows_at acceptZ (by kernel_rfl) (n := 16) rfl Tryz.underlying225 Tryz.underlying224 (fun i f hf => by
  match i, hf with
  | 0, hf => simp at hf; subst hf; exact ⟨Tryz.underlying5, rfl, by kernel_rfl⟩
  | 1, hf => simp at hf; subst hf; exact ⟨Tryz.underlying5, rfl, by kernel_rfl⟩
  | i + 2, hf => simp at hf) (by kernel_rfl))
 refine ⟨fun k cs hk => ?_, fun k t hk => ?_⟩
 ·obtain ⟨hk, hm⟩ := hk
  simp only [tabs, List.mem_cons, List.not_mem_nil, or_false, Prod.mk.injEq] at hm
  have hk : k ∈ [0, 1] := hk
  simp only [List.mem_cons, List.not_mem_nil, or_false] at hk
  clear r1 r2 h1 h2 h
  rcases hk with rfl | rfl
  all_goals repeat' (refine Or.elim hm (fun hm => ?_) (fun hm => ?_))
  all_goals first
   | (obtain ⟨h, rfl⟩ := hm; exact c1)
   | (obtain ⟨h, rfl⟩ := hm; exact c2)
   | (obtain ⟨h, _⟩ := hm; exact absurd h (by decide))
 ·obtain ⟨hk, hm⟩ := hk
  have hk : k ∈ [0, 1] := hk
  simp only [List.mem_cons, List.not_mem_nil, or_false] at hk
  simp only [tabI, List.mem_cons, List.not_mem_nil, or_false, Prod.mk.injEq] at hm
  all_goals omega
end Go.Proofs.YtfkmicjlaedlkaaGreatDoor
end
section
open Go.RowKit Go.Pl Go.Av
namespace Go.Proofs.YtfkmicjlaedlkaaGreatDoor
theorem hopEnds_walk (c0 : List Value) (c1 : List Value) (n2 : Nat) (x0 : XBn) (x1 : XE) (W : World) (h0 : RBn.ok W (· < W.heap.size) c0 x0) (h1 : RE.ok W (· < W.heap.size) c1 x1) (h2 : n2 < 18446744073709551616) (hl : laidMet Tryz.prog Rows.hopEndsRow.laid W) :
  Calls Tryz.prog 5 #[.agg c0.toArray, .agg c1.toArray, .int .u64 (n2 : Int)] W fun e w' => e = .returned (.bool true) /\ Below W.heap.size W w' := by
 have hg := gls_u8 (laid := Rows.hopEndsRow.laid) (by unfold Rows.hopEndsRow; repeat (first | exact List.mem_cons_self .. | apply List.mem_cons_of_mem)) (by unfold Rows.hopEndsRow; repeat (first | exact List.mem_cons_self .. | apply List.mem_cons_of_mem)) hl
 have h := @av_hopEnds knownU8 knownU8_ok x0.v x1.v n2 (hb := bn_fl h0)
 refine @topG knownU8 Tryz.prog 5 _ (@AC.mono knownU8 _ _ _ _ _ _ _ h fun r b t h => h.1) W [.agg c0.toArray, .agg c1.toArray, .int .u64 (n2 : Int)] hg rfl ?_
 intro j d v hd hv
 match j, hd, hv with
 | 0, hd, hv => cases hd; cases hv; exact @bn_V knownU8 _ _ _ h0
 | 1, hd, hv => cases hd; cases hv; exact @eid_V knownU8 _ _ _ h1
 | 2, hd, hv => cases hd; cases hv; exact .int _ _
 | j + 3, hd, hv => cases hd
end Go.Proofs.YtfkmicjlaedlkaaGreatDoor
end
