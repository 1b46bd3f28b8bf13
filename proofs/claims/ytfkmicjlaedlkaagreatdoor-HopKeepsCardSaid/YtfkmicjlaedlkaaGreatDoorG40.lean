/- HopKeeps: the walk, joined. -/
import Derived.Test.YtfkmicjlaedlkaaGreatDoorG31
import Derived.Test.YtfkmicjlaedlkaaGreatDoorG32
import Derived.Test.YtfkmicjlaedlkaaGreatDoorG33
import Derived.Test.YtfkmicjlaedlkaaGreatDoorG34
import Derived.Test.YtfkmicjlaedlkaaGreatDoorG35
import Derived.Test.YtfkmicjlaedlkaaGreatDoorG36
import Derived.Test.YtfkmicjlaedlkaaGreatDoorG37
import Derived.Test.YtfkmicjlaedlkaaGreatDoorG38
import Derived.Test.YtfkmicjlaedlkaaGreatDoorG39
import Derived.Test.YtfkmicjlaedlkaaGreatDoorG30
import Derived.Test.YtfkmicjlaedlkaaGreatDoorG26
import Derived.Test.YtfkmicjlaedlkaaGreatDoorG28
import Derived.Test.YtfkmicjlaedlkaaGreatDoorG01
import Derived.Test.YtfkmicjlaedlkaaGreatDoorG06
import Derived.Test.YtfkmicjlaedlkaaGreatDoorG10
import Derived.Test.YtfkmicjlaedlkaaGreatDoorG24
import Derived.Test.YtfkmicjlaedlkaaGreatDoorG27
import Derived.Test.YtfkmicjlaedlkaaGreatDoorProg
import Derived.Lib.LaidU8
set_option linter.unusedVariables false
set_option linter.unusedSimpArgs false
section
open Go.RowKit Go.Pl Go.Av
namespace Go.Proofs.YtfkmicjlaedlkaaGreatDoor
set_option maxHeartbeats 4000000
theorem hk_g1 [Known] [KnownU8] (b : BunV) (self : EidV) (since now : Int) (hA : AP Tryz.prog 27 [] (.bool true) []) (hG : AP Tryz.prog 20 [.agg (bnC b)] (.bool true) []) : AP Tryz.prog 7 [.agg (bnC b), .agg (eC self), .int .u64 since, .int .u64 now] (.bool true) [] := by
 obtain ⟨⟨fl, sum, ⟨di, dn, ds, dh, dd⟩, ⟨ri, rn, rs, rh, rd⟩, ⟨xi, xn, xs, xh, xd⟩, t, q, life⟩, bl⟩ := b
 obtain ⟨si, sn, ss, sh, sd⟩ := self
 refine AP.ofA ?_
 refine AC_of Tryz.func7 rfl Tryz.ntmps7 rfl rfl ?_
 repeat' (first | (apply AL_callPw (hG); kernel_rfl; (iterate 4 exact rfl)) | (apply AL_callPw (hA); kernel_rfl; (iterate 4 exact rfl)) | (apply AL_go ttok; exact rfl) | (apply AW_go ttok; exact rfl) | (apply K_go ttok; exact rfl) | (apply AL_guardFf; (iterate 3 exact rfl); (first | with_reducible assumption | decide +kernel)) | (apply AL_pickT; exact rfl; (first | with_reducible assumption | decide +kernel); exact rfl; exact rfl) | (apply AW_condA; exact rfl; (first | with_reducible assumption | decide +kernel)))
 all_goals (apply endQ []; (apply resG_ok ttok; exact rfl); (iterate 4 exact rfl))
 all_goals rfl
theorem hk_g2 [Known] [KnownU8] (b : BunV) (self : EidV) (since now : Int) (hA : AP Tryz.prog 27 [] (.bool true) []) (hG : AP Tryz.prog 20 [.agg (bnC b)] (.bool false) []) (t0 : decide (IntKind.i64.wrap ((self.h.length : Int) + (self.d.length : Int)) > 300) = true) : AP Tryz.prog 7 [.agg (bnC b), .agg (eC self), .int .u64 since, .int .u64 now] (.bool true) [] := by
 obtain ⟨⟨fl, sum, ⟨di, dn, ds, dh, dd⟩, ⟨ri, rn, rs, rh, rd⟩, ⟨xi, xn, xs, xh, xd⟩, t, q, life⟩, bl⟩ := b
 obtain ⟨si, sn, ss, sh, sd⟩ := self
 dsimp only at t0
 refine AP.ofA ?_
 refine AC_of Tryz.func7 rfl Tryz.ntmps7 rfl rfl ?_
 repeat' (first | (apply AL_callPw (hG); kernel_rfl; (iterate 4 exact rfl)) | (apply AL_callPw (hA); kernel_rfl; (iterate 4 exact rfl)) | (apply AL_go ttok; exact rfl) | (apply AW_go ttok; exact rfl) | (apply K_go ttok; exact rfl) | (apply AL_guardT; (iterate 3 exact rfl); (first | with_reducible assumption | decide +kernel)) | (apply AL_pickF; exact rfl; (first | with_reducible assumption | decide +kernel); exact rfl; exact rfl) | (apply AW_condA; exact rfl; (first | with_reducible assumption | decide +kernel)) | (apply AL_lens ttok; (iterate 4 exact rfl)))
 all_goals (apply endQ []; (apply resG_ok ttok; exact rfl); (iterate 4 exact rfl))
 all_goals rfl
theorem hk_g3 [Known] [KnownU8] (b : BunV) (self : EidV) (since now e : Int) (hA : AP Tryz.prog 27 [] (.bool true) []) (hG : AP Tryz.prog 20 [.agg (bnC b)] (.bool false) []) (t0 : decide (IntKind.i64.wrap ((self.h.length : Int) + (self.d.length : Int)) > 300) = false)
  (hO : AP Tryz.prog 31 [.agg (bnC b), .agg (eC self), .int .u64 since, .int .u64 now] (.tup [.agg (bnC bn0), .int .i64 e]) []) (te : (e != 0) = true) : AP Tryz.prog 7 [.agg (bnC b), .agg (eC self), .int .u64 since, .int .u64 now] (.bool true) [] := by
 obtain ⟨⟨fl, sum, ⟨di, dn, ds, dh, dd⟩, ⟨ri, rn, rs, rh, rd⟩, ⟨xi, xn, xs, xh, xd⟩, t, q, life⟩, bl⟩ := b
 obtain ⟨si, sn, ss, sh, sd⟩ := self
 dsimp only at t0
 refine AP.ofA ?_
 refine AC_of Tryz.func7 rfl Tryz.ntmps7 rfl rfl ?_
 repeat' (first | (apply AL_callPw (hG); kernel_rfl; (iterate 4 exact rfl)) | (apply AL_callPw (hA); kernel_rfl; (iterate 4 exact rfl)) | (apply AL_callPw (hO); kernel_rfl; (iterate 4 exact rfl)) | (apply AL_go ttok; exact rfl) | (apply AW_go ttok; exact rfl) | (apply K_go ttok; exact rfl) | (apply AL_guardT; (iterate 3 exact rfl); (first | with_reducible assumption | decide +kernel)) | (apply AL_pickT; exact rfl; (first | with_reducible assumption | decide +kernel); exact rfl; exact rfl) | (apply AL_pickF; exact rfl; (first | with_reducible assumption | decide +kernel); exact rfl; exact rfl) | (apply AW_condA; exact rfl; (first | with_reducible assumption | decide +kernel)) | (apply AW_condB; exact rfl; (first | with_reducible assumption | decide +kernel)) | (apply AL_len ttok; (iterate 4 exact rfl)) | (apply AL_lens ttok; (iterate 4 exact rfl)))
 all_goals (apply endQ []; (apply resG_ok ttok; exact rfl); (iterate 4 exact rfl))
 all_goals rfl
theorem eqE_self (x : EidV) : ((x.i == x.i) && (((x.n : Int) == (x.n : Int)) && (((x.s : Int) == (x.s : Int)) && ((x.h == x.h) && ((x.d == x.d) && true))))) = true := by simp
theorem av_hopKeeps [Known] [KnownU8] (b : BunV) (hb : b.p.fl < 18446744073709551616 /\ ∀ c ∈ b.bl, c.fl < 18446744073709551616) (self : EidV) (since now : Nat) : AP Tryz.prog 7 [.agg (bnC b), .agg (eC self), .int .u64 (since : Int), .int .u64 (now : Int)] (.bool true) [] := by
 have hA := av_alive10
 have hG := av_great8 b
 cases hg : greatBn b with
 | true =>
  rw [hg] at hG
  exact hk_g1 b self since now hA hG
 | false =>
 rw [hg] at hG
 have hok : BunOk b := ⟨hb.1, by have := (great_no hg).1; omega, fun c hc => ⟨hb.2 c hc, Nat.le_trans ((great_no hg).2 c hc) (by omega)⟩⟩
 have h20 := (great_no hg).1
 clear hg
 cases t0 : decide (IntKind.i64.wrap ((self.h.length : Int) + (self.d.length : Int)) > 300) with
 | true => exact hk_g2 b self since now hA hG t0
 | false =>
 have hO := av_hOn b hok (by omega) self (since : Int) (now : Int)
 have hoe := on_err b self (since : Int) (now : Int)
 rcases hr : onH b self (since : Int) (now : Int) with ⟨out, e⟩
 rw [hr] at hO hoe
 by_cases he : e = 0
 case neg =>
  rcases hoe with h | h
  ·exact (he h).elim
  ·dsimp only at h
   subst h
   exact hk_g3 b self since now e hA hG t0 hO (by simpa using he)
 subst he
 clear hoe
 have S := on_sent hr
 have hoo := right_ok hok S
 have hd1 : ∀ c ∈ b.bl, c.data.length <= 100000 := fun c hc => Nat.le_trans (hok.bl c hc).2 (by omega)
 have hd2 : ∀ c ∈ out.bl, c.data.length <= 100000 := fun c hc => Nat.le_trans (hoo.bl c hc).2 (by omega)
 have hF6 := av_find out 6 hoo.len hd2
 obtain ⟨p6, q1, q2, q3⟩ := sent_prev S
 rw [q1] at hF6
 have hPr := av_prevOf p6 (hd2 p6 (List.mem_of_find?_eq_some q1))
 rw [q2] at hPr
 replace hPr : AP Tryz.prog 34 [.agg (bkC p6)] (.tup [.agg (eC (prevV p6.data).1), .int .i64 0]) [] := hPr
 rw [q3] at hPr
 have hX := av_find b 10 hok.len hd1
 have hY := av_find out 10 hoo.len hd2
 have hU := av_find b 7 hok.len hd1
 have hV := av_find out 7 hoo.len hd2
 have hL := av_hLeft b hok (since : Int) (now : Int)
 rw [LeftH_ok S.was S.le S.top] at hL
 have hM := av_hLeft out hoo (now : Int) (now : Int)
 rw [LeftH_ok S.right (Nat.le_refl now) S.top] at hM
 have hsl := sent_left S
 have hPb := av_pay b hok
 have hPc := av_pay out hoo
 rw [sent_pay S] at hPc
 have hRt := av_bnRight out hoo
 rw [S.right] at hRt
 have hP0 := eqP6_self b.p
 have hSelf := eqE_self self
 have hsh := sent_hops hok S
 have hsa := (sent_age S).1
 have hpq := S.p
 have hz10 := av_hopsH bk0 (by decide)
 have hz7 : AP Tryz.prog 35 [.agg (bkC bk0)] (.tup [.int .u64 (ageB bk0 : Int), .int .i64 (askV bk0 7)]) [] := by
  unfold ageB
  exact av_ageOf bk0 (by decide)
 have hAge : ∀ c, c.data.length <= 100000 -> AP Tryz.prog 35 [.agg (bkC c)] (.tup [.int .u64 (ageB c : Int), .int .i64 (askV c 7)]) [] := fun c hc => by
  unfold ageB
  exact av_ageOf c hc
 generalize leftN b.p.t b.p.life (ageH b + (now - since)) now = A at *
 generalize leftN out.p.t out.p.life (ageH out + (now - now)) now = A2 at *
 generalize payV b = pay at *
 have p1 : (pay == pay) = true := beq_self_eq_true _
 have mA : ((A : Int) == (A : Int)) = true := beq_self_eq_true _
 have hag : (∃ u v : BlkV, u.ty = 7 /\ v.ty = 7 /\ b.bl.find? (isTy 7) = some u /\ out.bl.find? (isTy 7) = some v /\ AP Tryz.prog 35 [.agg (bkC u)] (.tup [.int .u64 (ageB u : Int), .int .i64 (askV u 7)]) [] /\ AP Tryz.prog 35 [.agg (bkC v)] (.tup [.int .u64 (ageB v : Int), .int .i64 (askV v 7)]) [] /\ ((ageB v : Int) == IntKind.u64.wrap ((ageB u : Int) + IntKind.u64.wrap ((now : Int) - (since : Int)))) = true) \/ (b.bl.find? (isTy 7) = none /\ out.bl.find? (isTy 7) = none) := by
  cases hu : b.bl.find? (isTy 7) with
  | none => rw [hu] at hsa; exact .inr ⟨rfl, hsa⟩
  | some u =>
   rw [hu] at hsa
   have hm := List.mem_of_find?_eq_some hu
   have ht := isTy_eq (List.find?_some hu)
   refine .inl ⟨u, _, ht, (ch_ty (S.ch u hm)).trans ht, rfl, hsa, hAge u (hd1 u hm), hAge _ (hd2 _ (List.mem_of_find?_eq_some hsa)), ?_⟩
   rw [ch_age (S.ch u hm) ht (sent_right S hm), add64_eq]
   exact beq_self_eq_true _
 have hhp : (∃ x y : BlkV, b.bl.find? (isTy 10) = some x /\ out.bl.find? (isTy 10) = some y /\ AP Tryz.prog 29 [.agg (bkC x)] (.tup [.int .u64 (hopL x : Int), .int .u64 (hopN x : Int), .int .i64 (askV x 10)]) [] /\ AP Tryz.prog 29 [.agg (bkC y)] (.tup [.int .u64 (hopL y : Int), .int .u64 (hopN y : Int), .int .i64 (askV y 10)]) [] /\ ((hopL y : Int) == (hopL x : Int)) = true /\ ((hopN y : Int) == IntKind.u64.wrap ((hopN x : Int) + 1)) = true) \/ (b.bl.find? (isTy 10) = none /\ out.bl.find? (isTy 10) = none) := by
  cases hx : b.bl.find? (isTy 10) with
  | none => rw [hx] at hsh; exact .inr ⟨rfl, hsh⟩
  | some x =>
   rw [hx] at hsh
   obtain ⟨y, y1, y2, y3, _⟩ := hsh
   refine .inl ⟨x, y, rfl, y1, av_hopsH x (hd1 x (List.mem_of_find?_eq_some hx)), av_hopsH y (hd2 y (List.mem_of_find?_eq_some y1)), by rw [y2]; exact beq_self_eq_true _, ?_⟩
   rw [y3, add64_eq]
   exact beq_self_eq_true _
 clear hsh hsa hr S hok hoo hd1 hd2 q1 q2 q3 h20 hb hAge
 obtain ⟨p, bl⟩ := b
 obtain ⟨p', bl2⟩ := out
 dsimp only at hpq hag hhp hsl hX hY hU hV
 subst hpq
 obtain ⟨fl, sum, ⟨di, dn, ds, dh, dd⟩, ⟨ri, rn, rs, rh, rd⟩, ⟨xi, xn, xs, xh, xd⟩, t, q, life⟩ := p'
 obtain ⟨si, sn, ss, sh, sd⟩ := self
 dsimp only at t0
 obtain ⟨pty, pnum, pfl, psum, pdata⟩ := p6
 have hP : eqP6 ⟨fl, sum, ⟨di, dn, ds, dh, dd⟩, ⟨ri, rn, rs, rh, rd⟩, ⟨xi, xn, xs, xh, xd⟩, t, q, life⟩ = true := by simp
 rcases hag with ⟨⟨uty, unum, ufl, usum, udata⟩, ⟨vty, vnum, vfl, vsum, vdata⟩, e1, e2, hu0, hv0, hu, hv, a1⟩ | ⟨hu0, hv0⟩
 ·dsimp only at e1 e2
  subst e1 e2
  rw [hu0] at hU hsl
  rw [hv0] at hV
  dsimp only [findD] at hU hV
  have m1 : ((A2 : Int) == (A : Int)) = true := by rw [hsl (.inr rfl)]; exact beq_self_eq_true _
  rcases hhp with ⟨⟨xty, xnum, xfl, xsum, xdata⟩, ⟨yty, ynum, yfl, ysum, ydata⟩, hx0, hy0, hx, hy, k1, k2⟩ | ⟨hx0, hy0⟩
  ·rw [hx0] at hX
   rw [hy0] at hY
   dsimp only [findD] at hX hY
   cases tT : ((t : Int) == 0) with
   | true =>
    exact hk_yyy (hA := hA) (hG := hG) (w0 := t0) (hO := hO) (hF6 := hF6) (hPr := hPr) (hSelf := hSelf) (hFx := hX) (hFy := hY) (hFu := hU) (hFv := hV) (hHx := hx) (hHy := hy) (k1 := k1) (k2 := k2) (uty := 0) (vty := 0) (hAu := hu) (hAv := hv) (a1 := a1) (hL := hL) (hM := hM) (tT := tT) (m1 := m1) (hPb := hPb) (hPc := hPc) (p1 := p1) (hP := hP) (hRt := hRt)
   | false =>
    exact hk_yyn (hA := hA) (hG := hG) (w0 := t0) (hO := hO) (hF6 := hF6) (hPr := hPr) (hSelf := hSelf) (hFx := hX) (hFy := hY) (hFu := hU) (hFv := hV) (hHx := hx) (hHy := hy) (k1 := k1) (k2 := k2) (uty := 0) (vty := 0) (hAu := hu) (hAv := hv) (a1 := a1) (hL := hL) (hM := hM) (tT := tT) (m1 := m1) (hPb := hPb) (hPc := hPc) (p1 := p1) (hP := hP) (hRt := hRt)
  ·rw [hx0] at hX
   rw [hy0] at hY
   dsimp only [findD] at hX hY
   cases tT : ((t : Int) == 0) with
   | true =>
    exact hk_nyy (hA := hA) (hG := hG) (w0 := t0) (hO := hO) (hF6 := hF6) (hPr := hPr) (hSelf := hSelf) (hFx := hX) (hFy := hY) (hFu := hU) (hFv := hV) (hHx := hz10) (yl := 0) (ym := 0) (ey := 0) (uty := 0) (vty := 0) (hAu := hu) (hAv := hv) (a1 := a1) (hL := hL) (hM := hM) (tT := tT) (m1 := m1) (hPb := hPb) (hPc := hPc) (p1 := p1) (hP := hP) (hRt := hRt)
   | false =>
    exact hk_nyn (hA := hA) (hG := hG) (w0 := t0) (hO := hO) (hF6 := hF6) (hPr := hPr) (hSelf := hSelf) (hFx := hX) (hFy := hY) (hFu := hU) (hFv := hV) (hHx := hz10) (yl := 0) (ym := 0) (ey := 0) (uty := 0) (vty := 0) (hAu := hu) (hAv := hv) (a1 := a1) (hL := hL) (hM := hM) (tT := tT) (m1 := m1) (hPb := hPb) (hPc := hPc) (p1 := p1) (hP := hP) (hRt := hRt)
 ·rw [hu0] at hU
  rw [hv0] at hV
  dsimp only [findD] at hU hV
  rcases hhp with ⟨⟨xty, xnum, xfl, xsum, xdata⟩, ⟨yty, ynum, yfl, ysum, ydata⟩, hx0, hy0, hx, hy, k1, k2⟩ | ⟨hx0, hy0⟩
  ·rw [hx0] at hX
   rw [hy0] at hY
   dsimp only [findD] at hX hY
   cases tT : ((t : Int) == 0) with
   | true =>
    exact hk_yny (hA := hA) (hG := hG) (w0 := t0) (hO := hO) (hF6 := hF6) (hPr := hPr) (hSelf := hSelf) (hFx := hX) (hFy := hY) (hFu := hU) (hFv := hV) (hHx := hx) (hHy := hy) (k1 := k1) (k2 := k2) (hAu := hz7) (va := 0) (ev := 0) (hL := hL) (hM := hM) (tT := tT) (m1 := mA) (hPb := hPb) (hPc := hPc) (p1 := p1) (hP := hP) (hRt := hRt)
   | false =>
    have ht0 : t ≠ 0 := fun e => by rw [e] at tT; simp at tT
    have m1 : ((A2 : Int) == (A : Int)) = true := by rw [hsl (.inl ht0)]; exact beq_self_eq_true _
    exact hk_ynn (hA := hA) (hG := hG) (w0 := t0) (hO := hO) (hF6 := hF6) (hPr := hPr) (hSelf := hSelf) (hFx := hX) (hFy := hY) (hFu := hU) (hFv := hV) (hHx := hx) (hHy := hy) (k1 := k1) (k2 := k2) (hAu := hz7) (va := 0) (ev := 0) (hL := hL) (hM := hM) (tT := tT) (m1 := m1) (hPb := hPb) (hPc := hPc) (p1 := p1) (hP := hP) (hRt := hRt)
  ·rw [hx0] at hX
   rw [hy0] at hY
   dsimp only [findD] at hX hY
   cases tT : ((t : Int) == 0) with
   | true =>
    exact hk_nny (hA := hA) (hG := hG) (w0 := t0) (hO := hO) (hF6 := hF6) (hPr := hPr) (hSelf := hSelf) (hFx := hX) (hFy := hY) (hFu := hU) (hFv := hV) (hHx := hz10) (yl := 0) (ym := 0) (ey := 0) (hAu := hz7) (va := 0) (ev := 0) (hL := hL) (hM := hM) (tT := tT) (m1 := mA) (hPb := hPb) (hPc := hPc) (p1 := p1) (hP := hP) (hRt := hRt)
   | false =>
    have ht0 : t ≠ 0 := fun e => by rw [e] at tT; simp at tT
    have m1 : ((A2 : Int) == (A : Int)) = true := by rw [hsl (.inl ht0)]; exact beq_self_eq_true _
    exact hk_nnn (hA := hA) (hG := hG) (w0 := t0) (hO := hO) (hF6 := hF6) (hPr := hPr) (hSelf := hSelf) (hFx := hX) (hFy := hY) (hFu := hU) (hFv := hV) (hHx := hz10) (yl := 0) (ym := 0) (ey := 0) (hAu := hz7) (va := 0) (ev := 0) (hL := hL) (hM := hM) (tT := tT) (m1 := m1) (hPb := hPb) (hPc := hPc) (p1 := p1) (hP := hP) (hRt := hRt)
end Go.Proofs.YtfkmicjlaedlkaaGreatDoor
end
section
open Go.RowKit Go.Pl
namespace Go.Pl
def OpensF {α : Type} (P : Program) (fs : Array Field) (i o : Nat) (R : Rep α) : Prop :=
 ∀ (H : Type) (enc : TypeId × Value -> H) (W : World) (spare : Nat -> Bool) (held : Bool) (n : Nat) (cs : List Value) (xs : List (DataW H × List MemPlace)), cs.length = o + R.n -> xs.length = fs.size ->
  (∀ (j : Nat) (f : Field), fs[j]? = some f -> DataW.trod enc P W 0 spare held n f.type ((cs.drop f.offset).take (P.cellsOf f.type)) = xs[j]?) -> ∃ x, R.ok W (· < W.heap.size) (cs.drop o) x
variable {P : Program} {t : TypeId} {fs : Array Field}
theorem opensF_at {α : Type} {R : Rep α} {i o : Nat} {f : Field} (hf : fs[i]? = some f) (ho : f.offset = o) (hc : P.cellsOf f.type = R.n) (h : Opens P f.type R) {H : Type} {enc : TypeId × Value -> H} {W : World} {spare : Nat -> Bool} {held : Bool} {n : Nat} {cs : List Value} {xs : List (DataW H × List MemPlace)} (hl : xs.length = fs.size)
  (hg : ∀ (j : Nat) (f : Field), fs[j]? = some f -> DataW.trod enc P W 0 spare held n f.type ((cs.drop f.offset).take (P.cellsOf f.type)) = xs[j]?) : ∃ x, R.ok W (· < W.heap.size) ((cs.drop o).take R.n) x := by
 have e := hg i f hf
 rw [ho, hc] at e
 have hi : i < xs.length := by
  rw [hl]
  exact (Array.getElem?_eq_some_iff.1 hf).1
 exact h H enc W spare held n _ _ (e.trans (List.getElem?_eq_getElem hi))
theorem opensF_one {α : Type} {R : Rep α} {i o : Nat} {f : Field} (hf : fs[i]? = some f) (ho : f.offset = o) (hc : P.cellsOf f.type = R.n) (h : Opens P f.type R) : OpensF P fs i o R := by
 intro H enc W spare held n cs xs hcl hl hg
 obtain ⟨x, hx⟩ := opensF_at hf ho hc h hl hg
 rw [List.take_of_length_le (by rw [List.length_drop]; omega)] at hx
 exact ⟨x, hx⟩
theorem opensF_cons {α β : Type} {R : Rep α} {R' : Rep β} {i o : Nat} {f : Field} (hf : fs[i]? = some f) (ho : f.offset = o) (hc : P.cellsOf f.type = R.n) (h : Opens P f.type R) (h' : OpensF P fs (i + 1) (o + R.n) R') : OpensF P fs i o (R.prod R') := by
 intro H enc W spare held n cs xs hcl hl hg
 obtain ⟨x, hx⟩ := opensF_at hf ho hc h hl hg
 have hn : (R.prod R').n = R.n + R'.n := rfl
 obtain ⟨x', hx'⟩ := h' H enc W spare held n cs xs (by rw [hn] at hcl; omega) hl hg
 refine ⟨(x, x'), (cs.drop o).take R.n, (cs.drop o).drop R.n, (List.take_append_drop _ _).symm, hx, ?_⟩
 rw [List.drop_drop]
 exact hx'
theorem opens_struct {α : Type} {R : Rep α} (hs : P.underlying t = some (.struct fs)) (hc : P.cellsOf t = R.n) (h : OpensF P fs 0 0 R) : Opens P t R := by
 intro H enc W spare held fuel cs y hy
 obtain ⟨xs, n, _, _, hl, hxl, hg⟩ := DataW.trod_struct hs hy
 exact h H enc W spare held n cs xs (by omega) hxl hg
end Go.Pl
end
section
open Go.RowKit Go.Pl Go.Av
namespace Go.Proofs.YtfkmicjlaedlkaaGreatDoor
set_option maxHeartbeats 4000000
abbrev RPr : Rep (Nat × Int × XE × XE × (XE × Nat × Nat) × Nat) := Rep.u64.prod (Rep.i64.prod (RE.prod (RE.prod (Go.Pl.RI.prod Rep.u64))))
theorem openPr : Opens Tryz.prog 28 RPr :=
 opens_struct Tryz.underlying28 (by kernel_rfl) (opensF_cons rfl rfl (by kernel_rfl) (opens_u64 Tryz.underlying22) (opensF_cons rfl rfl (by kernel_rfl) (opens_i64 Tryz.underlying3)
  (opensF_cons rfl rfl (by kernel_rfl) openE (opensF_cons rfl rfl (by kernel_rfl) openE (opensF_cons rfl rfl (by kernel_rfl) openI (opensF_one rfl rfl (by kernel_rfl) (opens_u64 Tryz.underlying22)))))))
abbrev XPr := Nat × Int × XE × XE × (XE × Nat × Nat) × Nat
def XPr.v (x : XPr) : PriV := ⟨x.1, x.2.1, x.2.2.1.v, x.2.2.2.1.v, x.2.2.2.2.1.1.v, x.2.2.2.2.1.2.1, x.2.2.2.2.1.2.2, x.2.2.2.2.2⟩
end Go.Proofs.YtfkmicjlaedlkaaGreatDoor
end
section
open Go.RowKit Go.Pl Go.Av
namespace Go.Proofs.YtfkmicjlaedlkaaGreatDoor
set_option maxHeartbeats 4000000
end Go.Proofs.YtfkmicjlaedlkaaGreatDoor
end
section
open Go.RowKit Go.Pl Go.Av
namespace Go.Proofs.YtfkmicjlaedlkaaGreatDoor
set_option maxHeartbeats 4000000
abbrev RB : Rep (Nat × Nat × Nat × Int × List UInt8) := Rep.u64.prod (Rep.u64.prod (Rep.u64.prod (Rep.i64.prod (Rep.slice Rep.byte (by decide)))))
theorem openB : Opens Tryz.prog 69 RB :=
 opens_struct Tryz.underlying69 (by kernel_rfl) (opensF_cons rfl rfl (by kernel_rfl) (opens_u64 Tryz.underlying22) (opensF_cons rfl rfl (by kernel_rfl) (opens_u64 Tryz.underlying22)
  (opensF_cons rfl rfl (by kernel_rfl) (opens_u64 Tryz.underlying22) (opensF_cons rfl rfl (by kernel_rfl) (opens_i64 Tryz.underlying3)
   (opensF_one rfl rfl (by kernel_rfl) (opens_slice (R := Rep.byte) (by decide) Tryz.underlying29 (by kernel_rfl) (opens_byte Tryz.underlying5)))))))
abbrev XB := Nat × Nat × Nat × Int × List UInt8
def XB.v (x : XB) : BlkV := ⟨x.1, x.2.1, x.2.2.1, x.2.2.2.1, x.2.2.2.2⟩
end Go.Proofs.YtfkmicjlaedlkaaGreatDoor
end
section
open Go.RowKit Go.Pl Go.Av
namespace Go.Proofs.YtfkmicjlaedlkaaGreatDoor
set_option maxHeartbeats 4000000
abbrev RBn : Rep ((Nat × Int × XE × XE × (XE × Nat × Nat) × Nat) × List XB) := RPr.prod (Rep.slice RB (by decide))
theorem openBn : Opens Tryz.prog 59 RBn :=
 opens_struct Tryz.underlying59 (by kernel_rfl) (opensF_cons rfl rfl (by kernel_rfl) openPr (opensF_one rfl rfl (by kernel_rfl) (opens_slice (R := RB) (by decide) Tryz.underlying57 (by kernel_rfl) openB)))
abbrev XBn := (Nat × Int × XE × XE × (XE × Nat × Nat) × Nat) × List XB
def XBn.v (x : XBn) : BunV := ⟨⟨x.1.1, x.1.2.1, x.1.2.2.1.v, x.1.2.2.2.1.v, x.1.2.2.2.2.1.1.v, x.1.2.2.2.2.1.2.1, x.1.2.2.2.2.1.2.2, x.1.2.2.2.2.2⟩, x.2.map XB.v⟩
theorem toE_bk : ToE RB (fun x => .agg [.int .u64 (x.1 : Int), .int .u64 (x.2.1 : Int), .int .u64 (x.2.2.1 : Int), .int .i64 x.2.2.2.1, .sl (x.2.2.2.2.map E.byte)]) := ToE.u64.prod (ToE.u64.prod (ToE.u64.prod (ToE.i64.prod (ToE.byte.slice (by decide)))))
theorem bn_V [Known] {W : World} {cs : List Value} {x : XBn} (h : RBn.ok W (· < W.heap.size) cs x) : V W (g0 W) [] (.agg (bnC x.v)) (.agg cs.toArray) := by
 obtain ⟨⟨fl, sum, ⟨di, dn, ds, dh, dd⟩, ⟨ri, rn, rs, rh, rd⟩, ⟨⟨xi, xn, xs, xh, xd⟩, t, q⟩, life⟩, bl⟩ := x
 have te := (ToE.u64.prod (ToE.i64.prod (toE_eid.prod (toE_eid.prod ((toE_eid.prod (ToE.u64.prod ToE.u64)).prod ToE.u64))))).prod (toE_bk.slice (by decide))
 have h2 := ToE.agg te (l := [.int .u64 (fl : Int), .int .i64 sum, .bool di, .int .u64 (dn : Int), .int .u64 (ds : Int), .str dh, .str dd, .bool ri, .int .u64 (rn : Int), .int .u64 (rs : Int), .str rh, .str rd, .bool xi, .int .u64 (xn : Int), .int .u64 (xs : Int), .str xh, .str xd, .int .u64 (t : Int), .int .u64 (q : Int), .int .u64 (life : Int), .sl (bl.map fun x => .agg [.int .u64 (x.1 : Int), .int .u64 (x.2.1 : Int), .int .u64 (x.2.2.1 : Int), .int .i64 x.2.2.2.1, .sl (x.2.2.2.2.map E.byte)])]) rfl h
 have e : bksE (bl.map XB.v) = bl.map fun x => .agg [.int .u64 (x.1 : Int), .int .u64 (x.2.1 : Int), .int .u64 (x.2.2.1 : Int), .int .i64 x.2.2.2.1, .sl (x.2.2.2.2.map E.byte)] := List.map_map ..
 rw [<- e] at h2
 exact h2
theorem run_each {α : Type} {R : Rep α} {w : World} {S : Nat -> Prop} : ∀ {l : List α} {cs : List Value}, Run R w S cs l -> ∀ x ∈ l, ∃ c, R.ok w S c x
 | [], _, _, x, hx => by simp at hx
 | y :: l, cs, ⟨c1, c2, _, h1, h2⟩, x, hx => by
  rcases List.mem_cons.1 hx with rfl | hx
  ·exact ⟨c1, h1⟩
  ·exact run_each h2 x hx
theorem bk_fl1 {W : World} {S : Nat -> Prop} {cs : List Value} {x : XB} (h : RB.ok W S cs x) : x.v.fl < 18446744073709551616 := by
 obtain ⟨ty, num, fl, sum, data⟩ := x
 obtain ⟨_, _, _, _, _, _, _, _, _, _, _, ⟨_, h1⟩, _⟩ := h
 exact h1
theorem bn_fl {W : World} {cs : List Value} {x : XBn} (h : RBn.ok W (· < W.heap.size) cs x) : x.v.p.fl < 18446744073709551616 /\ ∀ c ∈ x.v.bl, c.fl < 18446744073709551616 := by
 obtain ⟨⟨fl, r⟩, bl⟩ := x
 obtain ⟨_, _, _, ⟨_, _, _, ⟨_, h1⟩, _⟩, ⟨v, _, A, cap, _, _, _, c3, hr, _⟩⟩ := h
 refine ⟨h1, fun c hc => ?_⟩
 obtain ⟨y, hy, rfl⟩ := List.mem_map.1 hc
 obtain ⟨c4, h4⟩ := run_each hr y hy
 exact bk_fl1 h4
end Go.Proofs.YtfkmicjlaedlkaaGreatDoor
end
section
open Go.RowKit Go.Pl Go.Av Go.Lib
namespace Go.Proofs.YtfkmicjlaedlkaaGreatDoor
theorem dcsl_ints (k : IntKind) : ∀ zs : List Int, dcsl (zs.map fun z => .lit (.int k z)) = zs.map fun z => Value.int k z
 | [] => rfl
 | z :: zs => by rw [List.map_cons, List.map_cons, dcsl, dcsl_ints k zs]; rfl
theorem cells_at {P : Program} {W : World} {n : String} {g : Nat} {t : TypeId} {d : DataW Unit} (hg : P.globalNamed n = some g) (ht : (P.globals[g]?).map (·.type) = some t) (h : VarReads P W n d)
  (key : ∀ (fuel : Nat) (cs : List Value) (p : List MemPlace), DataW.trod (fun _ => ()) P W 0 (fun _ => true) false fuel t cs = some (d, p) -> ∀ (j : Nat) (v : Value), (dcs d)[j]? = some v -> cs[j]? = some v) :
  ∀ (j : Nat) (v : Value), (dcs d)[j]? = some v -> (g0 W).C g j /\ W.cell? ⟨g, j, none⟩ = some v := by
 obtain ⟨g', t', cs, fuel, p, h1, h2, h3, h4⟩ := h
 obtain rfl := Option.some.inj (hg.symm.trans h1)
 obtain rfl := Option.some.inj (ht.symm.trans h2)
 intro j v hv
 have hc := key fuel cs.toList p h4 j v hv
 have hcell : W.cell? ⟨g, j, none⟩ = some v := by
  rw [World.var?_cell hg h3 j, <- Array.getElem?_toList]; exact hc
 exact ⟨World.block_lt_of_cell? W _ hcell, hcell⟩
theorem ints_at {P : Program} {W : World} {t e : TypeId} {n : Nat} {k : IntKind} {d : DataW Unit} (zs : List Int) (hd : d = tabData k zs) (ht : P.underlying t = some (.array n e)) (he : P.underlying e = some (.int k)) (hce : P.cellsOf e = 1) (hct : P.cellsOf t = n) :
  ∀ (fuel : Nat) (cs : List Value) (p : List MemPlace), DataW.trod (fun _ => ()) P W 0 (fun _ => true) false fuel t cs = some (d, p) -> ∀ (j : Nat) (v : Value), (dcs d)[j]? = some v -> cs[j]? = some v := by
 subst hd
 intro fuel cs p h j v hv
 rw [cells_of_tab ht he hce hct h]
 rw [tabData, dcs, dcsl_ints] at hv
 exact hv
theorem rows_at {P : Program} {W : World} {t e : TypeId} {n : Nat} {k : IntKind} {d : DataW Unit} {fs : Array Field} (rows : List (List Int)) (hd : d = .agg (rows.map fun r => .agg (r.map fun z => .lit (.int k z)))) (hn : rows.length = n) (ht : P.underlying t = some (.array n e)) (he : P.underlying e = some (.struct fs))
  (hf : ∀ (i : Nat) (f : Field), fs[i]? = some f -> P.underlying f.type = some (.int k) /\ f.offset = i /\ P.cellsOf f.type = 1) (hce : P.cellsOf e = fs.size) :
  ∀ (fuel : Nat) (cs : List Value) (p : List MemPlace), DataW.trod (fun _ => ()) P W 0 (fun _ => true) false fuel t cs = some (d, p) -> ∀ (j : Nat) (v : Value), (dcs d)[j]? = some v -> cs[j]? = some v := by
 subst hd
 intro fuel cs p h j v hv
 have key : ∀ i, i <= n -> cs.take (i * fs.size) = dcsl ((rows.take i).map fun r => .agg (r.map fun z => .lit (.int k z))) := by
  intro i
  induction i with
  | zero => intro _; rw [Nat.zero_mul, List.take_zero, List.take_zero]; rfl
  | succ i ih =>
   intro hi
   obtain ⟨fuel', d', q, hdi, he'⟩ := array_elem ht h i (by omega)
   rw [List.getElem?_map, List.getElem?_eq_getElem (by omega : i < rows.length)] at hdi
   simp only [Option.map_some, Option.some.injEq] at hdi
   subst hdi
   rw [hce] at he'
   have hcs := ints_of_struct he hf hce he'
   rw [Nat.succ_mul, List.take_add, ih (by omega), hcs, List.take_succ_eq_append_getElem (by omega : i < rows.length), List.map_append]
   have app : ∀ (a b : List (DataW Unit)), dcsl (a ++ b) = dcsl a ++ dcsl b := fun a b => by
    induction a with
    | nil => rfl
    | cons x a ih => rw [List.cons_append, dcsl, dcsl, ih, List.append_assoc]
   rw [app, List.map_cons, List.map_nil, dcsl, dcs, dcsl_ints]
   simp [dcsl]
 have h2 := key n (Nat.le_refl _)
 rw [<- hn, List.take_length] at h2
 rw [dcs, <- h2] at hv
 rw [List.getElem?_take] at hv
 split at hv
 ·exact hv
 ·cases hv
abbrev knownU8 : Known := ⟨[0, 1]⟩
theorem knownU8_ok : @KnownU8 knownU8 := @KnownU8.mk knownU8 (List.mem_cons_self ..) (List.mem_cons_of_mem _ (List.mem_cons_self ..))
def firstZ : List Int := Pinned.utf8FirstZ.map Int.ofNat
def acceptZ : List (List Int) := [[128, 191], [160, 191], [128, 159], [144, 191], [128, 143], [0, 0], [0, 0], [0, 0], [0, 0], [0, 0], [0, 0], [0, 0], [0, 0], [0, 0], [0, 0], [0, 0]]
theorem gls_u8 {W : World} {laid : List (String × DataW Unit)} (h1 : ("unicode/utf8.first", Rows.laid_unicode_utf8_first) ∈ laid) (h2 : ("unicode/utf8.acceptRanges", Rows.laid_unicode_utf8_acceptRanges) ∈ laid) (h : laidMet Tryz.prog laid W) : @Gls knownU8 (g0 W).C W := by
 have r1 := laidMet.reads h h1
 have r2 := laidMet.reads h h2
 have c1 := cells_at (P := Tryz.prog) (g := 0) (t := 222) (by kernel_rfl) (by kernel_rfl) r1 (ints_at firstZ (by kernel_rfl) (n := 256) (by kernel_rfl) Tryz.underlying5 (by kernel_rfl) (by kernel_rfl))
 have c2 := cells_at (P := Tryz.prog) (g := 1) (t := 225) (by kernel_rfl) (by kernel_rfl) r2 (rows_at acceptZ (by kernel_rfl) (n := 16) rfl Tryz.underlying225 Tryz.underlying224 (fun i f hf => by
  match i, hf with
  | 0, hf => simp at hf; subst hf; exact ⟨Tryz.underlying5, rfl, by kernel_rfl⟩
  | 1, hf => simp at hf; subst hf; exact ⟨Tryz.underlying5, rfl, by kernel_rfl⟩
  | i + 2, hf => simp at hf) (by kernel_rfl))
 refine ⟨fun k cs hk => ?_, fun k t hk => ?_⟩
 ·obtain ⟨hk, hm⟩ := hk
  simp only [tabs, List.mem_cons, List.not_mem_nil, or_false, Prod.mk.injEq] at hm
  have hk : k ∈ [0, 1] := hk
  simp only [List.mem_cons, List.not_mem_nil, or_false] at hk
  clear r1 r2 h1 h2 h
  rcases hk with rfl | rfl
  all_goals repeat' (refine Or.elim hm (fun hm => ?_) (fun hm => ?_))
  all_goals first
   | (obtain ⟨h, rfl⟩ := hm; exact c1)
   | (obtain ⟨h, rfl⟩ := hm; exact c2)
   | (obtain ⟨h, _⟩ := hm; exact absurd h (by decide))
 ·obtain ⟨hk, hm⟩ := hk
  have hk : k ∈ [0, 1] := hk
  simp only [List.mem_cons, List.not_mem_nil, or_false] at hk
  simp only [tabI, List.mem_cons, List.not_mem_nil, or_false, Prod.mk.injEq] at hm
  all_goals omega
end Go.Proofs.YtfkmicjlaedlkaaGreatDoor
end
section
open Go.RowKit Go.Pl Go.Av
namespace Go.Proofs.YtfkmicjlaedlkaaGreatDoor
theorem hopKeeps_walk (c0 : List Value) (c1 : List Value) (n2 : Nat) (n3 : Nat) (x0 : XBn) (x1 : XE) (W : World) (h0 : RBn.ok W (· < W.heap.size) c0 x0) (h1 : RE.ok W (· < W.heap.size) c1 x1) (h2 : n2 < 18446744073709551616) (h3 : n3 < 18446744073709551616) (hl : laidMet Tryz.prog Rows.hopKeepsRow.laid W) :
  Calls Tryz.prog 7 #[.agg c0.toArray, .agg c1.toArray, .int .u64 (n2 : Int), .int .u64 (n3 : Int)] W fun e w' => e = .returned (.bool true) /\ Below W.heap.size W w' := by
 have hg := gls_u8 (laid := Rows.hopKeepsRow.laid) (by unfold Rows.hopKeepsRow; repeat (first | exact List.mem_cons_self .. | apply List.mem_cons_of_mem)) (by unfold Rows.hopKeepsRow; repeat (first | exact List.mem_cons_self .. | apply List.mem_cons_of_mem)) hl
 have h := @av_hopKeeps knownU8 knownU8_ok x0.v x1.v n2 n3 (hb := bn_fl h0)
 refine @topG knownU8 Tryz.prog 7 _ (@AC.mono knownU8 _ _ _ _ _ _ _ h fun r b t h => h.1) W [.agg c0.toArray, .agg c1.toArray, .int .u64 (n2 : Int), .int .u64 (n3 : Int)] hg rfl ?_
 intro j d v hd hv
 match j, hd, hv with
 | 0, hd, hv => cases hd; cases hv; exact @bn_V knownU8 _ _ _ h0
 | 1, hd, hv => cases hd; cases hv; exact @eid_V knownU8 _ _ _ h1
 | 2, hd, hv => cases hd; cases hv; exact .int _ _
 | 3, hd, hv => cases hd; cases hv; exact .int _ _
 | j + 4, hd, hv => cases hd
end Go.Proofs.YtfkmicjlaedlkaaGreatDoor
end
