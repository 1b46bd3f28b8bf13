/- Package hop: how much a bundle has left. -/
import Derived.Test.YtfkmicjlaedlkaaGreatDoorG27
import Derived.Test.YtfkmicjlaedlkaaGreatDoorG25
import Derived.Test.YtfkmicjlaedlkaaGreatDoorG26
set_option linter.unusedVariables false
set_option linter.unusedSimpArgs false
section
open Go.RowKit Go.Pl Go.Av
namespace Go.Proofs.YtfkmicjlaedlkaaGreatDoor
set_option maxHeartbeats 4000000
def ageB (c : BlkV) : Nat := match askV c 7 != 0 with
 | true => 0
 | false => (ageV c.data).1
def ageH (b : BunV) : Nat := match b.bl.find? (isTy 7) with
 | some c => ageB c
 | none => 0
theorem av_hAge [Known] [KnownU8] (b : BunV) (hb : BunOk b) : AP Tryz.prog 77 [.agg (bnC b)] (.int .u64 (ageH b : Int)) [] := by
 have hF := av_find b 7 hb.len (fun c hc => Nat.le_trans (hb.bl c hc).2 (by omega))
 have hbl := hb.bl
 unfold ageH
 cases hf : b.bl.find? (isTy 7) with
 | none =>
  rw [hf] at hF
  dsimp only [findD] at hF ⊢
  clear hb hbl hf
  obtain ⟨⟨fl, sum, ⟨di, dn, ds, dh, dd⟩, ⟨ri, rn, rs, rh, rd⟩, ⟨xi, xn, xs, xh, xd⟩, t, q, life⟩, bl⟩ := b
  try dsimp only at *
  refine AP.ofA ?_
  refine AC_of Tryz.func77 rfl Tryz.ntmps77 rfl rfl ?_
  repeat' (first | (apply AL_callPw (hF); kernel_rfl; (iterate 4 exact rfl)) | (apply AL_go ttok; exact rfl) | (apply AW_go ttok; exact rfl) | (apply K_go ttok; exact rfl) | (apply AW_condA; exact rfl; (first | with_reducible assumption | decide +kernel)))
  all_goals (apply endQ []; (apply resG_ok ttok; exact rfl); (iterate 4 exact rfl))
  all_goals rfl
 | some c =>
  rw [hf] at hF
  have hA : AP Tryz.prog 35 [.agg (bkC c)] (.tup [.int .u64 (ageB c : Int), .int .i64 (askV c 7)]) [] := by
   unfold ageB
   exact av_ageOf c (Nat.le_trans (hbl c (List.mem_of_find?_eq_some hf)).2 (by omega))
  dsimp only [findD] at hF ⊢
  clear hb hbl hf
  generalize ageB c = ag at *
  generalize askV c 7 = e at *
  obtain ⟨cty, cnum, cfl, csum, cdata⟩ := c
  obtain ⟨⟨fl, sum, ⟨di, dn, ds, dh, dd⟩, ⟨ri, rn, rs, rh, rd⟩, ⟨xi, xn, xs, xh, xd⟩, t, q, life⟩, bl⟩ := b
  try dsimp only at *
  refine AP.ofA ?_
  refine AC_of Tryz.func77 rfl Tryz.ntmps77 rfl rfl ?_
  repeat' (first | (apply AL_callPw (hF); kernel_rfl; (iterate 4 exact rfl)) | (apply AL_callPw (hA); kernel_rfl; (iterate 4 exact rfl)) | (apply AL_go ttok; exact rfl) | (apply AW_go ttok; exact rfl) | (apply AW_condB; exact rfl; (first | with_reducible assumption | decide +kernel)))
  all_goals (apply endQ []; (apply resG_ok ttok; exact rfl); (iterate 4 exact rfl))
  all_goals rfl
def leftI (t life : Nat) (old here now : Int) : Int := match decide ((t : Int) > 0) with
 | true => match decide (now < (t : Int)) with
  | true => IntKind.u64.wrap ((life : Int) + IntKind.u64.wrap ((t : Int) - now))
  | false => match decide (IntKind.u64.wrap (now - (t : Int)) ≥ (life : Int)) with
   | true => 0
   | false => IntKind.u64.wrap ((life : Int) - IntKind.u64.wrap (now - (t : Int)))
 | false => match decide (IntKind.u64.wrap (old + here) ≥ (life : Int)) with
  | true => 0
  | false => IntKind.u64.wrap ((life : Int) - IntKind.u64.wrap (old + here))
theorem av_hleft [Known] (p : PriV) (old here now : Int) : AP Tryz.prog 76 [.agg (prC p), .int .u64 old, .int .u64 here, .int .u64 now] (.int .u64 (leftI p.t p.life old here now)) [] := by
 obtain ⟨fl, sum, ⟨di, dn, ds, dh, dd⟩, ⟨ri, rn, rs, rh, rd⟩, ⟨xi, xn, xs, xh, xd⟩, t, q, life⟩ := p
 unfold leftI
 dsimp only
 cases t0 : decide ((t : Int) > 0) with
 | true =>
  cases t1 : decide (now < (t : Int)) with
  | true =>
   refine AP.ofA ?_
   refine AC_of Tryz.func76 rfl Tryz.ntmps76 rfl rfl ?_
   repeat' (first | (apply AW_go ttok; exact rfl) | (apply K_go ttok; exact rfl) | (apply AW_condA; exact rfl; (first | with_reducible assumption | decide +kernel)))
   all_goals (apply endQ []; (apply resG_ok ttok; exact rfl); (iterate 4 exact rfl))
   all_goals rfl
  | false =>
   cases t2 : decide (IntKind.u64.wrap (now - (t : Int)) ≥ (life : Int))
   all_goals
    refine AP.ofA ?_
    refine AC_of Tryz.func76 rfl Tryz.ntmps76 rfl rfl ?_
    repeat' (first | (apply AW_go ttok; exact rfl) | (apply K_go ttok; exact rfl) | (apply AW_condA; exact rfl; (first | with_reducible assumption | decide +kernel)) | (apply AW_condB; exact rfl; (first | with_reducible assumption | decide +kernel)))
    all_goals (apply endQ []; (apply resG_ok ttok; exact rfl); (iterate 4 exact rfl))
    all_goals rfl
 | false =>
  cases t2 : decide (IntKind.u64.wrap (old + here) ≥ (life : Int))
  all_goals
   refine AP.ofA ?_
   refine AC_of Tryz.func76 rfl Tryz.ntmps76 rfl rfl ?_
   repeat' (first | (apply AW_go ttok; exact rfl) | (apply K_go ttok; exact rfl) | (apply AW_condA; exact rfl; (first | with_reducible assumption | decide +kernel)) | (apply AW_condB; exact rfl; (first | with_reducible assumption | decide +kernel)))
   all_goals (apply endQ []; (apply resG_ok ttok; exact rfl); (iterate 4 exact rfl))
   all_goals rfl
def askH (b : BunV) (since now : Int) : Int := match rightBn b with
 | false => 3
 | true => match decide (since > now) || decide (now > 1099511627776) with
  | true => 1
  | false => 0
theorem av_hask [Known] [KnownU8] (b : BunV) (hb : BunOk b) (since now : Int) : AP Tryz.prog 71 [.agg (bnC b), .int .u64 since, .int .u64 now] (.int .i64 (askH b since now)) [] := by
 have hR := av_bnRight b hb
 unfold askH
 clear hb
 generalize rightBn b = r at *
 obtain ⟨⟨fl, sum, ⟨di, dn, ds, dh, dd⟩, ⟨ri, rn, rs, rh, rd⟩, ⟨xi, xn, xs, xh, xd⟩, t, q, life⟩, bl⟩ := b
 cases r <;> cases t1 : decide (since > now) <;> cases t2 : decide (now > 1099511627776)
 all_goals
  refine AP.ofA ?_
  refine AC_of Tryz.func71 rfl Tryz.ntmps71 rfl rfl ?_
  repeat' (first | (apply AL_callPw (hR); kernel_rfl; (iterate 4 exact rfl)) | (apply AL_go ttok; exact rfl) | (apply AW_go ttok; exact rfl) | (apply K_go ttok; exact rfl) | (apply AL_guardT; (iterate 3 exact rfl); (first | with_reducible assumption | decide +kernel)) | (apply AL_guardFf; (iterate 3 exact rfl); (first | with_reducible assumption | decide +kernel)) | (apply AL_pickT; exact rfl; (first | with_reducible assumption | decide +kernel); exact rfl; exact rfl) | (apply AL_pickF; exact rfl; (first | with_reducible assumption | decide +kernel); exact rfl; exact rfl) | (apply AW_condA; exact rfl; (first | with_reducible assumption | decide +kernel)) | (apply AW_condB; exact rfl; (first | with_reducible assumption | decide +kernel)))
  all_goals (apply endQ []; (apply resG_ok ttok; exact rfl); (iterate 4 exact rfl))
  all_goals rfl
def LeftH (b : BunV) (since now : Int) : Int × Int := match askH b since now != 0 with
 | true => (0, askH b since now)
 | false => (leftI b.p.t b.p.life (ageH b : Int) (IntKind.u64.wrap (now - since)) now, 0)
theorem av_hLeft [Known] [KnownU8] (b : BunV) (hb : BunOk b) (since now : Int) : AP Tryz.prog 33 [.agg (bnC b), .int .u64 since, .int .u64 now] (.tup [.int .u64 (LeftH b since now).1, .int .i64 (LeftH b since now).2]) [] := by
 have hK := av_hask b hb since now
 have hA := av_hAge b hb
 have hL := av_hleft b.p (ageH b : Int) (IntKind.u64.wrap (now - since)) now
 unfold LeftH
 clear hb
 generalize askH b since now = e at *
 generalize leftI b.p.t b.p.life (ageH b : Int) (IntKind.u64.wrap (now - since)) now = r at *
 generalize ageH b = ag at *
 obtain ⟨⟨fl, sum, ⟨di, dn, ds, dh, dd⟩, ⟨ri, rn, rs, rh, rd⟩, ⟨xi, xn, xs, xh, xd⟩, t, q, life⟩, bl⟩ := b
 try dsimp only at *
 cases t1 : (e != 0) with
 | true =>
  refine AP.ofA ?_
  refine AC_of Tryz.func33 rfl Tryz.ntmps33 rfl rfl ?_
  repeat' (first | (apply AL_callPw (hK); kernel_rfl; (iterate 4 exact rfl)) | (apply AL_go ttok; exact rfl) | (apply AW_go ttok; exact rfl) | (apply K_go ttok; exact rfl) | (apply AW_condA; exact rfl; (first | with_reducible assumption | decide +kernel)))
  all_goals (apply endQ []; (apply resG_ok ttok; exact rfl); (iterate 4 exact rfl))
  all_goals rfl
 | false =>
  refine AP.ofA ?_
  refine AC_of Tryz.func33 rfl Tryz.ntmps33 rfl rfl ?_
  repeat' (first | (apply AL_callPw (hK); kernel_rfl; (iterate 4 exact rfl)) | (apply AL_callPw (hA); kernel_rfl; (iterate 4 exact rfl)) | (apply AL_callPw (hL); kernel_rfl; (iterate 4 exact rfl)) | (apply AL_go ttok; exact rfl) | (apply AW_go ttok; exact rfl) | (apply AW_condB; exact rfl; (first | with_reducible assumption | decide +kernel)) | (apply AW_drawE 8 hmix; (decide +kernel); (kernel_rfl); (kernel_rfl); (kernel_rfl); exact rfl; exact rfl) | (apply AE_consZ; (iterate 4 exact rfl)) | exact AE.nil _ _ _ _ | (apply AEk_puT; exact rfl) | (apply AOt_mk; exact rfl; exact rfl; (decide +kernel); exact rfl) | (apply AO_puT; exact rfl) | exact AO.nil _ _ _ | (apply AOs_skip; (decide +kernel)) | exact AOs.nil | exact qY_ok rfl rfl)
  all_goals (apply endQ []; (apply resG_ok ttok; exact rfl); (iterate 4 exact rfl))
  all_goals rfl
def overH (b : BunV) (since now : Int) : Bool := (LeftH b since now).2 == 0 && (LeftH b since now).1 == 0
theorem av_hOver [Known] [KnownU8] (b : BunV) (hb : BunOk b) (since now : Int) : AP Tryz.prog 30 [.agg (bnC b), .int .u64 since, .int .u64 now] (.tup [.bool (overH b since now), .int .i64 (LeftH b since now).2]) [] := by
 have hL := av_hLeft b hb since now
 unfold overH
 clear hb
 generalize (LeftH b since now).1 = n at *
 generalize (LeftH b since now).2 = e at *
 obtain ⟨⟨fl, sum, ⟨di, dn, ds, dh, dd⟩, ⟨ri, rn, rs, rh, rd⟩, ⟨xi, xn, xs, xh, xd⟩, t, q, life⟩, bl⟩ := b
 cases t1 : (e == 0)
 all_goals
  refine AP.ofA ?_
  refine AC_of Tryz.func30 rfl Tryz.ntmps30 rfl rfl ?_
  repeat' (first | (apply AL_callPw (hL); kernel_rfl; (iterate 4 exact rfl)) | (apply AL_go ttok; exact rfl) | (apply AW_go ttok; exact rfl) | (apply AL_guardT; (iterate 3 exact rfl); (first | with_reducible assumption | decide +kernel)) | (apply AL_guardFt; (iterate 3 exact rfl); (first | with_reducible assumption | decide +kernel)) | (apply AL_pickT; exact rfl; (first | with_reducible assumption | decide +kernel); exact rfl; exact rfl) | (apply AL_pickF; exact rfl; (first | with_reducible assumption | decide +kernel); exact rfl; exact rfl))
  all_goals (apply endQ []; (apply resG_ok ttok; exact rfl); (iterate 4 exact rfl))
  all_goals rfl
end Go.Proofs.YtfkmicjlaedlkaaGreatDoor
end
section
open Go.RowKit Go.Pl Go.Av
namespace Go.Proofs.YtfkmicjlaedlkaaGreatDoor
set_option maxHeartbeats 4000000
theorem av_isNr [Known] (c : BlkV) (k : Nat) : AQ Tryz.prog 108 [.agg (bkC c), .ptr 0 0] [[.int .u64 (k : Int)]] (.bool (isNr k c)) [[.int .u64 (k : Int)]] := by
 obtain ⟨ty, num, fl, sum, data⟩ := c
 refine AQ.weak ?_
 refine AC_of Tryz.func108 rfl Tryz.ntmps108 rfl rfl ?_
 repeat' (first | (apply AW_go ttok; exact rfl))
 all_goals (apply endQ [0]; (apply resG_ok ttok; exact rfl); (iterate 4 exact rfl))
 all_goals rfl
theorem av_ixisNr [Known] (l : List BlkV) (k : Nat) (hl : l.length <= 1000000) : AQ Tryz.prog 67 [.sl .ext (bksE l), .fn 108 [.ptr 0 0]] [[.int .u64 (k : Int)]] (.int .i64 (fiQ (isNr k) l 0)) [[.int .u64 (k : Int)]] := by
 have hlen := bks_len l
 have hU := uniK l
 generalize hfin : fiQ (isNr k) l 0 = fin
 refine AQ.weak ?_
 refine AC_of Tryz.func67 rfl Tryz.ntmps67 rfl rfl ?_
 repeat' (first | (apply AL_go ttok; exact rfl) | (apply AW_go ttok; exact rfl) | (apply AL_len ttok; (iterate 4 exact rfl)))
 refine AW_loopJ (fun f tm bx fr => ∃ (i : Nat), f + i = l.length /\ fiQ (isNr k) (l.drop i) i = fin /\ tm = [(0, .sl .ext (bksE l)), (1, .fn 108 [.ptr 0 0]), (4, .int .i64 0), (7, .int .i64 ((bksE l).length : Int)), (8, .int .i64 (i : Int))] /\ bx = [[.int .u64 (k : Int)]] /\ fr = []) (l.length + 1) (Lands.mk' (m := l.length) (Nat.lt_succ_self _) ⟨0, by omega, hfin, rfl, rfl, rfl⟩ ?_ rfl rfl rfl rfl rfl rfl) ?_
 ·exact .cons rfl (.cons rfl (.cons rfl (.cons rfl (.cons rfl .nil))))
 rintro f tm bx fr ⟨i, hf, hq, rfl, rfl, rfl⟩
 rcases Nat.lt_or_ge i l.length with hlt | hge
 ·have hdl : decide ((i : Int) < ((bksE l).length : Int)) = true := decide_eq_true (by omega)
  obtain ⟨c, hy⟩ : ∃ y, l[i]? = some y := ⟨_, List.getElem?_eq_getElem hlt⟩
  have hv := bks_get hy
  have hc := av_isNr c k
  have hdr : l.drop i = c :: l.drop (i + 1) := by
   rw [List.drop_eq_getElem_cons hlt]; congr 1
   exact (List.getElem?_eq_some_iff.1 hy).2
  rw [hdr, fiQ] at hq
  have ei : IntKind.i64.wrap ((i : Int) + 1) = ((i + 1 : Nat) : Int) := by rw [IntWalk.i64_in _ (by omega)]; omega
  cases hb : isNr k c with
  | false =>
   rw [hb] at hq hc
   repeat' (first | rw [ei] | (apply AL_callQv [0] (hc); exact rfl; kernel_rfl; (iterate 7 exact rfl)) | (apply AL_go ttok; exact rfl) | (apply AW_go ttok; exact rfl) | (apply K_go ttok; exact rfl) | (apply AW_condA; exact rfl; (first | with_reducible assumption | decide +kernel)) | (apply AW_condB; exact rfl; (first | with_reducible assumption | decide +kernel)) | (apply AL_idx ttok; (iterate 6 exact rfl); (first | with_reducible assumption | decide +kernel | exact Int.natCast_nonneg _ | (guard_target = (0:Int) <= (OfNat.ofNat _ : Int); decide) | rotate_left); (first | with_reducible assumption | decide +kernel | exact rfl); (first | exact uniB_ok rfl | with_reducible assumption | decide +kernel | rotate_left)))
   refine Lands.mk' (m := f - 1) (by omega) ⟨i + 1, by omega, hq, rfl, rfl, rfl⟩ ?_ rfl rfl rfl rfl rfl rfl
   exact .cons rfl (.cons rfl (.cons rfl (.cons rfl (.cons rfl .nil))))
  | true =>
   rw [hb] at hq hc
   have hq : (i : Int) = fin := hq
   subst hq
   repeat' (first | (apply AL_callQv [0] (hc); exact rfl; kernel_rfl; (iterate 7 exact rfl)) | (apply AL_go ttok; exact rfl) | (apply AW_go ttok; exact rfl) | (apply K_go ttok; exact rfl) | (apply AW_condA; exact rfl; (first | with_reducible assumption | decide +kernel)) | refine then_ret ?_ | (apply AL_idx ttok; (iterate 6 exact rfl); (first | with_reducible assumption | decide +kernel | exact Int.natCast_nonneg _ | (guard_target = (0:Int) <= (OfNat.ofNat _ : Int); decide) | rotate_left); (first | with_reducible assumption | decide +kernel | exact rfl); (first | exact uniB_ok rfl | with_reducible assumption | decide +kernel | rotate_left)))
   all_goals (apply endQ [0]; (apply resG_ok ttok; exact rfl); (iterate 4 exact rfl))
   all_goals rfl
 ·have hdl : decide ((i : Int) < ((bksE l).length : Int)) = false := decide_eq_false (by omega)
  rw [List.drop_eq_nil_of_le hge] at hq
  have hq : (-1 : Int) = fin := hq
  subst hq
  repeat' (first | (apply AW_go ttok; exact rfl) | (apply AW_condB; exact rfl; (first | with_reducible assumption | decide +kernel)))
  all_goals (apply endQ [0]; (apply resG_ok ttok; exact rfl); (iterate 4 exact rfl))
  all_goals rfl
theorem av_cfNum [Known] (l : List BlkV) (k : Nat) (hl : l.length <= 1000000) : AQ Tryz.prog 109 [.sl .ext (bksE l), .fn 108 [.ptr 0 0]] [[.int .u64 (k : Int)]] (.bool (decide (fiQ (isNr k) l 0 ≥ 0))) [[.int .u64 (k : Int)]] := by
 have hI := av_ixisNr l k hl
 generalize fiQ (isNr k) l 0 = r at *
 refine AQ.weak ?_
 refine AC_of Tryz.func109 rfl Tryz.ntmps109 rfl rfl ?_
 repeat' (first | (apply AL_callQw [0] (hI); kernel_rfl; (iterate 7 exact rfl)) | (apply AL_go ttok; exact rfl) | (apply AW_go ttok; exact rfl))
 all_goals (apply endQ [0]; (apply resG_ok ttok; exact rfl); (iterate 4 exact rfl))
 all_goals rfl
theorem fi_any (k : Nat) (l : List BlkV) : decide (fiQ (isNr k) l 0 ≥ 0) = l.any (isNr k) := by
 have h := fiQ_find (isNr k) l 0
 cases hf : l.find? (isNr k) with
 | none =>
  rw [hf] at h
  dsimp only at h
  rw [h]
  have := List.find?_eq_none.1 hf
  rw [List.any_eq_false.2 this]
  rfl
 | some c =>
  rw [hf] at h
  obtain ⟨j, h1, _⟩ := h
  rw [h1, List.any_eq_true.2 ⟨c, List.mem_of_find?_eq_some hf, List.find?_some hf⟩]
  exact decide_eq_true (by omega)
end Go.Proofs.YtfkmicjlaedlkaaGreatDoor
end
section
open Go.RowKit Go.Pl Go.Av
namespace Go.Proofs.YtfkmicjlaedlkaaGreatDoor
set_option maxHeartbeats 4000000
theorem av_ofPrev [Known] [KnownU8] (number : Nat) (sum : Int) (x : EidV) : AP Tryz.prog 73 [.int .u64 (number : Int), .int .i64 sum, .agg (eC x)] (blkD (ofV 6 number sum (if eRight x then itemE x else .mk 0 0 [] []) (if eRight x then 0 else 3))) [] := by
 have hW := av_eWrite x
 have hwf : wfI (if eRight x then itemE x else .mk 0 0 [] []) := by
  cases h : eRight x with
  | true => exact wf_itemE h
  | false => exact wf_z0
 have hlen : (putI (if eRight x then itemE x else .mk 0 0 [] [])).length <= 100000 := by
  cases h : eRight x with
  | false =>
   show (putI (.mk 0 0 [] [])).length <= 100000
   decide +kernel
  | true =>
   show (putI (itemE x)).length <= 100000
   unfold itemE
   repeat' split
   ·exact Nat.le_trans (hop_len 1 0) (by decide)
   ·have h0 := put_small 4 0 [] [.mk 0 2 [] [], hopI x.n x.s]
    have h1 := num_len 2
    have h2 := hop_len x.n x.s
    simp only [puts, List.length_append, List.length_nil, Nat.add_zero, Nat.zero_add] at h0
    exact Nat.le_trans h0 (by omega)
   ·have h0 := put_small 4 0 [] [.mk 0 1 [] [], .mk 3 0 (pathE x) []]
    have h1 := num_len 1
    have h2 := put_small 3 0 (pathE x) []
    rename_i hz hi
    have h3 : (pathE x).length <= 100 := by
     have ht := eRight_txt h (by simpa using hz) (by simpa using hi)
     simp only [pathE, List.length_append, List.length_cons, List.length_nil]
     omega
    simp only [puts, List.length_append, List.length_nil, Nat.add_zero, Nat.zero_add] at h0 h2
    exact Nat.le_trans h0 (by omega)
 have hO := av_of 6 number sum (if eRight x then itemE x else .mk 0 0 [] []) (if eRight x then 0 else 3) hwf hlen
 generalize (if eRight x then itemE x else .mk 0 0 [] []) = I at *
 generalize (if eRight x then (0 : Int) else 3) = E0 at *
 clear hwf hlen
 generalize ofV 6 number sum I E0 = r at *
 obtain ⟨xi, xn, xs, xh, xd⟩ := x
 obtain ⟨k, n, b, l⟩ := I
 obtain ⟨⟨a, b2, c, d, f⟩, e⟩ := r
 refine AP.ofA ?_
 refine AC_of Tryz.func73 rfl Tryz.ntmps73 rfl rfl ?_
 repeat' (first | (apply AL_callPw (hW); kernel_rfl; (iterate 4 exact rfl)) | (apply AL_callPw (hO); kernel_rfl; (iterate 4 exact rfl)) | (apply AL_go ttok; exact rfl) | (apply AW_go ttok; exact rfl))
 all_goals (apply endQ []; (apply resG_ok ttok; exact rfl); (iterate 4 exact rfl))
 all_goals rfl
theorem av_prevOf [Known] [KnownU8] (b : BlkV) (hd : b.data.length <= 100000) : AP Tryz.prog 34 [.agg (bkC b)] (.tup [.agg (eC (match askV b 6 != 0 with | true => eidZ | false => (prevV b.data).1)), .int .i64 (askV b 6)]) [] := by
 have hA := av_ask b 6 hd
 have hG := av_previous b.data hd
 generalize askV b 6 = q at *
 generalize (prevV b.data).1 = a at *
 generalize (prevV b.data).2 = o at *
 obtain ⟨ty, num, fl, sum, data⟩ := b
 obtain ⟨zi, zn, zs, zh, zd⟩ := a
 cases t1 : (q != 0) with
 | true =>
  refine AP.ofA ?_
  refine AC_of Tryz.func34 rfl Tryz.ntmps34 rfl rfl ?_
  repeat' (first | (apply AL_callPw (hA); kernel_rfl; (iterate 4 exact rfl)) | (apply AL_go ttok; exact rfl) | (apply AW_go ttok; exact rfl) | (apply K_go ttok; exact rfl) | (apply AW_condA; exact rfl; (first | with_reducible assumption | decide +kernel)))
  all_goals (apply endQ []; (apply resG_ok ttok; exact rfl); (iterate 4 exact rfl))
  all_goals rfl
 | false =>
  have eq0 : q = 0 := by simpa [bne] using t1
  subst eq0
  refine AP.ofA ?_
  refine AC_of Tryz.func34 rfl Tryz.ntmps34 rfl rfl ?_
  repeat' (first | (apply AL_callPw (hA); kernel_rfl; (iterate 4 exact rfl)) | (apply AL_callPw (hG); kernel_rfl; (iterate 4 exact rfl)) | (apply AL_go ttok; exact rfl) | (apply AW_go ttok; exact rfl) | (apply AW_condB; exact rfl; (first | with_reducible assumption | decide +kernel)))
  all_goals (apply endQ []; (apply resG_ok ttok; exact rfl); (iterate 4 exact rfl))
  all_goals rfl
end Go.Proofs.YtfkmicjlaedlkaaGreatDoor
end
section
open Go.RowKit Go.Pl Go.Av
namespace Go.Proofs.YtfkmicjlaedlkaaGreatDoor
set_option maxHeartbeats 4000000
def numF (l : List BlkV) : Nat -> Nat -> Nat
 | 0, n => n
 | f + 1, n => match l.any (isNr n) with
  | true => numF l f (n + 1)
  | false => n
def numH (l : List BlkV) : Nat := numF l l.length 2
theorem count_up {l : List BlkV} {n : Nat} (h : l.any (isNr n) = true) : l.countP (fun c => decide (n + 1 <= c.num)) < l.countP (fun c => decide (n <= c.num)) := by
 induction l with
 | nil => simp at h
 | cons c l ih =>
  have hle : l.countP (fun c => decide (n + 1 <= c.num)) <= l.countP (fun c => decide (n <= c.num)) := List.countP_mono_left fun c _ h => by simp at h ⊢; omega
  rw [List.countP_cons, List.countP_cons]
  rw [List.any_cons, Bool.or_eq_true] at h
  by_cases e : c.num = n
  ·have h1 : ¬ (n + 1 <= c.num) := by omega
   have h2 : n <= c.num := by omega
   simp only [h1, h2, decide_true, decide_false, if_true]
   simp
   omega
  ·have hl : l.any (isNr n) = true := by
    rcases h with h | h
    ·exfalso; simp [isNr] at h; omega
    ·exact h
   have := ih hl
   by_cases h2 : n + 1 <= c.num
   ·have h3 : n <= c.num := by omega
    simp only [h2, h3, decide_true, if_true]
    omega
   ·have h3 : ¬ n <= c.num := by omega
    simp only [h2, h3, decide_false]
    simpa using this
theorem av_hNumber [Known] (b : BunV) (hb : BunOk b) : AP Tryz.prog 65 [.agg (bnC b)] (.int .u64 (numH b.bl : Int)) [] := by
 have hl := hb.len
 clear hb
 obtain ⟨⟨fl, sum, ⟨di, dn, ds, dh, dd⟩, ⟨ri, rn, rs, rh, rd⟩, ⟨xi, xn, xs, xh, xd⟩, t, q, life⟩, bl⟩ := b
 dsimp only at *
 generalize hR : numH bl = R
 refine AP.ofA ?_
 refine AC_of Tryz.func65 rfl Tryz.ntmps65 rfl rfl ?_
 repeat' (first | (apply AW_go ttok; exact rfl))
 show AW _ _ _ _
 refine AW_loopJ (fun f tm bx fr => ∃ (n : Nat), bl.countP (fun c => decide (n <= c.num)) <= f /\ f + n <= bl.length + 2 /\ numF bl f n = R /\ tm = [(1, .ptr 0 0), (3, .ptr 1 0), (4, .fn 108 [.ptr 1 0])] /\ bx = [[.int .u64 (fl : Int), .int .i64 sum, .bool di, .int .u64 (dn : Int), .int .u64 (ds : Int), .str dh, .str dd, .bool ri, .int .u64 (rn : Int), .int .u64 (rs : Int), .str rh, .str rd, .bool xi, .int .u64 (xn : Int), .int .u64 (xs : Int), .str xh, .str xd, .int .u64 (t : Int), .int .u64 (q : Int), .int .u64 (life : Int), .sl .ext (bksE bl)], [.int .u64 (n : Int)]] /\ fr = []) (bl.length + 1) (Lands.mk' (m := bl.length) (Nat.lt_succ_self _) ⟨2, List.countP_le_length, by omega, hR, rfl, rfl, rfl⟩ ?_ rfl rfl rfl rfl rfl rfl) ?_
 ·exact .cons rfl (.cons rfl (.cons rfl .nil))
 rintro f tm bx fr ⟨n, hcnt, hfn, hq, rfl, rfl, rfl⟩
 have hC := av_cfNum bl n hl
 rw [fi_any] at hC
 have en : IntKind.u64.wrap ((n : Int) + 1) = ((n + 1 : Nat) : Int) := by rw [IntWalk.u64_in _ (by omega)]; omega
 cases ha : bl.any (isNr n) with
 | true =>
  rw [ha] at hC
  have hup := count_up ha
  obtain ⟨f', rfl⟩ : ∃ f', f = f' + 1 := ⟨f - 1, by omega⟩
  rw [numF, ha] at hq
  dsimp only at hq
  repeat' (first | (apply AL_callQw [1] (hC); kernel_rfl; (iterate 7 exact rfl)) | rw [en] | (apply AL_go ttok; exact rfl) | (apply AW_go ttok; exact rfl) | (apply K_go ttok; exact rfl) | (apply AW_condA; exact rfl; (first | with_reducible assumption | decide +kernel)) | refine then_norm ?_)
  refine Lands.mk' (m := f') (by omega) ⟨n + 1, by omega, by omega, hq, rfl, rfl, rfl⟩ ?_ rfl rfl rfl rfl rfl rfl
  exact .cons rfl (.cons rfl (.cons rfl .nil))
 | false =>
  rw [ha] at hC
  have hq : n = R := by
   cases f with
   | zero => exact hq
   | succ f => rw [numF, ha] at hq; exact hq
  subst hq
  repeat' (first | (apply AL_callQw [1] (hC); kernel_rfl; (iterate 7 exact rfl)) | (apply AL_go ttok; exact rfl) | (apply AW_go ttok; exact rfl) | (apply K_go ttok; exact rfl) | (apply AW_condB; exact rfl; (first | with_reducible assumption | decide +kernel)))
  all_goals (apply endQ []; (apply resG_ok ttok; exact rfl); (iterate 4 exact rfl))
  all_goals rfl
def hopL (c : BlkV) : Nat := match askV c 10 != 0 with
 | true => 0
 | false => (hopsV c.data).1
def hopN (c : BlkV) : Nat := match askV c 10 != 0 with
 | true => 0
 | false => (hopsV c.data).2.1
theorem av_hopsH [Known] [KnownU8] (c : BlkV) (hd : c.data.length <= 100000) : AP Tryz.prog 29 [.agg (bkC c)] (.tup [.int .u64 (hopL c : Int), .int .u64 (hopN c : Int), .int .i64 (askV c 10)]) [] := by
 unfold hopL hopN
 exact av_hopsOf c hd
def spentH (b : BunV) : Bool := match b.bl.find? (isTy 10) with
 | some c => (askV c 10 == 0) && decide ((hopN c : Int) ≥ (hopL c : Int))
 | none => false
theorem av_hSpent [Known] [KnownU8] (b : BunV) (hb : BunOk b) : AP Tryz.prog 72 [.agg (bnC b)] (.bool (spentH b)) [] := by
 have hF := av_find b 10 hb.len (fun c hc => Nat.le_trans (hb.bl c hc).2 (by omega))
 have hbl := hb.bl
 unfold spentH
 cases hf : b.bl.find? (isTy 10) with
 | none =>
  rw [hf] at hF
  have hH := av_hopsH bk0 (by decide)
  dsimp only [findD] at hF ⊢
  clear hb hbl hf
  generalize hopL bk0 = L0 at *
  generalize hopN bk0 = N0 at *
  generalize askV bk0 10 = e at *
  obtain ⟨⟨fl, sum, ⟨di, dn, ds, dh, dd⟩, ⟨ri, rn, rs, rh, rd⟩, ⟨xi, xn, xs, xh, xd⟩, t, q, life⟩, bl⟩ := b
  refine AP.ofA ?_
  refine AC_of Tryz.func72 rfl Tryz.ntmps72 rfl rfl ?_
  repeat' (first | (apply AL_callPw (hF); kernel_rfl; (iterate 4 exact rfl)) | (apply AL_callPw (hH); kernel_rfl; (iterate 4 exact rfl)) | (apply AL_go ttok; exact rfl) | (apply AW_go ttok; exact rfl) | (apply AL_guardFt; (iterate 3 exact rfl); (first | with_reducible assumption | decide +kernel)) | (apply AL_pickF; exact rfl; (first | with_reducible assumption | decide +kernel); exact rfl; exact rfl))
  all_goals (apply endQ []; (apply resG_ok ttok; exact rfl); (iterate 4 exact rfl))
  all_goals rfl
 | some c =>
  rw [hf] at hF
  have hH := av_hopsH c (Nat.le_trans (hbl c (List.mem_of_find?_eq_some hf)).2 (by omega))
  dsimp only [findD] at hF ⊢
  clear hb hbl hf
  generalize hopL c = L0 at *
  generalize hopN c = N0 at *
  generalize askV c 10 = e at *
  obtain ⟨cty, cnum, cfl, csum, cdata⟩ := c
  obtain ⟨⟨fl, sum, ⟨di, dn, ds, dh, dd⟩, ⟨ri, rn, rs, rh, rd⟩, ⟨xi, xn, xs, xh, xd⟩, t, q, life⟩, bl⟩ := b
  cases t1 : (e == 0)
  all_goals
   refine AP.ofA ?_
   refine AC_of Tryz.func72 rfl Tryz.ntmps72 rfl rfl ?_
   repeat' (first | (apply AL_callPw (hF); kernel_rfl; (iterate 4 exact rfl)) | (apply AL_callPw (hH); kernel_rfl; (iterate 4 exact rfl)) | (apply AL_go ttok; exact rfl) | (apply AW_go ttok; exact rfl) | (apply AL_guardT; (iterate 3 exact rfl); (first | with_reducible assumption | decide +kernel)) | (apply AL_guardFt; (iterate 3 exact rfl); (first | with_reducible assumption | decide +kernel)) | (apply AL_pickT; exact rfl; (first | with_reducible assumption | decide +kernel); exact rfl; exact rfl) | (apply AL_pickF; exact rfl; (first | with_reducible assumption | decide +kernel); exact rfl; exact rfl))
   all_goals (apply endQ []; (apply resG_ok ttok; exact rfl); (iterate 4 exact rfl))
   all_goals rfl
def add64 (a b : Int) : Nat := (IntKind.u64.wrap (a + b)).toNat
theorem add64_eq (a b : Int) : IntKind.u64.wrap (a + b) = ((add64 a b : Nat) : Int) := by
 unfold add64
 have h : 0 <= IntKind.u64.wrap (a + b) := by simp only [IntKind.wrap, IntKind.signed, IntKind.bits]; simp; omega
 omega
theorem add64_lt (a b : Int) : add64 a b < 18446744073709551616 := by
 unfold add64
 have h : IntKind.u64.wrap (a + b) < 18446744073709551616 := by simp only [IntKind.wrap, IntKind.signed, IntKind.bits]; simp; omega
 omega
def prevR (c : BlkV) (self : EidV) : BlkV × Int := ofV 6 c.num c.sum (if eRight self then itemE self else .mk 0 0 [] []) (if eRight self then 0 else 3)
def putFl (r : BlkV × Int) (fl : Nat) : BlkV × Bool := (⟨r.1.ty, r.1.num, fl, r.1.sum, r.1.data⟩, r.2 == 0)
def changeH (c : BlkV) (self : EidV) (here : Int) : BlkV × Bool := match ((c.ty : Int) == 6) with
 | true => putFl (prevR c self) c.fl
 | false => match ((c.ty : Int) == 7) with
  | true => putFl (ofV 7 c.num c.sum (.mk 0 (add64 (ageB c : Int) here) [] []) 0) c.fl
  | false => match ((c.ty : Int) == 10) with
   | true => putFl (ofV 10 c.num c.sum (hopI (hopL c) (add64 (hopN c : Int) 1)) 0) c.fl
   | false => (c, true)
abbrev chD (r : BlkV × Bool) : D := .tup [.agg (bkC r.1), .bool r.2]
theorem av_hChange [Known] [KnownU8] (c : BlkV) (self : EidV) (here : Int) (hd : c.data.length <= 100000) (hL : hopL c < 18446744073709551616) : AP Tryz.prog 74 [.agg (bkC c), .agg (eC self), .int .u64 here] (chD (changeH c self here)) [] := by
 have hP : AP Tryz.prog 73 [.int .u64 (c.num : Int), .int .i64 c.sum, .agg (eC self)] (blkD (prevR c self)) [] := av_ofPrev c.num c.sum self
 have hA : AP Tryz.prog 35 [.agg (bkC c)] (.tup [.int .u64 (ageB c : Int), .int .i64 (askV c 7)]) [] := by
  unfold ageB
  exact av_ageOf c hd
 have hH := av_hopsH c hd
 have hOA := av_ofAge c.num c.sum (add64 (ageB c : Int) here) (add64_lt _ _)
 have hOH := av_ofHops c.num c.sum (hopL c) (add64 (hopN c : Int) 1) hL (add64_lt _ _)
 have hC := av_cloneB c.data (by omega)
 have e1 := add64_eq (ageB c : Int) here
 have e2 := add64_eq (hopN c : Int) 1
 unfold changeH
 generalize prevR c self = r1 at *
 generalize add64 (ageB c : Int) here = a1 at *
 generalize add64 (hopN c : Int) 1 = a2 at *
 generalize ofV 7 c.num c.sum (.mk 0 a1 [] []) 0 = r2 at *
 generalize ofV 10 c.num c.sum (hopI (hopL c) a2) 0 = r3 at *
 clear hL hd
 generalize hopL c = L0 at *
 generalize hopN c = N0 at *
 generalize ageB c = A0 at *
 generalize askV c 7 = k7 at *
 generalize askV c 10 = k10 at *
 obtain ⟨⟨p1, p2, p3, p4, p5⟩, p6⟩ := r1
 obtain ⟨⟨q1, q2, q3, q4, q5⟩, q6⟩ := r2
 obtain ⟨⟨s1, s2, s3, s4, s5⟩, s6⟩ := r3
 obtain ⟨si, sn, ss, sh, sd⟩ := self
 obtain ⟨cty, cnum, cfl, csum, cdata⟩ := c
 dsimp only at *
 cases t1 : ((cty : Int) == 6) with
 | true =>
  refine AP.ofA ?_
  refine AC_of Tryz.func74 rfl Tryz.ntmps74 rfl rfl ?_
  repeat' (first | (apply AL_callPw (hP); kernel_rfl; (iterate 4 exact rfl)) | (apply AL_go ttok; exact rfl) | (apply AW_go ttok; exact rfl) | (apply AW_condA; exact rfl; (first | with_reducible assumption | decide +kernel)))
  all_goals (apply endQ []; (apply resG_ok ttok; exact rfl); (iterate 4 exact rfl))
  all_goals rfl
 | false =>
 cases t2 : ((cty : Int) == 7) with
 | true =>
  refine AP.ofA ?_
  refine AC_of Tryz.func74 rfl Tryz.ntmps74 rfl rfl ?_
  repeat' (first | rw [e1] | (apply AL_callPw (hA); kernel_rfl; (iterate 4 exact rfl)) | (apply AL_callPw (hOA); kernel_rfl; (iterate 4 exact rfl)) | (apply AL_go ttok; exact rfl) | (apply AW_go ttok; exact rfl) | (apply AW_condA; exact rfl; (first | with_reducible assumption | decide +kernel)) | (apply AW_condB; exact rfl; (first | with_reducible assumption | decide +kernel)))
  all_goals (apply endQ []; (apply resG_ok ttok; exact rfl); (iterate 4 exact rfl))
  all_goals rfl
 | false =>
 cases t3 : ((cty : Int) == 10) with
 | true =>
  refine AP.ofA ?_
  refine AC_of Tryz.func74 rfl Tryz.ntmps74 rfl rfl ?_
  repeat' (first | rw [e2] | (apply AL_callPw (hH); kernel_rfl; (iterate 4 exact rfl)) | (apply AL_callPw (hOH); kernel_rfl; (iterate 4 exact rfl)) | (apply AL_go ttok; exact rfl) | (apply AW_go ttok; exact rfl) | (apply AW_condA; exact rfl; (first | with_reducible assumption | decide +kernel)) | (apply AW_condB; exact rfl; (first | with_reducible assumption | decide +kernel)))
  all_goals (apply endQ []; (apply resG_ok ttok; exact rfl); (iterate 4 exact rfl))
  all_goals rfl
 | false =>
  refine AP.ofA ?_
  refine AC_of Tryz.func74 rfl Tryz.ntmps74 rfl rfl ?_
  repeat' (first | (apply AL_callPw (hC); kernel_rfl; (iterate 4 exact rfl)) | (apply AL_go ttok; exact rfl) | (apply AW_go ttok; exact rfl) | (apply AW_condB; exact rfl; (first | with_reducible assumption | decide +kernel)))
  all_goals (apply endQ []; (apply resG_ok ttok; exact rfl); (iterate 4 exact rfl))
  all_goals rfl
end Go.Proofs.YtfkmicjlaedlkaaGreatDoor
end
section
open Go.RowKit Go.Pl Go.Av
namespace Go.Proofs.YtfkmicjlaedlkaaGreatDoor
set_option maxHeartbeats 4000000
end Go.Proofs.YtfkmicjlaedlkaaGreatDoor
end
section
open Go.RowKit Go.Pl Go.Av
namespace Go.Proofs.YtfkmicjlaedlkaaGreatDoor
set_option maxHeartbeats 4000000
abbrev zE (x : EidV) : Bool := (x.i == false) && (((x.n : Int) == 0) && (((x.s : Int) == 0) && ((x.h == []) && ((x.d == []) && true))))
def onC (self : EidV) (here : Int) : List BlkV -> List BlkV -> Option (List BlkV)
 | acc, [] => some acc
 | acc, c :: r => match (changeH c self here).2 with
  | false => none
  | true => onC self here (acc ++ [(changeH c self here).1]) r
def preH (b : BunV) (self : EidV) : BlkV := (ofV 6 (numH b.bl) 0 (if eRight self then itemE self else .mk 0 0 [] []) (if eRight self then 0 else 3)).1
def onPre (b : BunV) (self : EidV) : List BlkV := match b.bl.find? (isTy 6) with
 | some _ => []
 | none => [preH b self]
def onEnd (p : PriV) : Option (List BlkV) -> BunV × Int
 | none => (bn0, 3)
 | some l => match rightBn ⟨p, l⟩ with
  | true => (⟨p, l⟩, 0)
  | false => (bn0, 3)
def onH (b : BunV) (self : EidV) (since now : Int) : BunV × Int := match (askH b since now == 3) || (!eRight self || zE self) with
 | true => (bn0, 3)
 | false => match askH b since now != 0 with
  | true => (bn0, askH b since now)
  | false => match overH b since now with
   | true => (bn0, 18)
   | false => match spentH b with
    | true => (bn0, 19)
    | false => onEnd b.p (onC self (IntKind.u64.wrap (now - since)) (onPre b self) b.bl)
theorem hops_lt {c : BlkV} (hd : c.data.length <= 100000) : hopL c < 18446744073709551616 := by
 unfold hopL
 split
 ·decide
 ·have hw := rd_wf c.data hd
  unfold hopsV
  generalize (readI c.data 0).1 = x at *
  unfold hopsX
  repeat' (first | split | (dsimp only))
  all_goals first | decide | skip
  all_goals first | exact wfI_n (by simp_all [wfI, wfs]) | simp_all [wfI, wfs]
def okB3 (c : BlkV) : Prop := c.fl < 18446744073709551616 /\ c.data.length <= 3000
theorem of_small {kind number : Nat} {sum : Int} {x : It} {e : Int} (hx : (putI x).length <= 3000) : (ofV kind number sum x e).1.data.length <= 3000 := by
 rcases of_err (kind := kind) (number := number) (sum := sum) (x := x) (e := e) with h | h
 ·obtain ⟨_, _, _, hp⟩ := of_data (p := (ofV kind number sum x e).1) (Prod.ext rfl h)
  rw [hp]; exact hx
 ·rw [h]; decide
theorem of_fl {kind number : Nat} {sum : Int} {x : It} {e : Int} : (ofV kind number sum x e).1.fl = 0 := by
 rcases of_err (kind := kind) (number := number) (sum := sum) (x := x) (e := e) with h | h
 ·obtain ⟨_, _, _, hp⟩ := of_data (p := (ofV kind number sum x e).1) (Prod.ext rfl h)
  rw [hp]
 ·rw [h]; rfl
theorem prev_small (x : EidV) : (putI (if eRight x then itemE x else .mk 0 0 [] [])).length <= 3000 := by
 cases h : eRight x with
 | false =>
  show (putI (.mk 0 0 [] [])).length <= 3000
  decide +kernel
 | true =>
  show (putI (itemE x)).length <= 3000
  have := item_len h
  omega
theorem change_ok {c : BlkV} (self : EidV) (here : Int) (h : okB3 c) : okB3 (changeH c self here).1 := by
 unfold changeH
 split
 ·exact ⟨h.1, of_small (prev_small self)⟩
 ·split
  ·exact ⟨h.1, of_small (by have := num_len (add64 (ageB c : Int) here); omega)⟩
  ·split
   ·exact ⟨h.1, of_small (by have := hop_len (hopL c) (add64 (hopN c : Int) 1); omega)⟩
   ·exact h
theorem pre_ok (b : BunV) (self : EidV) : okB3 (preH b self) := ⟨by unfold preH; rw [of_fl]; decide, of_small (prev_small self)⟩
abbrev onD (r : BunV × Int) : D := .tup [.agg (bnC r.1), .int .i64 r.2]
end Go.Proofs.YtfkmicjlaedlkaaGreatDoor
end
