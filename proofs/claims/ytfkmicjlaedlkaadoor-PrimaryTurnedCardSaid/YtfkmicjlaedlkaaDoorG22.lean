/- Package canon: a first block, written. -/
import Derived.Test.YtfkmicjlaedlkaaDoorG18
import Derived.Test.YtfkmicjlaedlkaaDoorG19
import Derived.Test.YtfkmicjlaedlkaaDoorG21
import Derived.Test.YtfkmicjlaedlkaaDoorG17
import Derived.Test.YtfkmicjlaedlkaaDoorG11
set_option linter.unusedVariables false
set_option linter.unusedSimpArgs false
section
open Go.RowKit Go.Pl Go.Av
namespace Go.Proofs.YtfkmicjlaedlkaaDoor
set_option maxHeartbeats 4000000
def listP (p : PriV) : List It := [.mk 0 7 [] [], .mk 0 p.fl [] [], .mk 0 p.sum.toNat [] [], itemE p.dest, itemE p.src, itemE p.rep, .mk 4 0 [] [.mk 0 p.t [] [], .mk 0 p.q [] []], .mk 0 p.life [] []]
def writeP (p : PriV) : It × Int := match rightP p with
 | true => sealV (listP p) 2
 | false => (z0, 3)
theorem pr_facts {p : PriV} (h : rightP p = true) : 0 <= p.sum /\ p.sum <= 2 /\ eRight p.dest = true /\ eRight p.rep = true /\ iRight p.src p.t p.q = true /\ p.life <= 1099511627776 := by
 unfold rightP at h
 simp only [Bool.and_eq_true, decide_eq_true_eq] at h
 obtain ⟨_, h1, h2, h3, h4, h5, h6⟩ := h
 exact ⟨h1, h2, h3, h4, h5, by omega⟩
theorem wfs_P {p : PriV} (h : rightP p = true) (hfl : p.fl < 18446744073709551616) : wfs (listP p) := by
 obtain ⟨h1, h2, h3, h4, h5, h6⟩ := pr_facts h
 obtain ⟨i1, i2, i3⟩ := iRight_iff.1 h5
 refine ⟨?_, ?_, ?_, wf_itemE h3, wf_itemE i1, wf_itemE h4, ?_, ?_, trivial⟩
 all_goals first | (simp [wfI, wfs]; done) | (simp [wfI, wfs]; omega)
theorem av_pWrite [Known] [KnownU8] (p : PriV) (hfl : p.fl < 18446744073709551616) (hlim : ∀ s, s = 1 \/ s = 2 -> (putI (zeroL s (listP p))).length <= 1000000000) : AP Tryd.prog 25 [.agg (prC p)] (sealD (writeP p)) [] := by
 have hR := av_pRight p
 unfold writeP
 cases hr : rightP p with
 | false =>
  rw [hr] at hR
  obtain ⟨fl, sum, ⟨di, dn, ds, dh, dd⟩, ⟨ri, rn, rs, rh, rd⟩, ⟨xi, xn, xs, xh, xd⟩, t, q, life⟩ := p
  dsimp only [z0] at *
  refine AP.ofA ?_
  refine AC_of Tryd.func25 rfl Tryd.ntmps25 rfl rfl ?_
  repeat' (first | (apply AL_callPw (hR); kernel_rfl; (iterate 4 exact rfl)) | (apply AL_go ttok; exact rfl) | (apply AW_go ttok; exact rfl) | (apply K_go ttok; exact rfl) | (apply AW_condA; exact rfl; (first | with_reducible assumption | decide +kernel)))
  all_goals (apply endQ []; (apply resG_ok ttok; exact rfl); (iterate 4 exact rfl))
  all_goals rfl
 | true =>
  rw [hr] at hR
  obtain ⟨h1, h2, h3, h4, h5, h6⟩ := pr_facts hr
  have hS := av_seal (listP p) 2 (wfs_P hr hfl) (by simp [listP]) hlim
  have hD := av_eWrite p.dest
  have hP := av_eWrite p.rep
  have hI := av_iWrite p.src p.t p.q
  rw [if_pos h3, if_pos h3] at hD
  rw [if_pos h4, if_pos h4] at hP
  rw [if_pos h5, if_pos h5] at hI
  have hN := av_num 7
  have hF := av_num p.fl
  have hM := av_num p.sum.toNat
  have hL := av_num p.life
  dsimp only
  generalize sealV (listP p) 2 = r at *
  unfold listP at hS
  unfold itemN at hI
  obtain ⟨fl, sum, ⟨di, dn, ds, dh, dd⟩, ⟨ri, rn, rs, rh, rd⟩, ⟨xi, xn, xs, xh, xd⟩, t, q, life⟩ := p
  dsimp only at *
  generalize itemE ⟨di, dn, ds, dh, dd⟩ = I1 at *
  generalize itemE ⟨ri, rn, rs, rh, rd⟩ = I2 at *
  generalize itemE ⟨xi, xn, xs, xh, xd⟩ = I3 at *
  obtain ⟨ak, an, ab, al⟩ := I1
  obtain ⟨bk, bn, bb, bl⟩ := I2
  obtain ⟨ck, cn, cb, cl⟩ := I3
  obtain ⟨⟨k, n, b, l⟩, e⟩ := r
  have es : IntKind.u64.wrap sum = ((sum.toNat : Nat) : Int) := by rw [IntWalk.u64_in _ (by omega)]; omega
  have hU := uniI [It.mk ck cn cb cl, .mk 4 0 [] [.mk 0 t [] [], .mk 0 q [] []]]
  have hv0 : (itEs [It.mk ck cn cb cl, .mk 4 0 [] [.mk 0 t [] [], .mk 0 q [] []]])[(0 : Int).toNat]? = some (.agg [.int .i64 ck, .int .u64 (cn : Int), .sl (cb.map E.byte), .sl (itEs cl)]) := rfl
  have hv1 : (itEs [It.mk ck cn cb cl, .mk 4 0 [] [.mk 0 t [] [], .mk 0 q [] []]])[(1 : Int).toNat]? = some (.agg [.int .i64 4, .int .u64 0, .sl [], .sl [nmE t, nmE q]]) := rfl
  generalize hLe : itEs [It.mk ck cn cb cl, .mk 4 0 [] [.mk 0 t [] [], .mk 0 q [] []]] = LL at *
  replace hI : AP Tryd.prog 55 [.agg (iC ⟨xi, xn, xs, xh, xd⟩ t q)] (.tup [.agg [.int .i64 4, .int .u64 0, .sl .ext [], .sl .ext LL], .int .i64 0]) [] := by rw [<- hLe]; exact hI
  replace hS : AP Tryd.prog 17 [.sl .ext [nmE 7, nmE fl, nmE sum.toNat, .agg [.int .i64 ak, .int .u64 (an : Int), .sl (ab.map E.byte), .sl (itEs al)], .agg [.int .i64 ck, .int .u64 (cn : Int), .sl (cb.map E.byte), .sl (itEs cl)], .agg [.int .i64 bk, .int .u64 (bn : Int), .sl (bb.map E.byte), .sl (itEs bl)], .agg [.int .i64 4, .int .u64 0, .sl [], .sl [nmE t, nmE q]], nmE life], .int .i64 2] (sealD (.mk k n b l, e)) [] := hS
  refine AP.ofA ?_
  refine AC_of Tryd.func25 rfl Tryd.ntmps25 rfl rfl ?_
  repeat' (first | (apply AL_callPw (hR); kernel_rfl; (iterate 4 exact rfl)) | rw [es] | (apply AL_callPw (hD); kernel_rfl; (iterate 4 exact rfl)) | (apply AL_callPw (hP); kernel_rfl; (iterate 4 exact rfl)) | (apply AL_callPw (hI); kernel_rfl; (iterate 4 exact rfl)) | (apply AL_callPw (hN); kernel_rfl; (iterate 4 exact rfl)) | (apply AL_callPw (hF); kernel_rfl; (iterate 4 exact rfl)) | (apply AL_callPw (hM); kernel_rfl; (iterate 4 exact rfl)) | (apply AL_callPw (hL); kernel_rfl; (iterate 4 exact rfl)) | (apply AL_callPw (hS); kernel_rfl; (iterate 4 exact rfl)) | (apply AL_go ttok; exact rfl) | (apply AW_go ttok; exact rfl) | (apply K_go ttok; exact rfl) | (apply AW_condB; exact rfl; (first | with_reducible assumption | decide +kernel)) | (apply AL_bsZ ttok; (iterate 12 exact rfl)) | (apply AW_drawE 21 hmix; (decide +kernel); (kernel_rfl); (kernel_rfl); (kernel_rfl); exact rfl; exact rfl) | (apply AE_consZ; (iterate 4 exact rfl)) | exact AE.nil _ _ _ _ | (apply AEk_puT; exact rfl) | (apply AOt_mk; exact rfl; exact rfl; (decide +kernel); exact rfl) | (apply AO_puT; exact rfl) | exact AO.nil _ _ _ | (apply AOs_skip; (decide +kernel)) | exact AOs.nil | exact qY_ok rfl rfl | (apply AL_idx ttok; (iterate 6 exact rfl); (first | with_reducible assumption | decide +kernel | exact Int.natCast_nonneg _ | (guard_target = (0:Int) <= (OfNat.ofNat _ : Int); decide) | rotate_left); (first | with_reducible assumption | decide +kernel | exact rfl); (first | exact uniB_ok rfl | with_reducible assumption | decide +kernel | rotate_left)))
  all_goals (apply endQ []; (apply resG_ok ttok; exact rfl); (iterate 4 exact rfl))
  all_goals rfl
end Go.Proofs.YtfkmicjlaedlkaaDoor
end
section
open Go.RowKit Go.Pl Go.Av
namespace Go.Proofs.YtfkmicjlaedlkaaDoor
set_option maxHeartbeats 4000000
theorem pr_e [Known] [KnownU8] (k : Int) (n : Nat) (b : List UInt8) (xl : List E) (L : List E) (e : Int)
  (hO : AP Tryd.prog 20 [.agg [.int .i64 k, .int .u64 (n : Int), byE b, .sl .ext xl], .int .i64 2] (.tup [.sl .ext L, .int .i64 e]) []) (t1 : (e != 0) = true) :
  AP Tryd.prog 26 [.agg [.int .i64 k, .int .u64 (n : Int), byE b, .sl .ext xl]] (.tup [.agg [.int .u64 0, .int .i64 0, .bool false, .int .u64 0, .int .u64 0, .str [], .str [], .bool false, .int .u64 0, .int .u64 0, .str [], .str [], .bool false, .int .u64 0, .int .u64 0, .str [], .str [], .int .u64 0, .int .u64 0, .int .u64 0], .int .i64 e]) [] := by
 refine AP.ofA ?_
 refine AC_of Tryd.func26 rfl Tryd.ntmps26 rfl rfl ?_
 repeat' (first | (apply AL_callPw (hO); kernel_rfl; (iterate 4 exact rfl)) | (apply AL_go ttok; exact rfl) | (apply AW_go ttok; exact rfl) | (apply K_go ttok; exact rfl) | (apply AW_condA; exact rfl; (first | with_reducible assumption | decide +kernel)))
 all_goals (apply endQ []; (apply resG_ok ttok; exact rfl); (iterate 4 exact rfl))
 all_goals rfl
theorem pr_l [Known] [KnownU8] (k : Int) (n : Nat) (b : List UInt8) (xl : List E) (L : List E) (e : Int)
  (hO : AP Tryd.prog 20 [.agg [.int .i64 k, .int .u64 (n : Int), byE b, .sl .ext xl], .int .i64 2] (.tup [.sl .ext L, .int .i64 e]) []) (t1 : (e != 0) = false) (t2 : ((L.length : Int) != 8) = true) :
  AP Tryd.prog 26 [.agg [.int .i64 k, .int .u64 (n : Int), byE b, .sl .ext xl]] (.tup [.agg [.int .u64 0, .int .i64 0, .bool false, .int .u64 0, .int .u64 0, .str [], .str [], .bool false, .int .u64 0, .int .u64 0, .str [], .str [], .bool false, .int .u64 0, .int .u64 0, .str [], .str [], .int .u64 0, .int .u64 0, .int .u64 0], .int .i64 3]) [] := by
 refine AP.ofA ?_
 refine AC_of Tryd.func26 rfl Tryd.ntmps26 rfl rfl ?_
 repeat' (first | (apply AL_callPw (hO); kernel_rfl; (iterate 4 exact rfl)) | (apply AL_go ttok; exact rfl) | (apply AW_go ttok; exact rfl) | (apply K_go ttok; exact rfl) | (apply AW_condA; exact rfl; (first | with_reducible assumption | decide +kernel)) | (apply AW_condB; exact rfl; (first | with_reducible assumption | decide +kernel)) | (apply AL_len ttok; (iterate 4 exact rfl)))
 all_goals (apply endQ []; (apply resG_ok ttok; exact rfl); (iterate 4 exact rfl))
 all_goals rfl
end Go.Proofs.YtfkmicjlaedlkaaDoor
end
section
open Go.RowKit Go.Pl Go.Av
namespace Go.Proofs.YtfkmicjlaedlkaaDoor
set_option maxHeartbeats 4000000
theorem pr_md_all [Known] [KnownU8] (k : Int) (n : Nat) (b : List UInt8) (xl : List E) (L : List E) (e : Int) (k0 : Int) (n0 : Nat) (b0 : List UInt8) (l0 : List It) (k1 : Int) (n1 : Nat) (b1 : List UInt8) (l1 : List It) (k2 : Int) (n2 : Nat) (b2 : List UInt8) (l2 : List It) (k3 : Int) (n3 : Nat) (b3 : List UInt8) (l3 : List It) (k4 : Int) (n4 : Nat) (b4 : List UInt8) (l4 : List It) (k5 : Int) (n5 : Nat) (b5 : List UInt8) (l5 : List It) (k6 : Int) (n6 : Nat) (b6 : List UInt8) (l6 : List It) (k7 : Int) (n7 : Nat) (b7 : List UInt8) (l7 : List It) (di : Bool) (dn ds : Nat) (dh dd : List UInt8) (ri : Bool) (rn rs : Nat) (rh rd : List UInt8) (ui : Bool) (un us : Nat) (uh ud : List UInt8) (ut uq : Nat) (de re ie we : Int) (wk : Int) (wn : Nat) (wb : List UInt8) (wl : List E) (s : Bool) (hO : AP Tryd.prog 20 [.agg [.int .i64 k, .int .u64 (n : Int), byE b, .sl .ext xl], .int .i64 2] (.tup [.sl .ext L, .int .i64 e]) []) (t1 : (e != 0) = false) (t2 : ((L.length : Int) != 8) = false) (hU : Uni 4 L) (hv1 : L[(1 : Int).toNat]? = some (.agg [.int .i64 k1, .int .u64 (n1 : Int), .sl (b1.map E.byte), .sl (itEs l1)])) (hv2 : L[(2 : Int).toNat]? = some (.agg [.int .i64 k2, .int .u64 (n2 : Int), .sl (b2.map E.byte), .sl (itEs l2)])) (hv3 : L[(3 : Int).toNat]? = some (.agg [.int .i64 k3, .int .u64 (n3 : Int), .sl (b3.map E.byte), .sl (itEs l3)])) (hv4 : L[(4 : Int).toNat]? = some (.agg [.int .i64 k4, .int .u64 (n4 : Int), .sl (b4.map E.byte), .sl (itEs l4)])) (hv5 : L[(5 : Int).toNat]? = some (.agg [.int .i64 k5, .int .u64 (n5 : Int), .sl (b5.map E.byte), .sl (itEs l5)])) (hv6 : L[(6 : Int).toNat]? = some (.agg [.int .i64 k6, .int .u64 (n6 : Int), .sl (b6.map E.byte), .sl (itEs l6)])) (hv7 : L[(7 : Int).toNat]? = some (.agg [.int .i64 k7, .int .u64 (n7 : Int), .sl (b7.map E.byte), .sl (itEs l7)])) (hD : AP Tryd.prog 56 [.agg [.int .i64 k3, .int .u64 (n3 : Int), .sl .ext (b3.map E.byte), .sl .ext (itEs l3)]] (.tup [.agg [.bool di, .int .u64 (dn : Int), .int .u64 (ds : Int), .str dh, .str dd], .int .i64 de]) []) (hR : AP Tryd.prog 56 [.agg [.int .i64 k5, .int .u64 (n5 : Int), .sl .ext (b5.map E.byte), .sl .ext (itEs l5)]] (.tup [.agg [.bool ri, .int .u64 (rn : Int), .int .u64 (rs : Int), .str rh, .str rd], .int .i64 re]) []) (hL : AP Tryd.prog 12 [.sl .ext [.agg [.int .i64 k4, .int .u64 (n4 : Int), .sl (b4.map E.byte), .sl (itEs l4)], .agg [.int .i64 k6, .int .u64 (n6 : Int), .sl (b6.map E.byte), .sl (itEs l6)]]] (.agg [.int .i64 4, .int .u64 0, .sl .ext [], .sl .ext [.agg [.int .i64 k4, .int .u64 (n4 : Int), .sl (b4.map E.byte), .sl (itEs l4)], .agg [.int .i64 k6, .int .u64 (n6 : Int), .sl (b6.map E.byte), .sl (itEs l6)]]]) []) (hI : AP Tryd.prog 57 [.agg [.int .i64 4, .int .u64 0, .sl .ext [], .sl .ext [.agg [.int .i64 k4, .int .u64 (n4 : Int), .sl (b4.map E.byte), .sl (itEs l4)], .agg [.int .i64 k6, .int .u64 (n6 : Int), .sl (b6.map E.byte), .sl (itEs l6)]]]] (.tup [.agg [.bool ui, .int .u64 (un : Int), .int .u64 (us : Int), .str uh, .str ud, .int .u64 (ut : Int), .int .u64 (uq : Int)], .int .i64 ie]) []) (hW : AP Tryd.prog 25 [.agg [.int .u64 (n1 : Int), .int .i64 (IntKind.i64.wrap (n2 : Int)), .bool di, .int .u64 (dn : Int), .int .u64 (ds : Int), .str dh, .str dd, .bool ri, .int .u64 (rn : Int), .int .u64 (rs : Int), .str rh, .str rd, .bool ui, .int .u64 (un : Int), .int .u64 (us : Int), .str uh, .str ud, .int .u64 (ut : Int), .int .u64 (uq : Int), .int .u64 (n7 : Int)]] (.tup [.agg [.int .i64 wk, .int .u64 (wn : Int), byE wb, .sl .ext wl], .int .i64 we]) []) (hS : AP Tryd.prog 27 [.agg [.int .i64 wk, .int .u64 (wn : Int), byE wb, .sl .ext wl], .agg [.int .i64 k, .int .u64 (n : Int), byE b, .sl .ext xl]] (.bool s) []) :
  (∀ (c1 : (de != 0) = true),
  AP Tryd.prog 26 [.agg [.int .i64 k, .int .u64 (n : Int), byE b, .sl .ext xl]] (.tup [.agg [.int .u64 0, .int .i64 0, .bool false, .int .u64 0, .int .u64 0, .str [], .str [], .bool false, .int .u64 0, .int .u64 0, .str [], .str [], .bool false, .int .u64 0, .int .u64 0, .str [], .str [], .int .u64 0, .int .u64 0, .int .u64 0], .int .i64 3]) []) /\
  (∀ (c1 : (de != 0) = false) (c2 : (re != 0) = true),
  AP Tryd.prog 26 [.agg [.int .i64 k, .int .u64 (n : Int), byE b, .sl .ext xl]] (.tup [.agg [.int .u64 0, .int .i64 0, .bool false, .int .u64 0, .int .u64 0, .str [], .str [], .bool false, .int .u64 0, .int .u64 0, .str [], .str [], .bool false, .int .u64 0, .int .u64 0, .str [], .str [], .int .u64 0, .int .u64 0, .int .u64 0], .int .i64 3]) []) /\
  (∀ (c1 : (de != 0) = false) (c2 : (re != 0) = false) (c3 : (ie != 0) = true),
  AP Tryd.prog 26 [.agg [.int .i64 k, .int .u64 (n : Int), byE b, .sl .ext xl]] (.tup [.agg [.int .u64 0, .int .i64 0, .bool false, .int .u64 0, .int .u64 0, .str [], .str [], .bool false, .int .u64 0, .int .u64 0, .str [], .str [], .bool false, .int .u64 0, .int .u64 0, .str [], .str [], .int .u64 0, .int .u64 0, .int .u64 0], .int .i64 3]) []) := by
 refine ⟨fun c1 => ?_, fun c1 c2 => ?_, fun c1 c2 c3 => ?_⟩
 all_goals
  refine AP.ofA ?_
  refine AC_of Tryd.func26 rfl Tryd.ntmps26 rfl rfl ?_
  repeat' (first | (apply AL_callPw (hO); kernel_rfl; (iterate 4 exact rfl)) | (apply AL_callPw (hD); kernel_rfl; (iterate 4 exact rfl)) | (apply AL_callPw (hR); kernel_rfl; (iterate 4 exact rfl)) | (apply AL_callPw (hL); kernel_rfl; (iterate 4 exact rfl)) | (apply AL_callPw (hI); kernel_rfl; (iterate 4 exact rfl)) | (apply AL_callPw (hW); kernel_rfl; (iterate 4 exact rfl)) | (apply AL_go ttok; exact rfl) | (apply AW_go ttok; exact rfl) | (apply K_go ttok; exact rfl) | (apply AL_guardT; (iterate 3 exact rfl); (first | with_reducible assumption | decide +kernel)) | (apply AL_guardFf; (iterate 3 exact rfl); (first | with_reducible assumption | decide +kernel)) | (apply AL_pickT; exact rfl; (first | with_reducible assumption | decide +kernel); exact rfl; exact rfl) | (apply AL_pickF; exact rfl; (first | with_reducible assumption | decide +kernel); exact rfl; exact rfl) | (apply AW_condA; exact rfl; (first | with_reducible assumption | decide +kernel)) | (apply AW_condB; exact rfl; (first | with_reducible assumption | decide +kernel)) | (apply AL_len ttok; (iterate 4 exact rfl)) | (apply AL_bsZ ttok; (iterate 12 exact rfl)) | (apply AW_drawE 14 hmix; (decide +kernel); (kernel_rfl); (kernel_rfl); (kernel_rfl); exact rfl; exact rfl) | (apply AW_drawE 18 hmix; (decide +kernel); (kernel_rfl); (kernel_rfl); (kernel_rfl); exact rfl; exact rfl) | (apply AE_consZ; (iterate 4 exact rfl)) | exact AE.nil _ _ _ _ | (apply AEk_puT; exact rfl) | (apply AEk_efT; exact rfl) | (apply AEk_ef; exact rfl) | (apply AOt_mk; exact rfl; exact rfl; (decide +kernel); exact rfl) | (apply AO_puT; exact rfl) | (apply AO_efT; exact rfl) | (apply AO_ef; exact rfl) | exact AO.nil _ _ _ | (apply AOs_skip; (decide +kernel)) | (apply AOs_goZ; (iterate 3 exact rfl)) | exact AOs.nil | exact qY_ok rfl rfl | exact qY_wk rfl rfl rfl rfl rfl | exact qY_ef rfl rfl | exact qY_efn rfl | (apply AL_idx ttok; (iterate 6 exact rfl); (first | with_reducible assumption | decide +kernel | exact Int.natCast_nonneg _ | (guard_target = (0:Int) <= (OfNat.ofNat _ : Int); decide) | rotate_left); (first | with_reducible assumption | decide +kernel | exact rfl); (first | exact uniB_ok rfl | with_reducible assumption | decide +kernel | rotate_left)))
  all_goals (apply endQ []; (apply resG_ok ttok; exact rfl); (iterate 4 exact rfl))
  all_goals first | rfl | (exfalso; simp_all; done)
end Go.Proofs.YtfkmicjlaedlkaaDoor
end
section
open Go.RowKit Go.Pl Go.Av
namespace Go.Proofs.YtfkmicjlaedlkaaDoor
set_option maxHeartbeats 4000000
theorem pr_mw_all [Known] [KnownU8] (k : Int) (n : Nat) (b : List UInt8) (xl : List E) (L : List E) (e : Int) (k0 : Int) (n0 : Nat) (b0 : List UInt8) (l0 : List It) (k1 : Int) (n1 : Nat) (b1 : List UInt8) (l1 : List It) (k2 : Int) (n2 : Nat) (b2 : List UInt8) (l2 : List It) (k3 : Int) (n3 : Nat) (b3 : List UInt8) (l3 : List It) (k4 : Int) (n4 : Nat) (b4 : List UInt8) (l4 : List It) (k5 : Int) (n5 : Nat) (b5 : List UInt8) (l5 : List It) (k6 : Int) (n6 : Nat) (b6 : List UInt8) (l6 : List It) (k7 : Int) (n7 : Nat) (b7 : List UInt8) (l7 : List It) (di : Bool) (dn ds : Nat) (dh dd : List UInt8) (ri : Bool) (rn rs : Nat) (rh rd : List UInt8) (ui : Bool) (un us : Nat) (uh ud : List UInt8) (ut uq : Nat) (de re ie we : Int) (wk : Int) (wn : Nat) (wb : List UInt8) (wl : List E) (s : Bool) (hO : AP Tryd.prog 20 [.agg [.int .i64 k, .int .u64 (n : Int), byE b, .sl .ext xl], .int .i64 2] (.tup [.sl .ext L, .int .i64 e]) []) (t1 : (e != 0) = false) (t2 : ((L.length : Int) != 8) = false) (hU : Uni 4 L) (hv1 : L[(1 : Int).toNat]? = some (.agg [.int .i64 k1, .int .u64 (n1 : Int), .sl (b1.map E.byte), .sl (itEs l1)])) (hv2 : L[(2 : Int).toNat]? = some (.agg [.int .i64 k2, .int .u64 (n2 : Int), .sl (b2.map E.byte), .sl (itEs l2)])) (hv3 : L[(3 : Int).toNat]? = some (.agg [.int .i64 k3, .int .u64 (n3 : Int), .sl (b3.map E.byte), .sl (itEs l3)])) (hv4 : L[(4 : Int).toNat]? = some (.agg [.int .i64 k4, .int .u64 (n4 : Int), .sl (b4.map E.byte), .sl (itEs l4)])) (hv5 : L[(5 : Int).toNat]? = some (.agg [.int .i64 k5, .int .u64 (n5 : Int), .sl (b5.map E.byte), .sl (itEs l5)])) (hv6 : L[(6 : Int).toNat]? = some (.agg [.int .i64 k6, .int .u64 (n6 : Int), .sl (b6.map E.byte), .sl (itEs l6)])) (hv7 : L[(7 : Int).toNat]? = some (.agg [.int .i64 k7, .int .u64 (n7 : Int), .sl (b7.map E.byte), .sl (itEs l7)])) (hD : AP Tryd.prog 56 [.agg [.int .i64 k3, .int .u64 (n3 : Int), .sl .ext (b3.map E.byte), .sl .ext (itEs l3)]] (.tup [.agg [.bool di, .int .u64 (dn : Int), .int .u64 (ds : Int), .str dh, .str dd], .int .i64 de]) []) (hR : AP Tryd.prog 56 [.agg [.int .i64 k5, .int .u64 (n5 : Int), .sl .ext (b5.map E.byte), .sl .ext (itEs l5)]] (.tup [.agg [.bool ri, .int .u64 (rn : Int), .int .u64 (rs : Int), .str rh, .str rd], .int .i64 re]) []) (hL : AP Tryd.prog 12 [.sl .ext [.agg [.int .i64 k4, .int .u64 (n4 : Int), .sl (b4.map E.byte), .sl (itEs l4)], .agg [.int .i64 k6, .int .u64 (n6 : Int), .sl (b6.map E.byte), .sl (itEs l6)]]] (.agg [.int .i64 4, .int .u64 0, .sl .ext [], .sl .ext [.agg [.int .i64 k4, .int .u64 (n4 : Int), .sl (b4.map E.byte), .sl (itEs l4)], .agg [.int .i64 k6, .int .u64 (n6 : Int), .sl (b6.map E.byte), .sl (itEs l6)]]]) []) (hI : AP Tryd.prog 57 [.agg [.int .i64 4, .int .u64 0, .sl .ext [], .sl .ext [.agg [.int .i64 k4, .int .u64 (n4 : Int), .sl (b4.map E.byte), .sl (itEs l4)], .agg [.int .i64 k6, .int .u64 (n6 : Int), .sl (b6.map E.byte), .sl (itEs l6)]]]] (.tup [.agg [.bool ui, .int .u64 (un : Int), .int .u64 (us : Int), .str uh, .str ud, .int .u64 (ut : Int), .int .u64 (uq : Int)], .int .i64 ie]) []) (hW : AP Tryd.prog 25 [.agg [.int .u64 (n1 : Int), .int .i64 (IntKind.i64.wrap (n2 : Int)), .bool di, .int .u64 (dn : Int), .int .u64 (ds : Int), .str dh, .str dd, .bool ri, .int .u64 (rn : Int), .int .u64 (rs : Int), .str rh, .str rd, .bool ui, .int .u64 (un : Int), .int .u64 (us : Int), .str uh, .str ud, .int .u64 (ut : Int), .int .u64 (uq : Int), .int .u64 (n7 : Int)]] (.tup [.agg [.int .i64 wk, .int .u64 (wn : Int), byE wb, .sl .ext wl], .int .i64 we]) []) (hS : AP Tryd.prog 27 [.agg [.int .i64 wk, .int .u64 (wn : Int), byE wb, .sl .ext wl], .agg [.int .i64 k, .int .u64 (n : Int), byE b, .sl .ext xl]] (.bool s) []) (c1 : (de != 0) = false) (c2 : (re != 0) = false) (c3 : (ie != 0) = false) :
  (∀ (c4 : (we != 0) = true),
  AP Tryd.prog 26 [.agg [.int .i64 k, .int .u64 (n : Int), byE b, .sl .ext xl]] (.tup [.agg [.int .u64 0, .int .i64 0, .bool false, .int .u64 0, .int .u64 0, .str [], .str [], .bool false, .int .u64 0, .int .u64 0, .str [], .str [], .bool false, .int .u64 0, .int .u64 0, .str [], .str [], .int .u64 0, .int .u64 0, .int .u64 0], .int .i64 3]) []) /\
  (∀ (c4 : (we != 0) = false) (hSn : AP Tryd.prog 27 [.agg [.int .i64 wk, .int .u64 (wn : Int), byE wb, .sl .ext wl], .agg [.int .i64 k, .int .u64 (n : Int), byE b, .sl .ext xl]] (.bool false) []),
  AP Tryd.prog 26 [.agg [.int .i64 k, .int .u64 (n : Int), byE b, .sl .ext xl]] (.tup [.agg [.int .u64 0, .int .i64 0, .bool false, .int .u64 0, .int .u64 0, .str [], .str [], .bool false, .int .u64 0, .int .u64 0, .str [], .str [], .bool false, .int .u64 0, .int .u64 0, .str [], .str [], .int .u64 0, .int .u64 0, .int .u64 0], .int .i64 3]) []) /\
  (∀ (c4 : (we != 0) = false) (hSn : AP Tryd.prog 27 [.agg [.int .i64 wk, .int .u64 (wn : Int), byE wb, .sl .ext wl], .agg [.int .i64 k, .int .u64 (n : Int), byE b, .sl .ext xl]] (.bool true) []),
  AP Tryd.prog 26 [.agg [.int .i64 k, .int .u64 (n : Int), byE b, .sl .ext xl]] (.tup [.agg [.int .u64 (n1 : Int), .int .i64 (IntKind.i64.wrap (n2 : Int)), .bool di, .int .u64 (dn : Int), .int .u64 (ds : Int), .str dh, .str dd, .bool ri, .int .u64 (rn : Int), .int .u64 (rs : Int), .str rh, .str rd, .bool ui, .int .u64 (un : Int), .int .u64 (us : Int), .str uh, .str ud, .int .u64 (ut : Int), .int .u64 (uq : Int), .int .u64 (n7 : Int)], .int .i64 0]) []) := by
 refine ⟨fun c4 => ?_, fun c4 hSn => ?_, fun c4 hSn => ?_⟩
 all_goals
  refine AP.ofA ?_
  refine AC_of Tryd.func26 rfl Tryd.ntmps26 rfl rfl ?_
  repeat' (first | (apply AL_callPw (hO); kernel_rfl; (iterate 4 exact rfl)) | (apply AL_callPw (hD); kernel_rfl; (iterate 4 exact rfl)) | (apply AL_callPw (hR); kernel_rfl; (iterate 4 exact rfl)) | (apply AL_callPw (hL); kernel_rfl; (iterate 4 exact rfl)) | (apply AL_callPw (hI); kernel_rfl; (iterate 4 exact rfl)) | (apply AL_callPw (hW); kernel_rfl; (iterate 4 exact rfl)) | (apply AL_callPw (hSn); kernel_rfl; (iterate 4 exact rfl)) | (apply AL_go ttok; exact rfl) | (apply AW_go ttok; exact rfl) | (apply K_go ttok; exact rfl) | (apply AL_guardT; (iterate 3 exact rfl); (first | with_reducible assumption | decide +kernel)) | (apply AL_guardFf; (iterate 3 exact rfl); (first | with_reducible assumption | decide +kernel)) | (apply AL_pickT; exact rfl; (first | with_reducible assumption | decide +kernel); exact rfl; exact rfl) | (apply AL_pickF; exact rfl; (first | with_reducible assumption | decide +kernel); exact rfl; exact rfl) | (apply AW_condA; exact rfl; (first | with_reducible assumption | decide +kernel)) | (apply AW_condB; exact rfl; (first | with_reducible assumption | decide +kernel)) | (apply AL_len ttok; (iterate 4 exact rfl)) | (apply AL_bsZ ttok; (iterate 12 exact rfl)) | (apply AW_drawE 14 hmix; (decide +kernel); (kernel_rfl); (kernel_rfl); (kernel_rfl); exact rfl; exact rfl) | (apply AW_drawE 18 hmix; (decide +kernel); (kernel_rfl); (kernel_rfl); (kernel_rfl); exact rfl; exact rfl) | (apply AE_consZ; (iterate 4 exact rfl)) | exact AE.nil _ _ _ _ | (apply AEk_puT; exact rfl) | (apply AEk_efT; exact rfl) | (apply AEk_ef; exact rfl) | (apply AOt_mk; exact rfl; exact rfl; (decide +kernel); exact rfl) | (apply AO_puT; exact rfl) | (apply AO_efT; exact rfl) | (apply AO_ef; exact rfl) | exact AO.nil _ _ _ | (apply AOs_skip; (decide +kernel)) | (apply AOs_goZ; (iterate 3 exact rfl)) | exact AOs.nil | exact qY_ok rfl rfl | exact qY_wk rfl rfl rfl rfl rfl | exact qY_ef rfl rfl | exact qY_efn rfl | (apply AL_idx ttok; (iterate 6 exact rfl); (first | with_reducible assumption | decide +kernel | exact Int.natCast_nonneg _ | (guard_target = (0:Int) <= (OfNat.ofNat _ : Int); decide) | rotate_left); (first | with_reducible assumption | decide +kernel | exact rfl); (first | exact uniB_ok rfl | with_reducible assumption | decide +kernel | rotate_left)))
  all_goals (apply endQ []; (apply resG_ok ttok; exact rfl); (iterate 4 exact rfl))
  all_goals first | rfl | (exfalso; simp_all; done)
end Go.Proofs.YtfkmicjlaedlkaaDoor
end
section
open Go.RowKit Go.Pl Go.Av
namespace Go.Proofs.YtfkmicjlaedlkaaDoor
set_option maxHeartbeats 4000000
abbrev readZ (y : It) : EidV := match (readV y).2 with | true => (readV y).1 | false => eidZ
def readNm (y p r x : It) : Bool := match (readV y).2, iRight (readZ y) p.n r.n with
 | true, true => It.beq (itemN (readZ y) p.n r.n) x
 | _, _ => false
abbrev resN (x : EidV) (t q : Nat) (b : Bool) : D := .tup [.agg (iC (match b with | true => x | false => eidZ) (match b with | true => t | false => 0) (match b with | true => q | false => 0)), .int .i64 (match b with | true => 0 | false => 3)]
def noForm : It -> Bool
 | .mk k _ _ [_, .mk k2 _ _ [_, _]] => !(k == 4 && k2 == 4)
 | _ => true
theorem av_iReadNo [Known] [KnownU8] (x : It) (h : noForm x = true) : AP Tryd.prog 57 [itD x] (resN eidZ 0 0 false) [] := by
 show AP Tryd.prog _ _ (.tup [.agg [.bool false, .int .u64 0, .int .u64 0, .str [], .str [], .int .u64 0, .int .u64 0], .int .i64 3]) []
 obtain ⟨k, n, b, l⟩ := x
 by_cases hk : k = 4
 ·have t1 : (k != 4) = false := by simpa using hk
  by_cases hl : l.length = 2
  ·obtain ⟨y, z, rfl⟩ : ∃ y z, l = [y, z] := by
    match l, hl with
    | [y, z], _ => exact ⟨y, z, rfl⟩
   have t2 : (((itEs [y, z]).length : Int) != 2) = false := rfl
   have hU := uniI [y, z]
   obtain ⟨ky, ny, bY, ly⟩ := y
   obtain ⟨kz, nz, bz, lz⟩ := z
   by_cases hk2 : kz = 4
   ·have t3 : (kz != 4) = false := by simpa using hk2
    have hl2 : lz.length ≠ 2 := by
     intro e
     match lz, e with
     | [p, r], _ => simp [noForm, hk, hk2] at h
    have t4 : (((itEs lz).length : Int) != 2) = true := by rw [itEs_len]; simp; omega
    refine AP.ofA ?_
    refine AC_of Tryd.func57 rfl Tryd.ntmps57 rfl rfl ?_
    repeat' (first | (apply AL_go ttok; exact rfl) | (apply AW_go ttok; exact rfl) | (apply K_go ttok; exact rfl) | (apply AL_guardT; (iterate 3 exact rfl); (first | with_reducible assumption | decide +kernel)) | (apply AL_pickF; exact rfl; (first | with_reducible assumption | decide +kernel); exact rfl; exact rfl) | (apply AW_condA; exact rfl; (first | with_reducible assumption | decide +kernel)) | (apply AL_len ttok; (iterate 4 exact rfl)) | (apply AL_idx ttok; (iterate 6 exact rfl); (first | with_reducible assumption | decide +kernel | exact Int.natCast_nonneg _ | (guard_target = (0:Int) <= (OfNat.ofNat _ : Int); decide) | rotate_left); (first | with_reducible assumption | decide +kernel | exact rfl); (first | exact uniB_ok rfl | with_reducible assumption | decide +kernel | rotate_left)))
    all_goals (apply endQ []; (apply resG_ok ttok; exact rfl); (iterate 4 exact rfl))
    all_goals rfl
   ·have t3 : (kz != 4) = true := by simpa using hk2
    refine AP.ofA ?_
    refine AC_of Tryd.func57 rfl Tryd.ntmps57 rfl rfl ?_
    repeat' (first | (apply AL_go ttok; exact rfl) | (apply AW_go ttok; exact rfl) | (apply K_go ttok; exact rfl) | (apply AL_guardT; (iterate 3 exact rfl); (first | with_reducible assumption | decide +kernel)) | (apply AL_guardFf; (iterate 3 exact rfl); (first | with_reducible assumption | decide +kernel)) | (apply AL_pickT; exact rfl; (first | with_reducible assumption | decide +kernel); exact rfl; exact rfl) | (apply AL_pickF; exact rfl; (first | with_reducible assumption | decide +kernel); exact rfl; exact rfl) | (apply AW_condA; exact rfl; (first | with_reducible assumption | decide +kernel)) | (apply AL_len ttok; (iterate 4 exact rfl)) | (apply AL_idx ttok; (iterate 6 exact rfl); (first | with_reducible assumption | decide +kernel | exact Int.natCast_nonneg _ | (guard_target = (0:Int) <= (OfNat.ofNat _ : Int); decide) | rotate_left); (first | with_reducible assumption | decide +kernel | exact rfl); (first | exact uniB_ok rfl | with_reducible assumption | decide +kernel | rotate_left)))
    all_goals (apply endQ []; (apply resG_ok ttok; exact rfl); (iterate 4 exact rfl))
    all_goals rfl
  ·have t2 : (((itEs l).length : Int) != 2) = true := by rw [itEs_len]; simp; omega
   refine AP.ofA ?_
   refine AC_of Tryd.func57 rfl Tryd.ntmps57 rfl rfl ?_
   repeat' (first | (apply AL_go ttok; exact rfl) | (apply AW_go ttok; exact rfl) | (apply K_go ttok; exact rfl) | (apply AL_guardT; (iterate 3 exact rfl); (first | with_reducible assumption | decide +kernel)) | (apply AL_guardFf; (iterate 3 exact rfl); (first | with_reducible assumption | decide +kernel)) | (apply AL_pickT; exact rfl; (first | with_reducible assumption | decide +kernel); exact rfl; exact rfl) | (apply AL_pickF; exact rfl; (first | with_reducible assumption | decide +kernel); exact rfl; exact rfl) | (apply AW_condA; exact rfl; (first | with_reducible assumption | decide +kernel)) | (apply AL_len ttok; (iterate 4 exact rfl)))
   all_goals (apply endQ []; (apply resG_ok ttok; exact rfl); (iterate 4 exact rfl))
   all_goals rfl
 ·have t1 : (k != 4) = true := by simpa using hk
  refine AP.ofA ?_
  refine AC_of Tryd.func57 rfl Tryd.ntmps57 rfl rfl ?_
  repeat' (first | (apply AL_go ttok; exact rfl) | (apply AW_go ttok; exact rfl) | (apply K_go ttok; exact rfl) | (apply AL_guardFf; (iterate 3 exact rfl); (first | with_reducible assumption | decide +kernel)) | (apply AL_pickT; exact rfl; (first | with_reducible assumption | decide +kernel); exact rfl; exact rfl) | (apply AW_condA; exact rfl; (first | with_reducible assumption | decide +kernel)))
  all_goals (apply endQ []; (apply resG_ok ttok; exact rfl); (iterate 4 exact rfl))
  all_goals rfl
end Go.Proofs.YtfkmicjlaedlkaaDoor
end
section
open Go.RowKit Go.Pl Go.Av
namespace Go.Proofs.YtfkmicjlaedlkaaDoor
set_option maxHeartbeats 4000000
theorem ird_f [Known] (y z : It) (n : Nat) (b : List UInt8) (n2 : Nat) (b2 : List UInt8) (kp : Int) (np : Nat) (bp : List UInt8) (lp : List It) (kr : Int) (nr : Nat) (br : List UInt8) (lr : List It) (c : Int)
  (hE : AP Tryd.prog 56 [itD y] (.tup [.agg (eC eidZ), .int .i64 3]) []) (hW : AP Tryd.prog 55 [.agg (iC eidZ np nr)] (.tup [itD z, .int .i64 c]) []) :
  AP Tryd.prog 57 [itD (.mk 4 n b [y, .mk 4 n2 b2 [.mk kp np bp lp, .mk kr nr br lr]])] (.tup [.agg (iC eidZ 0 0), .int .i64 3]) [] := by
 have hU := uniI [y, .mk 4 n2 b2 [.mk kp np bp lp, .mk kr nr br lr]]
 have hU2 := uniI [.mk kp np bp lp, .mk kr nr br lr]
 have t2 : (((itEs [y, .mk 4 n2 b2 [.mk kp np bp lp, .mk kr nr br lr]]).length : Int) != 2) = false := rfl
 have t3 : (((itEs [.mk kp np bp lp, .mk kr nr br lr]).length : Int) != 2) = false := rfl
 obtain ⟨yk, yn, yb, yl⟩ := y
 obtain ⟨zk, zn, zb, zl⟩ := z
 replace hE : AP Tryd.prog _ [.agg [.int .i64 yk, .int .u64 (yn : Int), byE yb, .sl .ext (itEs yl)]] (.tup [.agg [.bool false, .int .u64 0, .int .u64 0, .str [], .str []], .int .i64 3]) [] := hE
 replace hW : AP Tryd.prog _ [.agg [.bool false, .int .u64 0, .int .u64 0, .str [], .str [], .int .u64 (np : Int), .int .u64 (nr : Int)]] (.tup [.agg [.int .i64 zk, .int .u64 (zn : Int), byE zb, .sl .ext (itEs zl)], .int .i64 c]) [] := hW
 refine AP.ofA ?_
 refine AC_of Tryd.func57 rfl Tryd.ntmps57 rfl rfl ?_
 repeat' (first | (apply AL_callPw (hE); kernel_rfl; (iterate 4 exact rfl)) | (apply AL_callPw (hW); kernel_rfl; (iterate 4 exact rfl)) | (apply AL_go ttok; exact rfl) | (apply AW_go ttok; exact rfl) | (apply K_go ttok; exact rfl) | (apply AL_guardT; (iterate 3 exact rfl); (first | with_reducible assumption | decide +kernel)) | (apply AL_guardFf; (iterate 3 exact rfl); (first | with_reducible assumption | decide +kernel)) | (apply AL_pickT; exact rfl; (first | with_reducible assumption | decide +kernel); exact rfl; exact rfl) | (apply AL_pickF; exact rfl; (first | with_reducible assumption | decide +kernel); exact rfl; exact rfl) | (apply AW_condA; exact rfl; (first | with_reducible assumption | decide +kernel)) | (apply AW_condB; exact rfl; (first | with_reducible assumption | decide +kernel)) | (apply AL_len ttok; (iterate 4 exact rfl)) | (apply AW_drawE 19 hmix; (decide +kernel); (kernel_rfl); (kernel_rfl); (kernel_rfl); exact rfl; exact rfl) | (apply AE_consZ; (iterate 4 exact rfl)) | exact AE.nil _ _ _ _ | (apply AEk_puT; exact rfl) | (apply AEk_efT; exact rfl) | (apply AOt_mk; exact rfl; exact rfl; (decide +kernel); exact rfl) | (apply AO_puT; exact rfl) | (apply AO_efT; exact rfl) | exact AO.nil _ _ _ | (apply AOs_skip; (decide +kernel)) | (apply AOs_goZ; (iterate 3 exact rfl)) | exact AOs.nil | exact qY_ok rfl rfl | exact qY_ef rfl rfl | (apply AL_idx ttok; (iterate 6 exact rfl); (first | with_reducible assumption | decide +kernel | exact Int.natCast_nonneg _ | (guard_target = (0:Int) <= (OfNat.ofNat _ : Int); decide) | rotate_left); (first | with_reducible assumption | decide +kernel | exact rfl); (first | exact uniB_ok rfl | with_reducible assumption | decide +kernel | rotate_left)))
 all_goals (apply endQ []; (apply resG_ok ttok; exact rfl); (iterate 4 exact rfl))
 all_goals rfl
theorem ird_w [Known] (x : EidV) (y z : It) (n : Nat) (b : List UInt8) (n2 : Nat) (b2 : List UInt8) (kp : Int) (np : Nat) (bp : List UInt8) (lp : List It) (kr : Int) (nr : Nat) (br : List UInt8) (lr : List It)
  (hE : AP Tryd.prog 56 [itD y] (.tup [.agg (eC x), .int .i64 0]) []) (hW : AP Tryd.prog 55 [.agg (iC x np nr)] (.tup [itD z, .int .i64 3]) []) :
  AP Tryd.prog 57 [itD (.mk 4 n b [y, .mk 4 n2 b2 [.mk kp np bp lp, .mk kr nr br lr]])] (.tup [.agg (iC eidZ 0 0), .int .i64 3]) [] := by
 have hU := uniI [y, .mk 4 n2 b2 [.mk kp np bp lp, .mk kr nr br lr]]
 have hU2 := uniI [.mk kp np bp lp, .mk kr nr br lr]
 have t2 : (((itEs [y, .mk 4 n2 b2 [.mk kp np bp lp, .mk kr nr br lr]]).length : Int) != 2) = false := rfl
 have t3 : (((itEs [.mk kp np bp lp, .mk kr nr br lr]).length : Int) != 2) = false := rfl
 obtain ⟨yk, yn, yb, yl⟩ := y
 obtain ⟨zk, zn, zb, zl⟩ := z
 obtain ⟨xi, xn, xs, xh, xd⟩ := x
 replace hE : AP Tryd.prog _ [.agg [.int .i64 yk, .int .u64 (yn : Int), byE yb, .sl .ext (itEs yl)]] (.tup [.agg [.bool xi, .int .u64 (xn : Int), .int .u64 (xs : Int), .str xh, .str xd], .int .i64 0]) [] := hE
 replace hW : AP Tryd.prog _ [.agg [.bool xi, .int .u64 (xn : Int), .int .u64 (xs : Int), .str xh, .str xd, .int .u64 (np : Int), .int .u64 (nr : Int)]] (.tup [.agg [.int .i64 zk, .int .u64 (zn : Int), byE zb, .sl .ext (itEs zl)], .int .i64 3]) [] := hW
 refine AP.ofA ?_
 refine AC_of Tryd.func57 rfl Tryd.ntmps57 rfl rfl ?_
 repeat' (first | (apply AL_callPw (hE); kernel_rfl; (iterate 4 exact rfl)) | (apply AL_callPw (hW); kernel_rfl; (iterate 4 exact rfl)) | (apply AL_go ttok; exact rfl) | (apply AW_go ttok; exact rfl) | (apply K_go ttok; exact rfl) | (apply AL_guardT; (iterate 3 exact rfl); (first | with_reducible assumption | decide +kernel)) | (apply AL_guardFf; (iterate 3 exact rfl); (first | with_reducible assumption | decide +kernel)) | (apply AL_pickT; exact rfl; (first | with_reducible assumption | decide +kernel); exact rfl; exact rfl) | (apply AL_pickF; exact rfl; (first | with_reducible assumption | decide +kernel); exact rfl; exact rfl) | (apply AW_condA; exact rfl; (first | with_reducible assumption | decide +kernel)) | (apply AW_condB; exact rfl; (first | with_reducible assumption | decide +kernel)) | (apply AL_len ttok; (iterate 4 exact rfl)) | (apply AW_drawE 19 hmix; (decide +kernel); (kernel_rfl); (kernel_rfl); (kernel_rfl); exact rfl; exact rfl) | (apply AE_consZ; (iterate 4 exact rfl)) | exact AE.nil _ _ _ _ | (apply AEk_puT; exact rfl) | (apply AEk_efT; exact rfl) | (apply AOt_mk; exact rfl; exact rfl; (decide +kernel); exact rfl) | (apply AO_puT; exact rfl) | (apply AO_efT; exact rfl) | exact AO.nil _ _ _ | (apply AOs_skip; (decide +kernel)) | (apply AOs_goZ; (iterate 3 exact rfl)) | exact AOs.nil | exact qY_ok rfl rfl | exact qY_ef rfl rfl | (apply AL_idx ttok; (iterate 6 exact rfl); (first | with_reducible assumption | decide +kernel | exact Int.natCast_nonneg _ | (guard_target = (0:Int) <= (OfNat.ofNat _ : Int); decide) | rotate_left); (first | with_reducible assumption | decide +kernel | exact rfl); (first | exact uniB_ok rfl | with_reducible assumption | decide +kernel | rotate_left)))
 all_goals (apply endQ []; (apply resG_ok ttok; exact rfl); (iterate 4 exact rfl))
 all_goals rfl
theorem ird_s [Known] (x : EidV) (y z : It) (n : Nat) (b : List UInt8) (n2 : Nat) (b2 : List UInt8) (kp : Int) (np : Nat) (bp : List UInt8) (lp : List It) (kr : Int) (nr : Nat) (br : List UInt8) (lr : List It) (R : Bool)
  (hE : AP Tryd.prog 56 [itD y] (.tup [.agg (eC x), .int .i64 0]) []) (hW : AP Tryd.prog 55 [.agg (iC x np nr)] (.tup [itD z, .int .i64 0]) [])
  (hS : AP Tryd.prog 27 [itD z, itD (.mk 4 n b [y, .mk 4 n2 b2 [.mk kp np bp lp, .mk kr nr br lr]])] (.bool R) []) :
  AP Tryd.prog 57 [itD (.mk 4 n b [y, .mk 4 n2 b2 [.mk kp np bp lp, .mk kr nr br lr]])] (resN x np nr R) [] := by
 have hU := uniI [y, .mk 4 n2 b2 [.mk kp np bp lp, .mk kr nr br lr]]
 have hU2 := uniI [.mk kp np bp lp, .mk kr nr br lr]
 have t2 : (((itEs [y, .mk 4 n2 b2 [.mk kp np bp lp, .mk kr nr br lr]]).length : Int) != 2) = false := rfl
 have t3 : (((itEs [.mk kp np bp lp, .mk kr nr br lr]).length : Int) != 2) = false := rfl
 obtain ⟨yk, yn, yb, yl⟩ := y
 obtain ⟨zk, zn, zb, zl⟩ := z
 obtain ⟨xi, xn, xs, xh, xd⟩ := x
 replace hE : AP Tryd.prog _ [.agg [.int .i64 yk, .int .u64 (yn : Int), byE yb, .sl .ext (itEs yl)]] (.tup [.agg [.bool xi, .int .u64 (xn : Int), .int .u64 (xs : Int), .str xh, .str xd], .int .i64 0]) [] := hE
 replace hW : AP Tryd.prog _ [.agg [.bool xi, .int .u64 (xn : Int), .int .u64 (xs : Int), .str xh, .str xd, .int .u64 (np : Int), .int .u64 (nr : Int)]] (.tup [.agg [.int .i64 zk, .int .u64 (zn : Int), byE zb, .sl .ext (itEs zl)], .int .i64 0]) [] := hW
 replace hS : AP Tryd.prog _ [.agg [.int .i64 zk, .int .u64 (zn : Int), byE zb, .sl .ext (itEs zl)], itD (.mk 4 n b [.mk yk yn yb yl, .mk 4 n2 b2 [.mk kp np bp lp, .mk kr nr br lr]])] (.bool R) [] := hS
 cases R with
 | true =>
  show AP Tryd.prog _ _ (.tup [.agg [.bool xi, .int .u64 (xn : Int), .int .u64 (xs : Int), .str xh, .str xd, .int .u64 (np : Int), .int .u64 (nr : Int)], .int .i64 0]) []
  refine AP.ofA ?_
  refine AC_of Tryd.func57 rfl Tryd.ntmps57 rfl rfl ?_
  repeat' (first | (apply AL_callPw (hE); kernel_rfl; (iterate 4 exact rfl)) | (apply AL_callPw (hW); kernel_rfl; (iterate 4 exact rfl)) | (apply AL_callPw (hS); kernel_rfl; (iterate 4 exact rfl)) | (apply AL_go ttok; exact rfl) | (apply AW_go ttok; exact rfl) | (apply K_go ttok; exact rfl) | (apply AL_guardT; (iterate 3 exact rfl); (first | with_reducible assumption | decide +kernel)) | (apply AL_pickF; exact rfl; (first | with_reducible assumption | decide +kernel); exact rfl; exact rfl) | (apply AW_condB; exact rfl; (first | with_reducible assumption | decide +kernel)) | (apply AL_len ttok; (iterate 4 exact rfl)) | (apply AW_drawE 19 hmix; (decide +kernel); (kernel_rfl); (kernel_rfl); (kernel_rfl); exact rfl; exact rfl) | (apply AE_consZ; (iterate 4 exact rfl)) | exact AE.nil _ _ _ _ | (apply AEk_puT; exact rfl) | (apply AEk_efT; exact rfl) | (apply AOt_mk; exact rfl; exact rfl; (decide +kernel); exact rfl) | (apply AO_puT; exact rfl) | (apply AO_efT; exact rfl) | exact AO.nil _ _ _ | (apply AOs_skip; (decide +kernel)) | (apply AOs_goZ; (iterate 3 exact rfl)) | exact AOs.nil | exact qY_ok rfl rfl | exact qY_ef rfl rfl | (apply AL_idx ttok; (iterate 6 exact rfl); (first | with_reducible assumption | decide +kernel | exact Int.natCast_nonneg _ | (guard_target = (0:Int) <= (OfNat.ofNat _ : Int); decide) | rotate_left); (first | with_reducible assumption | decide +kernel | exact rfl); (first | exact uniB_ok rfl | with_reducible assumption | decide +kernel | rotate_left)))
  all_goals (apply endQ []; (apply resG_ok ttok; exact rfl); (iterate 4 exact rfl))
  all_goals rfl
 | false =>
  show AP Tryd.prog _ _ (.tup [.agg [.bool false, .int .u64 0, .int .u64 0, .str [], .str [], .int .u64 0, .int .u64 0], .int .i64 3]) []
  refine AP.ofA ?_
  refine AC_of Tryd.func57 rfl Tryd.ntmps57 rfl rfl ?_
  repeat' (first | (apply AL_callPw (hE); kernel_rfl; (iterate 4 exact rfl)) | (apply AL_callPw (hW); kernel_rfl; (iterate 4 exact rfl)) | (apply AL_callPw (hS); kernel_rfl; (iterate 4 exact rfl)) | (apply AL_go ttok; exact rfl) | (apply AW_go ttok; exact rfl) | (apply K_go ttok; exact rfl) | (apply AL_guardT; (iterate 3 exact rfl); (first | with_reducible assumption | decide +kernel)) | (apply AL_pickF; exact rfl; (first | with_reducible assumption | decide +kernel); exact rfl; exact rfl) | (apply AW_condA; exact rfl; (first | with_reducible assumption | decide +kernel)) | (apply AW_condB; exact rfl; (first | with_reducible assumption | decide +kernel)) | (apply AL_len ttok; (iterate 4 exact rfl)) | (apply AW_drawE 19 hmix; (decide +kernel); (kernel_rfl); (kernel_rfl); (kernel_rfl); exact rfl; exact rfl) | (apply AE_consZ; (iterate 4 exact rfl)) | exact AE.nil _ _ _ _ | (apply AEk_puT; exact rfl) | (apply AEk_efT; exact rfl) | (apply AOt_mk; exact rfl; exact rfl; (decide +kernel); exact rfl) | (apply AO_puT; exact rfl) | (apply AO_efT; exact rfl) | exact AO.nil _ _ _ | (apply AOs_skip; (decide +kernel)) | (apply AOs_goZ; (iterate 3 exact rfl)) | exact AOs.nil | exact qY_ok rfl rfl | exact qY_ef rfl rfl | (apply AL_idx ttok; (iterate 6 exact rfl); (first | with_reducible assumption | decide +kernel | exact Int.natCast_nonneg _ | (guard_target = (0:Int) <= (OfNat.ofNat _ : Int); decide) | rotate_left); (first | with_reducible assumption | decide +kernel | exact rfl); (first | exact uniB_ok rfl | with_reducible assumption | decide +kernel | rotate_left)))
  all_goals (apply endQ []; (apply resG_ok ttok; exact rfl); (iterate 4 exact rfl))
  all_goals rfl
theorem av_iReadYes [Known] [KnownU8] (n : Nat) (b : List UInt8) (y : It) (n2 : Nat) (b2 : List UInt8) (p r : It) (hw : wfI (.mk 4 n b [y, .mk 4 n2 b2 [p, r]])) :
  AP Tryd.prog 57 [itD (.mk 4 n b [y, .mk 4 n2 b2 [p, r]])] (resN (readZ y) p.n r.n (readNm y p r (.mk 4 n b [y, .mk 4 n2 b2 [p, r]]))) [] := by
 have hwy : wfI y := hw.2.2.2.1
 have hE := av_eRead y hwy
 have hW := av_iWrite (readZ y) p.n r.n
 unfold readNm
 cases hv : (readV y).2 with
 | false =>
  have e0 : readZ y = eidZ := by unfold readZ; rw [hv]
  unfold resE at hE
  rw [hv] at hE
  rw [e0] at hW
  obtain ⟨kp, np, bp, lp⟩ := p
  obtain ⟨kr, nr, br, lr⟩ := r
  exact ird_f y _ n b n2 b2 kp np bp lp kr nr br lr _ hE hW
 | true =>
  have e0 : readZ y = (readV y).1 := by unfold readZ; rw [hv]
  unfold resE at hE
  rw [hv] at hE
  rw [<- e0] at hE
  cases hr : iRight (readZ y) p.n r.n with
  | false =>
   rw [hr] at hW
   obtain ⟨kp, np, bp, lp⟩ := p
   obtain ⟨kr, nr, br, lr⟩ := r
   exact ird_w _ y _ n b n2 b2 kp np bp lp kr nr br lr hE hW
  | true =>
   rw [hr, if_pos rfl, if_pos rfl] at hW
   have hS := av_same _ (wf_itemN hr) _ hw
   obtain ⟨kp, np, bp, lp⟩ := p
   obtain ⟨kr, nr, br, lr⟩ := r
   exact ird_s _ y _ n b n2 b2 kp np bp lp kr nr br lr _ hE hW hS
end Go.Proofs.YtfkmicjlaedlkaaDoor
end
