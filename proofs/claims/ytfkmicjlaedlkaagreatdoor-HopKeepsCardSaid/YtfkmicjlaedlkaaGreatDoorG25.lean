/- Package canon: hops. -/
import Derived.Test.YtfkmicjlaedlkaaGreatDoorG24
import Derived.Test.YtfkmicjlaedlkaaGreatDoorG15
import Derived.Test.YtfkmicjlaedlkaaGreatDoorG20
import Derived.Test.YtfkmicjlaedlkaaGreatDoorG09
import Derived.Test.YtfkmicjlaedlkaaGreatDoorG12
set_option linter.unusedVariables false
set_option linter.unusedSimpArgs false
section
open Go.RowKit Go.Pl Go.Av
namespace Go.Proofs.YtfkmicjlaedlkaaGreatDoor
set_option maxHeartbeats 4000000
theorem hp_2 [Known] [KnownU8] (d : List UInt8) (k : Int) (n : Nat) (b : List UInt8) (L : List E) (k1 : Int) (n1 : Nat) (b1 : List UInt8) (l1 : List It) (k2 : Int) (n2 : Nat) (b2 : List UInt8) (l2 : List It) (s : Bool) (N : D)
  (hI : AP Tryz.prog 110 [byE d] (.tup [.agg [.int .i64 k, .int .u64 (n : Int), byE b, .sl .ext L], .bool true]) []) (tk2 : (k != 4) = false) (t2 : ((L.length : Int) != 2) = false) (hU : Uni 4 L)
  (hv0 : L[(0 : Int).toNat]? = some (.agg [.int .i64 k1, .int .u64 (n1 : Int), .sl (b1.map E.byte), .sl (itEs l1)])) (hv1 : L[(1 : Int).toNat]? = some (.agg [.int .i64 k2, .int .u64 (n2 : Int), .sl (b2.map E.byte), .sl (itEs l2)]))
  (hN : AP Tryz.prog 111 [.sl .ext [.int .u64 (n1 : Int), .int .u64 (n2 : Int)]] (.agg [.int .i64 4, .int .u64 0, .sl .ext [], .sl .ext [nmE n1, nmE n2]]) []) (hS : AP Tryz.prog 48 [.agg [.int .i64 k, .int .u64 (n : Int), byE b, .sl .ext L], .agg [.int .i64 4, .int .u64 0, .sl .ext [], .sl .ext [nmE n1, nmE n2]]] (.bool s) []) (ts : s = true) (t4 : decide ((n1 : Int) ≥ 1) = true) (t5 : decide ((n1 : Int) <= 255) = false) :
  AP Tryz.prog 70 [byE d] (.tup [.int .u64 (n1 : Int), .int .u64 (n2 : Int), .bool false]) [] := by
 subst ts
 refine AP.ofA ?_
 refine AC_of Tryz.func70 rfl Tryz.ntmps70 rfl rfl ?_
 repeat' (first | (apply AL_callPw (hI); kernel_rfl; (iterate 4 exact rfl)) | (apply AL_callPw (hS); kernel_rfl; (iterate 4 exact rfl)) | (apply AL_callPw (hN); kernel_rfl; (iterate 4 exact rfl)) | (apply AL_go ttok; exact rfl) | (apply AW_go ttok; exact rfl) | (apply K_go ttok; exact rfl) | (apply AL_guardT; (iterate 3 exact rfl); (first | with_reducible assumption | decide +kernel)) | (apply AL_guardFt; (iterate 3 exact rfl); (first | with_reducible assumption | decide +kernel)) | (apply AL_pickT; exact rfl; (first | with_reducible assumption | decide +kernel); exact rfl; exact rfl) | (apply AL_pickF; exact rfl; (first | with_reducible assumption | decide +kernel); exact rfl; exact rfl) | (apply AW_condB; exact rfl; (first | with_reducible assumption | decide +kernel)) | (apply AL_len ttok; (iterate 4 exact rfl)) | (apply AL_bsZ ttok; (iterate 12 exact rfl)) | (apply AW_drawE 11 hmix; (decide +kernel); (kernel_rfl); (kernel_rfl); (kernel_rfl); exact rfl; exact rfl) | (apply AW_drawE 23 hmix; (decide +kernel); (kernel_rfl); (kernel_rfl); (kernel_rfl); exact rfl; exact rfl) | (apply AE_consZ; (iterate 4 exact rfl)) | exact AE.nil _ _ _ _ | (apply AEk_puT; exact rfl) | (apply AOt_mk; exact rfl; exact rfl; (decide +kernel); exact rfl) | (apply AO_puT; exact rfl) | exact AO.nil _ _ _ | (apply AOs_skip; (decide +kernel)) | exact AOs.nil | exact qY_ok rfl rfl | exact qY_wk rfl rfl rfl rfl rfl | (apply AL_idx ttok; (iterate 6 exact rfl); (first | with_reducible assumption | decide +kernel | exact Int.natCast_nonneg _ | (guard_target = (0:Int) <= (OfNat.ofNat _ : Int); decide) | rotate_left); (first | with_reducible assumption | decide +kernel | exact rfl); (first | exact uniB_ok rfl | with_reducible assumption | decide +kernel | rotate_left)))
 all_goals (apply endQ []; (apply resG_ok ttok; exact rfl); (iterate 4 exact rfl))
 all_goals rfl
theorem hp_3 [Known] [KnownU8] (d : List UInt8) (k : Int) (n : Nat) (b : List UInt8) (L : List E) (k1 : Int) (n1 : Nat) (b1 : List UInt8) (l1 : List It) (k2 : Int) (n2 : Nat) (b2 : List UInt8) (l2 : List It) (s : Bool) (N : D)
  (hI : AP Tryz.prog 110 [byE d] (.tup [.agg [.int .i64 k, .int .u64 (n : Int), byE b, .sl .ext L], .bool true]) []) (tk2 : (k != 4) = false) (t2 : ((L.length : Int) != 2) = false) (hU : Uni 4 L)
  (hv0 : L[(0 : Int).toNat]? = some (.agg [.int .i64 k1, .int .u64 (n1 : Int), .sl (b1.map E.byte), .sl (itEs l1)])) (hv1 : L[(1 : Int).toNat]? = some (.agg [.int .i64 k2, .int .u64 (n2 : Int), .sl (b2.map E.byte), .sl (itEs l2)]))
  (hN : AP Tryz.prog 111 [.sl .ext [.int .u64 (n1 : Int), .int .u64 (n2 : Int)]] (.agg [.int .i64 4, .int .u64 0, .sl .ext [], .sl .ext [nmE n1, nmE n2]]) []) (hS : AP Tryz.prog 48 [.agg [.int .i64 k, .int .u64 (n : Int), byE b, .sl .ext L], .agg [.int .i64 4, .int .u64 0, .sl .ext [], .sl .ext [nmE n1, nmE n2]]] (.bool s) []) (ts : s = true) (t4 : decide ((n1 : Int) ≥ 1) = true) (t5 : decide ((n1 : Int) <= 255) = true) :
  AP Tryz.prog 70 [byE d] (.tup [.int .u64 (n1 : Int), .int .u64 (n2 : Int), .bool (decide ((n2 : Int) <= (n1 : Int)))]) [] := by
 subst ts
 refine AP.ofA ?_
 refine AC_of Tryz.func70 rfl Tryz.ntmps70 rfl rfl ?_
 repeat' (first | (apply AL_callPw (hI); kernel_rfl; (iterate 4 exact rfl)) | (apply AL_callPw (hS); kernel_rfl; (iterate 4 exact rfl)) | (apply AL_callPw (hN); kernel_rfl; (iterate 4 exact rfl)) | (apply AL_go ttok; exact rfl) | (apply AW_go ttok; exact rfl) | (apply K_go ttok; exact rfl) | (apply AL_guardT; (iterate 3 exact rfl); (first | with_reducible assumption | decide +kernel)) | (apply AL_pickT; exact rfl; (first | with_reducible assumption | decide +kernel); exact rfl; exact rfl) | (apply AL_pickF; exact rfl; (first | with_reducible assumption | decide +kernel); exact rfl; exact rfl) | (apply AW_condB; exact rfl; (first | with_reducible assumption | decide +kernel)) | (apply AL_len ttok; (iterate 4 exact rfl)) | (apply AL_bsZ ttok; (iterate 12 exact rfl)) | (apply AW_drawE 11 hmix; (decide +kernel); (kernel_rfl); (kernel_rfl); (kernel_rfl); exact rfl; exact rfl) | (apply AW_drawE 23 hmix; (decide +kernel); (kernel_rfl); (kernel_rfl); (kernel_rfl); exact rfl; exact rfl) | (apply AE_consZ; (iterate 4 exact rfl)) | exact AE.nil _ _ _ _ | (apply AEk_puT; exact rfl) | (apply AOt_mk; exact rfl; exact rfl; (decide +kernel); exact rfl) | (apply AO_puT; exact rfl) | exact AO.nil _ _ _ | (apply AOs_skip; (decide +kernel)) | exact AOs.nil | exact qY_ok rfl rfl | exact qY_wk rfl rfl rfl rfl rfl | (apply AL_idx ttok; (iterate 6 exact rfl); (first | with_reducible assumption | decide +kernel | exact Int.natCast_nonneg _ | (guard_target = (0:Int) <= (OfNat.ofNat _ : Int); decide) | rotate_left); (first | with_reducible assumption | decide +kernel | exact rfl); (first | exact uniB_ok rfl | with_reducible assumption | decide +kernel | rotate_left)))
 all_goals (apply endQ []; (apply resG_ok ttok; exact rfl); (iterate 4 exact rfl))
 all_goals rfl
end Go.Proofs.YtfkmicjlaedlkaaGreatDoor
end
section
open Go.RowKit Go.Pl Go.Av
namespace Go.Proofs.YtfkmicjlaedlkaaGreatDoor
set_option maxHeartbeats 4000000
theorem av_hops [Known] [KnownU8] (d : List UInt8) (hd : d.length <= 100000) : AP Tryz.prog 70 [byE d] (.tup [.int .u64 ((hopsV d).1 : Int), .int .u64 ((hopsV d).2.1 : Int), .bool (hopsV d).2.2]) [] := by
 have hI := av_item d hd
 have hw := rd_wf d hd
 unfold hopsV
 generalize (readI d 0).1 = x at *
 obtain ⟨k, n, b, l⟩ := x
 cases hs : shortI d with
 | false =>
  rw [hs] at hI
  exact hp_f d k n b l hI
 | true =>
 rw [hs] at hI
 unfold hopsX
 dsimp only
 cases tk : (k == 4) with
 | false => exact hp_k d k n b l hI tk
 | true =>
 have tk2 : (k != 4) = false := by rw [bne, tk]; rfl
 match l, hI, hw with
 | [], hI, _ => exact hp_l d k n b _ hI tk (by simp)
 | [.mk _ _ _ _], hI, _ => exact hp_l d k n b _ hI tk (by simp)
 | .mk _ _ _ _ :: .mk _ _ _ _ :: _ :: _, hI, _ => exact hp_l d k n b _ hI tk (by simp)
 | [.mk k1 n1 b1 l1, .mk k2 n2 b2 l2], hI, hw =>
 have t2 : (((itEs [It.mk k1 n1 b1 l1, .mk k2 n2 b2 l2]).length : Int) != 2) = false := by rw [itEs_len]; rfl
 have hU := uniI [It.mk k1 n1 b1 l1, .mk k2 n2 b2 l2]
 have hws := hw.2.2.2
 have hS := av_same _ hw (.mk 4 0 [] [.mk 0 n1 [] [], .mk 0 n2 [] []]) ⟨by decide, by simp, by simp, ⟨hws.1.1, by simp, by simp, trivial⟩, ⟨hws.2.1.1, by simp, by simp, trivial⟩, trivial⟩
 have hN := av_numbers2 n1 n2
 dsimp only
 cases t3 : It.beq (.mk k n b [.mk k1 n1 b1 l1, .mk k2 n2 b2 l2]) (.mk 4 0 [] [.mk 0 n1 [] [], .mk 0 n2 [] []]) with
 | false => exact hp_s d k n b _ k1 n1 b1 l1 k2 n2 b2 l2 _ .junk hI tk2 t2 hU rfl rfl hN hS t3
 | true =>
 cases t4 : decide ((n1 : Int) ≥ 1) with
 | false => exact hp_1 d k n b _ k1 n1 b1 l1 k2 n2 b2 l2 _ .junk hI tk2 t2 hU rfl rfl hN hS t3 t4
 | true =>
 cases t5 : decide ((n1 : Int) <= 255) with
 | false => exact hp_2 d k n b _ k1 n1 b1 l1 k2 n2 b2 l2 _ .junk hI tk2 t2 hU rfl rfl hN hS t3 t4 t5
 | true => exact hp_3 d k n b _ k1 n1 b1 l1 k2 n2 b2 l2 _ .junk hI tk2 t2 hU rfl rfl hN hS t3 t4 t5
end Go.Proofs.YtfkmicjlaedlkaaGreatDoor
end
section
open Go.RowKit Go.Pl Go.Av
namespace Go.Proofs.YtfkmicjlaedlkaaGreatDoor
set_option maxHeartbeats 4000000
def dataK (kind : Nat) (d : List UInt8) : Bool := match ((kind : Int) == 6) with
 | true => (prevV d).2
 | false => match ((kind : Int) == 7) with
  | true => (ageV d).2
  | false => match ((kind : Int) == 10) with
   | true => (hopsV d).2.2
   | false => true
def dataV (kind : Nat) (d : List UInt8) : Bool := dataK kind d && decide ((d.length : Int) <= 200)
theorem av_isData [Known] [KnownU8] (kind : Nat) (d : List UInt8) (hd : d.length <= 100000) : AP Tryz.prog 130 [.int .u64 (kind : Int), byE d] (.bool (dataV kind d)) [] := by
 have hP := av_previous d hd
 have hA := av_age d hd
 have hH := av_hops d hd
 have hdl : (d.map E.byte).length = d.length := List.length_map ..
 unfold dataV dataK
 rw [<- hdl]
 generalize (prevV d).1 = pz at *
 obtain ⟨zi, zn, zs, zh, zd⟩ := pz
 generalize (prevV d).2 = p1 at *
 generalize (ageV d).1 = a0 at *
 generalize (ageV d).2 = a1 at *
 generalize (hopsV d).1 = h0 at *
 generalize (hopsV d).2.1 = h1 at *
 generalize (hopsV d).2.2 = h2 at *
 cases t1 : ((kind : Int) == 6) with
 | true =>
  cases p1
  all_goals
   refine AP.ofA ?_
   refine AC_of Tryz.func130 rfl Tryz.ntmps130 rfl rfl ?_
   repeat' (first | (apply AL_callPw (hP); kernel_rfl; (iterate 4 exact rfl)) | (apply AL_go ttok; exact rfl) | (apply AW_go ttok; exact rfl) | (apply AL_guardT; (iterate 3 exact rfl); (first | with_reducible assumption | decide +kernel)) | (apply AL_guardFt; (iterate 3 exact rfl); (first | with_reducible assumption | decide +kernel)) | (apply AL_pickT; exact rfl; (first | with_reducible assumption | decide +kernel); exact rfl; exact rfl) | (apply AL_pickF; exact rfl; (first | with_reducible assumption | decide +kernel); exact rfl; exact rfl) | (apply AW_condA; exact rfl; (first | with_reducible assumption | decide +kernel)) | (apply AL_len ttok; (iterate 4 exact rfl)))
   all_goals (apply endQ []; (apply resG_ok ttok; exact rfl); (iterate 4 exact rfl))
   all_goals rfl
 | false =>
 cases t2 : ((kind : Int) == 7) with
 | true =>
  cases a1
  all_goals
   refine AP.ofA ?_
   refine AC_of Tryz.func130 rfl Tryz.ntmps130 rfl rfl ?_
   repeat' (first | (apply AL_callPw (hA); kernel_rfl; (iterate 4 exact rfl)) | (apply AL_go ttok; exact rfl) | (apply AW_go ttok; exact rfl) | (apply AL_guardT; (iterate 3 exact rfl); (first | with_reducible assumption | decide +kernel)) | (apply AL_guardFt; (iterate 3 exact rfl); (first | with_reducible assumption | decide +kernel)) | (apply AL_pickT; exact rfl; (first | with_reducible assumption | decide +kernel); exact rfl; exact rfl) | (apply AL_pickF; exact rfl; (first | with_reducible assumption | decide +kernel); exact rfl; exact rfl) | (apply AW_condA; exact rfl; (first | with_reducible assumption | decide +kernel)) | (apply AW_condB; exact rfl; (first | with_reducible assumption | decide +kernel)) | (apply AL_len ttok; (iterate 4 exact rfl)))
   all_goals (apply endQ []; (apply resG_ok ttok; exact rfl); (iterate 4 exact rfl))
   all_goals rfl
 | false =>
 cases t3 : ((kind : Int) == 10) with
 | true =>
  cases h2
  all_goals
   refine AP.ofA ?_
   refine AC_of Tryz.func130 rfl Tryz.ntmps130 rfl rfl ?_
   repeat' (first | (apply AL_callPw (hH); kernel_rfl; (iterate 4 exact rfl)) | (apply AL_go ttok; exact rfl) | (apply AW_go ttok; exact rfl) | (apply AL_guardT; (iterate 3 exact rfl); (first | with_reducible assumption | decide +kernel)) | (apply AL_guardFt; (iterate 3 exact rfl); (first | with_reducible assumption | decide +kernel)) | (apply AL_pickT; exact rfl; (first | with_reducible assumption | decide +kernel); exact rfl; exact rfl) | (apply AL_pickF; exact rfl; (first | with_reducible assumption | decide +kernel); exact rfl; exact rfl) | (apply AW_condA; exact rfl; (first | with_reducible assumption | decide +kernel)) | (apply AW_condB; exact rfl; (first | with_reducible assumption | decide +kernel)) | (apply AL_len ttok; (iterate 4 exact rfl)))
   all_goals (apply endQ []; (apply resG_ok ttok; exact rfl); (iterate 4 exact rfl))
   all_goals rfl
 | false =>
  refine AP.ofA ?_
  refine AC_of Tryz.func130 rfl Tryz.ntmps130 rfl rfl ?_
  repeat' (first | (apply AL_go ttok; exact rfl) | (apply AW_go ttok; exact rfl) | (apply AL_guardT; (iterate 3 exact rfl); (first | with_reducible assumption | decide +kernel)) | (apply AL_pickT; exact rfl; (first | with_reducible assumption | decide +kernel); exact rfl; exact rfl) | (apply AW_condB; exact rfl; (first | with_reducible assumption | decide +kernel)) | (apply AL_len ttok; (iterate 4 exact rfl)))
  all_goals (apply endQ []; (apply resG_ok ttok; exact rfl); (iterate 4 exact rfl))
  all_goals rfl
def bkRight (b : BlkV) : Bool := !(badN b.ty || badN b.num) && ((bits .andNot .u64 (b.fl : Int) 23 == 0) && (decide (b.sum ≥ 0) && (decide (b.sum <= 2) && dataV b.ty b.data)))
theorem av_bRight [Known] [KnownU8] (b : BlkV) (hd : b.data.length <= 100000) : AP Tryz.prog 102 [.agg (bkC b)] (.bool (bkRight b)) [] := by
 have hW := av_within2 b.ty b.num
 have hD := av_isData b.ty b.data hd
 obtain ⟨ty, num, fl, sum, data⟩ := b
 unfold bkRight
 dsimp only at hW hD ⊢
 generalize dataV ty data = dv at *
 cases hb1 : (badN ty || badN num) with
 | true =>
  rw [hb1] at hW
  replace hW : AP Tryz.prog _ _ (.bool false) [] := hW
  refine AP.ofA ?_
  refine AC_of Tryz.func102 rfl Tryz.ntmps102 rfl rfl ?_
  repeat' (first | (apply AL_callPw (hW); kernel_rfl; (iterate 4 exact rfl)) | (apply AL_go ttok; exact rfl) | (apply AW_go ttok; exact rfl) | (apply AL_guardFt; (iterate 3 exact rfl); (first | with_reducible assumption | decide +kernel)) | (apply AL_pickF; exact rfl; (first | with_reducible assumption | decide +kernel); exact rfl; exact rfl) | (apply AL_bsZ ttok; (iterate 12 exact rfl)))
  all_goals (apply endQ []; (apply resG_ok ttok; exact rfl); (iterate 4 exact rfl))
  all_goals rfl
 | false =>
 rw [hb1] at hW
 replace hW : AP Tryz.prog _ _ (.bool true) [] := hW
 cases t1 : (bits .andNot .u64 (fl : Int) 23 == 0) with
 | false =>
  refine AP.ofA ?_
  refine AC_of Tryz.func102 rfl Tryz.ntmps102 rfl rfl ?_
  repeat' (first | (apply AL_callPw (hW); kernel_rfl; (iterate 4 exact rfl)) | (apply AL_go ttok; exact rfl) | (apply AW_go ttok; exact rfl) | (apply AL_guardT; (iterate 3 exact rfl); (first | with_reducible assumption | decide +kernel)) | (apply AL_guardFt; (iterate 3 exact rfl); (first | with_reducible assumption | decide +kernel)) | (apply AL_pickT; exact rfl; (first | with_reducible assumption | decide +kernel); exact rfl; exact rfl) | (apply AL_pickF; exact rfl; (first | with_reducible assumption | decide +kernel); exact rfl; exact rfl) | (apply AL_bsZ ttok; (iterate 12 exact rfl)))
  all_goals (apply endQ []; (apply resG_ok ttok; exact rfl); (iterate 4 exact rfl))
  all_goals rfl
 | true =>
 cases t2 : decide (sum ≥ 0) with
 | false =>
  refine AP.ofA ?_
  refine AC_of Tryz.func102 rfl Tryz.ntmps102 rfl rfl ?_
  repeat' (first | (apply AL_callPw (hW); kernel_rfl; (iterate 4 exact rfl)) | (apply AL_go ttok; exact rfl) | (apply AW_go ttok; exact rfl) | (apply AL_guardT; (iterate 3 exact rfl); (first | with_reducible assumption | decide +kernel)) | (apply AL_guardFt; (iterate 3 exact rfl); (first | with_reducible assumption | decide +kernel)) | (apply AL_pickT; exact rfl; (first | with_reducible assumption | decide +kernel); exact rfl; exact rfl) | (apply AL_pickF; exact rfl; (first | with_reducible assumption | decide +kernel); exact rfl; exact rfl) | (apply AL_bsZ ttok; (iterate 12 exact rfl)))
  all_goals (apply endQ []; (apply resG_ok ttok; exact rfl); (iterate 4 exact rfl))
  all_goals rfl
 | true =>
 cases t3 : decide (sum <= 2) with
 | false =>
  refine AP.ofA ?_
  refine AC_of Tryz.func102 rfl Tryz.ntmps102 rfl rfl ?_
  repeat' (first | (apply AL_callPw (hW); kernel_rfl; (iterate 4 exact rfl)) | (apply AL_go ttok; exact rfl) | (apply AW_go ttok; exact rfl) | (apply AL_guardT; (iterate 3 exact rfl); (first | with_reducible assumption | decide +kernel)) | (apply AL_guardFt; (iterate 3 exact rfl); (first | with_reducible assumption | decide +kernel)) | (apply AL_pickT; exact rfl; (first | with_reducible assumption | decide +kernel); exact rfl; exact rfl) | (apply AL_pickF; exact rfl; (first | with_reducible assumption | decide +kernel); exact rfl; exact rfl) | (apply AL_bsZ ttok; (iterate 12 exact rfl)))
  all_goals (apply endQ []; (apply resG_ok ttok; exact rfl); (iterate 4 exact rfl))
  all_goals rfl
 | true =>
  refine AP.ofA ?_
  refine AC_of Tryz.func102 rfl Tryz.ntmps102 rfl rfl ?_
  repeat' (first | (apply AL_callPw (hW); kernel_rfl; (iterate 4 exact rfl)) | (apply AL_callPw (hD); kernel_rfl; (iterate 4 exact rfl)) | (apply AL_go ttok; exact rfl) | (apply AW_go ttok; exact rfl) | (apply AL_guardT; (iterate 3 exact rfl); (first | with_reducible assumption | decide +kernel)) | (apply AL_pickT; exact rfl; (first | with_reducible assumption | decide +kernel); exact rfl; exact rfl) | (apply AL_bsZ ttok; (iterate 12 exact rfl)))
  all_goals (apply endQ []; (apply resG_ok ttok; exact rfl); (iterate 4 exact rfl))
  all_goals rfl

end Go.Proofs.YtfkmicjlaedlkaaGreatDoor
end
section
open Go.RowKit Go.Pl Go.Av
namespace Go.Proofs.YtfkmicjlaedlkaaGreatDoor
set_option maxHeartbeats 4000000
def listB (b : BlkV) : List It := [.mk 0 b.ty [] [], .mk 0 b.num [] [], .mk 0 b.fl [] [], .mk 0 b.sum.toNat [] [], .mk 2 0 b.data []]
def writeB (b : BlkV) : It × Int := match bkRight b with
 | true => sealV (listB b) 3
 | false => (z0, 3)
theorem bk_facts {b : BlkV} (h : bkRight b = true) : b.ty <= 255 /\ b.num <= 255 /\ 0 <= b.sum /\ b.sum <= 2 /\ dataV b.ty b.data = true := by
 unfold bkRight badN at h
 simp only [Bool.and_eq_true, Bool.not_eq_true', Bool.or_eq_false_iff, decide_eq_true_eq, decide_eq_false_iff_not] at h
 obtain ⟨⟨⟨h1, h2⟩, h3, h4⟩, _, h5, h6, h7⟩ := h
 exact ⟨by omega, by omega, h5, h6, h7⟩
theorem wfs_B {b : BlkV} (h : bkRight b = true) (hfl : b.fl < 18446744073709551616) (hd : b.data.length <= 3000) : wfs (listB b) := by
 obtain ⟨h1, h2, h3, h4, _⟩ := bk_facts h
 simp [listB, wfs, wfI]
 omega
theorem lim_B {b : BlkV} (h : bkRight b = true) (hfl : b.fl < 18446744073709551616) (hd : b.data.length <= 3000) (s : Nat) (hs : s = 1 \/ s = 2) : (putI (zeroL s (listB b))).length <= 1000000000 := by
 obtain ⟨h1, h2, h3, h4, _⟩ := bk_facts h
 have h9 : ¬ 3000 < b.data.length := by omega
 have hg : greatI (zeroL s (listB b)) 1 300 = 293 := by
  rcases hs with rfl | rfl <;> simp [zeroL, listB, greatI, greats, h9]
 have hn : nI (zeroL s (listB b)) := by
  simp [zeroL, listB, nI, nIs]
  omega
 have := (small_wf _ 1 300 (by omega) (by omega) hn).2.1
 omega
theorem av_bWrite [Known] [KnownU8] (b : BlkV) (hfl : b.fl < 18446744073709551616) (hd : b.data.length <= 3000) : AP Tryz.prog 105 [.agg (bkC b)] (sealD (writeB b)) [] := by
 have hR := av_bRight b (by omega)
 unfold writeB
 cases hr : bkRight b with
 | false =>
  rw [hr] at hR
  obtain ⟨ty, num, fl, sum, data⟩ := b
  dsimp only [z0] at *
  refine AP.ofA ?_
  refine AC_of Tryz.func105 rfl Tryz.ntmps105 rfl rfl ?_
  repeat' (first | (apply AL_callPw (hR); kernel_rfl; (iterate 4 exact rfl)) | (apply AL_go ttok; exact rfl) | (apply AW_go ttok; exact rfl) | (apply K_go ttok; exact rfl) | (apply AW_condA; exact rfl; (first | with_reducible assumption | decide +kernel)))
  all_goals (apply endQ []; (apply resG_ok ttok; exact rfl); (iterate 4 exact rfl))
  all_goals rfl
 | true =>
  rw [hr] at hR
  obtain ⟨h1, h2, h3, h4, _⟩ := bk_facts hr
  have hS := av_seal (listB b) 3 (wfs_B hr hfl hd) (by simp [listB]) (lim_B hr hfl hd)
  dsimp only
  generalize sealV (listB b) 3 = r at *
  obtain ⟨ty, num, fl, sum, data⟩ := b
  obtain ⟨⟨k, n, bb, l⟩, e⟩ := r
  dsimp only at h1 h2 h3 h4 hd hfl
  have hN := av_numbers4 ty num fl sum.toNat
  have hB := av_bytes data (by omega)
  have es : IntKind.u64.wrap sum = ((sum.toNat : Nat) : Int) := by rw [IntWalk.u64_in _ (by omega)]; omega
  replace hS : AP Tryz.prog 43 [.sl .ext [nmE ty, nmE num, nmE fl, nmE sum.toNat, .agg [.int .i64 2, .int .u64 0, .sl (data.map E.byte), .sl []]], .int .i64 3] (sealD (.mk k n bb l, e)) [] := hS
  have hu4 : Uni 4 [nmE ty, nmE num, nmE fl, nmE sum.toNat] := Uni.map (f := nmE) (fun _ => rfl) [ty, num, fl, sum.toNat]
  refine AP.ofA ?_
  refine AC_of Tryz.func105 rfl Tryz.ntmps105 rfl rfl ?_
  repeat' (first | (apply AL_callPw (hR); kernel_rfl; (iterate 4 exact rfl)) | rw [es] | (apply AL_callT [] [] (hN); kernel_rfl; (iterate 10 exact rfl)) | (apply AL_callPw (hB); kernel_rfl; (iterate 4 exact rfl)) | (apply AL_callPw (hS); kernel_rfl; (iterate 4 exact rfl)) | (apply AL_appendZ ttok; (iterate 11 exact rfl); exact uniB_ok rfl; exact uniB_ok rfl; exact List.cons_ne_nil _ _; decide +kernel; decide +kernel; exact rfl; exact rfl) | (apply AL_go ttok; exact rfl) | (apply AW_go ttok; exact rfl) | (apply K_go ttok; exact rfl) | (apply AW_condB; exact rfl; (first | with_reducible assumption | decide +kernel)) | (apply AL_bsZ ttok; (iterate 12 exact rfl)))
  all_goals (apply endQ []; (apply resG_ok ttok; exact rfl); (iterate 4 exact rfl))
  all_goals rfl
end Go.Proofs.YtfkmicjlaedlkaaGreatDoor
end
section
open Go.RowKit Go.Pl Go.Av
namespace Go.Proofs.YtfkmicjlaedlkaaGreatDoor
set_option maxHeartbeats 4000000
def bk0 : BlkV := ⟨0, 0, 0, 0, []⟩
abbrev blkD (r : BlkV × Int) : D := .tup [.agg (bkC r.1), .int .i64 r.2]
def ofV (kind number : Nat) (sum : Int) (x : It) (e : Int) : BlkV × Int := match e != 0 with
 | true => (bk0, 3)
 | false => match rightI x with
  | false => (bk0, 3)
  | true => match bkRight ⟨kind, number, 0, sum, putI x⟩ with
   | true => (⟨kind, number, 0, sum, putI x⟩, 0)
   | false => (bk0, 3)
theorem av_of [Known] [KnownU8] (kind number : Nat) (sum : Int) (x : It) (e : Int) (hw : wfI x) (hx : (putI x).length <= 100000) : AP Tryz.prog 112 [.int .u64 (kind : Int), .int .u64 (number : Int), .int .i64 sum, itD x, .int .i64 e] (blkD (ofV kind number sum x e)) [] := by
 have hW := av_writeI x hw (by omega) (av_rightI x hw)
 have hR := av_bRight ⟨kind, number, 0, sum, putI x⟩ hx
 have hR0 := av_bRight ⟨kind, number, 0, sum, []⟩ (by simp)
 unfold ofV
 cases te : (e != 0) with
 | true =>
  dsimp only [bk0]
  cases hr : rightI x <;> rw [hr] at hW
  all_goals
   obtain ⟨k, n, b, l⟩ := x
   refine AP.ofA ?_
   refine AC_of Tryz.func112 rfl Tryz.ntmps112 rfl rfl ?_
   repeat' (first | (apply AL_callPw (hW); kernel_rfl; (iterate 4 exact rfl)) | (apply AL_go ttok; exact rfl) | (apply AW_go ttok; exact rfl) | (apply K_go ttok; exact rfl) | (apply AL_guardFf; (iterate 3 exact rfl); (first | with_reducible assumption | decide +kernel)) | (apply AL_pickT; exact rfl; (first | with_reducible assumption | decide +kernel); exact rfl; exact rfl) | (apply AW_condA; exact rfl; (first | with_reducible assumption | decide +kernel)))
   all_goals (apply endQ []; (apply resG_ok ttok; exact rfl); (iterate 4 exact rfl))
   all_goals rfl
 | false =>
 cases hr : rightI x with
 | false =>
  rw [hr] at hW
  replace hW : AP Tryz.prog 104 [itD x] (.tup [.sl .ext [], .int .i64 3]) [] := hW
  obtain ⟨k, n, b, l⟩ := x
  dsimp only [bk0]
  refine AP.ofA ?_
  refine AC_of Tryz.func112 rfl Tryz.ntmps112 rfl rfl ?_
  repeat' (first | (apply AL_callPw (hW); kernel_rfl; (iterate 4 exact rfl)) | (apply AL_go ttok; exact rfl) | (apply AW_go ttok; exact rfl) | (apply K_go ttok; exact rfl) | (apply AL_guardT; (iterate 3 exact rfl); (first | with_reducible assumption | decide +kernel)) | (apply AL_guardFf; (iterate 3 exact rfl); (first | with_reducible assumption | decide +kernel)) | (apply AL_pickT; exact rfl; (first | with_reducible assumption | decide +kernel); exact rfl; exact rfl) | (apply AL_pickF; exact rfl; (first | with_reducible assumption | decide +kernel); exact rfl; exact rfl) | (apply AW_condA; exact rfl; (first | with_reducible assumption | decide +kernel)))
  all_goals (apply endQ []; (apply resG_ok ttok; exact rfl); (iterate 4 exact rfl))
  all_goals rfl
 | true =>
  rw [hr] at hW
  replace hW : AP Tryz.prog 104 [itD x] (.tup [byE (putI x), .int .i64 0]) [] := hW
  generalize putI x = P at *
  obtain ⟨k, n, b, l⟩ := x
  dsimp only
  cases hb1 : bkRight ⟨kind, number, 0, sum, P⟩
  all_goals
   rw [hb1] at hR
   dsimp only [bk0]
   refine AP.ofA ?_
   refine AC_of Tryz.func112 rfl Tryz.ntmps112 rfl rfl ?_
   repeat' (first | (apply AL_callPw (hW); kernel_rfl; (iterate 4 exact rfl)) | (apply AL_callPw (hR); kernel_rfl; (iterate 4 exact rfl)) | (apply AL_go ttok; exact rfl) | (apply AW_go ttok; exact rfl) | (apply K_go ttok; exact rfl) | (apply AL_guardT; (iterate 3 exact rfl); (first | with_reducible assumption | decide +kernel)) | (apply AL_pickF; exact rfl; (first | with_reducible assumption | decide +kernel); exact rfl; exact rfl) | (apply AW_condA; exact rfl; (first | with_reducible assumption | decide +kernel)) | (apply AW_condB; exact rfl; (first | with_reducible assumption | decide +kernel)))
   all_goals (apply endQ []; (apply resG_ok ttok; exact rfl); (iterate 4 exact rfl))
   all_goals rfl
theorem av_ofAge [Known] [KnownU8] (number : Nat) (sum : Int) (age : Nat) (ha : age < 18446744073709551616) : AP Tryz.prog 113 [.int .u64 (number : Int), .int .i64 sum, .int .u64 (age : Int)] (blkD (ofV 7 number sum (.mk 0 age [] []) 0)) [] := by
 have hw : wfI (.mk 0 age [] []) := ⟨ha, by simp, by simp, trivial⟩
 have hl := (small_wf (.mk 0 age [] []) 1 300 (by omega) (by simp [greatI, greats]) ⟨ha, trivial⟩).2.1
 have hg : greatI (.mk 0 age [] []) 1 300 = 299 := by simp [greatI, greats]
 have hO := av_of 7 number sum (.mk 0 age [] []) 0 hw (by omega)
 have hN := av_num age
 clear hl hg
 generalize ofV 7 number sum (.mk 0 age [] []) 0 = r at *
 obtain ⟨⟨a, b, c, d, f⟩, e⟩ := r
 refine AP.ofA ?_
 refine AC_of Tryz.func113 rfl Tryz.ntmps113 rfl rfl ?_
 repeat' (first | (apply AL_callPw (hN); kernel_rfl; (iterate 4 exact rfl)) | (apply AL_callPw (hO); kernel_rfl; (iterate 4 exact rfl)) | (apply AL_go ttok; exact rfl) | (apply AW_go ttok; exact rfl))
 all_goals (apply endQ []; (apply resG_ok ttok; exact rfl); (iterate 4 exact rfl))
 all_goals rfl
abbrev hopI (n m : Nat) : It := .mk 4 0 [] [.mk 0 n [] [], .mk 0 m [] []]
theorem av_ofHops [Known] [KnownU8] (number : Nat) (sum : Int) (n m : Nat) (hn : n < 18446744073709551616) (hm : m < 18446744073709551616) : AP Tryz.prog 114 [.int .u64 (number : Int), .int .i64 sum, .int .u64 (n : Int), .int .u64 (m : Int)] (blkD (ofV 10 number sum (hopI n m) 0)) [] := by
 have hw : wfI (hopI n m) := ⟨by decide, by simp, by simp, ⟨hn, by simp, by simp, trivial⟩, ⟨hm, by simp, by simp, trivial⟩, trivial⟩
 have hg : greatI (hopI n m) 1 300 = 297 := by simp [greatI, greats]
 have hl := (small_wf (hopI n m) 1 300 (by omega) (by omega) ⟨by decide, ⟨hn, trivial⟩, ⟨hm, trivial⟩, trivial⟩).2.1
 have hO := av_of 10 number sum (hopI n m) 0 hw (by omega)
 have hN := av_numbers2 n m
 clear hl hg
 replace hO : AP Tryz.prog 112 [.int .u64 10, .int .u64 (number : Int), .int .i64 sum, .agg [.int .i64 4, .int .u64 0, .sl .ext [], .sl .ext [nmE n, nmE m]], .int .i64 0] (blkD (ofV 10 number sum (hopI n m) 0)) [] := hO
 generalize ofV 10 number sum (hopI n m) 0 = r at *
 obtain ⟨⟨a, b, c, d, f⟩, e⟩ := r
 refine AP.ofA ?_
 refine AC_of Tryz.func114 rfl Tryz.ntmps114 rfl rfl ?_
 repeat' (first | (apply AL_callPw (hN); kernel_rfl; (iterate 4 exact rfl)) | (apply AL_callPw (hO); kernel_rfl; (iterate 4 exact rfl)) | (apply AL_go ttok; exact rfl) | (apply AW_go ttok; exact rfl) | (apply AL_bsZ ttok; (iterate 12 exact rfl)))
 all_goals (apply endQ []; (apply resG_ok ttok; exact rfl); (iterate 4 exact rfl))
 all_goals rfl
def askV (b : BlkV) (kind : Nat) : Int := match ((b.ty : Int) != (kind : Int)) with
 | true => 4
 | false => match bkRight b with
  | false => 3
  | true => 0
theorem av_ask [Known] [KnownU8] (b : BlkV) (kind : Nat) (hd : b.data.length <= 100000) : AP Tryz.prog 69 [.agg (bkC b), .int .u64 (kind : Int)] (.int .i64 (askV b kind)) [] := by
 have hR := av_bRight b hd
 unfold askV
 cases t1 : ((b.ty : Int) != (kind : Int)) with
 | true =>
  obtain ⟨ty, num, fl, sum, data⟩ := b
  dsimp only at t1
  refine AP.ofA ?_
  refine AC_of Tryz.func69 rfl Tryz.ntmps69 rfl rfl ?_
  repeat' (first | (apply AW_go ttok; exact rfl) | (apply K_go ttok; exact rfl) | (apply AW_condA; exact rfl; (first | with_reducible assumption | decide +kernel)))
  all_goals (apply endQ []; (apply resG_ok ttok; exact rfl); (iterate 4 exact rfl))
  all_goals rfl
 | false =>
  cases hr : bkRight b <;> rw [hr] at hR
  all_goals
   obtain ⟨ty, num, fl, sum, data⟩ := b
   dsimp only at t1
   refine AP.ofA ?_
   refine AC_of Tryz.func69 rfl Tryz.ntmps69 rfl rfl ?_
   repeat' (first | (apply AL_callPw (hR); kernel_rfl; (iterate 4 exact rfl)) | (apply AL_go ttok; exact rfl) | (apply AW_go ttok; exact rfl) | (apply K_go ttok; exact rfl) | (apply AW_condA; exact rfl; (first | with_reducible assumption | decide +kernel)) | (apply AW_condB; exact rfl; (first | with_reducible assumption | decide +kernel)))
   all_goals (apply endQ []; (apply resG_ok ttok; exact rfl); (iterate 4 exact rfl))
   all_goals rfl
theorem av_ageOf [Known] [KnownU8] (b : BlkV) (hd : b.data.length <= 100000) : AP Tryz.prog 35 [.agg (bkC b)] (.tup [.int .u64 ((match askV b 7 != 0 with | true => 0 | false => (ageV b.data).1 : Nat) : Int), .int .i64 (askV b 7)]) [] := by
 have hA := av_ask b 7 hd
 have hG := av_age b.data hd
 generalize askV b 7 = q at *
 generalize (ageV b.data).1 = a at *
 generalize (ageV b.data).2 = o at *
 obtain ⟨ty, num, fl, sum, data⟩ := b
 cases t1 : (q != 0) with
 | true =>
  refine AP.ofA ?_
  refine AC_of Tryz.func35 rfl Tryz.ntmps35 rfl rfl ?_
  repeat' (first | (apply AL_callPw (hA); kernel_rfl; (iterate 4 exact rfl)) | (apply AL_go ttok; exact rfl) | (apply AW_go ttok; exact rfl) | (apply K_go ttok; exact rfl) | (apply AW_condA; exact rfl; (first | with_reducible assumption | decide +kernel)))
  all_goals (apply endQ []; (apply resG_ok ttok; exact rfl); (iterate 4 exact rfl))
  all_goals rfl
 | false =>
  have eq0 : q = 0 := by simpa [bne] using t1
  subst eq0
  refine AP.ofA ?_
  refine AC_of Tryz.func35 rfl Tryz.ntmps35 rfl rfl ?_
  repeat' (first | (apply AL_callPw (hA); kernel_rfl; (iterate 4 exact rfl)) | (apply AL_callPw (hG); kernel_rfl; (iterate 4 exact rfl)) | (apply AL_go ttok; exact rfl) | (apply AW_go ttok; exact rfl) | (apply AW_condB; exact rfl; (first | with_reducible assumption | decide +kernel)))
  all_goals (apply endQ []; (apply resG_ok ttok; exact rfl); (iterate 4 exact rfl))
  all_goals rfl
theorem av_hopsOf [Known] [KnownU8] (b : BlkV) (hd : b.data.length <= 100000) : AP Tryz.prog 29 [.agg (bkC b)] (.tup [.int .u64 ((match askV b 10 != 0 with | true => 0 | false => (hopsV b.data).1 : Nat) : Int), .int .u64 ((match askV b 10 != 0 with | true => 0 | false => (hopsV b.data).2.1 : Nat) : Int), .int .i64 (askV b 10)]) [] := by
 have hA := av_ask b 10 hd
 have hG := av_hops b.data hd
 generalize askV b 10 = q at *
 generalize (hopsV b.data).1 = a at *
 generalize (hopsV b.data).2.1 = c at *
 generalize (hopsV b.data).2.2 = o at *
 obtain ⟨ty, num, fl, sum, data⟩ := b
 cases t1 : (q != 0) with
 | true =>
  refine AP.ofA ?_
  refine AC_of Tryz.func29 rfl Tryz.ntmps29 rfl rfl ?_
  repeat' (first | (apply AL_callPw (hA); kernel_rfl; (iterate 4 exact rfl)) | (apply AL_go ttok; exact rfl) | (apply AW_go ttok; exact rfl) | (apply K_go ttok; exact rfl) | (apply AW_condA; exact rfl; (first | with_reducible assumption | decide +kernel)))
  all_goals (apply endQ []; (apply resG_ok ttok; exact rfl); (iterate 4 exact rfl))
  all_goals rfl
 | false =>
  have eq0 : q = 0 := by simpa [bne] using t1
  subst eq0
  refine AP.ofA ?_
  refine AC_of Tryz.func29 rfl Tryz.ntmps29 rfl rfl ?_
  repeat' (first | (apply AL_callPw (hA); kernel_rfl; (iterate 4 exact rfl)) | (apply AL_callPw (hG); kernel_rfl; (iterate 4 exact rfl)) | (apply AL_go ttok; exact rfl) | (apply AW_go ttok; exact rfl) | (apply AW_condB; exact rfl; (first | with_reducible assumption | decide +kernel)))
  all_goals (apply endQ []; (apply resG_ok ttok; exact rfl); (iterate 4 exact rfl))
  all_goals rfl
end Go.Proofs.YtfkmicjlaedlkaaGreatDoor
end
section
open Go.RowKit Go.Pl Go.Av
namespace Go.Proofs.YtfkmicjlaedlkaaGreatDoor
set_option maxHeartbeats 4000000
theorem wf_z0 : wfI z0 := ⟨by decide, by simp, by simp, trivial⟩
theorem wf_outA (s : Nat) {l : List It} (hws : wfs l) (hl : l.length <= 1000000) : wfI (outL s l) := by
 refine ⟨by decide, by simp, by simp; omega, wfs_app hws ⟨⟨by decide, ?_, by simp, trivial⟩, trivial⟩⟩
 have : (sumB s (putI (zeroL s l))).length <= 4 := by
  unfold sumB
  split <;> simp
 omega
theorem wf_seal {l : List It} (a : Int) (hws : wfs l) (hl : l.length <= 1000000) : wfI (sealV l a).1 := by
 unfold sealV
 have h0 : wfI (.mk 4 0 [] l) := ⟨by decide, by simp, by omega, hws⟩
 repeat' split
 all_goals first | exact wf_z0 | exact h0 | exact wf_outA _ hws hl
theorem wf_write {b : BlkV} (hfl : b.fl < 18446744073709551616) (hd : b.data.length <= 3000) : wfI (writeB b).1 := by
 unfold writeB
 cases h : bkRight b with
 | false => exact wf_z0
 | true => exact wf_seal 3 (wfs_B h hfl hd) (by simp [listB])
end Go.Proofs.YtfkmicjlaedlkaaGreatDoor
end
section
open Go.RowKit Go.Pl Go.Av
namespace Go.Proofs.YtfkmicjlaedlkaaGreatDoor
set_option maxHeartbeats 4000000
end Go.Proofs.YtfkmicjlaedlkaaGreatDoor
end
section
open Go.RowKit Go.Pl Go.Av
namespace Go.Proofs.YtfkmicjlaedlkaaGreatDoor
set_option maxHeartbeats 4000000
end Go.Proofs.YtfkmicjlaedlkaaGreatDoor
end
section
open Go.RowKit Go.Pl Go.Av
namespace Go.Proofs.YtfkmicjlaedlkaaGreatDoor
set_option maxHeartbeats 4000000
end Go.Proofs.YtfkmicjlaedlkaaGreatDoor
end
section
open Go.RowKit Go.Pl Go.Av
namespace Go.Proofs.YtfkmicjlaedlkaaGreatDoor
set_option maxHeartbeats 4000000
end Go.Proofs.YtfkmicjlaedlkaaGreatDoor
end
section
open Go.RowKit Go.Pl Go.Av
namespace Go.Proofs.YtfkmicjlaedlkaaGreatDoor
end Go.Proofs.YtfkmicjlaedlkaaGreatDoor
end
section
open Go.RowKit Go.Pl Go.Av
namespace Go.Proofs.YtfkmicjlaedlkaaGreatDoor
set_option maxHeartbeats 4000000
def pathE (x : EidV) : List UInt8 := [47, 47] ++ x.h ++ [47] ++ x.d
theorem eRight_num {x : EidV} (h : eRight x = true) (hz : isZ x = false) (hi : x.i = true) : x.n <= 4294967295 /\ x.s <= 4294967295 /\ x.h = [] /\ x.d = [] /\ 1 <= x.n := by
 rw [eRight_I hz hi] at h
 simp only [Bool.and_eq_true, decide_eq_true_eq, beq_iff_eq] at h
 obtain ⟨⟨⟨⟨_, _, _, h1, h2, _⟩, h3⟩, h4⟩, h5⟩ := h
 exact ⟨by omega, by omega, h1, h2, by omega⟩
theorem eRight_txt {x : EidV} (h : eRight x = true) (hz : isZ x = false) (hi : x.i = false) : x.n = 0 /\ x.s = 0 /\ 1 <= x.h.length /\ x.h.length <= 16 /\ x.d.length <= 24 /\ x.h.all (okB 45) = true /\ x.d.all (okB 47) = true := by
 rw [eRight_T hz hi] at h
 simp only [Bool.and_eq_true, decide_eq_true_eq, beq_iff_eq] at h
 obtain ⟨⟨⟨⟨⟨⟨_, h1, h2, _⟩, h3⟩, h4⟩, h5⟩, h6⟩, h7⟩ := h
 exact ⟨by omega, by omega, by omega, by omega, by omega, h6, h7⟩
theorem av_path [Known] (x : EidV) (h1 : x.h.length <= 16) (h2 : x.d.length <= 24) : AP Tryz.prog 81 [.agg (eC x)] (.str (pathE x)) [] := by
 have l1 : [(47 : UInt8), 47].length + x.h.length <= maxLen := by simp; unfold maxLen; omega
 have l2 : ([(47 : UInt8), 47] ++ x.h).length + [(47 : UInt8)].length <= maxLen := by simp; unfold maxLen; omega
 have l3 : ([(47 : UInt8), 47] ++ x.h ++ [47]).length + x.d.length <= maxLen := by simp; unfold maxLen; omega
 refine AP.ofA ?_
 refine AC_of Tryz.func81 rfl Tryz.ntmps81 rfl rfl ?_
 repeat' (first | (apply AL_cat; exact rfl; exact rfl; (first | exact l1 | exact l2 | exact l3); exact rfl) | (apply AL_go ttok; exact rfl) | (apply AW_go ttok; exact rfl))
 all_goals (apply endQ []; (apply resG_ok ttok; exact rfl); (iterate 4 exact rfl))
 all_goals rfl
end Go.Proofs.YtfkmicjlaedlkaaGreatDoor
end
section
open Go.RowKit Go.Pl Go.Av
namespace Go.Proofs.YtfkmicjlaedlkaaGreatDoor
set_option maxHeartbeats 4000000
def itemE (x : EidV) : It :=
 if isZ x then .mk 4 0 [] [.mk 0 1 [] [], .mk 0 0 [] []]
 else if x.i then .mk 4 0 [] [.mk 0 2 [] [], .mk 4 0 [] [.mk 0 x.n [] [], .mk 0 x.s [] []]]
 else .mk 4 0 [] [.mk 0 1 [] [], .mk 3 0 (pathE x) []]
theorem av_eWrite [Known] (x : EidV) : AP Tryz.prog 41 [.agg (eC x)] (.tup [itD (if eRight x then itemE x else .mk 0 0 [] []), .int .i64 (if eRight x then 0 else 3)]) [] := by
 have hR := av_eRight x
 cases hr : eRight x with
 | false =>
  rw [hr] at hR
  refine AP.ofA ?_
  refine AC_of Tryz.func41 rfl Tryz.ntmps41 rfl rfl ?_
  repeat' (first | (apply AL_callPw (hR); kernel_rfl; (iterate 4 exact rfl)) | (apply AL_go ttok; exact rfl) | (apply AW_go ttok; exact rfl) | (apply K_go ttok; exact rfl) | (apply AW_condA; exact rfl; (first | with_reducible assumption | decide +kernel)))
  all_goals (apply endQ []; (apply resG_ok ttok; exact rfl); (iterate 4 exact rfl))
  all_goals rfl
 | true =>
  rw [hr] at hR
  rw [if_pos rfl, if_pos rfl]
  unfold itemE
  cases hz : isZ x with
  | true =>
   rw [if_pos rfl]
   have n1 := av_num 1
   have n0 := av_num 0
   have hL := av_list [.mk 0 1 [] [], .mk 0 0 [] []] (by decide) (by simp [wfI, wfs])
   replace n1 : AP Tryz.prog _ [.int .u64 1] (.agg [.int .i64 0, .int .u64 1, .sl .ext [], .sl .ext []]) [] := n1
   replace n0 : AP Tryz.prog _ [.int .u64 0] (.agg [.int .i64 0, .int .u64 0, .sl .ext [], .sl .ext []]) [] := n0
   unfold isZ at hz
   refine AP.ofA ?_
   refine AC_of Tryz.func41 rfl Tryz.ntmps41 rfl rfl ?_
   repeat' (first | (apply AL_callPw (hR); kernel_rfl; (iterate 4 exact rfl)) | (apply AL_callPw (n1); kernel_rfl; (iterate 4 exact rfl)) | (apply AL_callPw (n0); kernel_rfl; (iterate 4 exact rfl)) | (apply AL_callPw (hL); kernel_rfl; (iterate 4 exact rfl)) | (apply AL_go ttok; exact rfl) | (apply AW_go ttok; exact rfl) | (apply K_go ttok; exact rfl) | (apply AW_condA; exact rfl; (first | with_reducible assumption | decide +kernel)) | (apply AW_condB; exact rfl; (first | with_reducible assumption | decide +kernel)) | (apply AL_bsZ ttok; (iterate 12 exact rfl)) | (apply AL_eqS ttok; (iterate 4 exact rfl); (kernel_rfl); (kernel_rfl); (iterate 3 exact rfl)))
   all_goals (apply endQ []; (apply resG_ok ttok; exact rfl); (iterate 4 exact rfl))
   all_goals rfl
  | false =>
   rw [if_neg (by simp)]
   cases hi : x.i with
   | true =>
    obtain ⟨b1, b2, _⟩ := eRight_num hr hz hi
    rw [if_pos rfl]
    have n2 := av_num 2
    have nn := av_num x.n
    have ns := av_num x.s
    have hL1 := av_list [.mk 0 x.n [] [], .mk 0 x.s [] []] (by simp) (by simp [wfI, wfs]; omega)
    have hL := av_list [.mk 0 2 [] [], .mk 4 0 [] [.mk 0 x.n [] [], .mk 0 x.s [] []]] (by simp) (by simp [wfI, wfs]; omega)
    replace n2 : AP Tryz.prog _ [.int .u64 2] (.agg [.int .i64 0, .int .u64 2, .sl .ext [], .sl .ext []]) [] := n2
    replace nn : AP Tryz.prog _ [.int .u64 (x.n : Int)] (.agg [.int .i64 0, .int .u64 (x.n : Int), .sl .ext [], .sl .ext []]) [] := nn
    replace ns : AP Tryz.prog _ [.int .u64 (x.s : Int)] (.agg [.int .i64 0, .int .u64 (x.s : Int), .sl .ext [], .sl .ext []]) [] := ns
    replace hL1 : AP Tryz.prog _ _ (.agg [.int .i64 4, .int .u64 0, .sl .ext [], .sl .ext [.agg [.int .i64 0, .int .u64 (x.n : Int), .sl [], .sl []], .agg [.int .i64 0, .int .u64 (x.s : Int), .sl [], .sl []]]]) [] := hL1
    unfold isZ at hz
    refine AP.ofA ?_
    refine AC_of Tryz.func41 rfl Tryz.ntmps41 rfl rfl ?_
    repeat' (first | (apply AL_callPw (hR); kernel_rfl; (iterate 4 exact rfl)) | (apply AL_callPw (n2); kernel_rfl; (iterate 4 exact rfl)) | (apply AL_callPw (nn); kernel_rfl; (iterate 4 exact rfl)) | (apply AL_callPw (ns); kernel_rfl; (iterate 4 exact rfl)) | (apply AL_callPw (hL1); kernel_rfl; (iterate 4 exact rfl)) | (apply AL_callPw (hL); kernel_rfl; (iterate 4 exact rfl)) | (apply AL_go ttok; exact rfl) | (apply AW_go ttok; exact rfl) | (apply K_go ttok; exact rfl) | (apply AW_condA; exact rfl; (first | with_reducible assumption | decide +kernel)) | (apply AW_condB; exact rfl; (first | with_reducible assumption | decide +kernel)) | (apply AL_bsZ ttok; (iterate 12 exact rfl)) | (apply AL_eqS ttok; (iterate 4 exact rfl); (kernel_rfl); (kernel_rfl); (iterate 3 exact rfl)) | (apply AW_drawE 6 hmix; (decide +kernel); (kernel_rfl); (kernel_rfl); (kernel_rfl); exact rfl; exact rfl) | (apply AE_consZ; (iterate 4 exact rfl)) | exact AE.nil _ _ _ _ | (apply AEk_puT; exact rfl) | (apply AOt_mk; exact rfl; exact rfl; (decide +kernel); exact rfl) | (apply AO_puT; exact rfl) | exact AO.nil _ _ _ | (apply AOs_skip; (decide +kernel)) | exact AOs.nil | exact qY_ok rfl rfl)
    all_goals (apply endQ []; (apply resG_ok ttok; exact rfl); (iterate 4 exact rfl))
    all_goals rfl
   | false =>
    obtain ⟨_, _, _, b1, b2, _⟩ := eRight_txt hr hz hi
    rw [if_neg (by simp)]
    have n1 := av_num 1
    have hP := av_path x b1 b2
    have hT := av_text (pathE x)
    have hpl : (pathE x).length <= 1099511627776 := by unfold pathE; simp; omega
    generalize pathE x = p at *
    have hL := av_list [.mk 0 1 [] [], .mk 3 0 p []] (by simp) (by simp [wfI, wfs]; omega)
    replace n1 : AP Tryz.prog _ [.int .u64 1] (.agg [.int .i64 0, .int .u64 1, .sl .ext [], .sl .ext []]) [] := n1
    replace hT : AP Tryz.prog _ [.str p] (.agg [.int .i64 3, .int .u64 0, byE p, .sl .ext []]) [] := hT
    unfold isZ at hz
    refine AP.ofA ?_
    refine AC_of Tryz.func41 rfl Tryz.ntmps41 rfl rfl ?_
    repeat' (first | (apply AL_callPw (hR); kernel_rfl; (iterate 4 exact rfl)) | (apply AL_callPw (n1); kernel_rfl; (iterate 4 exact rfl)) | (apply AL_callPw (hP); kernel_rfl; (iterate 4 exact rfl)) | (apply AL_callPw (hT); kernel_rfl; (iterate 4 exact rfl)) | (apply AL_callPw (hL); kernel_rfl; (iterate 4 exact rfl)) | (apply AL_go ttok; exact rfl) | (apply AW_go ttok; exact rfl) | (apply K_go ttok; exact rfl) | (apply AW_condB; exact rfl; (first | with_reducible assumption | decide +kernel)) | (apply AL_bsZ ttok; (iterate 12 exact rfl)) | (apply AL_eqS ttok; (iterate 4 exact rfl); (kernel_rfl); (kernel_rfl); (iterate 3 exact rfl)) | (apply AW_drawE 2 hmix; (decide +kernel); (kernel_rfl); (kernel_rfl); (kernel_rfl); exact rfl; exact rfl) | (apply AE_consZ; (iterate 4 exact rfl)) | exact AE.nil _ _ _ _ | (apply AEk_puT; exact rfl) | (apply AOt_mk; exact rfl; exact rfl; (decide +kernel); exact rfl) | (apply AO_puT; exact rfl) | exact AO.nil _ _ _ | (apply AOs_skip; (decide +kernel)) | exact AOs.nil | exact qY_ok rfl rfl)
    all_goals (apply endQ []; (apply resG_ok ttok; exact rfl); (iterate 4 exact rfl))
    all_goals rfl
end Go.Proofs.YtfkmicjlaedlkaaGreatDoor
end
