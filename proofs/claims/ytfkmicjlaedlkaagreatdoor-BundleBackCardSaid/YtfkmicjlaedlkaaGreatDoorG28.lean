/- Package ident: an item of a number's form. -/
import Derived.Test.YtfkmicjlaedlkaaGreatDoorG27
import Derived.Test.YtfkmicjlaedlkaaGreatDoorG25
import Derived.Test.YtfkmicjlaedlkaaGreatDoorG26
import Derived.Test.YtfkmicjlaedlkaaGreatDoorG20
set_option linter.unusedVariables false
set_option linter.unusedSimpArgs false
section
open Go.RowKit Go.Pl Go.Av
namespace Go.Proofs.YtfkmicjlaedlkaaGreatDoor
set_option maxHeartbeats 4000000
theorem ird_f [Known] (y z : It) (n : Nat) (b : List UInt8) (n2 : Nat) (b2 : List UInt8) (kp : Int) (np : Nat) (bp : List UInt8) (lp : List It) (kr : Int) (nr : Nat) (br : List UInt8) (lr : List It) (c : Int)
  (hE : AP Tryz.prog 45 [itD y] (.tup [.agg (eC eidZ), .int .i64 3]) []) (hW : AP Tryz.prog 42 [.agg (iC eidZ np nr)] (.tup [itD z, .int .i64 c]) []) :
  AP Tryz.prog 46 [itD (.mk 4 n b [y, .mk 4 n2 b2 [.mk kp np bp lp, .mk kr nr br lr]])] (.tup [.agg (iC eidZ 0 0), .int .i64 3]) [] := by
 have hU := uniI [y, .mk 4 n2 b2 [.mk kp np bp lp, .mk kr nr br lr]]
 have hU2 := uniI [.mk kp np bp lp, .mk kr nr br lr]
 have t2 : (((itEs [y, .mk 4 n2 b2 [.mk kp np bp lp, .mk kr nr br lr]]).length : Int) != 2) = false := rfl
 have t3 : (((itEs [.mk kp np bp lp, .mk kr nr br lr]).length : Int) != 2) = false := rfl
 obtain ⟨yk, yn, yb, yl⟩ := y
 obtain ⟨zk, zn, zb, zl⟩ := z
 replace hE : AP Tryz.prog _ [.agg [.int .i64 yk, .int .u64 (yn : Int), byE yb, .sl .ext (itEs yl)]] (.tup [.agg [.bool false, .int .u64 0, .int .u64 0, .str [], .str []], .int .i64 3]) [] := hE
 replace hW : AP Tryz.prog _ [.agg [.bool false, .int .u64 0, .int .u64 0, .str [], .str [], .int .u64 (np : Int), .int .u64 (nr : Int)]] (.tup [.agg [.int .i64 zk, .int .u64 (zn : Int), byE zb, .sl .ext (itEs zl)], .int .i64 c]) [] := hW
 refine AP.ofA ?_
 refine AC_of Tryz.func46 rfl Tryz.ntmps46 rfl rfl ?_
 repeat' (first | (apply AL_callPw (hE); kernel_rfl; (iterate 4 exact rfl)) | (apply AL_callPw (hW); kernel_rfl; (iterate 4 exact rfl)) | (apply AL_go ttok; exact rfl) | (apply AW_go ttok; exact rfl) | (apply K_go ttok; exact rfl) | (apply AL_guardT; (iterate 3 exact rfl); (first | with_reducible assumption | decide +kernel)) | (apply AL_guardFf; (iterate 3 exact rfl); (first | with_reducible assumption | decide +kernel)) | (apply AL_pickT; exact rfl; (first | with_reducible assumption | decide +kernel); exact rfl; exact rfl) | (apply AL_pickF; exact rfl; (first | with_reducible assumption | decide +kernel); exact rfl; exact rfl) | (apply AW_condA; exact rfl; (first | with_reducible assumption | decide +kernel)) | (apply AW_condB; exact rfl; (first | with_reducible assumption | decide +kernel)) | (apply AL_len ttok; (iterate 4 exact rfl)) | (apply AW_drawE 19 hmix; (decide +kernel); (kernel_rfl); (kernel_rfl); (kernel_rfl); exact rfl; exact rfl) | (apply AE_consZ; (iterate 4 exact rfl)) | exact AE.nil _ _ _ _ | (apply AEk_puT; exact rfl) | (apply AEk_efT; exact rfl) | (apply AOt_mk; exact rfl; exact rfl; (decide +kernel); exact rfl) | (apply AO_puT; exact rfl) | (apply AO_efT; exact rfl) | exact AO.nil _ _ _ | (apply AOs_skip; (decide +kernel)) | (apply AOs_goZ; (iterate 3 exact rfl)) | exact AOs.nil | exact qY_ok rfl rfl | exact qY_ef rfl rfl | (apply AL_idx ttok; (iterate 6 exact rfl); (first | with_reducible assumption | decide +kernel | exact Int.natCast_nonneg _ | (guard_target = (0:Int) <= (OfNat.ofNat _ : Int); decide) | rotate_left); (first | with_reducible assumption | decide +kernel | exact rfl); (first | exact uniB_ok rfl | with_reducible assumption | decide +kernel | rotate_left)))
 all_goals (apply endQ []; (apply resG_ok ttok; exact rfl); (iterate 4 exact rfl))
 all_goals rfl
theorem ird_w [Known] (x : EidV) (y z : It) (n : Nat) (b : List UInt8) (n2 : Nat) (b2 : List UInt8) (kp : Int) (np : Nat) (bp : List UInt8) (lp : List It) (kr : Int) (nr : Nat) (br : List UInt8) (lr : List It)
  (hE : AP Tryz.prog 45 [itD y] (.tup [.agg (eC x), .int .i64 0]) []) (hW : AP Tryz.prog 42 [.agg (iC x np nr)] (.tup [itD z, .int .i64 3]) []) :
  AP Tryz.prog 46 [itD (.mk 4 n b [y, .mk 4 n2 b2 [.mk kp np bp lp, .mk kr nr br lr]])] (.tup [.agg (iC eidZ 0 0), .int .i64 3]) [] := by
 have hU := uniI [y, .mk 4 n2 b2 [.mk kp np bp lp, .mk kr nr br lr]]
 have hU2 := uniI [.mk kp np bp lp, .mk kr nr br lr]
 have t2 : (((itEs [y, .mk 4 n2 b2 [.mk kp np bp lp, .mk kr nr br lr]]).length : Int) != 2) = false := rfl
 have t3 : (((itEs [.mk kp np bp lp, .mk kr nr br lr]).length : Int) != 2) = false := rfl
 obtain ⟨yk, yn, yb, yl⟩ := y
 obtain ⟨zk, zn, zb, zl⟩ := z
 obtain ⟨xi, xn, xs, xh, xd⟩ := x
 replace hE : AP Tryz.prog _ [.agg [.int .i64 yk, .int .u64 (yn : Int), byE yb, .sl .ext (itEs yl)]] (.tup [.agg [.bool xi, .int .u64 (xn : Int), .int .u64 (xs : Int), .str xh, .str xd], .int .i64 0]) [] := hE
 replace hW : AP Tryz.prog _ [.agg [.bool xi, .int .u64 (xn : Int), .int .u64 (xs : Int), .str xh, .str xd, .int .u64 (np : Int), .int .u64 (nr : Int)]] (.tup [.agg [.int .i64 zk, .int .u64 (zn : Int), byE zb, .sl .ext (itEs zl)], .int .i64 3]) [] := hW
 refine AP.ofA ?_
 refine AC_of Tryz.func46 rfl Tryz.ntmps46 rfl rfl ?_
 repeat' (first | (apply AL_callPw (hE); kernel_rfl; (iterate 4 exact rfl)) | (apply AL_callPw (hW); kernel_rfl; (iterate 4 exact rfl)) | (apply AL_go ttok; exact rfl) | (apply AW_go ttok; exact rfl) | (apply K_go ttok; exact rfl) | (apply AL_guardT; (iterate 3 exact rfl); (first | with_reducible assumption | decide +kernel)) | (apply AL_guardFf; (iterate 3 exact rfl); (first | with_reducible assumption | decide +kernel)) | (apply AL_pickT; exact rfl; (first | with_reducible assumption | decide +kernel); exact rfl; exact rfl) | (apply AL_pickF; exact rfl; (first | with_reducible assumption | decide +kernel); exact rfl; exact rfl) | (apply AW_condA; exact rfl; (first | with_reducible assumption | decide +kernel)) | (apply AW_condB; exact rfl; (first | with_reducible assumption | decide +kernel)) | (apply AL_len ttok; (iterate 4 exact rfl)) | (apply AW_drawE 19 hmix; (decide +kernel); (kernel_rfl); (kernel_rfl); (kernel_rfl); exact rfl; exact rfl) | (apply AE_consZ; (iterate 4 exact rfl)) | exact AE.nil _ _ _ _ | (apply AEk_puT; exact rfl) | (apply AEk_efT; exact rfl) | (apply AOt_mk; exact rfl; exact rfl; (decide +kernel); exact rfl) | (apply AO_puT; exact rfl) | (apply AO_efT; exact rfl) | exact AO.nil _ _ _ | (apply AOs_skip; (decide +kernel)) | (apply AOs_goZ; (iterate 3 exact rfl)) | exact AOs.nil | exact qY_ok rfl rfl | exact qY_ef rfl rfl | (apply AL_idx ttok; (iterate 6 exact rfl); (first | with_reducible assumption | decide +kernel | exact Int.natCast_nonneg _ | (guard_target = (0:Int) <= (OfNat.ofNat _ : Int); decide) | rotate_left); (first | with_reducible assumption | decide +kernel | exact rfl); (first | exact uniB_ok rfl | with_reducible assumption | decide +kernel | rotate_left)))
 all_goals (apply endQ []; (apply resG_ok ttok; exact rfl); (iterate 4 exact rfl))
 all_goals rfl
theorem ird_s [Known] (x : EidV) (y z : It) (n : Nat) (b : List UInt8) (n2 : Nat) (b2 : List UInt8) (kp : Int) (np : Nat) (bp : List UInt8) (lp : List It) (kr : Int) (nr : Nat) (br : List UInt8) (lr : List It) (R : Bool)
  (hE : AP Tryz.prog 45 [itD y] (.tup [.agg (eC x), .int .i64 0]) []) (hW : AP Tryz.prog 42 [.agg (iC x np nr)] (.tup [itD z, .int .i64 0]) [])
  (hS : AP Tryz.prog 48 [itD z, itD (.mk 4 n b [y, .mk 4 n2 b2 [.mk kp np bp lp, .mk kr nr br lr]])] (.bool R) []) :
  AP Tryz.prog 46 [itD (.mk 4 n b [y, .mk 4 n2 b2 [.mk kp np bp lp, .mk kr nr br lr]])] (resN x np nr R) [] := by
 have hU := uniI [y, .mk 4 n2 b2 [.mk kp np bp lp, .mk kr nr br lr]]
 have hU2 := uniI [.mk kp np bp lp, .mk kr nr br lr]
 have t2 : (((itEs [y, .mk 4 n2 b2 [.mk kp np bp lp, .mk kr nr br lr]]).length : Int) != 2) = false := rfl
 have t3 : (((itEs [.mk kp np bp lp, .mk kr nr br lr]).length : Int) != 2) = false := rfl
 obtain ⟨yk, yn, yb, yl⟩ := y
 obtain ⟨zk, zn, zb, zl⟩ := z
 obtain ⟨xi, xn, xs, xh, xd⟩ := x
 replace hE : AP Tryz.prog _ [.agg [.int .i64 yk, .int .u64 (yn : Int), byE yb, .sl .ext (itEs yl)]] (.tup [.agg [.bool xi, .int .u64 (xn : Int), .int .u64 (xs : Int), .str xh, .str xd], .int .i64 0]) [] := hE
 replace hW : AP Tryz.prog _ [.agg [.bool xi, .int .u64 (xn : Int), .int .u64 (xs : Int), .str xh, .str xd, .int .u64 (np : Int), .int .u64 (nr : Int)]] (.tup [.agg [.int .i64 zk, .int .u64 (zn : Int), byE zb, .sl .ext (itEs zl)], .int .i64 0]) [] := hW
 replace hS : AP Tryz.prog _ [.agg [.int .i64 zk, .int .u64 (zn : Int), byE zb, .sl .ext (itEs zl)], itD (.mk 4 n b [.mk yk yn yb yl, .mk 4 n2 b2 [.mk kp np bp lp, .mk kr nr br lr]])] (.bool R) [] := hS
 cases R with
 | true =>
  show AP Tryz.prog _ _ (.tup [.agg [.bool xi, .int .u64 (xn : Int), .int .u64 (xs : Int), .str xh, .str xd, .int .u64 (np : Int), .int .u64 (nr : Int)], .int .i64 0]) []
  refine AP.ofA ?_
  refine AC_of Tryz.func46 rfl Tryz.ntmps46 rfl rfl ?_
  repeat' (first | (apply AL_callPw (hE); kernel_rfl; (iterate 4 exact rfl)) | (apply AL_callPw (hW); kernel_rfl; (iterate 4 exact rfl)) | (apply AL_callPw (hS); kernel_rfl; (iterate 4 exact rfl)) | (apply AL_go ttok; exact rfl) | (apply AW_go ttok; exact rfl) | (apply K_go ttok; exact rfl) | (apply AL_guardT; (iterate 3 exact rfl); (first | with_reducible assumption | decide +kernel)) | (apply AL_pickF; exact rfl; (first | with_reducible assumption | decide +kernel); exact rfl; exact rfl) | (apply AW_condB; exact rfl; (first | with_reducible assumption | decide +kernel)) | (apply AL_len ttok; (iterate 4 exact rfl)) | (apply AW_drawE 19 hmix; (decide +kernel); (kernel_rfl); (kernel_rfl); (kernel_rfl); exact rfl; exact rfl) | (apply AE_consZ; (iterate 4 exact rfl)) | exact AE.nil _ _ _ _ | (apply AEk_puT; exact rfl) | (apply AEk_efT; exact rfl) | (apply AOt_mk; exact rfl; exact rfl; (decide +kernel); exact rfl) | (apply AO_puT; exact rfl) | (apply AO_efT; exact rfl) | exact AO.nil _ _ _ | (apply AOs_skip; (decide +kernel)) | (apply AOs_goZ; (iterate 3 exact rfl)) | exact AOs.nil | exact qY_ok rfl rfl | exact qY_ef rfl rfl | (apply AL_idx ttok; (iterate 6 exact rfl); (first | with_reducible assumption | decide +kernel | exact Int.natCast_nonneg _ | (guard_target = (0:Int) <= (OfNat.ofNat _ : Int); decide) | rotate_left); (first | with_reducible assumption | decide +kernel | exact rfl); (first | exact uniB_ok rfl | with_reducible assumption | decide +kernel | rotate_left)))
  all_goals (apply endQ []; (apply resG_ok ttok; exact rfl); (iterate 4 exact rfl))
  all_goals rfl
 | false =>
  show AP Tryz.prog _ _ (.tup [.agg [.bool false, .int .u64 0, .int .u64 0, .str [], .str [], .int .u64 0, .int .u64 0], .int .i64 3]) []
  refine AP.ofA ?_
  refine AC_of Tryz.func46 rfl Tryz.ntmps46 rfl rfl ?_
  repeat' (first | (apply AL_callPw (hE); kernel_rfl; (iterate 4 exact rfl)) | (apply AL_callPw (hW); kernel_rfl; (iterate 4 exact rfl)) | (apply AL_callPw (hS); kernel_rfl; (iterate 4 exact rfl)) | (apply AL_go ttok; exact rfl) | (apply AW_go ttok; exact rfl) | (apply K_go ttok; exact rfl) | (apply AL_guardT; (iterate 3 exact rfl); (first | with_reducible assumption | decide +kernel)) | (apply AL_pickF; exact rfl; (first | with_reducible assumption | decide +kernel); exact rfl; exact rfl) | (apply AW_condA; exact rfl; (first | with_reducible assumption | decide +kernel)) | (apply AW_condB; exact rfl; (first | with_reducible assumption | decide +kernel)) | (apply AL_len ttok; (iterate 4 exact rfl)) | (apply AW_drawE 19 hmix; (decide +kernel); (kernel_rfl); (kernel_rfl); (kernel_rfl); exact rfl; exact rfl) | (apply AE_consZ; (iterate 4 exact rfl)) | exact AE.nil _ _ _ _ | (apply AEk_puT; exact rfl) | (apply AEk_efT; exact rfl) | (apply AOt_mk; exact rfl; exact rfl; (decide +kernel); exact rfl) | (apply AO_puT; exact rfl) | (apply AO_efT; exact rfl) | exact AO.nil _ _ _ | (apply AOs_skip; (decide +kernel)) | (apply AOs_goZ; (iterate 3 exact rfl)) | exact AOs.nil | exact qY_ok rfl rfl | exact qY_ef rfl rfl | (apply AL_idx ttok; (iterate 6 exact rfl); (first | with_reducible assumption | decide +kernel | exact Int.natCast_nonneg _ | (guard_target = (0:Int) <= (OfNat.ofNat _ : Int); decide) | rotate_left); (first | with_reducible assumption | decide +kernel | exact rfl); (first | exact uniB_ok rfl | with_reducible assumption | decide +kernel | rotate_left)))
  all_goals (apply endQ []; (apply resG_ok ttok; exact rfl); (iterate 4 exact rfl))
  all_goals rfl
theorem av_iReadYes [Known] [KnownU8] (n : Nat) (b : List UInt8) (y : It) (n2 : Nat) (b2 : List UInt8) (p r : It) (hw : wfI (.mk 4 n b [y, .mk 4 n2 b2 [p, r]])) :
  AP Tryz.prog 46 [itD (.mk 4 n b [y, .mk 4 n2 b2 [p, r]])] (resN (readZ y) p.n r.n (readNm y p r (.mk 4 n b [y, .mk 4 n2 b2 [p, r]]))) [] := by
 have hwy : wfI y := hw.2.2.2.1
 have hE := av_eRead y hwy
 have hW := av_iWrite (readZ y) p.n r.n
 unfold readNm
 cases hv : (readV y).2 with
 | false =>
  have e0 : readZ y = eidZ := by unfold readZ; rw [hv]
  unfold resE at hE
  rw [hv] at hE
  rw [e0] at hW
  obtain ⟨kp, np, bp, lp⟩ := p
  obtain ⟨kr, nr, br, lr⟩ := r
  exact ird_f y _ n b n2 b2 kp np bp lp kr nr br lr _ hE hW
 | true =>
  have e0 : readZ y = (readV y).1 := by unfold readZ; rw [hv]
  unfold resE at hE
  rw [hv] at hE
  rw [<- e0] at hE
  cases hr : iRight (readZ y) p.n r.n with
  | false =>
   rw [hr] at hW
   obtain ⟨kp, np, bp, lp⟩ := p
   obtain ⟨kr, nr, br, lr⟩ := r
   exact ird_w _ y _ n b n2 b2 kp np bp lp kr nr br lr hE hW
  | true =>
   rw [hr, if_pos rfl, if_pos rfl] at hW
   have hS := av_same _ (wf_itemN hr) _ hw
   obtain ⟨kp, np, bp, lp⟩ := p
   obtain ⟨kr, nr, br, lr⟩ := r
   exact ird_s _ y _ n b n2 b2 kp np bp lp kr nr br lr _ hE hW hS
end Go.Proofs.YtfkmicjlaedlkaaGreatDoor
end
section
open Go.RowKit Go.Pl Go.Av
namespace Go.Proofs.YtfkmicjlaedlkaaGreatDoor
set_option maxHeartbeats 4000000
def iReadV (z : It) : EidV × Nat × Nat × Bool := match z with
 | .mk k n b [y, .mk k2 n2 b2 [p, r]] => (match k == 4 && k2 == 4 with
  | false => (eidZ, 0, 0, false)
  | true => match readNm y p r (.mk k n b [y, .mk k2 n2 b2 [p, r]]) with
   | true => (readZ y, p.n, r.n, true)
   | false => (eidZ, 0, 0, false))
 | _ => (eidZ, 0, 0, false)
theorem av_iRead [Known] [KnownU8] (z : It) (hw : wfI z) : AP Tryz.prog 46 [itD z] (.tup [.agg (iC (iReadV z).1 (iReadV z).2.1 (iReadV z).2.2.1), .int .i64 (match (iReadV z).2.2.2 with | true => 0 | false => 3)]) [] := by
 cases h : noForm z with
 | true =>
  have e : iReadV z = (eidZ, 0, 0, false) := by
   unfold noForm at h
   unfold iReadV
   split at h
   ·rw [Bool.not_eq_true'] at h
    dsimp only
    rw [h]
   ·rename_i hno
    split
    ·exact absurd rfl (hno _ _ _ _ _ _ _ _ _)
    ·rfl
  rw [e]
  exact av_iReadNo z h
 | false =>
  obtain ⟨n, b, y, n2, b2, p, r, rfl⟩ : ∃ n b y n2 b2 p r, z = .mk 4 n b [y, .mk 4 n2 b2 [p, r]] := by
   unfold noForm at h
   split at h
   ·simp only [Bool.not_eq_false', Bool.and_eq_true, beq_iff_eq] at h
    obtain ⟨rfl, rfl⟩ := h
    exact ⟨_, _, _, _, _, _, _, rfl⟩
   ·cases h
  have hR := av_iReadYes n b y n2 b2 p r hw
  have e : iReadV (.mk 4 n b [y, .mk 4 n2 b2 [p, r]]) = (match readNm y p r (.mk 4 n b [y, .mk 4 n2 b2 [p, r]]) with
   | true => (readZ y, p.n, r.n, true)
   | false => (eidZ, 0, 0, false)) := rfl
  rw [e]
  unfold resN at hR
  cases hb : readNm y p r (.mk 4 n b [y, .mk 4 n2 b2 [p, r]]) with
  | false => rw [hb] at hR; exact hR
  | true => rw [hb] at hR; exact hR
theorem item_len {x : EidV} (h : eRight x = true) : (putI (itemE x)).length <= 200 := by
 unfold itemE
 repeat' split
 ·exact Nat.le_trans (hop_len 1 0) (by decide)
 ·have h0 := put_small 4 0 [] [.mk 0 2 [] [], hopI x.n x.s]
  have h1 := num_len 2
  have h2 := hop_len x.n x.s
  simp only [puts, List.length_append, List.length_nil, Nat.add_zero, Nat.zero_add] at h0
  exact Nat.le_trans h0 (by omega)
 ·have h0 := put_small 4 0 [] [.mk 0 1 [] [], .mk 3 0 (pathE x) []]
  have h1 := num_len 1
  have h2 := put_small 3 0 (pathE x) []
  rename_i hz hi
  have h3 : (pathE x).length <= 100 := by
   have ht := eRight_txt h (by simpa using hz) (by simpa using hi)
   simp only [pathE, List.length_append, List.length_cons, List.length_nil]
   omega
  simp only [puts, List.length_append, List.length_nil, Nat.add_zero, Nat.zero_add] at h0 h2
  exact Nat.le_trans h0 (by omega)
theorem puts_appP (a c : List It) : puts (a ++ c) = puts a ++ puts c := by
 induction a with
 | nil => rfl
 | cons y a ih => rw [List.cons_append, puts, puts, ih, List.append_assoc]
theorem lim_P {p : PriV} (h : rightP p = true) (s : Nat) (hs : s = 1 \/ s = 2) : (putI (zeroL s (listP p))).length <= 1000000000 := by
 obtain ⟨h1, h2, h3, h4, h5, h6⟩ := pr_facts h
 obtain ⟨i1, _, _⟩ := iRight_iff.1 h5
 have h0 := put_small 4 0 [] (listP p ++ [.mk 2 0 (List.replicate (2 * s) 0) []])
 have hb := put_small 2 0 (List.replicate (2 * s) 0) []
 have n1 := num_len 7
 have n2 := num_len p.fl
 have n3 := num_len p.sum.toNat
 have n4 := item_len h3
 have n5 := item_len i1
 have n6 := item_len h4
 have n7 := hop_len p.t p.q
 have n8 := num_len p.life
 have e7 : hopI p.t p.q = .mk 4 0 [] [.mk 0 p.t [] [], .mk 0 p.q [] []] := rfl
 rw [e7] at n7
 rw [puts_appP] at h0
 simp only [listP, puts, List.length_append, List.length_nil, List.length_replicate, Nat.add_zero, Nat.zero_add] at h0 hb
 show (putI (.mk 4 0 [] (listP p ++ [.mk 2 0 (List.replicate (2 * s) 0) []]))).length <= 1000000000
 exact Nat.le_trans h0 (by omega)
theorem av_pWriteR [Known] [KnownU8] (p : PriV) (hfl : p.fl < 18446744073709551616) : AP Tryz.prog 12 [.agg (prC p)] (sealD (writeP p)) [] := by
 cases h : rightP p with
 | true => exact av_pWrite p hfl (lim_P h)
 | false =>
  have hR := av_pRight p
  unfold writeP
  rw [h] at hR ⊢
  obtain ⟨fl, sum, ⟨di, dn, ds, dh, dd⟩, ⟨ri, rn, rs, rh, rd⟩, ⟨xi, xn, xs, xh, xd⟩, t, q, life⟩ := p
  dsimp only [z0] at *
  refine AP.ofA ?_
  refine AC_of Tryz.func12 rfl Tryz.ntmps12 rfl rfl ?_
  repeat' (first | (apply AL_callPw (hR); kernel_rfl; (iterate 4 exact rfl)) | (apply AL_go ttok; exact rfl) | (apply AW_go ttok; exact rfl) | (apply K_go ttok; exact rfl) | (apply AW_condA; exact rfl; (first | with_reducible assumption | decide +kernel)))
  all_goals (apply endQ []; (apply resG_ok ttok; exact rfl); (iterate 4 exact rfl))
  all_goals rfl
theorem wf_writeP {p : PriV} (hfl : p.fl < 18446744073709551616) : wfI (writeP p).1 := by
 unfold writeP
 cases h : rightP p with
 | false => exact wf_z0
 | true => exact wf_seal 2 (wfs_P h hfl) (by simp [listP])
def pr0 : PriV := ⟨0, 0, eidZ, eidZ, eidZ, 0, 0, 0⟩
abbrev prD (r : PriV × Int) : D := .tup [.agg (prC r.1), .int .i64 r.2]
def eZ (y : It) : EidV := match (readV y).2 with | true => (readV y).1 | false => eidZ
def priOf (m1 m2 m3 m4 m5 m6 m7 : It) : PriV := ⟨m1.n, IntKind.i64.wrap (m2.n : Int), eZ m3, eZ m5, (iReadV (.mk 4 0 [] [m4, m6])).1, (iReadV (.mk 4 0 [] [m4, m6])).2.1, (iReadV (.mk 4 0 [] [m4, m6])).2.2.1, m7.n⟩
def readQ (x : It) (o : List It × Int) : PriV × Int := match o.2 != 0 with
 | true => (pr0, o.2)
 | false => match o.1 with
  | [_, m1, m2, m3, m4, m5, m6, m7] => (match (readV m3).2 && ((readV m5).2 && (iReadV (.mk 4 0 [] [m4, m6])).2.2.2) with
   | false => (pr0, 3)
   | true => match (writeP (priOf m1 m2 m3 m4 m5 m6 m7)).2 != 0 with
    | true => (pr0, 3)
    | false => match It.beq (writeP (priOf m1 m2 m3 m4 m5 m6 m7)).1 x with
     | false => (pr0, 3)
     | true => (priOf m1 m2 m3 m4 m5 m6 m7, 0))
  | _ => (pr0, 3)
def readP (x : It) : PriV × Int := readQ x (openV x 2)
theorem av_pRead [Known] [KnownU8] (x : It) (hw : wfI x) (hxl : x.l.length <= 1000000) (hlim : ∀ s m, s = 1 \/ s = 2 -> (putI (zeroL s (x.l.take m))).length <= 1000000000) : AP Tryz.prog 13 [itD x] (prD (readP x)) [] := by
 have hO := av_open x 2 hw hxl hlim
 have hsub := open_sub x 2
 have hws : wfs x.l := by obtain ⟨k, n, b, l⟩ := x; exact hw.2.2.2
 unfold readP
 generalize openV x 2 = o at *
 obtain ⟨ol, oe⟩ := o
 have hlen := itEs_len ol
 have hUo := uniI ol
 dsimp only at hsub
 have hSame := fun (B : PriV) (h1 : B.fl < 18446744073709551616) => av_same (writeP B).1 (wf_writeP h1) x hw
 obtain ⟨k, n, b, l⟩ := x
 dsimp only [It.l] at *
 unfold readQ
 dsimp only
 replace hO : AP Tryz.prog 44 [.agg [.int .i64 k, .int .u64 (n : Int), byE b, .sl .ext (itEs l)], .int .i64 2] (.tup [.sl .ext (itEs ol), .int .i64 oe]) [] := hO
 cases t1 : (oe != 0) with
 | true => exact pr_e k n b _ _ oe hO t1
 | false =>
 have hno : ol.length ≠ 8 -> AP Tryz.prog 13 [itD (.mk k n b l)] (prD (pr0, 3)) [] := fun h => pr_l k n b _ _ oe hO t1 (by rw [hlen]; simp; omega)
 match ol, hO, hsub, hlen, hUo, hno with
 | [], _, _, _, _, h => exact h (by simp)
 | [_], _, _, _, _, h => exact h (by simp)
 | [_, _], _, _, _, _, h => exact h (by simp)
 | [_, _, _], _, _, _, _, h => exact h (by simp)
 | [_, _, _, _], _, _, _, _, h => exact h (by simp)
 | [_, _, _, _, _], _, _, _, _, h => exact h (by simp)
 | [_, _, _, _, _, _], _, _, _, _, h => exact h (by simp)
 | [_, _, _, _, _, _, _], _, _, _, _, h => exact h (by simp)
 | _ :: _ :: _ :: _ :: _ :: _ :: _ :: _ :: _ :: _, _, _, _, _, h => exact h (by simp)
 | [.mk k0 n0 b0 l0, .mk k1 n1 b1 l1, .mk k2 n2 b2 l2, .mk k3 n3 b3 l3, .mk k4 n4 b4 l4, .mk k5 n5 b5 l5, .mk k6 n6 b6 l6, .mk k7 n7 b7 l7], hO, hsub, hlen, hUo, _ =>
 have hwm : ∀ y ∈ [It.mk k0 n0 b0 l0, .mk k1 n1 b1 l1, .mk k2 n2 b2 l2, .mk k3 n3 b3 l3, .mk k4 n4 b4 l4, .mk k5 n5 b5 l5, .mk k6 n6 b6 l6, .mk k7 n7 b7 l7], wfI y := fun y hy => wfs_mem hws y (hsub y hy)
 clear hsub
 have t2 : (((itEs [It.mk k0 n0 b0 l0, .mk k1 n1 b1 l1, .mk k2 n2 b2 l2, .mk k3 n3 b3 l3, .mk k4 n4 b4 l4, .mk k5 n5 b5 l5, .mk k6 n6 b6 l6, .mk k7 n7 b7 l7]).length : Int) != 8) = false := by rw [hlen]; rfl
 dsimp only
 have w1 : n1 < 18446744073709551616 := (hwm (.mk k1 n1 b1 l1) (by simp)).1
 have w3 := hwm (.mk k3 n3 b3 l3) (by simp)
 have w4 := hwm (.mk k4 n4 b4 l4) (by simp)
 have w5 := hwm (.mk k5 n5 b5 l5) (by simp)
 have w6 := hwm (.mk k6 n6 b6 l6) (by simp)
 have w46 : wfI (.mk 4 0 [] [.mk k4 n4 b4 l4, .mk k6 n6 b6 l6]) := ⟨by decide, by simp, by simp, w4, w6, trivial⟩
 have hD : AP Tryz.prog 45 [itD (.mk k3 n3 b3 l3)] (.tup [.agg (eC (eZ (.mk k3 n3 b3 l3))), .int .i64 (match (readV (.mk k3 n3 b3 l3)).2 with | true => 0 | false => 3)]) [] := av_eRead _ w3
 have hR : AP Tryz.prog 45 [itD (.mk k5 n5 b5 l5)] (.tup [.agg (eC (eZ (.mk k5 n5 b5 l5))), .int .i64 (match (readV (.mk k5 n5 b5 l5)).2 with | true => 0 | false => 3)]) [] := av_eRead _ w5
 have hI := av_iRead _ w46
 have hL := av_list [.mk k4 n4 b4 l4, .mk k6 n6 b6 l6] (by simp) ⟨w4, w6, trivial⟩
 have hW := av_pWriteR (priOf (.mk k1 n1 b1 l1) (.mk k2 n2 b2 l2) (.mk k3 n3 b3 l3) (.mk k4 n4 b4 l4) (.mk k5 n5 b5 l5) (.mk k6 n6 b6 l6) (.mk k7 n7 b7 l7)) w1
 have hS := hSame (priOf (.mk k1 n1 b1 l1) (.mk k2 n2 b2 l2) (.mk k3 n3 b3 l3) (.mk k4 n4 b4 l4) (.mk k5 n5 b5 l5) (.mk k6 n6 b6 l6) (.mk k7 n7 b7 l7)) w1
 clear hSame hwm w3 w4 w5 w6 w46 w1 hws hlim hw
 unfold priOf at *
 dsimp only [It.n] at *
 generalize eZ (.mk k3 n3 b3 l3) = dz at *
 generalize eZ (.mk k5 n5 b5 l5) = rz at *
 generalize (readV (.mk k3 n3 b3 l3)).2 = d2 at *
 generalize (readV (.mk k5 n5 b5 l5)).2 = r2 at *
 generalize iReadV (.mk 4 0 [] [.mk k4 n4 b4 l4, .mk k6 n6 b6 l6]) = u at *
 obtain ⟨u, ut, uq, u2⟩ := u
 try dsimp only at *
 generalize writeP ⟨n1, IntKind.i64.wrap (n2 : Int), dz, rz, u, ut, uq, n7⟩ = wr at *
 obtain ⟨⟨wk, wn, wb, wl⟩, we⟩ := wr
 try dsimp only at *
 cases d2 with
 | false => exact (pr_md_all k n b _ _ oe k0 n0 b0 l0 k1 n1 b1 l1 k2 n2 b2 l2 k3 n3 b3 l3 k4 n4 b4 l4 k5 n5 b5 l5 k6 n6 b6 l6 k7 n7 b7 l7 dz.i dz.n dz.s dz.h dz.d rz.i rz.n rz.s rz.h rz.d u.i u.n u.s u.h u.d ut uq _ _ _ we wk wn wb _ _ hO t1 t2 hUo rfl rfl rfl rfl rfl rfl rfl hD hR hL hI hW hS).1 rfl
 | true =>
 cases r2 with
 | false => exact (pr_md_all k n b _ _ oe k0 n0 b0 l0 k1 n1 b1 l1 k2 n2 b2 l2 k3 n3 b3 l3 k4 n4 b4 l4 k5 n5 b5 l5 k6 n6 b6 l6 k7 n7 b7 l7 dz.i dz.n dz.s dz.h dz.d rz.i rz.n rz.s rz.h rz.d u.i u.n u.s u.h u.d ut uq _ _ _ we wk wn wb _ _ hO t1 t2 hUo rfl rfl rfl rfl rfl rfl rfl hD hR hL hI hW hS).2.1 rfl rfl
 | true =>
 cases u2 with
 | false => exact (pr_md_all k n b _ _ oe k0 n0 b0 l0 k1 n1 b1 l1 k2 n2 b2 l2 k3 n3 b3 l3 k4 n4 b4 l4 k5 n5 b5 l5 k6 n6 b6 l6 k7 n7 b7 l7 dz.i dz.n dz.s dz.h dz.d rz.i rz.n rz.s rz.h rz.d u.i u.n u.s u.h u.d ut uq _ _ _ we wk wn wb _ _ hO t1 t2 hUo rfl rfl rfl rfl rfl rfl rfl hD hR hL hI hW hS).2.2 rfl rfl rfl
 | true =>
 try dsimp only [Bool.and_self]
 cases t4 : (we != 0) with
 | true => exact (pr_mw_all k n b _ _ oe k0 n0 b0 l0 k1 n1 b1 l1 k2 n2 b2 l2 k3 n3 b3 l3 k4 n4 b4 l4 k5 n5 b5 l5 k6 n6 b6 l6 k7 n7 b7 l7 dz.i dz.n dz.s dz.h dz.d rz.i rz.n rz.s rz.h rz.d u.i u.n u.s u.h u.d ut uq _ _ _ we wk wn wb _ _ hO t1 t2 hUo rfl rfl rfl rfl rfl rfl rfl hD hR hL hI hW hS rfl rfl rfl).1 t4
 | false =>
 try dsimp only
 cases t5 : It.beq (.mk wk wn wb wl) (.mk k n b l) with
 | false =>
  rw [t5] at hS
  exact (pr_mw_all k n b _ _ oe k0 n0 b0 l0 k1 n1 b1 l1 k2 n2 b2 l2 k3 n3 b3 l3 k4 n4 b4 l4 k5 n5 b5 l5 k6 n6 b6 l6 k7 n7 b7 l7 dz.i dz.n dz.s dz.h dz.d rz.i rz.n rz.s rz.h rz.d u.i u.n u.s u.h u.d ut uq _ _ _ we wk wn wb _ _ hO t1 t2 hUo rfl rfl rfl rfl rfl rfl rfl hD hR hL hI hW hS rfl rfl rfl).2.1 t4 hS
 | true =>
  rw [t5] at hS
  exact (pr_mw_all k n b _ _ oe k0 n0 b0 l0 k1 n1 b1 l1 k2 n2 b2 l2 k3 n3 b3 l3 k4 n4 b4 l4 k5 n5 b5 l5 k6 n6 b6 l6 k7 n7 b7 l7 dz.i dz.n dz.s dz.h dz.d rz.i rz.n rz.s rz.h rz.d u.i u.n u.s u.h u.d ut uq _ _ _ we wk wn wb _ _ hO t1 t2 hUo rfl rfl rfl rfl rfl rfl rfl hD hR hL hI hW hS rfl rfl rfl).2.2 t4 hS
end Go.Proofs.YtfkmicjlaedlkaaGreatDoor
end
section
open Go.RowKit Go.Pl Go.Av
namespace Go.Proofs.YtfkmicjlaedlkaaGreatDoor
theorem iReadV_item {x : EidV} {t q : Nat} (h : iRight x t q = true) : iReadV (itemN x t q) = (x, t, q, true) := by
 obtain ⟨h1, _, _⟩ := iRight_iff.1 h
 have hr := readV_itemE h1 (right_itemE h1)
 have hz : readZ (itemE x) = x := by show (match (readV (itemE x)).2 with | true => (readV (itemE x)).1 | false => eidZ) = x; rw [hr]
 unfold itemN iReadV
 dsimp only
 have e : readNm (itemE x) (.mk 0 t [] []) (.mk 0 q [] []) (.mk 4 0 [] [itemE x, .mk 4 0 [] [.mk 0 t [] [], .mk 0 q [] []]]) = true := by
  unfold readNm
  rw [hz, hr]
  dsimp only [It.n]
  rw [h]
  exact beq_self _
 rw [e, hz]
 rfl
theorem pr_write_read {p : PriV} (hs : p.sum = IntKind.i64.wrap ((p.sum.toNat : Nat) : Int)) {x : It} (h : writeP p = (x, 0)) : readP x = (p, 0) := by
 have hr : rightP p = true := by
  unfold writeP at h
  cases hr : rightP p with
  | true => rfl
  | false => rw [hr] at h; simp at h
 have h2 := h
 unfold writeP at h2
 rw [hr] at h2
 have ho := seal_open h2
 obtain ⟨_, _, d1, d2, d3, _⟩ := pr_facts hr
 have r1 := readV_itemE d1 (right_itemE d1)
 have r2 := readV_itemE d2 (right_itemE d2)
 have r3 := iReadV_item d3
 have e1 : eZ (itemE p.dest) = p.dest := by unfold eZ; rw [r1]
 have e2 : eZ (itemE p.rep) = p.rep := by unfold eZ; rw [r2]
 unfold itemN at r3
 unfold readP
 rw [ho]
 unfold readQ listP
 dsimp only
 have e : priOf (.mk 0 p.fl [] []) (.mk 0 p.sum.toNat [] []) (itemE p.dest) (itemE p.src) (itemE p.rep) (.mk 4 0 [] [.mk 0 p.t [] [], .mk 0 p.q [] []]) (.mk 0 p.life [] []) = p := by
  unfold priOf
  rw [e1, e2, r3]
  dsimp only [It.n]
  rw [<- hs]
 rw [e, r1, r2, r3, h]
 simp [beq_self]
end Go.Proofs.YtfkmicjlaedlkaaGreatDoor
end
section
open Go.RowKit Go.Pl Go.Av
namespace Go.Proofs.YtfkmicjlaedlkaaGreatDoor
structure BunV where
 p : PriV
 bl : List BlkV
def alone (k : Nat) : Bool := k == 1 || (k == 6 || (k == 7 || k == 10))
def fitL : List BlkV -> List BlkV -> Bool
 | _, [] => true
 | pre, b :: r => bkRight b && (pre.all (fun c => c.num != b.num && (c.ty != b.ty || !alone b.ty)) && fitL (pre ++ [b]) r)
def fitV (l : List BlkV) : Bool := match l.getLast? with
 | none => false
 | some b => decide (l.length <= 8) && (b.ty == 1 && (b.num == 1 && fitL [] l))
theorem fitL_right : ∀ {l pre : List BlkV}, fitL pre l = true -> ∀ b ∈ l, bkRight b = true
 | [], _, _, b, hb => by simp at hb
 | x :: l, pre, h, b, hb => by
  rw [fitL] at h
  simp only [Bool.and_eq_true] at h
  rcases List.mem_cons.1 hb with rfl | hb
  ·exact h.1
  ·exact fitL_right h.2.2 b hb
theorem fit_right_all {l : List BlkV} (h : fitV l = true) : l.length <= 8 /\ ∀ b ∈ l, bkRight b = true := by
 unfold fitV at h
 split at h
 ·cases h
 ·simp only [Bool.and_eq_true, decide_eq_true_eq] at h
  exact ⟨h.1, fitL_right h.2.2.2⟩
def itemsL (b : BunV) : List It := (writeP b.p).1 :: b.bl.map fun c => (writeB c).1
def okAll (b : BunV) : Bool := (writeP b.p).2 == 0 && b.bl.all fun c => (writeB c).2 == 0
def putBn (b : BunV) : List UInt8 := 159 :: (puts (itemsL b) ++ [255])
def rightBn (b : BunV) : Bool := fitV b.bl && (okAll b && decide (((puts (itemsL b)).length : Int) <= 598))
theorem walks_all : ∀ (l : List It) (k m : Nat), (∀ x ∈ l, deepI x 5 = true /\ fineI x = true /\ sizeI x <= k) -> l.length * k <= m -> ∃ m', walks l 2 m = some m'
 | [], k, m, _, _ => ⟨m, by rw [walks]⟩
 | x :: l, k, m, h, hm => by
  obtain ⟨h1, h2, h3⟩ := h x (List.mem_cons_self ..)
  rw [List.length_cons, Nat.add_mul, Nat.one_mul] at hm
  obtain ⟨m', h4⟩ := walks_all l k (m - sizeI x) (fun y hy => h y (List.mem_cons_of_mem _ hy)) (by omega)
  refine ⟨m', ?_⟩
  rw [walks, walk_iff, if_pos ⟨h1, by omega, h2⟩]
  exact h4
theorem seal_right {l : List It} {a : Int} {x : It} (h : sealV l a = (x, 0)) : rightI x = true := by
 unfold sealV at h
 split at h
 ·simp at h
 ·split at h
  ·simp at h
  ·split at h
   ·split at h
    ·rename_i hr
     simp only [Prod.mk.injEq, and_true] at h
     subst h; exact hr
    ·simp at h
   ·split at h
    ·simp at h
    ·split at h
     ·simp at h
     ·rename_i hr
      simp only [Prod.mk.injEq, and_true] at h
      subst h; exact hr
theorem right_fine {x : It} (h : rightI x = true) : fineI x = true := by
 rw [right_iff] at h
 simp only [Bool.and_eq_true] at h
 exact h.2.2
theorem block_few {c : BlkV} {x : It} (h : writeB c = (x, 0)) : deepI x 5 = true /\ fineI x = true /\ sizeI x <= 24 := by
 obtain ⟨_, hs⟩ := right_of_write h
 refine ⟨?_, right_fine (seal_right hs), ?_⟩
 ·rcases seal_cases hs with rfl | ⟨s, _, rfl⟩
  ·simp [listB, deepI, deeps]
  ·simp [outL, listB, deepI, deeps]
 ·rcases seal_cases hs with rfl | ⟨s, _, rfl⟩
  ·simp [listB, sizeI, sizes]
  ·simp [outL, listB, sizeI, sizes]
theorem eid_few (x : EidV) : deepI (itemE x) 4 = true /\ sizeI (itemE x) <= 5 := by
 unfold itemE
 repeat' split
 all_goals simp [deepI, deeps, sizeI, sizes]
theorem right_of_writeP {p : PriV} {x : It} (h : writeP p = (x, 0)) : rightP p = true /\ sealV (listP p) 2 = (x, 0) := by
 unfold writeP at h
 cases hr : rightP p with
 | true => rw [hr] at h; exact ⟨rfl, h⟩
 | false => rw [hr] at h; simp at h
theorem prim_few {p : PriV} {x : It} (h : writeP p = (x, 0)) : deepI x 5 = true /\ fineI x = true /\ sizeI x <= 24 := by
 obtain ⟨_, hs⟩ := right_of_writeP h
 obtain ⟨a1, a2⟩ := eid_few p.dest
 obtain ⟨b1, b2⟩ := eid_few p.src
 obtain ⟨c1, c2⟩ := eid_few p.rep
 refine ⟨?_, right_fine (seal_right hs), ?_⟩
 ·rcases seal_cases hs with rfl | ⟨s, _, rfl⟩
  ·simp [listP, deepI, deeps, a1, b1, c1]
  ·simp [outL, listP, deepI, deeps, a1, b1, c1]
 ·rcases seal_cases hs with rfl | ⟨s, _, rfl⟩
  ·simp [listP, sizeI, sizes]; omega
  ·simp [outL, listP, sizeI, sizes]; omega
theorem read_items {b : BunV} (hb : rightBn b = true) (hw : wfs (itemsL b)) : readI (putBn b) 0 = (.mk 4 0 [] (itemsL b), (putBn b).length, 0) := by
 unfold rightBn okAll at hb
 simp only [Bool.and_eq_true, List.all_eq_true, beq_iff_eq] at hb
 obtain ⟨hf, ⟨hp, hc⟩, _⟩ := hb
 have hl := (fit_right_all hf).1
 obtain ⟨m', h⟩ := walks_all (itemsL b) 24 255 (fun x hx => by
  unfold itemsL at hx
  rcases List.mem_cons.1 hx with rfl | hx
  ·exact prim_few (Prod.ext rfl hp)
  ·obtain ⟨c, hcm, rfl⟩ := List.mem_map.1 hx
   exact block_few (Prod.ext rfl (hc c hcm))) (by unfold itemsL; simp; omega)
 have := read_open hw h
 unfold putBn
 rw [this]
 simp
end Go.Proofs.YtfkmicjlaedlkaaGreatDoor
end
section
open Go.RowKit Go.Pl Go.Av
namespace Go.Proofs.YtfkmicjlaedlkaaGreatDoor
def readBs : List It -> Except Int (List BlkV)
 | [] => .ok []
 | y :: r => match (readB y).2 == 0 with
  | false => .error (readB y).2
  | true => match readBs r with
   | .error e => .error e
   | .ok l => .ok ((readB y).1 :: l)
def bn0 : BunV := ⟨pr0, []⟩
def bunOf (it : It) : BunV × Int := match it with
 | .mk k _ _ l => match k == 4 && (decide (2 <= l.length) && decide (l.length <= 9)) with
  | false => (bn0, 3)
  | true => match l with
   | [] => (bn0, 3)
   | x :: r => match (readP x).2 != 0 with
    | true => (bn0, (readP x).2)
    | false => match readBs r with
     | .error e => (bn0, e)
     | .ok bl => match rightBn ⟨(readP x).1, bl⟩ with
      | false => (bn0, 3)
      | true => (⟨(readP x).1, bl⟩, 0)
def readBn (x : List UInt8) : BunV × Int := match decide ((x.length : Int) > 1200) with
 | true => (bn0, 2)
 | false => match ((readI x 0).2.2 : Int) != 0 with
  | true => (bn0, ((readI x 0).2.2 : Int))
  | false => match (readI x 0).2.1 == x.length with
   | false => (bn0, 3)
   | true => bunOf (readI x 0).1
theorem readBs_err : ∀ {l : List It} {e : Int}, readBs l = .error e -> e ≠ 0
 | [], e, h => by cases h
 | y :: r, e, h => by
  rw [readBs] at h
  cases t : ((readB y).2 == 0) with
  | false =>
   rw [t] at h
   simp only [Except.error.injEq] at h
   subst h
   simpa using t
  | true =>
   rw [t] at h
   dsimp only at h
   cases hr : readBs r with
   | error e' =>
    rw [hr] at h
    simp only [Except.error.injEq] at h
    subst h
    exact readBs_err hr
   | ok l => rw [hr] at h; cases h
theorem read_right {x : List UInt8} {b : BunV} (h : readBn x = (b, 0)) : rightBn b = true := by
 unfold readBn at h
 split at h
 ·simp at h
 ·split at h
  ·rename_i t
   simp only [Prod.mk.injEq] at h
   rw [h.2] at t
   cases t
  ·split at h
   ·simp at h
   ·unfold bunOf at h
    split at h
    split at h
    ·simp at h
    ·split at h
     ·simp at h
     ·split at h
      ·rename_i t
       simp only [Prod.mk.injEq] at h
       rw [h.2] at t
       cases t
      ·split at h
       ·rename_i e he
        simp only [Prod.mk.injEq] at h
        exact absurd h.2 (readBs_err he)
       ·split at h
        ·simp at h
        ·rename_i hr
         simp only [Prod.mk.injEq, and_true] at h
         subst h
         exact hr
theorem wrap_sum {s : Int} (h0 : 0 <= s) (h2 : s <= 2) : s = IntKind.i64.wrap ((s.toNat : Nat) : Int) := by
 rw [IntWalk.i64_in _ (by omega)]; omega
theorem readBs_map : ∀ {l : List BlkV}, (∀ c ∈ l, bkRight c = true /\ (writeB c).2 = 0) -> readBs (l.map fun c => (writeB c).1) = .ok l
 | [], _ => rfl
 | c :: l, h => by
  obtain ⟨h1, h2⟩ := h c (List.mem_cons_self ..)
  obtain ⟨_, _, s1, s2, _⟩ := bk_facts h1
  have hr := bk_write_read (wrap_sum s1 s2) (x := (writeB c).1) (Prod.ext rfl h2)
  rw [List.map_cons, readBs, hr, readBs_map fun y hy => h y (List.mem_cons_of_mem _ hy)]
  rfl
theorem bn_write_read {b : BunV} (hb : rightBn b = true) (hw : wfs (itemsL b)) : readBn (putBn b) = (b, 0) := by
 have hi := read_items hb hw
 have hb2 := hb
 unfold rightBn okAll at hb2
 simp only [Bool.and_eq_true, List.all_eq_true, beq_iff_eq, decide_eq_true_eq] at hb2
 obtain ⟨hf, ⟨hp, hc⟩, hl⟩ := hb2
 obtain ⟨hl8, hbr⟩ := fit_right_all hf
 obtain ⟨hpr, _⟩ := right_of_writeP (p := b.p) (x := (writeP b.p).1) (Prod.ext rfl hp)
 obtain ⟨s1, s2, _⟩ := pr_facts hpr
 have hrp := pr_write_read (wrap_sum s1 s2) (x := (writeP b.p).1) (Prod.ext rfl hp)
 have hrb := readBs_map fun c hcm => ⟨hbr c hcm, hc c hcm⟩
 have hne : 1 <= b.bl.length := by
  unfold fitV at hf
  cases hbl : b.bl with
  | nil => rw [hbl] at hf; cases hf
  | cons c l => simp
 have hlen : (putBn b).length = (puts (itemsL b)).length + 2 := by unfold putBn; simp
 have d0 : decide (((putBn b).length : Int) > 1200) = false := decide_eq_false (by omega)
 unfold readBn
 rw [d0, hi]
 dsimp only
 have e1 : (((0 : Nat) : Int) != 0) = false := rfl
 rw [e1]
 dsimp only
 rw [beq_self_eq_true]
 dsimp only
 unfold bunOf itemsL
 have d1 : decide (2 <= ((writeP b.p).1 :: b.bl.map fun c => (writeB c).1).length) = true := decide_eq_true (by simp; omega)
 have d2 : decide (((writeP b.p).1 :: b.bl.map fun c => (writeB c).1).length <= 9) = true := decide_eq_true (by simp; omega)
 dsimp only
 rw [d1, d2, hrp, hrb]
 dsimp only
 rw [hb]
 rfl
theorem wfs_items {b : BunV} (hp : b.p.fl < 18446744073709551616) (hb : ∀ c ∈ b.bl, c.fl < 18446744073709551616 /\ c.data.length <= 3000) : wfs (itemsL b) := by
 have key : ∀ l : List BlkV, (∀ c ∈ l, c.fl < 18446744073709551616 /\ c.data.length <= 3000) -> wfs (l.map fun c => (writeB c).1) := fun l => by
  induction l with
  | nil => intro _; trivial
  | cons c l ih =>
   intro h
   obtain ⟨h1, h2⟩ := h c (List.mem_cons_self ..)
   exact ⟨wf_write h1 h2, ih fun y hy => h y (List.mem_cons_of_mem _ hy)⟩
 exact ⟨wf_writeP hp, key b.bl hb⟩
theorem data_len {c : BlkV} (h : bkRight c = true) : c.data.length <= 200 := by
 obtain ⟨_, _, _, _, hd⟩ := bk_facts h
 unfold dataV at hd
 rw [Bool.and_eq_true, decide_eq_true_eq] at hd
 omega
def shortBn (x : List UInt8) : Bool := (readBn x).2 == 0 && putBn (readBn x).1 == x
theorem short_own {b : BunV} (hb : rightBn b = true) (hw : wfs (itemsL b)) : shortBn (putBn b) = true := by
 unfold shortBn
 rw [bn_write_read hb hw]
 simp
theorem short_none {x : List UInt8} (h : (readBn x).2 ≠ 0) : shortBn x = false := by
 unfold shortBn
 have : ((readBn x).2 == 0) = false := by simpa using h
 rw [this]
 rfl
theorem put_len600 {b : BunV} (hb : rightBn b = true) : (putBn b).length <= 600 := by
 unfold rightBn at hb
 simp only [Bool.and_eq_true, decide_eq_true_eq] at hb
 have hlen : (putBn b).length = (puts (itemsL b)).length + 2 := by unfold putBn; simp
 omega
end Go.Proofs.YtfkmicjlaedlkaaGreatDoor
end
