/- Package ident: an item of a number's form. -/
import Derived.Test.YtpodhnaofhfinaaGreatDoorG28
import Derived.Test.YtpodhnaofhfinaaGreatDoorG26
import Derived.Test.YtpodhnaofhfinaaGreatDoorG27
set_option linter.unusedVariables false
set_option linter.unusedSimpArgs false
section
open Go.RowKit Go.Pl Go.Av
namespace Go.Proofs.YtpodhnaofhfinaaGreatDoor
set_option maxHeartbeats 4000000
theorem ird_f [Known] (y z : It) (n : Nat) (b : List UInt8) (n2 : Nat) (b2 : List UInt8) (kp : Int) (np : Nat) (bp : List UInt8) (lp : List It) (kr : Int) (nr : Nat) (br : List UInt8) (lr : List It) (c : Int)
  (hE : AP Tryz.prog 69 [itD y] (.tup [.agg (eC eidZ), .int .i64 3]) []) (hW : AP Tryz.prog 45 [.agg (iC eidZ np nr)] (.tup [itD z, .int .i64 c]) []) :
  AP Tryz.prog 43 [itD (.mk 4 n b [y, .mk 4 n2 b2 [.mk kp np bp lp, .mk kr nr br lr]])] (.tup [.agg (iC eidZ 0 0), .int .i64 3]) [] := by
 have hU := uniI [y, .mk 4 n2 b2 [.mk kp np bp lp, .mk kr nr br lr]]
 have hU2 := uniI [.mk kp np bp lp, .mk kr nr br lr]
 have t2 : (((itEs [y, .mk 4 n2 b2 [.mk kp np bp lp, .mk kr nr br lr]]).length : Int) != 2) = false := rfl
 have t3 : (((itEs [.mk kp np bp lp, .mk kr nr br lr]).length : Int) != 2) = false := rfl
 obtain ⟨yk, yn, yb, yl⟩ := y
 obtain ⟨zk, zn, zb, zl⟩ := z
 replace hE : AP Tryz.prog _ [.agg [.int .i64 yk, .int .u64 (yn : Int), byE yb, .sl .ext (itEs yl)]] (.tup [.agg [.bool false, .int .u64 0, .int .u64 0, .str [], .str []], .int .i64 3]) [] := hE
 replace hW : AP Tryz.prog _ [.agg [.bool false, .int .u64 0, .int .u64 0, .str [], .str [], .int .u64 (np : Int), .int .u64 (nr : Int)]] (.tup [.agg [.int .i64 zk, .int .u64 (zn : Int), byE zb, .sl .ext (itEs zl)], .int .i64 c]) [] := hW
 refine AP.ofA ?_
 refine AC_of Tryz.func43 rfl Tryz.ntmps43 rfl rfl ?_
 repeat' (first | (apply AL_callPw (hE); kernel_rfl; (iterate 4 exact rfl)) | (apply AL_callPw (hW); kernel_rfl; (iterate 4 exact rfl)) | (apply AL_go ttok; exact rfl) | (apply AW_go ttok; exact rfl) | (apply K_go ttok; exact rfl) | (apply AL_guardT; (iterate 3 exact rfl); (first | with_reducible assumption | decide +kernel)) | (apply AL_guardFf; (iterate 3 exact rfl); (first | with_reducible assumption | decide +kernel)) | (apply AL_pickT; exact rfl; (first | with_reducible assumption | decide +kernel); exact rfl; exact rfl) | (apply AL_pickF; exact rfl; (first | with_reducible assumption | decide +kernel); exact rfl; exact rfl) | (apply AW_condA; exact rfl; (first | with_reducible assumption | decide +kernel)) | (apply AW_condB; exact rfl; (first | with_reducible assumption | decide +kernel)) | (apply AL_len ttok; (iterate 4 exact rfl)) | (apply AW_drawE 19 hmix; (decide +kernel); (kernel_rfl); (kernel_rfl); (kernel_rfl); exact rfl; exact rfl) | (apply AE_consZ; (iterate 4 exact rfl)) | exact AE.nil _ _ _ _ | (apply AEk_puT; exact rfl) | (apply AEk_efT; exact rfl) | (apply AOt_mk; exact rfl; exact rfl; (decide +kernel); exact rfl) | (apply AO_puT; exact rfl) | (apply AO_efT; exact rfl) | exact AO.nil _ _ _ | (apply AOs_skip; (decide +kernel)) | (apply AOs_goZ; (iterate 3 exact rfl)) | exact AOs.nil | exact qY_ok rfl rfl | exact qY_ef rfl rfl | (apply AL_idx ttok; (iterate 6 exact rfl); (first | with_reducible assumption | decide +kernel | exact Int.natCast_nonneg _ | (guard_target = (0:Int) <= (OfNat.ofNat _ : Int); decide) | rotate_left); (first | with_reducible assumption | decide +kernel | exact rfl); (first | exact uniB_ok rfl | with_reducible assumption | decide +kernel | rotate_left)))
 all_goals (apply endQ []; (apply resG_ok ttok; exact rfl); (iterate 4 exact rfl))
 all_goals rfl
theorem ird_w [Known] (x : EidV) (y z : It) (n : Nat) (b : List UInt8) (n2 : Nat) (b2 : List UInt8) (kp : Int) (np : Nat) (bp : List UInt8) (lp : List It) (kr : Int) (nr : Nat) (br : List UInt8) (lr : List It)
  (hE : AP Tryz.prog 69 [itD y] (.tup [.agg (eC x), .int .i64 0]) []) (hW : AP Tryz.prog 45 [.agg (iC x np nr)] (.tup [itD z, .int .i64 3]) []) :
  AP Tryz.prog 43 [itD (.mk 4 n b [y, .mk 4 n2 b2 [.mk kp np bp lp, .mk kr nr br lr]])] (.tup [.agg (iC eidZ 0 0), .int .i64 3]) [] := by
 have hU := uniI [y, .mk 4 n2 b2 [.mk kp np bp lp, .mk kr nr br lr]]
 have hU2 := uniI [.mk kp np bp lp, .mk kr nr br lr]
 have t2 : (((itEs [y, .mk 4 n2 b2 [.mk kp np bp lp, .mk kr nr br lr]]).length : Int) != 2) = false := rfl
 have t3 : (((itEs [.mk kp np bp lp, .mk kr nr br lr]).length : Int) != 2) = false := rfl
 obtain ⟨yk, yn, yb, yl⟩ := y
 obtain ⟨zk, zn, zb, zl⟩ := z
 obtain ⟨xi, xn, xs, xh, xd⟩ := x
 replace hE : AP Tryz.prog _ [.agg [.int .i64 yk, .int .u64 (yn : Int), byE yb, .sl .ext (itEs yl)]] (.tup [.agg [.bool xi, .int .u64 (xn : Int), .int .u64 (xs : Int), .str xh, .str xd], .int .i64 0]) [] := hE
 replace hW : AP Tryz.prog _ [.agg [.bool xi, .int .u64 (xn : Int), .int .u64 (xs : Int), .str xh, .str xd, .int .u64 (np : Int), .int .u64 (nr : Int)]] (.tup [.agg [.int .i64 zk, .int .u64 (zn : Int), byE zb, .sl .ext (itEs zl)], .int .i64 3]) [] := hW
 refine AP.ofA ?_
 refine AC_of Tryz.func43 rfl Tryz.ntmps43 rfl rfl ?_
 repeat' (first | (apply AL_callPw (hE); kernel_rfl; (iterate 4 exact rfl)) | (apply AL_callPw (hW); kernel_rfl; (iterate 4 exact rfl)) | (apply AL_go ttok; exact rfl) | (apply AW_go ttok; exact rfl) | (apply K_go ttok; exact rfl) | (apply AL_guardT; (iterate 3 exact rfl); (first | with_reducible assumption | decide +kernel)) | (apply AL_guardFf; (iterate 3 exact rfl); (first | with_reducible assumption | decide +kernel)) | (apply AL_pickT; exact rfl; (first | with_reducible assumption | decide +kernel); exact rfl; exact rfl) | (apply AL_pickF; exact rfl; (first | with_reducible assumption | decide +kernel); exact rfl; exact rfl) | (apply AW_condA; exact rfl; (first | with_reducible assumption | decide +kernel)) | (apply AW_condB; exact rfl; (first | with_reducible assumption | decide +kernel)) | (apply AL_len ttok; (iterate 4 exact rfl)) | (apply AW_drawE 19 hmix; (decide +kernel); (kernel_rfl); (kernel_rfl); (kernel_rfl); exact rfl; exact rfl) | (apply AE_consZ; (iterate 4 exact rfl)) | exact AE.nil _ _ _ _ | (apply AEk_puT; exact rfl) | (apply AEk_efT; exact rfl) | (apply AOt_mk; exact rfl; exact rfl; (decide +kernel); exact rfl) | (apply AO_puT; exact rfl) | (apply AO_efT; exact rfl) | exact AO.nil _ _ _ | (apply AOs_skip; (decide +kernel)) | (apply AOs_goZ; (iterate 3 exact rfl)) | exact AOs.nil | exact qY_ok rfl rfl | exact qY_ef rfl rfl | (apply AL_idx ttok; (iterate 6 exact rfl); (first | with_reducible assumption | decide +kernel | exact Int.natCast_nonneg _ | (guard_target = (0:Int) <= (OfNat.ofNat _ : Int); decide) | rotate_left); (first | with_reducible assumption | decide +kernel | exact rfl); (first | exact uniB_ok rfl | with_reducible assumption | decide +kernel | rotate_left)))
 all_goals (apply endQ []; (apply resG_ok ttok; exact rfl); (iterate 4 exact rfl))
 all_goals rfl
theorem ird_s [Known] (x : EidV) (y z : It) (n : Nat) (b : List UInt8) (n2 : Nat) (b2 : List UInt8) (kp : Int) (np : Nat) (bp : List UInt8) (lp : List It) (kr : Int) (nr : Nat) (br : List UInt8) (lr : List It) (R : Bool)
  (hE : AP Tryz.prog 69 [itD y] (.tup [.agg (eC x), .int .i64 0]) []) (hW : AP Tryz.prog 45 [.agg (iC x np nr)] (.tup [itD z, .int .i64 0]) [])
  (hS : AP Tryz.prog 54 [itD z, itD (.mk 4 n b [y, .mk 4 n2 b2 [.mk kp np bp lp, .mk kr nr br lr]])] (.bool R) []) :
  AP Tryz.prog 43 [itD (.mk 4 n b [y, .mk 4 n2 b2 [.mk kp np bp lp, .mk kr nr br lr]])] (resN x np nr R) [] := by
 have hU := uniI [y, .mk 4 n2 b2 [.mk kp np bp lp, .mk kr nr br lr]]
 have hU2 := uniI [.mk kp np bp lp, .mk kr nr br lr]
 have t2 : (((itEs [y, .mk 4 n2 b2 [.mk kp np bp lp, .mk kr nr br lr]]).length : Int) != 2) = false := rfl
 have t3 : (((itEs [.mk kp np bp lp, .mk kr nr br lr]).length : Int) != 2) = false := rfl
 obtain ⟨yk, yn, yb, yl⟩ := y
 obtain ⟨zk, zn, zb, zl⟩ := z
 obtain ⟨xi, xn, xs, xh, xd⟩ := x
 replace hE : AP Tryz.prog _ [.agg [.int .i64 yk, .int .u64 (yn : Int), byE yb, .sl .ext (itEs yl)]] (.tup [.agg [.bool xi, .int .u64 (xn : Int), .int .u64 (xs : Int), .str xh, .str xd], .int .i64 0]) [] := hE
 replace hW : AP Tryz.prog _ [.agg [.bool xi, .int .u64 (xn : Int), .int .u64 (xs : Int), .str xh, .str xd, .int .u64 (np : Int), .int .u64 (nr : Int)]] (.tup [.agg [.int .i64 zk, .int .u64 (zn : Int), byE zb, .sl .ext (itEs zl)], .int .i64 0]) [] := hW
 replace hS : AP Tryz.prog _ [.agg [.int .i64 zk, .int .u64 (zn : Int), byE zb, .sl .ext (itEs zl)], itD (.mk 4 n b [.mk yk yn yb yl, .mk 4 n2 b2 [.mk kp np bp lp, .mk kr nr br lr]])] (.bool R) [] := hS
 cases R with
 | true =>
  show AP Tryz.prog _ _ (.tup [.agg [.bool xi, .int .u64 (xn : Int), .int .u64 (xs : Int), .str xh, .str xd, .int .u64 (np : Int), .int .u64 (nr : Int)], .int .i64 0]) []
  refine AP.ofA ?_
  refine AC_of Tryz.func43 rfl Tryz.ntmps43 rfl rfl ?_
  repeat' (first | (apply AL_callPw (hE); kernel_rfl; (iterate 4 exact rfl)) | (apply AL_callPw (hW); kernel_rfl; (iterate 4 exact rfl)) | (apply AL_callPw (hS); kernel_rfl; (iterate 4 exact rfl)) | (apply AL_go ttok; exact rfl) | (apply AW_go ttok; exact rfl) | (apply K_go ttok; exact rfl) | (apply AL_guardT; (iterate 3 exact rfl); (first | with_reducible assumption | decide +kernel)) | (apply AL_pickF; exact rfl; (first | with_reducible assumption | decide +kernel); exact rfl; exact rfl) | (apply AW_condB; exact rfl; (first | with_reducible assumption | decide +kernel)) | (apply AL_len ttok; (iterate 4 exact rfl)) | (apply AW_drawE 19 hmix; (decide +kernel); (kernel_rfl); (kernel_rfl); (kernel_rfl); exact rfl; exact rfl) | (apply AE_consZ; (iterate 4 exact rfl)) | exact AE.nil _ _ _ _ | (apply AEk_puT; exact rfl) | (apply AEk_efT; exact rfl) | (apply AOt_mk; exact rfl; exact rfl; (decide +kernel); exact rfl) | (apply AO_puT; exact rfl) | (apply AO_efT; exact rfl) | exact AO.nil _ _ _ | (apply AOs_skip; (decide +kernel)) | (apply AOs_goZ; (iterate 3 exact rfl)) | exact AOs.nil | exact qY_ok rfl rfl | exact qY_ef rfl rfl | (apply AL_idx ttok; (iterate 6 exact rfl); (first | with_reducible assumption | decide +kernel | exact Int.natCast_nonneg _ | (guard_target = (0:Int) <= (OfNat.ofNat _ : Int); decide) | rotate_left); (first | with_reducible assumption | decide +kernel | exact rfl); (first | exact uniB_ok rfl | with_reducible assumption | decide +kernel | rotate_left)))
  all_goals (apply endQ []; (apply resG_ok ttok; exact rfl); (iterate 4 exact rfl))
  all_goals rfl
 | false =>
  show AP Tryz.prog _ _ (.tup [.agg [.bool false, .int .u64 0, .int .u64 0, .str [], .str [], .int .u64 0, .int .u64 0], .int .i64 3]) []
  refine AP.ofA ?_
  refine AC_of Tryz.func43 rfl Tryz.ntmps43 rfl rfl ?_
  repeat' (first | (apply AL_callPw (hE); kernel_rfl; (iterate 4 exact rfl)) | (apply AL_callPw (hW); kernel_rfl; (iterate 4 exact rfl)) | (apply AL_callPw (hS); kernel_rfl; (iterate 4 exact rfl)) | (apply AL_go ttok; exact rfl) | (apply AW_go ttok; exact rfl) | (apply K_go ttok; exact rfl) | (apply AL_guardT; (iterate 3 exact rfl); (first | with_reducible assumption | decide +kernel)) | (apply AL_pickF; exact rfl; (first | with_reducible assumption | decide +kernel); exact rfl; exact rfl) | (apply AW_condA; exact rfl; (first | with_reducible assumption | decide +kernel)) | (apply AW_condB; exact rfl; (first | with_reducible assumption | decide +kernel)) | (apply AL_len ttok; (iterate 4 exact rfl)) | (apply AW_drawE 19 hmix; (decide +kernel); (kernel_rfl); (kernel_rfl); (kernel_rfl); exact rfl; exact rfl) | (apply AE_consZ; (iterate 4 exact rfl)) | exact AE.nil _ _ _ _ | (apply AEk_puT; exact rfl) | (apply AEk_efT; exact rfl) | (apply AOt_mk; exact rfl; exact rfl; (decide +kernel); exact rfl) | (apply AO_puT; exact rfl) | (apply AO_efT; exact rfl) | exact AO.nil _ _ _ | (apply AOs_skip; (decide +kernel)) | (apply AOs_goZ; (iterate 3 exact rfl)) | exact AOs.nil | exact qY_ok rfl rfl | exact qY_ef rfl rfl | (apply AL_idx ttok; (iterate 6 exact rfl); (first | with_reducible assumption | decide +kernel | exact Int.natCast_nonneg _ | (guard_target = (0:Int) <= (OfNat.ofNat _ : Int); decide) | rotate_left); (first | with_reducible assumption | decide +kernel | exact rfl); (first | exact uniB_ok rfl | with_reducible assumption | decide +kernel | rotate_left)))
  all_goals (apply endQ []; (apply resG_ok ttok; exact rfl); (iterate 4 exact rfl))
  all_goals rfl
theorem av_iReadYes [Known] [KnownU8] (n : Nat) (b : List UInt8) (y : It) (n2 : Nat) (b2 : List UInt8) (p r : It) (hw : wfI (.mk 4 n b [y, .mk 4 n2 b2 [p, r]])) :
  AP Tryz.prog 43 [itD (.mk 4 n b [y, .mk 4 n2 b2 [p, r]])] (resN (readZ y) p.n r.n (readNm y p r (.mk 4 n b [y, .mk 4 n2 b2 [p, r]]))) [] := by
 have hwy : wfI y := hw.2.2.2.1
 have hE := av_eRead y hwy
 have hW := av_iWrite (readZ y) p.n r.n
 unfold readNm
 cases hv : (readV y).2 with
 | false =>
  have e0 : readZ y = eidZ := by unfold readZ; rw [hv]
  unfold resE at hE
  rw [hv] at hE
  rw [e0] at hW
  obtain ⟨kp, np, bp, lp⟩ := p
  obtain ⟨kr, nr, br, lr⟩ := r
  exact ird_f y _ n b n2 b2 kp np bp lp kr nr br lr _ hE hW
 | true =>
  have e0 : readZ y = (readV y).1 := by unfold readZ; rw [hv]
  unfold resE at hE
  rw [hv] at hE
  rw [<- e0] at hE
  cases hr : iRight (readZ y) p.n r.n with
  | false =>
   rw [hr] at hW
   obtain ⟨kp, np, bp, lp⟩ := p
   obtain ⟨kr, nr, br, lr⟩ := r
   exact ird_w _ y _ n b n2 b2 kp np bp lp kr nr br lr hE hW
  | true =>
   rw [hr, if_pos rfl, if_pos rfl] at hW
   have hS := av_same _ (wf_itemN hr) _ hw
   obtain ⟨kp, np, bp, lp⟩ := p
   obtain ⟨kr, nr, br, lr⟩ := r
   exact ird_s _ y _ n b n2 b2 kp np bp lp kr nr br lr _ hE hW hS
end Go.Proofs.YtpodhnaofhfinaaGreatDoor
end
section
open Go.RowKit Go.Pl Go.Av
namespace Go.Proofs.YtpodhnaofhfinaaGreatDoor
set_option maxHeartbeats 4000000
def iReadV (z : It) : EidV × Nat × Nat × Bool := match z with
 | .mk k n b [y, .mk k2 n2 b2 [p, r]] => (match k == 4 && k2 == 4 with
  | false => (eidZ, 0, 0, false)
  | true => match readNm y p r (.mk k n b [y, .mk k2 n2 b2 [p, r]]) with
   | true => (readZ y, p.n, r.n, true)
   | false => (eidZ, 0, 0, false))
 | _ => (eidZ, 0, 0, false)
theorem av_iRead [Known] [KnownU8] (z : It) (hw : wfI z) : AP Tryz.prog 43 [itD z] (.tup [.agg (iC (iReadV z).1 (iReadV z).2.1 (iReadV z).2.2.1), .int .i64 (match (iReadV z).2.2.2 with | true => 0 | false => 3)]) [] := by
 cases h : noForm z with
 | true =>
  have e : iReadV z = (eidZ, 0, 0, false) := by
   unfold noForm at h
   unfold iReadV
   split at h
   ·rw [Bool.not_eq_true'] at h
    dsimp only
    rw [h]
   ·rename_i hno
    split
    ·exact absurd rfl (hno _ _ _ _ _ _ _ _ _)
    ·rfl
  rw [e]
  exact av_iReadNo z h
 | false =>
  obtain ⟨n, b, y, n2, b2, p, r, rfl⟩ : ∃ n b y n2 b2 p r, z = .mk 4 n b [y, .mk 4 n2 b2 [p, r]] := by
   unfold noForm at h
   split at h
   ·simp only [Bool.not_eq_false', Bool.and_eq_true, beq_iff_eq] at h
    obtain ⟨rfl, rfl⟩ := h
    exact ⟨_, _, _, _, _, _, _, rfl⟩
   ·cases h
  have hR := av_iReadYes n b y n2 b2 p r hw
  have e : iReadV (.mk 4 n b [y, .mk 4 n2 b2 [p, r]]) = (match readNm y p r (.mk 4 n b [y, .mk 4 n2 b2 [p, r]]) with
   | true => (readZ y, p.n, r.n, true)
   | false => (eidZ, 0, 0, false)) := rfl
  rw [e]
  unfold resN at hR
  cases hb : readNm y p r (.mk 4 n b [y, .mk 4 n2 b2 [p, r]]) with
  | false => rw [hb] at hR; exact hR
  | true => rw [hb] at hR; exact hR
theorem item_len {x : EidV} (h : eRight x = true) : (putI (itemE x)).length <= 200 := by
 unfold itemE
 repeat' split
 ·exact Nat.le_trans (hop_len 1 0) (by decide)
 ·have h0 := put_small 4 0 [] [.mk 0 2 [] [], hopI x.n x.s]
  have h1 := num_len 2
  have h2 := hop_len x.n x.s
  simp only [puts, List.length_append, List.length_nil, Nat.add_zero, Nat.zero_add] at h0
  exact Nat.le_trans h0 (by omega)
 ·have h0 := put_small 4 0 [] [.mk 0 1 [] [], .mk 3 0 (pathE x) []]
  have h1 := num_len 1
  have h2 := put_small 3 0 (pathE x) []
  rename_i hz hi
  have h3 : (pathE x).length <= 100 := by
   have ht := eRight_txt h (by simpa using hz) (by simpa using hi)
   simp only [pathE, List.length_append, List.length_cons, List.length_nil]
   omega
  simp only [puts, List.length_append, List.length_nil, Nat.add_zero, Nat.zero_add] at h0 h2
  exact Nat.le_trans h0 (by omega)
theorem puts_appP (a c : List It) : puts (a ++ c) = puts a ++ puts c := by
 induction a with
 | nil => rfl
 | cons y a ih => rw [List.cons_append, puts, puts, ih, List.append_assoc]
theorem lim_P {p : PriV} (h : rightP p = true) (s : Nat) (hs : s = 1 \/ s = 2) : (putI (zeroL s (listP p))).length <= 1000000000 := by
 obtain ⟨h1, h2, h3, h4, h5, h6⟩ := pr_facts h
 obtain ⟨i1, _, _⟩ := iRight_iff.1 h5
 have h0 := put_small 4 0 [] (listP p ++ [.mk 2 0 (List.replicate (2 * s) 0) []])
 have hb := put_small 2 0 (List.replicate (2 * s) 0) []
 have n1 := num_len 7
 have n2 := num_len p.fl
 have n3 := num_len p.sum.toNat
 have n4 := item_len h3
 have n5 := item_len i1
 have n6 := item_len h4
 have n7 := hop_len p.t p.q
 have n8 := num_len p.life
 have e7 : hopI p.t p.q = .mk 4 0 [] [.mk 0 p.t [] [], .mk 0 p.q [] []] := rfl
 rw [e7] at n7
 rw [puts_appP] at h0
 simp only [listP, puts, List.length_append, List.length_nil, List.length_replicate, Nat.add_zero, Nat.zero_add] at h0 hb
 show (putI (.mk 4 0 [] (listP p ++ [.mk 2 0 (List.replicate (2 * s) 0) []]))).length <= 1000000000
 exact Nat.le_trans h0 (by omega)
theorem av_pWriteR [Known] [KnownU8] (p : PriV) (hfl : p.fl < 18446744073709551616) : AP Tryz.prog 64 [.agg (prC p)] (sealD (writeP p)) [] := by
 cases h : rightP p with
 | true => exact av_pWrite p hfl (lim_P h)
 | false =>
  have hR := av_pRight p
  unfold writeP
  rw [h] at hR ⊢
  obtain ⟨fl, sum, ⟨di, dn, ds, dh, dd⟩, ⟨ri, rn, rs, rh, rd⟩, ⟨xi, xn, xs, xh, xd⟩, t, q, life⟩ := p
  dsimp only [z0] at *
  refine AP.ofA ?_
  refine AC_of Tryz.func64 rfl Tryz.ntmps64 rfl rfl ?_
  repeat' (first | (apply AL_callPw (hR); kernel_rfl; (iterate 4 exact rfl)) | (apply AL_go ttok; exact rfl) | (apply AW_go ttok; exact rfl) | (apply K_go ttok; exact rfl) | (apply AW_condA; exact rfl; (first | with_reducible assumption | decide +kernel)))
  all_goals (apply endQ []; (apply resG_ok ttok; exact rfl); (iterate 4 exact rfl))
  all_goals rfl
theorem wf_writeP {p : PriV} (hfl : p.fl < 18446744073709551616) : wfI (writeP p).1 := by
 unfold writeP
 cases h : rightP p with
 | false => exact wf_z0
 | true => exact wf_seal 2 (wfs_P h hfl) (by simp [listP])
def pr0 : PriV := ⟨0, 0, eidZ, eidZ, eidZ, 0, 0, 0⟩
abbrev prD (r : PriV × Int) : D := .tup [.agg (prC r.1), .int .i64 r.2]
def eZ (y : It) : EidV := match (readV y).2 with | true => (readV y).1 | false => eidZ
def priOf (m1 m2 m3 m4 m5 m6 m7 : It) : PriV := ⟨m1.n, IntKind.i64.wrap (m2.n : Int), eZ m3, eZ m5, (iReadV (.mk 4 0 [] [m4, m6])).1, (iReadV (.mk 4 0 [] [m4, m6])).2.1, (iReadV (.mk 4 0 [] [m4, m6])).2.2.1, m7.n⟩
def readQ (x : It) (o : List It × Int) : PriV × Int := match o.2 != 0 with
 | true => (pr0, o.2)
 | false => match o.1 with
  | [_, m1, m2, m3, m4, m5, m6, m7] => (match (readV m3).2 && ((readV m5).2 && (iReadV (.mk 4 0 [] [m4, m6])).2.2.2) with
   | false => (pr0, 3)
   | true => match (writeP (priOf m1 m2 m3 m4 m5 m6 m7)).2 != 0 with
    | true => (pr0, 3)
    | false => match It.beq (writeP (priOf m1 m2 m3 m4 m5 m6 m7)).1 x with
     | false => (pr0, 3)
     | true => (priOf m1 m2 m3 m4 m5 m6 m7, 0))
  | _ => (pr0, 3)
def readP (x : It) : PriV × Int := readQ x (openV x 2)
theorem av_pRead [Known] [KnownU8] (x : It) (hw : wfI x) (hxl : x.l.length <= 1000000) (hlim : ∀ s m, s = 1 \/ s = 2 -> (putI (zeroL s (x.l.take m))).length <= 1000000000) : AP Tryz.prog 39 [itD x] (prD (readP x)) [] := by
 have hO := av_open x 2 hw hxl hlim
 have hsub := open_sub x 2
 have hws : wfs x.l := by obtain ⟨k, n, b, l⟩ := x; exact hw.2.2.2
 unfold readP
 generalize openV x 2 = o at *
 obtain ⟨ol, oe⟩ := o
 have hlen := itEs_len ol
 have hUo := uniI ol
 dsimp only at hsub
 have hSame := fun (B : PriV) (h1 : B.fl < 18446744073709551616) => av_same (writeP B).1 (wf_writeP h1) x hw
 obtain ⟨k, n, b, l⟩ := x
 dsimp only [It.l] at *
 unfold readQ
 dsimp only
 replace hO : AP Tryz.prog 68 [.agg [.int .i64 k, .int .u64 (n : Int), byE b, .sl .ext (itEs l)], .int .i64 2] (.tup [.sl .ext (itEs ol), .int .i64 oe]) [] := hO
 cases t1 : (oe != 0) with
 | true => exact pr_e k n b _ _ oe hO t1
 | false =>
 have hno : ol.length ≠ 8 -> AP Tryz.prog 39 [itD (.mk k n b l)] (prD (pr0, 3)) [] := fun h => pr_l k n b _ _ oe hO t1 (by rw [hlen]; simp; omega)
 match ol, hO, hsub, hlen, hUo, hno with
 | [], _, _, _, _, h => exact h (by simp)
 | [_], _, _, _, _, h => exact h (by simp)
 | [_, _], _, _, _, _, h => exact h (by simp)
 | [_, _, _], _, _, _, _, h => exact h (by simp)
 | [_, _, _, _], _, _, _, _, h => exact h (by simp)
 | [_, _, _, _, _], _, _, _, _, h => exact h (by simp)
 | [_, _, _, _, _, _], _, _, _, _, h => exact h (by simp)
 | [_, _, _, _, _, _, _], _, _, _, _, h => exact h (by simp)
 | _ :: _ :: _ :: _ :: _ :: _ :: _ :: _ :: _ :: _, _, _, _, _, h => exact h (by simp)
 | [.mk k0 n0 b0 l0, .mk k1 n1 b1 l1, .mk k2 n2 b2 l2, .mk k3 n3 b3 l3, .mk k4 n4 b4 l4, .mk k5 n5 b5 l5, .mk k6 n6 b6 l6, .mk k7 n7 b7 l7], hO, hsub, hlen, hUo, _ =>
 have hwm : ∀ y ∈ [It.mk k0 n0 b0 l0, .mk k1 n1 b1 l1, .mk k2 n2 b2 l2, .mk k3 n3 b3 l3, .mk k4 n4 b4 l4, .mk k5 n5 b5 l5, .mk k6 n6 b6 l6, .mk k7 n7 b7 l7], wfI y := fun y hy => wfs_mem hws y (hsub y hy)
 clear hsub
 have t2 : (((itEs [It.mk k0 n0 b0 l0, .mk k1 n1 b1 l1, .mk k2 n2 b2 l2, .mk k3 n3 b3 l3, .mk k4 n4 b4 l4, .mk k5 n5 b5 l5, .mk k6 n6 b6 l6, .mk k7 n7 b7 l7]).length : Int) != 8) = false := by rw [hlen]; rfl
 dsimp only
 have w1 : n1 < 18446744073709551616 := (hwm (.mk k1 n1 b1 l1) (by simp)).1
 have w3 := hwm (.mk k3 n3 b3 l3) (by simp)
 have w4 := hwm (.mk k4 n4 b4 l4) (by simp)
 have w5 := hwm (.mk k5 n5 b5 l5) (by simp)
 have w6 := hwm (.mk k6 n6 b6 l6) (by simp)
 have w46 : wfI (.mk 4 0 [] [.mk k4 n4 b4 l4, .mk k6 n6 b6 l6]) := ⟨by decide, by simp, by simp, w4, w6, trivial⟩
 have hD : AP Tryz.prog 69 [itD (.mk k3 n3 b3 l3)] (.tup [.agg (eC (eZ (.mk k3 n3 b3 l3))), .int .i64 (match (readV (.mk k3 n3 b3 l3)).2 with | true => 0 | false => 3)]) [] := av_eRead _ w3
 have hR : AP Tryz.prog 69 [itD (.mk k5 n5 b5 l5)] (.tup [.agg (eC (eZ (.mk k5 n5 b5 l5))), .int .i64 (match (readV (.mk k5 n5 b5 l5)).2 with | true => 0 | false => 3)]) [] := av_eRead _ w5
 have hI := av_iRead _ w46
 have hL := av_list [.mk k4 n4 b4 l4, .mk k6 n6 b6 l6] (by simp) ⟨w4, w6, trivial⟩
 have hW := av_pWriteR (priOf (.mk k1 n1 b1 l1) (.mk k2 n2 b2 l2) (.mk k3 n3 b3 l3) (.mk k4 n4 b4 l4) (.mk k5 n5 b5 l5) (.mk k6 n6 b6 l6) (.mk k7 n7 b7 l7)) w1
 have hS := hSame (priOf (.mk k1 n1 b1 l1) (.mk k2 n2 b2 l2) (.mk k3 n3 b3 l3) (.mk k4 n4 b4 l4) (.mk k5 n5 b5 l5) (.mk k6 n6 b6 l6) (.mk k7 n7 b7 l7)) w1
 clear hSame hwm w3 w4 w5 w6 w46 w1 hws hlim hw
 unfold priOf at *
 dsimp only [It.n] at *
 generalize eZ (.mk k3 n3 b3 l3) = dz at *
 generalize eZ (.mk k5 n5 b5 l5) = rz at *
 generalize (readV (.mk k3 n3 b3 l3)).2 = d2 at *
 generalize (readV (.mk k5 n5 b5 l5)).2 = r2 at *
 generalize iReadV (.mk 4 0 [] [.mk k4 n4 b4 l4, .mk k6 n6 b6 l6]) = u at *
 obtain ⟨u, ut, uq, u2⟩ := u
 try dsimp only at *
 generalize writeP ⟨n1, IntKind.i64.wrap (n2 : Int), dz, rz, u, ut, uq, n7⟩ = wr at *
 obtain ⟨⟨wk, wn, wb, wl⟩, we⟩ := wr
 try dsimp only at *
 cases d2 with
 | false => exact (pr_md_all k n b _ _ oe k0 n0 b0 l0 k1 n1 b1 l1 k2 n2 b2 l2 k3 n3 b3 l3 k4 n4 b4 l4 k5 n5 b5 l5 k6 n6 b6 l6 k7 n7 b7 l7 dz.i dz.n dz.s dz.h dz.d rz.i rz.n rz.s rz.h rz.d u.i u.n u.s u.h u.d ut uq _ _ _ we wk wn wb _ _ hO t1 t2 hUo rfl rfl rfl rfl rfl rfl rfl hD hR hL hI hW hS).1 rfl
 | true =>
 cases r2 with
 | false => exact (pr_md_all k n b _ _ oe k0 n0 b0 l0 k1 n1 b1 l1 k2 n2 b2 l2 k3 n3 b3 l3 k4 n4 b4 l4 k5 n5 b5 l5 k6 n6 b6 l6 k7 n7 b7 l7 dz.i dz.n dz.s dz.h dz.d rz.i rz.n rz.s rz.h rz.d u.i u.n u.s u.h u.d ut uq _ _ _ we wk wn wb _ _ hO t1 t2 hUo rfl rfl rfl rfl rfl rfl rfl hD hR hL hI hW hS).2.1 rfl rfl
 | true =>
 cases u2 with
 | false => exact (pr_md_all k n b _ _ oe k0 n0 b0 l0 k1 n1 b1 l1 k2 n2 b2 l2 k3 n3 b3 l3 k4 n4 b4 l4 k5 n5 b5 l5 k6 n6 b6 l6 k7 n7 b7 l7 dz.i dz.n dz.s dz.h dz.d rz.i rz.n rz.s rz.h rz.d u.i u.n u.s u.h u.d ut uq _ _ _ we wk wn wb _ _ hO t1 t2 hUo rfl rfl rfl rfl rfl rfl rfl hD hR hL hI hW hS).2.2 rfl rfl rfl
 | true =>
 try dsimp only [Bool.and_self]
 cases t4 : (we != 0) with
 | true => exact (pr_mw_all k n b _ _ oe k0 n0 b0 l0 k1 n1 b1 l1 k2 n2 b2 l2 k3 n3 b3 l3 k4 n4 b4 l4 k5 n5 b5 l5 k6 n6 b6 l6 k7 n7 b7 l7 dz.i dz.n dz.s dz.h dz.d rz.i rz.n rz.s rz.h rz.d u.i u.n u.s u.h u.d ut uq _ _ _ we wk wn wb _ _ hO t1 t2 hUo rfl rfl rfl rfl rfl rfl rfl hD hR hL hI hW hS rfl rfl rfl).1 t4
 | false =>
 try dsimp only
 cases t5 : It.beq (.mk wk wn wb wl) (.mk k n b l) with
 | false =>
  rw [t5] at hS
  exact (pr_mw_all k n b _ _ oe k0 n0 b0 l0 k1 n1 b1 l1 k2 n2 b2 l2 k3 n3 b3 l3 k4 n4 b4 l4 k5 n5 b5 l5 k6 n6 b6 l6 k7 n7 b7 l7 dz.i dz.n dz.s dz.h dz.d rz.i rz.n rz.s rz.h rz.d u.i u.n u.s u.h u.d ut uq _ _ _ we wk wn wb _ _ hO t1 t2 hUo rfl rfl rfl rfl rfl rfl rfl hD hR hL hI hW hS rfl rfl rfl).2.1 t4 hS
 | true =>
  rw [t5] at hS
  exact (pr_mw_all k n b _ _ oe k0 n0 b0 l0 k1 n1 b1 l1 k2 n2 b2 l2 k3 n3 b3 l3 k4 n4 b4 l4 k5 n5 b5 l5 k6 n6 b6 l6 k7 n7 b7 l7 dz.i dz.n dz.s dz.h dz.d rz.i rz.n rz.s rz.h rz.d u.i u.n u.s u.h u.d ut uq _ _ _ we wk wn wb _ _ hO t1 t2 hUo rfl rfl rfl rfl rfl rfl rfl hD hR hL hI hW hS rfl rfl rfl).2.2 t4 hS
end Go.Proofs.YtpodhnaofhfinaaGreatDoor
end
section
open Go.RowKit Go.Pl Go.Av
namespace Go.Proofs.YtpodhnaofhfinaaGreatDoor
set_option maxHeartbeats 4000000
def itemR (r : RepV) : It := .mk 4 0 [] [.mk 0 1 [] [], .mk 4 0 [] [yesI r.a r.b r.c, .mk 0 r.rs [] [], .mk 0 r.tm [] [], itemN r.of r.t r.q]]
def writeR (r : RepV) : List UInt8 × Int := match rightR r with
 | true => (putI (itemR r), 0)
 | false => ([], 3)
theorem rp_facts {r : RepV} (h : rightR r = true) : r.rs <= 255 /\ r.tm <= 1099511627776 /\ iRight r.of r.t r.q = true := by
 unfold rightR at h
 simp only [Bool.and_eq_true, decide_eq_true_eq] at h
 obtain ⟨_, h1, h2, h3⟩ := h
 exact ⟨by omega, by omega, h3⟩
theorem nb_le (b : Bool) : nb b <= 1 := by cases b <;> decide
theorem wf_yes (a b c : Bool) : wfI (yesI a b c) := by
 have h1 := nb_le a
 have h2 := nb_le b
 have h3 := nb_le c
 unfold yesI
 simp [wfI, wfs]
 omega
theorem wf_partsR {r : RepV} (h : rightR r = true) : wfs [yesI r.a r.b r.c, .mk 0 r.rs [] [], .mk 0 r.tm [] [], itemN r.of r.t r.q] := by
 obtain ⟨h1, h2, h3⟩ := rp_facts h
 have hn := wf_itemN h3
 have hy := wf_yes r.a r.b r.c
 refine ⟨hy, ?_, ?_, hn, trivial⟩
 ·simp [wfI, wfs]; omega
 ·simp [wfI, wfs]; omega
theorem wf_itemR {r : RepV} (h : rightR r = true) : wfI (itemR r) :=
 ⟨by decide, by simp, by simp, ⟨⟨by decide, by simp, by simp, trivial⟩, ⟨by decide, by simp, by simp, wf_partsR h⟩, trivial⟩⟩
theorem right_itemR {r : RepV} (h : rightR r = true) : rightI (itemR r) = true := by
 obtain ⟨h1, h2, h3⟩ := rp_facts h
 obtain ⟨i1, _, _⟩ := iRight_iff.1 h3
 have hr := right_itemE i1
 have f1 : fineI (itemE r.of) = true := by
  rw [right_iff] at hr
  simp only [Bool.and_eq_true] at hr
  exact hr.2.2
 have e1 : deepI (itemE r.of) 3 = true /\ sizeI (itemE r.of) <= 5 := by
  unfold itemE
  repeat' split
  all_goals simp [deepI, deeps, sizeI, sizes]
 obtain ⟨d1, s1⟩ := e1
 rw [right_iff]
 simp only [Bool.and_eq_true, decide_eq_true_eq]
 refine ⟨?_, ?_, ?_⟩
 ·simp [itemR, itemN, yesI, deepI, deeps, d1]
 ·simp [itemR, itemN, yesI, sizeI, sizes]; omega
 ·simp [itemR, itemN, yesI, fineI, fines, ownI, f1]
theorem item_small {x : EidV} (h : eRight x = true) : (putI (itemE x)).length <= 80 := by
 unfold itemE
 repeat' split
 ·exact Nat.le_trans (hop_len 1 0) (by decide)
 ·have h0 := put_small 4 0 [] [.mk 0 2 [] [], hopI x.n x.s]
  have h1 := num_len 2
  have h2 := hop_len x.n x.s
  simp only [puts, List.length_append, List.length_nil, Nat.add_zero, Nat.zero_add] at h0
  exact Nat.le_trans h0 (by omega)
 ·have h0 := put_small 4 0 [] [.mk 0 1 [] [], .mk 3 0 (pathE x) []]
  have h1 := num_len 1
  have h2 := put_small 3 0 (pathE x) []
  rename_i hz hi
  have h3 : (pathE x).length <= 43 := by
   have ht := eRight_txt h (by simpa using hz) (by simpa using hi)
   simp only [pathE, List.length_append, List.length_cons, List.length_nil]
   omega
  simp only [puts, List.length_append, List.length_nil, Nat.add_zero, Nat.zero_add] at h0 h2
  exact Nat.le_trans h0 (by omega)
theorem len_itemR {r : RepV} (h : rightR r = true) : (putI (itemR r)).length <= 200 := by
 obtain ⟨h1, h2, h3⟩ := rp_facts h
 obtain ⟨i1, _, _⟩ := iRight_iff.1 h3
 have n4 := item_small i1
 have n1 := num_len 1
 have n2 := num_len r.rs
 have n3 := num_len r.tm
 have n5 := num_len (nb r.a)
 have n6 := num_len (nb r.b)
 have n7 := num_len (nb r.c)
 have n8 := hop_len r.t r.q
 have p1 := put_small 4 0 [] [.mk 0 (nb r.a) [] [], .mk 0 (nb r.b) [] [], .mk 0 (nb r.c) [] []]
 have p2 := put_small 4 0 [] [itemE r.of, hopI r.t r.q]
 have p3 := put_small 4 0 [] [yesI r.a r.b r.c, .mk 0 r.rs [] [], .mk 0 r.tm [] [], itemN r.of r.t r.q]
 have p4 := put_small 4 0 [] [.mk 0 1 [] [], .mk 4 0 [] [yesI r.a r.b r.c, .mk 0 r.rs [] [], .mk 0 r.tm [] [], itemN r.of r.t r.q]]
 have e1 : yesI r.a r.b r.c = .mk 4 0 [] [.mk 0 (nb r.a) [] [], .mk 0 (nb r.b) [] [], .mk 0 (nb r.c) [] []] := rfl
 have e2 : itemN r.of r.t r.q = .mk 4 0 [] [itemE r.of, hopI r.t r.q] := rfl
 rw [<- e1] at p1
 rw [<- e2] at p2
 have e3 : itemR r = .mk 4 0 [] [.mk 0 1 [] [], .mk 4 0 [] [yesI r.a r.b r.c, .mk 0 r.rs [] [], .mk 0 r.tm [] [], itemN r.of r.t r.q]] := rfl
 rw [<- e3] at p4
 simp only [puts, List.length_append, List.length_nil, Nat.add_zero, Nat.zero_add] at p1 p2 p3 p4
 omega
theorem av_rWrite [Known] [KnownU8] (r : RepV) : AP Tryz.prog 23 [.agg (repC r)] (.tup [byE (writeR r).1, .int .i64 (writeR r).2]) [] := by
 have hI := av_iWrite r.of r.t r.q
 have hR := av_rRight r
 unfold writeR
 cases hr : rightR r with
 | false =>
  rw [hr] at hR
  obtain ⟨a, b, c, rs, tm, ⟨i, n, s, h, d⟩, t, q⟩ := r
  dsimp only at *
  cases hi : iRight ⟨i, n, s, h, d⟩ t q with
  | false =>
   rw [hi, if_neg (by simp), if_neg (by simp)] at hI
   refine AP.ofA ?_
   refine AC_of Tryz.func23 rfl Tryz.ntmps23 rfl rfl ?_
   repeat' (first | (apply AL_callPw (hI); kernel_rfl; (iterate 4 exact rfl)) | (apply AL_go ttok; exact rfl) | (apply AW_go ttok; exact rfl) | (apply K_go ttok; exact rfl) | (apply AL_guardFf; (iterate 3 exact rfl); (first | with_reducible assumption | decide +kernel | (solve | simp only [bn]))) | (apply AL_pickT; exact rfl; (first | with_reducible assumption | decide +kernel | (solve | simp only [bn])); exact rfl; exact rfl) | (apply AW_condA; exact rfl; (first | with_reducible assumption | decide +kernel | (solve | simp only [bn]))))
   all_goals (apply endQ []; (apply resG_ok ttok; exact rfl); (iterate 4 exact rfl))
   all_goals rfl
  | true =>
   rw [hi, if_pos rfl, if_pos rfl] at hI
   unfold itemN at hI
   refine AP.ofA ?_
   refine AC_of Tryz.func23 rfl Tryz.ntmps23 rfl rfl ?_
   repeat' (first | (apply AL_callPw (hR); kernel_rfl; (iterate 4 exact rfl)) | (apply AL_callPw (hI); kernel_rfl; (iterate 4 exact rfl)) | (apply AL_go ttok; exact rfl) | (apply AW_go ttok; exact rfl) | (apply K_go ttok; exact rfl) | (apply AL_guardT; (iterate 3 exact rfl); (first | with_reducible assumption | decide +kernel | (solve | simp only [bn]))) | (apply AL_pickF; exact rfl; (first | with_reducible assumption | decide +kernel | (solve | simp only [bn])); exact rfl; exact rfl) | (apply AW_condA; exact rfl; (first | with_reducible assumption | decide +kernel | (solve | simp only [bn]))))
   all_goals (apply endQ []; (apply resG_ok ttok; exact rfl); (iterate 4 exact rfl))
   all_goals rfl
 | true =>
  rw [hr] at hR
  have hps := wf_partsR hr
  have hW := av_writeYes (itemR r) (wf_itemR hr) (by have := len_itemR hr; omega) (right_itemR hr)
  obtain ⟨h1, h2, h3⟩ := rp_facts hr
  rw [h3, if_pos rfl, if_pos rfl] at hI
  have hn1 := av_num 1
  have hn2 := av_num r.rs
  have hn3 := av_num r.tm
  have hY := av_yes r.a r.b r.c
  have hL1 := av_list [yesI r.a r.b r.c, .mk 0 r.rs [] [], .mk 0 r.tm [] [], itemN r.of r.t r.q] (by simp) hps
  have hL2 := av_list [.mk 0 1 [] [], .mk 4 0 [] [yesI r.a r.b r.c, .mk 0 r.rs [] [], .mk 0 r.tm [] [], itemN r.of r.t r.q]] (by simp) ⟨⟨by decide, by simp, by simp, trivial⟩, ⟨by decide, by simp, by simp, hps⟩, trivial⟩
  dsimp only
  unfold itemR at hW ⊢
  unfold itemN at *
  obtain ⟨a, b, c, rs, tm, ⟨i, n, s, h, d⟩, t, q⟩ := r
  dsimp only at *
  generalize putI _ = PB at *
  generalize itemE ⟨i, n, s, h, d⟩ = I1 at *
  obtain ⟨ak, an, ab, al⟩ := I1
  refine AP.ofA ?_
  refine AC_of Tryz.func23 rfl Tryz.ntmps23 rfl rfl ?_
  repeat' (first | (apply AL_callPw (hR); kernel_rfl; (iterate 4 exact rfl)) | (apply AL_callPw (hI); kernel_rfl; (iterate 4 exact rfl)) | (apply AL_callPw (hn1); kernel_rfl; (iterate 4 exact rfl)) | (apply AL_callPw (hn2); kernel_rfl; (iterate 4 exact rfl)) | (apply AL_callPw (hn3); kernel_rfl; (iterate 4 exact rfl)) | (apply AL_callPw (hY); kernel_rfl; (iterate 4 exact rfl)) | (apply AL_callPw (hL1); kernel_rfl; (iterate 4 exact rfl)) | (apply AL_callPw (hL2); kernel_rfl; (iterate 4 exact rfl)) | (apply AL_callPw (hW); kernel_rfl; (iterate 4 exact rfl)) | (apply AL_go ttok; exact rfl) | (apply AW_go ttok; exact rfl) | (apply K_go ttok; exact rfl) | (apply AL_guardT; (iterate 3 exact rfl); (first | with_reducible assumption | decide +kernel | (solve | simp only [bn]))) | (apply AL_pickF; exact rfl; (first | with_reducible assumption | decide +kernel | (solve | simp only [bn])); exact rfl; exact rfl) | (apply AW_condB; exact rfl; (first | with_reducible assumption | decide +kernel | (solve | simp only [bn]))) | (apply AL_bsZ ttok; (iterate 12 exact rfl)) | (apply AW_drawE 23 hmix; (decide +kernel); (kernel_rfl); (kernel_rfl); (kernel_rfl); exact rfl; exact rfl) | (apply AE_consZ; (iterate 4 exact rfl)) | exact AE.nil _ _ _ _ | (apply AEk_puT; exact rfl) | (apply AOt_mk; exact rfl; exact rfl; (decide +kernel); exact rfl) | (apply AO_puT; exact rfl) | exact AO.nil _ _ _ | (apply AOs_skip; (decide +kernel)) | exact AOs.nil | exact qY_ok rfl rfl | exact qY_wk rfl rfl rfl rfl rfl)
  all_goals (apply endQ []; (apply resG_ok ttok; exact rfl); (iterate 4 exact rfl))
  all_goals rfl
end Go.Proofs.YtpodhnaofhfinaaGreatDoor
end
