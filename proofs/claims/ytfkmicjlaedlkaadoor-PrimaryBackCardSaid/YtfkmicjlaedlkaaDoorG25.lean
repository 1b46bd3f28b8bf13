/- Package ident: an item of a number's form. -/
import Derived.Test.YtfkmicjlaedlkaaDoorG24
import Derived.Test.YtfkmicjlaedlkaaDoorG23
import Derived.Test.YtfkmicjlaedlkaaDoorG21
import Derived.Test.YtfkmicjlaedlkaaDoorG18
set_option linter.unusedVariables false
set_option linter.unusedSimpArgs false
section
open Go.RowKit Go.Pl Go.Av
namespace Go.Proofs.YtfkmicjlaedlkaaDoor
set_option maxHeartbeats 4000000
theorem ird_f [Known] (y z : It) (n : Nat) (b : List UInt8) (n2 : Nat) (b2 : List UInt8) (kp : Int) (np : Nat) (bp : List UInt8) (lp : List It) (kr : Int) (nr : Nat) (br : List UInt8) (lr : List It) (c : Int)
  (hE : AP Tryd.prog 56 [itD y] (.tup [.agg (eC eidZ), .int .i64 3]) []) (hW : AP Tryd.prog 55 [.agg (iC eidZ np nr)] (.tup [itD z, .int .i64 c]) []) :
  AP Tryd.prog 57 [itD (.mk 4 n b [y, .mk 4 n2 b2 [.mk kp np bp lp, .mk kr nr br lr]])] (.tup [.agg (iC eidZ 0 0), .int .i64 3]) [] := by
 have hU := uniI [y, .mk 4 n2 b2 [.mk kp np bp lp, .mk kr nr br lr]]
 have hU2 := uniI [.mk kp np bp lp, .mk kr nr br lr]
 have t2 : (((itEs [y, .mk 4 n2 b2 [.mk kp np bp lp, .mk kr nr br lr]]).length : Int) != 2) = false := rfl
 have t3 : (((itEs [.mk kp np bp lp, .mk kr nr br lr]).length : Int) != 2) = false := rfl
 obtain ⟨yk, yn, yb, yl⟩ := y
 obtain ⟨zk, zn, zb, zl⟩ := z
 replace hE : AP Tryd.prog _ [.agg [.int .i64 yk, .int .u64 (yn : Int), byE yb, .sl .ext (itEs yl)]] (.tup [.agg [.bool false, .int .u64 0, .int .u64 0, .str [], .str []], .int .i64 3]) [] := hE
 replace hW : AP Tryd.prog _ [.agg [.bool false, .int .u64 0, .int .u64 0, .str [], .str [], .int .u64 (np : Int), .int .u64 (nr : Int)]] (.tup [.agg [.int .i64 zk, .int .u64 (zn : Int), byE zb, .sl .ext (itEs zl)], .int .i64 c]) [] := hW
 refine AP.ofA ?_
 refine AC_of Tryd.func57 rfl Tryd.ntmps57 rfl rfl ?_
 repeat' (first | (apply AL_callPw (hE); kernel_rfl; (iterate 4 exact rfl)) | (apply AL_callPw (hW); kernel_rfl; (iterate 4 exact rfl)) | (apply AL_go ttok; exact rfl) | (apply AW_go ttok; exact rfl) | (apply K_go ttok; exact rfl) | (apply AL_guardT; (iterate 3 exact rfl); (first | with_reducible assumption | decide +kernel)) | (apply AL_guardFf; (iterate 3 exact rfl); (first | with_reducible assumption | decide +kernel)) | (apply AL_pickT; exact rfl; (first | with_reducible assumption | decide +kernel); exact rfl; exact rfl) | (apply AL_pickF; exact rfl; (first | with_reducible assumption | decide +kernel); exact rfl; exact rfl) | (apply AW_condA; exact rfl; (first | with_reducible assumption | decide +kernel)) | (apply AW_condB; exact rfl; (first | with_reducible assumption | decide +kernel)) | (apply AL_len ttok; (iterate 4 exact rfl)) | (apply AW_drawE 19 hmix; (decide +kernel); (kernel_rfl); (kernel_rfl); (kernel_rfl); exact rfl; exact rfl) | (apply AE_consZ; (iterate 4 exact rfl)) | exact AE.nil _ _ _ _ | (apply AEk_puT; exact rfl) | (apply AEk_efT; exact rfl) | (apply AOt_mk; exact rfl; exact rfl; (decide +kernel); exact rfl) | (apply AO_puT; exact rfl) | (apply AO_efT; exact rfl) | exact AO.nil _ _ _ | (apply AOs_skip; (decide +kernel)) | (apply AOs_goZ; (iterate 3 exact rfl)) | exact AOs.nil | exact qY_ok rfl rfl | exact qY_ef rfl rfl | (apply AL_idx ttok; (iterate 6 exact rfl); (first | with_reducible assumption | decide +kernel | exact Int.natCast_nonneg _ | (guard_target = (0:Int) <= (OfNat.ofNat _ : Int); decide) | rotate_left); (first | with_reducible assumption | decide +kernel | exact rfl); (first | exact uniB_ok rfl | with_reducible assumption | decide +kernel | rotate_left)))
 all_goals (apply endQ []; (apply resG_ok ttok; exact rfl); (iterate 4 exact rfl))
 all_goals rfl
theorem ird_w [Known] (x : EidV) (y z : It) (n : Nat) (b : List UInt8) (n2 : Nat) (b2 : List UInt8) (kp : Int) (np : Nat) (bp : List UInt8) (lp : List It) (kr : Int) (nr : Nat) (br : List UInt8) (lr : List It)
  (hE : AP Tryd.prog 56 [itD y] (.tup [.agg (eC x), .int .i64 0]) []) (hW : AP Tryd.prog 55 [.agg (iC x np nr)] (.tup [itD z, .int .i64 3]) []) :
  AP Tryd.prog 57 [itD (.mk 4 n b [y, .mk 4 n2 b2 [.mk kp np bp lp, .mk kr nr br lr]])] (.tup [.agg (iC eidZ 0 0), .int .i64 3]) [] := by
 have hU := uniI [y, .mk 4 n2 b2 [.mk kp np bp lp, .mk kr nr br lr]]
 have hU2 := uniI [.mk kp np bp lp, .mk kr nr br lr]
 have t2 : (((itEs [y, .mk 4 n2 b2 [.mk kp np bp lp, .mk kr nr br lr]]).length : Int) != 2) = false := rfl
 have t3 : (((itEs [.mk kp np bp lp, .mk kr nr br lr]).length : Int) != 2) = false := rfl
 obtain ⟨yk, yn, yb, yl⟩ := y
 obtain ⟨zk, zn, zb, zl⟩ := z
 obtain ⟨xi, xn, xs, xh, xd⟩ := x
 replace hE : AP Tryd.prog _ [.agg [.int .i64 yk, .int .u64 (yn : Int), byE yb, .sl .ext (itEs yl)]] (.tup [.agg [.bool xi, .int .u64 (xn : Int), .int .u64 (xs : Int), .str xh, .str xd], .int .i64 0]) [] := hE
 replace hW : AP Tryd.prog _ [.agg [.bool xi, .int .u64 (xn : Int), .int .u64 (xs : Int), .str xh, .str xd, .int .u64 (np : Int), .int .u64 (nr : Int)]] (.tup [.agg [.int .i64 zk, .int .u64 (zn : Int), byE zb, .sl .ext (itEs zl)], .int .i64 3]) [] := hW
 refine AP.ofA ?_
 refine AC_of Tryd.func57 rfl Tryd.ntmps57 rfl rfl ?_
 repeat' (first | (apply AL_callPw (hE); kernel_rfl; (iterate 4 exact rfl)) | (apply AL_callPw (hW); kernel_rfl; (iterate 4 exact rfl)) | (apply AL_go ttok; exact rfl) | (apply AW_go ttok; exact rfl) | (apply K_go ttok; exact rfl) | (apply AL_guardT; (iterate 3 exact rfl); (first | with_reducible assumption | decide +kernel)) | (apply AL_guardFf; (iterate 3 exact rfl); (first | with_reducible assumption | decide +kernel)) | (apply AL_pickT; exact rfl; (first | with_reducible assumption | decide +kernel); exact rfl; exact rfl) | (apply AL_pickF; exact rfl; (first | with_reducible assumption | decide +kernel); exact rfl; exact rfl) | (apply AW_condA; exact rfl; (first | with_reducible assumption | decide +kernel)) | (apply AW_condB; exact rfl; (first | with_reducible assumption | decide +kernel)) | (apply AL_len ttok; (iterate 4 exact rfl)) | (apply AW_drawE 19 hmix; (decide +kernel); (kernel_rfl); (kernel_rfl); (kernel_rfl); exact rfl; exact rfl) | (apply AE_consZ; (iterate 4 exact rfl)) | exact AE.nil _ _ _ _ | (apply AEk_puT; exact rfl) | (apply AEk_efT; exact rfl) | (apply AOt_mk; exact rfl; exact rfl; (decide +kernel); exact rfl) | (apply AO_puT; exact rfl) | (apply AO_efT; exact rfl) | exact AO.nil _ _ _ | (apply AOs_skip; (decide +kernel)) | (apply AOs_goZ; (iterate 3 exact rfl)) | exact AOs.nil | exact qY_ok rfl rfl | exact qY_ef rfl rfl | (apply AL_idx ttok; (iterate 6 exact rfl); (first | with_reducible assumption | decide +kernel | exact Int.natCast_nonneg _ | (guard_target = (0:Int) <= (OfNat.ofNat _ : Int); decide) | rotate_left); (first | with_reducible assumption | decide +kernel | exact rfl); (first | exact uniB_ok rfl | with_reducible assumption | decide +kernel | rotate_left)))
 all_goals (apply endQ []; (apply resG_ok ttok; exact rfl); (iterate 4 exact rfl))
 all_goals rfl
theorem ird_s [Known] (x : EidV) (y z : It) (n : Nat) (b : List UInt8) (n2 : Nat) (b2 : List UInt8) (kp : Int) (np : Nat) (bp : List UInt8) (lp : List It) (kr : Int) (nr : Nat) (br : List UInt8) (lr : List It) (R : Bool)
  (hE : AP Tryd.prog 56 [itD y] (.tup [.agg (eC x), .int .i64 0]) []) (hW : AP Tryd.prog 55 [.agg (iC x np nr)] (.tup [itD z, .int .i64 0]) [])
  (hS : AP Tryd.prog 27 [itD z, itD (.mk 4 n b [y, .mk 4 n2 b2 [.mk kp np bp lp, .mk kr nr br lr]])] (.bool R) []) :
  AP Tryd.prog 57 [itD (.mk 4 n b [y, .mk 4 n2 b2 [.mk kp np bp lp, .mk kr nr br lr]])] (resN x np nr R) [] := by
 have hU := uniI [y, .mk 4 n2 b2 [.mk kp np bp lp, .mk kr nr br lr]]
 have hU2 := uniI [.mk kp np bp lp, .mk kr nr br lr]
 have t2 : (((itEs [y, .mk 4 n2 b2 [.mk kp np bp lp, .mk kr nr br lr]]).length : Int) != 2) = false := rfl
 have t3 : (((itEs [.mk kp np bp lp, .mk kr nr br lr]).length : Int) != 2) = false := rfl
 obtain ⟨yk, yn, yb, yl⟩ := y
 obtain ⟨zk, zn, zb, zl⟩ := z
 obtain ⟨xi, xn, xs, xh, xd⟩ := x
 replace hE : AP Tryd.prog _ [.agg [.int .i64 yk, .int .u64 (yn : Int), byE yb, .sl .ext (itEs yl)]] (.tup [.agg [.bool xi, .int .u64 (xn : Int), .int .u64 (xs : Int), .str xh, .str xd], .int .i64 0]) [] := hE
 replace hW : AP Tryd.prog _ [.agg [.bool xi, .int .u64 (xn : Int), .int .u64 (xs : Int), .str xh, .str xd, .int .u64 (np : Int), .int .u64 (nr : Int)]] (.tup [.agg [.int .i64 zk, .int .u64 (zn : Int), byE zb, .sl .ext (itEs zl)], .int .i64 0]) [] := hW
 replace hS : AP Tryd.prog _ [.agg [.int .i64 zk, .int .u64 (zn : Int), byE zb, .sl .ext (itEs zl)], itD (.mk 4 n b [.mk yk yn yb yl, .mk 4 n2 b2 [.mk kp np bp lp, .mk kr nr br lr]])] (.bool R) [] := hS
 cases R with
 | true =>
  show AP Tryd.prog _ _ (.tup [.agg [.bool xi, .int .u64 (xn : Int), .int .u64 (xs : Int), .str xh, .str xd, .int .u64 (np : Int), .int .u64 (nr : Int)], .int .i64 0]) []
  refine AP.ofA ?_
  refine AC_of Tryd.func57 rfl Tryd.ntmps57 rfl rfl ?_
  repeat' (first | (apply AL_callPw (hE); kernel_rfl; (iterate 4 exact rfl)) | (apply AL_callPw (hW); kernel_rfl; (iterate 4 exact rfl)) | (apply AL_callPw (hS); kernel_rfl; (iterate 4 exact rfl)) | (apply AL_go ttok; exact rfl) | (apply AW_go ttok; exact rfl) | (apply K_go ttok; exact rfl) | (apply AL_guardT; (iterate 3 exact rfl); (first | with_reducible assumption | decide +kernel)) | (apply AL_pickF; exact rfl; (first | with_reducible assumption | decide +kernel); exact rfl; exact rfl) | (apply AW_condB; exact rfl; (first | with_reducible assumption | decide +kernel)) | (apply AL_len ttok; (iterate 4 exact rfl)) | (apply AW_drawE 19 hmix; (decide +kernel); (kernel_rfl); (kernel_rfl); (kernel_rfl); exact rfl; exact rfl) | (apply AE_consZ; (iterate 4 exact rfl)) | exact AE.nil _ _ _ _ | (apply AEk_puT; exact rfl) | (apply AEk_efT; exact rfl) | (apply AOt_mk; exact rfl; exact rfl; (decide +kernel); exact rfl) | (apply AO_puT; exact rfl) | (apply AO_efT; exact rfl) | exact AO.nil _ _ _ | (apply AOs_skip; (decide +kernel)) | (apply AOs_goZ; (iterate 3 exact rfl)) | exact AOs.nil | exact qY_ok rfl rfl | exact qY_ef rfl rfl | (apply AL_idx ttok; (iterate 6 exact rfl); (first | with_reducible assumption | decide +kernel | exact Int.natCast_nonneg _ | (guard_target = (0:Int) <= (OfNat.ofNat _ : Int); decide) | rotate_left); (first | with_reducible assumption | decide +kernel | exact rfl); (first | exact uniB_ok rfl | with_reducible assumption | decide +kernel | rotate_left)))
  all_goals (apply endQ []; (apply resG_ok ttok; exact rfl); (iterate 4 exact rfl))
  all_goals rfl
 | false =>
  show AP Tryd.prog _ _ (.tup [.agg [.bool false, .int .u64 0, .int .u64 0, .str [], .str [], .int .u64 0, .int .u64 0], .int .i64 3]) []
  refine AP.ofA ?_
  refine AC_of Tryd.func57 rfl Tryd.ntmps57 rfl rfl ?_
  repeat' (first | (apply AL_callPw (hE); kernel_rfl; (iterate 4 exact rfl)) | (apply AL_callPw (hW); kernel_rfl; (iterate 4 exact rfl)) | (apply AL_callPw (hS); kernel_rfl; (iterate 4 exact rfl)) | (apply AL_go ttok; exact rfl) | (apply AW_go ttok; exact rfl) | (apply K_go ttok; exact rfl) | (apply AL_guardT; (iterate 3 exact rfl); (first | with_reducible assumption | decide +kernel)) | (apply AL_pickF; exact rfl; (first | with_reducible assumption | decide +kernel); exact rfl; exact rfl) | (apply AW_condA; exact rfl; (first | with_reducible assumption | decide +kernel)) | (apply AW_condB; exact rfl; (first | with_reducible assumption | decide +kernel)) | (apply AL_len ttok; (iterate 4 exact rfl)) | (apply AW_drawE 19 hmix; (decide +kernel); (kernel_rfl); (kernel_rfl); (kernel_rfl); exact rfl; exact rfl) | (apply AE_consZ; (iterate 4 exact rfl)) | exact AE.nil _ _ _ _ | (apply AEk_puT; exact rfl) | (apply AEk_efT; exact rfl) | (apply AOt_mk; exact rfl; exact rfl; (decide +kernel); exact rfl) | (apply AO_puT; exact rfl) | (apply AO_efT; exact rfl) | exact AO.nil _ _ _ | (apply AOs_skip; (decide +kernel)) | (apply AOs_goZ; (iterate 3 exact rfl)) | exact AOs.nil | exact qY_ok rfl rfl | exact qY_ef rfl rfl | (apply AL_idx ttok; (iterate 6 exact rfl); (first | with_reducible assumption | decide +kernel | exact Int.natCast_nonneg _ | (guard_target = (0:Int) <= (OfNat.ofNat _ : Int); decide) | rotate_left); (first | with_reducible assumption | decide +kernel | exact rfl); (first | exact uniB_ok rfl | with_reducible assumption | decide +kernel | rotate_left)))
  all_goals (apply endQ []; (apply resG_ok ttok; exact rfl); (iterate 4 exact rfl))
  all_goals rfl
theorem av_iReadYes [Known] [KnownU8] (n : Nat) (b : List UInt8) (y : It) (n2 : Nat) (b2 : List UInt8) (p r : It) (hw : wfI (.mk 4 n b [y, .mk 4 n2 b2 [p, r]])) :
  AP Tryd.prog 57 [itD (.mk 4 n b [y, .mk 4 n2 b2 [p, r]])] (resN (readZ y) p.n r.n (readNm y p r (.mk 4 n b [y, .mk 4 n2 b2 [p, r]]))) [] := by
 have hwy : wfI y := hw.2.2.2.1
 have hE := av_eRead y hwy
 have hW := av_iWrite (readZ y) p.n r.n
 unfold readNm
 cases hv : (readV y).2 with
 | false =>
  have e0 : readZ y = eidZ := by unfold readZ; rw [hv]
  unfold resE at hE
  rw [hv] at hE
  rw [e0] at hW
  obtain ⟨kp, np, bp, lp⟩ := p
  obtain ⟨kr, nr, br, lr⟩ := r
  exact ird_f y _ n b n2 b2 kp np bp lp kr nr br lr _ hE hW
 | true =>
  have e0 : readZ y = (readV y).1 := by unfold readZ; rw [hv]
  unfold resE at hE
  rw [hv] at hE
  rw [<- e0] at hE
  cases hr : iRight (readZ y) p.n r.n with
  | false =>
   rw [hr] at hW
   obtain ⟨kp, np, bp, lp⟩ := p
   obtain ⟨kr, nr, br, lr⟩ := r
   exact ird_w _ y _ n b n2 b2 kp np bp lp kr nr br lr hE hW
  | true =>
   rw [hr, if_pos rfl, if_pos rfl] at hW
   have hS := av_same _ (wf_itemN hr) _ hw
   obtain ⟨kp, np, bp, lp⟩ := p
   obtain ⟨kr, nr, br, lr⟩ := r
   exact ird_s _ y _ n b n2 b2 kp np bp lp kr nr br lr _ hE hW hS
end Go.Proofs.YtfkmicjlaedlkaaDoor
end
section
open Go.RowKit Go.Pl Go.Av
namespace Go.Proofs.YtfkmicjlaedlkaaDoor
set_option maxHeartbeats 4000000
def iReadV (z : It) : EidV × Nat × Nat × Bool := match z with
 | .mk k n b [y, .mk k2 n2 b2 [p, r]] => (match k == 4 && k2 == 4 with
  | false => (eidZ, 0, 0, false)
  | true => match readNm y p r (.mk k n b [y, .mk k2 n2 b2 [p, r]]) with
   | true => (readZ y, p.n, r.n, true)
   | false => (eidZ, 0, 0, false))
 | _ => (eidZ, 0, 0, false)
theorem av_iRead [Known] [KnownU8] (z : It) (hw : wfI z) : AP Tryd.prog 57 [itD z] (.tup [.agg (iC (iReadV z).1 (iReadV z).2.1 (iReadV z).2.2.1), .int .i64 (match (iReadV z).2.2.2 with | true => 0 | false => 3)]) [] := by
 cases h : noForm z with
 | true =>
  have e : iReadV z = (eidZ, 0, 0, false) := by
   unfold noForm at h
   unfold iReadV
   split at h
   ·rw [Bool.not_eq_true'] at h
    dsimp only
    rw [h]
   ·rename_i hno
    split
    ·exact absurd rfl (hno _ _ _ _ _ _ _ _ _)
    ·rfl
  rw [e]
  exact av_iReadNo z h
 | false =>
  obtain ⟨n, b, y, n2, b2, p, r, rfl⟩ : ∃ n b y n2 b2 p r, z = .mk 4 n b [y, .mk 4 n2 b2 [p, r]] := by
   unfold noForm at h
   split at h
   ·simp only [Bool.not_eq_false', Bool.and_eq_true, beq_iff_eq] at h
    obtain ⟨rfl, rfl⟩ := h
    exact ⟨_, _, _, _, _, _, _, rfl⟩
   ·cases h
  have hR := av_iReadYes n b y n2 b2 p r hw
  have e : iReadV (.mk 4 n b [y, .mk 4 n2 b2 [p, r]]) = (match readNm y p r (.mk 4 n b [y, .mk 4 n2 b2 [p, r]]) with
   | true => (readZ y, p.n, r.n, true)
   | false => (eidZ, 0, 0, false)) := rfl
  rw [e]
  unfold resN at hR
  cases hb : readNm y p r (.mk 4 n b [y, .mk 4 n2 b2 [p, r]]) with
  | false => rw [hb] at hR; exact hR
  | true => rw [hb] at hR; exact hR
theorem item_len {x : EidV} (h : eRight x = true) : (putI (itemE x)).length <= 200 := by
 unfold itemE
 repeat' split
 ·exact Nat.le_trans (hop_len 1 0) (by decide)
 ·have h0 := put_small 4 0 [] [.mk 0 2 [] [], hopI x.n x.s]
  have h1 := num_len 2
  have h2 := hop_len x.n x.s
  simp only [puts, List.length_append, List.length_nil, Nat.add_zero, Nat.zero_add] at h0
  exact Nat.le_trans h0 (by omega)
 ·have h0 := put_small 4 0 [] [.mk 0 1 [] [], .mk 3 0 (pathE x) []]
  have h1 := num_len 1
  have h2 := put_small 3 0 (pathE x) []
  rename_i hz hi
  have h3 : (pathE x).length <= 100 := by
   have ht := eRight_txt h (by simpa using hz) (by simpa using hi)
   simp only [pathE, List.length_append, List.length_cons, List.length_nil]
   omega
  simp only [puts, List.length_append, List.length_nil, Nat.add_zero, Nat.zero_add] at h0 h2
  exact Nat.le_trans h0 (by omega)
theorem puts_appP (a c : List It) : puts (a ++ c) = puts a ++ puts c := by
 induction a with
 | nil => rfl
 | cons y a ih => rw [List.cons_append, puts, puts, ih, List.append_assoc]
theorem lim_P {p : PriV} (h : rightP p = true) (s : Nat) (hs : s = 1 \/ s = 2) : (putI (zeroL s (listP p))).length <= 1000000000 := by
 obtain ⟨h1, h2, h3, h4, h5, h6⟩ := pr_facts h
 obtain ⟨i1, _, _⟩ := iRight_iff.1 h5
 have h0 := put_small 4 0 [] (listP p ++ [.mk 2 0 (List.replicate (2 * s) 0) []])
 have hb := put_small 2 0 (List.replicate (2 * s) 0) []
 have n1 := num_len 7
 have n2 := num_len p.fl
 have n3 := num_len p.sum.toNat
 have n4 := item_len h3
 have n5 := item_len i1
 have n6 := item_len h4
 have n7 := hop_len p.t p.q
 have n8 := num_len p.life
 have e7 : hopI p.t p.q = .mk 4 0 [] [.mk 0 p.t [] [], .mk 0 p.q [] []] := rfl
 rw [e7] at n7
 rw [puts_appP] at h0
 simp only [listP, puts, List.length_append, List.length_nil, List.length_replicate, Nat.add_zero, Nat.zero_add] at h0 hb
 show (putI (.mk 4 0 [] (listP p ++ [.mk 2 0 (List.replicate (2 * s) 0) []]))).length <= 1000000000
 exact Nat.le_trans h0 (by omega)
theorem av_pWriteR [Known] [KnownU8] (p : PriV) (hfl : p.fl < 18446744073709551616) : AP Tryd.prog 25 [.agg (prC p)] (sealD (writeP p)) [] := by
 cases h : rightP p with
 | true => exact av_pWrite p hfl (lim_P h)
 | false =>
  have hR := av_pRight p
  unfold writeP
  rw [h] at hR ⊢
  obtain ⟨fl, sum, ⟨di, dn, ds, dh, dd⟩, ⟨ri, rn, rs, rh, rd⟩, ⟨xi, xn, xs, xh, xd⟩, t, q, life⟩ := p
  dsimp only [z0] at *
  refine AP.ofA ?_
  refine AC_of Tryd.func25 rfl Tryd.ntmps25 rfl rfl ?_
  repeat' (first | (apply AL_callPw (hR); kernel_rfl; (iterate 4 exact rfl)) | (apply AL_go ttok; exact rfl) | (apply AW_go ttok; exact rfl) | (apply K_go ttok; exact rfl) | (apply AW_condA; exact rfl; (first | with_reducible assumption | decide +kernel)))
  all_goals (apply endQ []; (apply resG_ok ttok; exact rfl); (iterate 4 exact rfl))
  all_goals rfl
theorem wf_writeP {p : PriV} (hfl : p.fl < 18446744073709551616) : wfI (writeP p).1 := by
 unfold writeP
 cases h : rightP p with
 | false => exact wf_z0
 | true => exact wf_seal 2 (wfs_P h hfl) (by simp [listP])
def pr0 : PriV := ⟨0, 0, eidZ, eidZ, eidZ, 0, 0, 0⟩
abbrev prD (r : PriV × Int) : D := .tup [.agg (prC r.1), .int .i64 r.2]
def eZ (y : It) : EidV := match (readV y).2 with | true => (readV y).1 | false => eidZ
def priOf (m1 m2 m3 m4 m5 m6 m7 : It) : PriV := ⟨m1.n, IntKind.i64.wrap (m2.n : Int), eZ m3, eZ m5, (iReadV (.mk 4 0 [] [m4, m6])).1, (iReadV (.mk 4 0 [] [m4, m6])).2.1, (iReadV (.mk 4 0 [] [m4, m6])).2.2.1, m7.n⟩
def readQ (x : It) (o : List It × Int) : PriV × Int := match o.2 != 0 with
 | true => (pr0, o.2)
 | false => match o.1 with
  | [_, m1, m2, m3, m4, m5, m6, m7] => (match (readV m3).2 && ((readV m5).2 && (iReadV (.mk 4 0 [] [m4, m6])).2.2.2) with
   | false => (pr0, 3)
   | true => match (writeP (priOf m1 m2 m3 m4 m5 m6 m7)).2 != 0 with
    | true => (pr0, 3)
    | false => match It.beq (writeP (priOf m1 m2 m3 m4 m5 m6 m7)).1 x with
     | false => (pr0, 3)
     | true => (priOf m1 m2 m3 m4 m5 m6 m7, 0))
  | _ => (pr0, 3)
def readP (x : It) : PriV × Int := readQ x (openV x 2)
theorem av_pRead [Known] [KnownU8] (x : It) (hw : wfI x) (hxl : x.l.length <= 1000000) (hlim : ∀ s m, s = 1 \/ s = 2 -> (putI (zeroL s (x.l.take m))).length <= 1000000000) : AP Tryd.prog 26 [itD x] (prD (readP x)) [] := by
 have hO := av_open x 2 hw hxl hlim
 have hsub := open_sub x 2
 have hws : wfs x.l := by obtain ⟨k, n, b, l⟩ := x; exact hw.2.2.2
 unfold readP
 generalize openV x 2 = o at *
 obtain ⟨ol, oe⟩ := o
 have hlen := itEs_len ol
 have hUo := uniI ol
 dsimp only at hsub
 have hSame := fun (B : PriV) (h1 : B.fl < 18446744073709551616) => av_same (writeP B).1 (wf_writeP h1) x hw
 obtain ⟨k, n, b, l⟩ := x
 dsimp only [It.l] at *
 unfold readQ
 dsimp only
 replace hO : AP Tryd.prog 20 [.agg [.int .i64 k, .int .u64 (n : Int), byE b, .sl .ext (itEs l)], .int .i64 2] (.tup [.sl .ext (itEs ol), .int .i64 oe]) [] := hO
 cases t1 : (oe != 0) with
 | true => exact pr_e k n b _ _ oe hO t1
 | false =>
 have hno : ol.length ≠ 8 -> AP Tryd.prog 26 [itD (.mk k n b l)] (prD (pr0, 3)) [] := fun h => pr_l k n b _ _ oe hO t1 (by rw [hlen]; simp; omega)
 match ol, hO, hsub, hlen, hUo, hno with
 | [], _, _, _, _, h => exact h (by simp)
 | [_], _, _, _, _, h => exact h (by simp)
 | [_, _], _, _, _, _, h => exact h (by simp)
 | [_, _, _], _, _, _, _, h => exact h (by simp)
 | [_, _, _, _], _, _, _, _, h => exact h (by simp)
 | [_, _, _, _, _], _, _, _, _, h => exact h (by simp)
 | [_, _, _, _, _, _], _, _, _, _, h => exact h (by simp)
 | [_, _, _, _, _, _, _], _, _, _, _, h => exact h (by simp)
 | _ :: _ :: _ :: _ :: _ :: _ :: _ :: _ :: _ :: _, _, _, _, _, h => exact h (by simp)
 | [.mk k0 n0 b0 l0, .mk k1 n1 b1 l1, .mk k2 n2 b2 l2, .mk k3 n3 b3 l3, .mk k4 n4 b4 l4, .mk k5 n5 b5 l5, .mk k6 n6 b6 l6, .mk k7 n7 b7 l7], hO, hsub, hlen, hUo, _ =>
 have hwm : ∀ y ∈ [It.mk k0 n0 b0 l0, .mk k1 n1 b1 l1, .mk k2 n2 b2 l2, .mk k3 n3 b3 l3, .mk k4 n4 b4 l4, .mk k5 n5 b5 l5, .mk k6 n6 b6 l6, .mk k7 n7 b7 l7], wfI y := fun y hy => wfs_mem hws y (hsub y hy)
 clear hsub
 have t2 : (((itEs [It.mk k0 n0 b0 l0, .mk k1 n1 b1 l1, .mk k2 n2 b2 l2, .mk k3 n3 b3 l3, .mk k4 n4 b4 l4, .mk k5 n5 b5 l5, .mk k6 n6 b6 l6, .mk k7 n7 b7 l7]).length : Int) != 8) = false := by rw [hlen]; rfl
 dsimp only
 have w1 : n1 < 18446744073709551616 := (hwm (.mk k1 n1 b1 l1) (by simp)).1
 have w3 := hwm (.mk k3 n3 b3 l3) (by simp)
 have w4 := hwm (.mk k4 n4 b4 l4) (by simp)
 have w5 := hwm (.mk k5 n5 b5 l5) (by simp)
 have w6 := hwm (.mk k6 n6 b6 l6) (by simp)
 have w46 : wfI (.mk 4 0 [] [.mk k4 n4 b4 l4, .mk k6 n6 b6 l6]) := ⟨by decide, by simp, by simp, w4, w6, trivial⟩
 have hD : AP Tryd.prog 56 [itD (.mk k3 n3 b3 l3)] (.tup [.agg (eC (eZ (.mk k3 n3 b3 l3))), .int .i64 (match (readV (.mk k3 n3 b3 l3)).2 with | true => 0 | false => 3)]) [] := av_eRead _ w3
 have hR : AP Tryd.prog 56 [itD (.mk k5 n5 b5 l5)] (.tup [.agg (eC (eZ (.mk k5 n5 b5 l5))), .int .i64 (match (readV (.mk k5 n5 b5 l5)).2 with | true => 0 | false => 3)]) [] := av_eRead _ w5
 have hI := av_iRead _ w46
 have hL := av_list [.mk k4 n4 b4 l4, .mk k6 n6 b6 l6] (by simp) ⟨w4, w6, trivial⟩
 have hW := av_pWriteR (priOf (.mk k1 n1 b1 l1) (.mk k2 n2 b2 l2) (.mk k3 n3 b3 l3) (.mk k4 n4 b4 l4) (.mk k5 n5 b5 l5) (.mk k6 n6 b6 l6) (.mk k7 n7 b7 l7)) w1
 have hS := hSame (priOf (.mk k1 n1 b1 l1) (.mk k2 n2 b2 l2) (.mk k3 n3 b3 l3) (.mk k4 n4 b4 l4) (.mk k5 n5 b5 l5) (.mk k6 n6 b6 l6) (.mk k7 n7 b7 l7)) w1
 clear hSame hwm w3 w4 w5 w6 w46 w1 hws hlim hw
 unfold priOf at *
 dsimp only [It.n] at *
 generalize eZ (.mk k3 n3 b3 l3) = dz at *
 generalize eZ (.mk k5 n5 b5 l5) = rz at *
 generalize (readV (.mk k3 n3 b3 l3)).2 = d2 at *
 generalize (readV (.mk k5 n5 b5 l5)).2 = r2 at *
 generalize iReadV (.mk 4 0 [] [.mk k4 n4 b4 l4, .mk k6 n6 b6 l6]) = u at *
 obtain ⟨u, ut, uq, u2⟩ := u
 try dsimp only at *
 generalize writeP ⟨n1, IntKind.i64.wrap (n2 : Int), dz, rz, u, ut, uq, n7⟩ = wr at *
 obtain ⟨⟨wk, wn, wb, wl⟩, we⟩ := wr
 try dsimp only at *
 cases d2 with
 | false => exact (pr_md_all k n b _ _ oe k0 n0 b0 l0 k1 n1 b1 l1 k2 n2 b2 l2 k3 n3 b3 l3 k4 n4 b4 l4 k5 n5 b5 l5 k6 n6 b6 l6 k7 n7 b7 l7 dz.i dz.n dz.s dz.h dz.d rz.i rz.n rz.s rz.h rz.d u.i u.n u.s u.h u.d ut uq _ _ _ we wk wn wb _ _ hO t1 t2 hUo rfl rfl rfl rfl rfl rfl rfl hD hR hL hI hW hS).1 rfl
 | true =>
 cases r2 with
 | false => exact (pr_md_all k n b _ _ oe k0 n0 b0 l0 k1 n1 b1 l1 k2 n2 b2 l2 k3 n3 b3 l3 k4 n4 b4 l4 k5 n5 b5 l5 k6 n6 b6 l6 k7 n7 b7 l7 dz.i dz.n dz.s dz.h dz.d rz.i rz.n rz.s rz.h rz.d u.i u.n u.s u.h u.d ut uq _ _ _ we wk wn wb _ _ hO t1 t2 hUo rfl rfl rfl rfl rfl rfl rfl hD hR hL hI hW hS).2.1 rfl rfl
 | true =>
 cases u2 with
 | false => exact (pr_md_all k n b _ _ oe k0 n0 b0 l0 k1 n1 b1 l1 k2 n2 b2 l2 k3 n3 b3 l3 k4 n4 b4 l4 k5 n5 b5 l5 k6 n6 b6 l6 k7 n7 b7 l7 dz.i dz.n dz.s dz.h dz.d rz.i rz.n rz.s rz.h rz.d u.i u.n u.s u.h u.d ut uq _ _ _ we wk wn wb _ _ hO t1 t2 hUo rfl rfl rfl rfl rfl rfl rfl hD hR hL hI hW hS).2.2 rfl rfl rfl
 | true =>
 try dsimp only [Bool.and_self]
 cases t4 : (we != 0) with
 | true => exact (pr_mw_all k n b _ _ oe k0 n0 b0 l0 k1 n1 b1 l1 k2 n2 b2 l2 k3 n3 b3 l3 k4 n4 b4 l4 k5 n5 b5 l5 k6 n6 b6 l6 k7 n7 b7 l7 dz.i dz.n dz.s dz.h dz.d rz.i rz.n rz.s rz.h rz.d u.i u.n u.s u.h u.d ut uq _ _ _ we wk wn wb _ _ hO t1 t2 hUo rfl rfl rfl rfl rfl rfl rfl hD hR hL hI hW hS rfl rfl rfl).1 t4
 | false =>
 try dsimp only
 cases t5 : It.beq (.mk wk wn wb wl) (.mk k n b l) with
 | false =>
  rw [t5] at hS
  exact (pr_mw_all k n b _ _ oe k0 n0 b0 l0 k1 n1 b1 l1 k2 n2 b2 l2 k3 n3 b3 l3 k4 n4 b4 l4 k5 n5 b5 l5 k6 n6 b6 l6 k7 n7 b7 l7 dz.i dz.n dz.s dz.h dz.d rz.i rz.n rz.s rz.h rz.d u.i u.n u.s u.h u.d ut uq _ _ _ we wk wn wb _ _ hO t1 t2 hUo rfl rfl rfl rfl rfl rfl rfl hD hR hL hI hW hS rfl rfl rfl).2.1 t4 hS
 | true =>
  rw [t5] at hS
  exact (pr_mw_all k n b _ _ oe k0 n0 b0 l0 k1 n1 b1 l1 k2 n2 b2 l2 k3 n3 b3 l3 k4 n4 b4 l4 k5 n5 b5 l5 k6 n6 b6 l6 k7 n7 b7 l7 dz.i dz.n dz.s dz.h dz.d rz.i rz.n rz.s rz.h rz.d u.i u.n u.s u.h u.d ut uq _ _ _ we wk wn wb _ _ hO t1 t2 hUo rfl rfl rfl rfl rfl rfl rfl hD hR hL hI hW hS rfl rfl rfl).2.2 t4 hS
end Go.Proofs.YtfkmicjlaedlkaaDoor
end
section
open Go.RowKit Go.Pl Go.Av
namespace Go.Proofs.YtfkmicjlaedlkaaDoor
set_option maxHeartbeats 4000000
theorem av_pWriteB [Known] [KnownU8] (p : PriV) (hfl : p.fl < 18446744073709551616) (s : Nat) (hs : s = 1 \/ s = 2) (hps : p.sum = (s : Int)) (hr : rightP p = true) (hlim : (putI (zeroL s (listP p))).length <= 1000000000)
  (hA : (listP p).all rightI = true) (hz : rightI (zeroL s (listP p)) = true) (hro : rightI (outL s (listP p)) = true) :
  AF Tryd.prog 25 [.agg (prC p)] 9 (fun c => .tup [.agg [.int .i64 4, .int .u64 0, .sl .ext [], .bsl 0 0 9 c], .int .i64 0]) (fun c => [[.row (c * 4) (flat (itEs (outL s (listP p)).l))]]) := by
 have hR := av_pRight p
 rw [hr] at hR
 obtain ⟨h1, h2, h3, h4, h5, h6⟩ := pr_facts hr
 have hty : typeV (listP p) 2 = (s : Int) := by
  have e : p.sum.toNat = s := by omega
  unfold listP typeV
  rcases hs with rfl | rfl <;> rw [e] <;> rfl
 have hS := av_sealB (listP p) 2 s hs hty (by decide) (by show (2 : Int) < 8; decide) (wfs_P hr hfl) (by simp [listP]) hlim hA hz hro
 have hD := av_eWrite p.dest
 have hP := av_eWrite p.rep
 have hI := av_iWrite p.src p.t p.q
 rw [if_pos h3, if_pos h3] at hD
 rw [if_pos h4, if_pos h4] at hP
 rw [if_pos h5, if_pos h5] at hI
 have hN := av_num 7
 have hF := av_num p.fl
 have hM := av_num p.sum.toNat
 have hL := av_num p.life
 have hrow : flat (itEs (outL s (listP p)).l) = flat (itEs (listP p) ++ [.agg [.int .i64 2, .int .u64 0, .sl ((sumB s (putI (zeroL s (listP p)))).map E.byte), .sl []]]) := by
  show flat (itEs (listP p ++ [.mk 2 0 (sumB s (putI (zeroL s (listP p)))) []])) = _
  rw [itEs_app]
  rfl
 rw [hrow]
 clear hrow hA hz hro hty
 generalize sumB s (putI (zeroL s (listP p))) = SB at *
 unfold listP at hS ⊢
 unfold itemN at hI
 obtain ⟨fl, sum, ⟨di, dn, ds, dh, dd⟩, ⟨ri, rn, rs, rh, rd⟩, ⟨xi, xn, xs, xh, xd⟩, t, q, life⟩ := p
 dsimp only at *
 clear hlim
 generalize itemE ⟨di, dn, ds, dh, dd⟩ = I1 at *
 generalize itemE ⟨ri, rn, rs, rh, rd⟩ = I2 at *
 generalize itemE ⟨xi, xn, xs, xh, xd⟩ = I3 at *
 obtain ⟨ak, an, ab, al⟩ := I1
 obtain ⟨bk, bn, bb, bl⟩ := I2
 obtain ⟨ck, cn, cb, cl⟩ := I3
 have es : IntKind.u64.wrap sum = ((sum.toNat : Nat) : Int) := by rw [IntWalk.u64_in _ (by omega)]; omega
 have hU := uniI [It.mk ck cn cb cl, .mk 4 0 [] [.mk 0 t [] [], .mk 0 q [] []]]
 have hv0 : (itEs [It.mk ck cn cb cl, .mk 4 0 [] [.mk 0 t [] [], .mk 0 q [] []]])[(0 : Int).toNat]? = some (.agg [.int .i64 ck, .int .u64 (cn : Int), .sl (cb.map E.byte), .sl (itEs cl)]) := rfl
 have hv1 : (itEs [It.mk ck cn cb cl, .mk 4 0 [] [.mk 0 t [] [], .mk 0 q [] []]])[(1 : Int).toNat]? = some (.agg [.int .i64 4, .int .u64 0, .sl [], .sl [nmE t, nmE q]]) := rfl
 generalize hLe : itEs [It.mk ck cn cb cl, .mk 4 0 [] [.mk 0 t [] [], .mk 0 q [] []]] = LL at *
 replace hI : AP Tryd.prog 55 [.agg (iC ⟨xi, xn, xs, xh, xd⟩ t q)] (.tup [.agg [.int .i64 4, .int .u64 0, .sl .ext [], .sl .ext LL], .int .i64 0]) [] := by rw [<- hLe]; exact hI
 replace hS : AF Tryd.prog 17 [.sl .ext [nmE 7, nmE fl, nmE sum.toNat, .agg [.int .i64 ak, .int .u64 (an : Int), .sl (ab.map E.byte), .sl (itEs al)], .agg [.int .i64 ck, .int .u64 (cn : Int), .sl (cb.map E.byte), .sl (itEs cl)], .agg [.int .i64 bk, .int .u64 (bn : Int), .sl (bb.map E.byte), .sl (itEs bl)], .agg [.int .i64 4, .int .u64 0, .sl [], .sl [nmE t, nmE q]], nmE life], .int .i64 2] 9
  (fun c => .tup [.agg [.int .i64 4, .int .u64 0, .sl .ext [], .bsl 0 0 9 c], .int .i64 0]) (fun c => [[.row (c * 4) (flat ([nmE 7, nmE fl, nmE sum.toNat, .agg [.int .i64 ak, .int .u64 (an : Int), .sl (ab.map E.byte), .sl (itEs al)], .agg [.int .i64 ck, .int .u64 (cn : Int), .sl (cb.map E.byte), .sl (itEs cl)], .agg [.int .i64 bk, .int .u64 (bn : Int), .sl (bb.map E.byte), .sl (itEs bl)], .agg [.int .i64 4, .int .u64 0, .sl [], .sl [nmE t, nmE q]], nmE life] ++ [.agg [.int .i64 2, .int .u64 0, .sl (SB.map E.byte), .sl []]]))]]) := hS
 refine AF.weak ?_
 refine AC_of Tryd.func25 rfl Tryd.ntmps25 rfl rfl ?_
 repeat' (first | (apply AL_callPw (hR); kernel_rfl; (iterate 4 exact rfl)) | rw [es] | (apply AL_callPw (hD); kernel_rfl; (iterate 4 exact rfl)) | (apply AL_callPw (hP); kernel_rfl; (iterate 4 exact rfl)) | (apply AL_callPw (hI); kernel_rfl; (iterate 4 exact rfl)) | (apply AL_callPw (hN); kernel_rfl; (iterate 4 exact rfl)) | (apply AL_callPw (hF); kernel_rfl; (iterate 4 exact rfl)) | (apply AL_callPw (hM); kernel_rfl; (iterate 4 exact rfl)) | (apply AL_callPw (hL); kernel_rfl; (iterate 4 exact rfl)) | (apply AL_callF (hS); kernel_rfl; exact rfl; exact rfl; exact (fun _ => rfl); exact (fun _ => rfl); intro c1 hc1) | (apply AL_go ttok; exact rfl) | (apply AW_go ttok; exact rfl) | (apply K_go ttok; exact rfl) | (apply AW_condB; exact rfl; (first | with_reducible assumption | decide +kernel)) | (apply AL_bsZ ttok; (iterate 12 exact rfl)) | (apply AW_drawE 21 hmix; (decide +kernel); (kernel_rfl); (kernel_rfl); (kernel_rfl); exact rfl; exact rfl) | (apply AE_consZ; (iterate 4 exact rfl)) | exact AE.nil _ _ _ _ | (apply AEk_puT; exact rfl) | (apply AOt_mk; exact rfl; exact rfl; (decide +kernel); exact rfl) | (apply AO_puT; exact rfl) | exact AO.nil _ _ _ | (apply AOs_skip; (decide +kernel)) | exact AOs.nil | exact qY_ok rfl rfl | (apply AL_idx ttok; (iterate 6 exact rfl); (first | with_reducible assumption | decide +kernel | exact Int.natCast_nonneg _ | (guard_target = (0:Int) <= (OfNat.ofNat _ : Int); decide) | rotate_left); (first | with_reducible assumption | decide +kernel | exact rfl); (first | exact uniB_ok rfl | with_reducible assumption | decide +kernel | rotate_left)))
 all_goals first | ((apply endF [5] c1 hc1; (apply resG_ok ttok; exact rfl); (iterate 5 exact rfl))) | ((apply endF [4] c1 hc1; (apply resG_ok ttok; exact rfl); (iterate 5 exact rfl))) | ((apply endF [3] c1 hc1; (apply resG_ok ttok; exact rfl); (iterate 5 exact rfl))) | ((apply endF [6] c1 hc1; (apply resG_ok ttok; exact rfl); (iterate 5 exact rfl))) | ((apply endF [2] c1 hc1; (apply resG_ok ttok; exact rfl); (iterate 5 exact rfl))) | ((apply endF [1] c1 hc1; (apply resG_ok ttok; exact rfl); (iterate 5 exact rfl)))
end Go.Proofs.YtfkmicjlaedlkaaDoor
end
section
open Go.RowKit Go.Pl Go.Av
namespace Go.Proofs.YtfkmicjlaedlkaaDoor
set_option maxHeartbeats 4000000
theorem greats_b : ∀ (l : List It) (d : Nat) (m : Int), 0 <= greats l d m -> ∀ y ∈ l, y.b.length <= 3000
 | [], _, _, _, y, hy => by simp at hy
 | x :: l, d, m, h, y, hy => by
  rw [greats] at h
  split at h
  ·omega
  ·rename_i hm
   have h1 : 0 <= greatI x d m := by
    rcases Int.lt_or_le (greatI x d m) 0 with h2 | h2
    ·exfalso
     cases l with
     | nil => rw [greats] at h; omega
     | cons y l => rw [greats, if_pos h2] at h; omega
    ·exact h2
   rcases List.mem_cons.1 hy with rfl | hy
   ·obtain ⟨k, n, b, r⟩ := y
    rw [greatI] at h1
    split at h1
    ·omega
    ·split at h1
     ·omega
     ·simp only [It.b]; omega
   ·exact greats_b l d _ h y hy
theorem great_parts {x : It} (h : 0 <= greatI x 1 300) (hn : nI x) : wfI x /\ x.l.length <= 1000000 /\ (∀ y ∈ x.l, y.b.length <= 3000) /\ ∀ s m, s = 1 \/ s = 2 -> (putI (zeroL s (x.l.take m))).length <= 1000000000 := by
 have hw := (small_wf x 1 300 (by omega) h hn).1
 obtain ⟨k, n, b, l⟩ := x
 rw [greatI] at h
 split at h
 ·omega
 split at h
 ·omega
 have h2 : 0 <= greats l 2 299 := h
 have hs := smalls_wf l 2 299 (by omega) h2 hn.2
 have hlt : greats l 2 299 <= 299 := (greats_le l 2 299 (by omega)).1
 refine ⟨hw, ?_, greats_b l 2 299 h2, fun s m hsm => ?_⟩
 ·have := hs.2.2.1
  simp only [It.l]
  omega
 ·have h0 := put_small 4 0 [] (l.take m ++ [.mk 2 0 (List.replicate (2 * s) 0) []])
  have h3 := put_small 2 0 (List.replicate (2 * s) 0) []
  have h4 := puts_take_le l m
  have h5 : ∀ (a c : List It), puts (a ++ c) = puts a ++ puts c := fun a c => by
   induction a with
   | nil => rfl
   | cons y a ih => rw [List.cons_append, puts, puts, ih, List.append_assoc]
  rw [h5] at h0
  simp only [puts, List.length_append, List.length_nil, List.length_replicate, Nat.add_zero, Nat.zero_add] at h0 h3
  have h6 := hs.2.1
  show (putI (.mk 4 0 [] (l.take m ++ [.mk 2 0 (List.replicate (2 * s) 0) []]))).length <= 1000000000
  omega
theorem great_len {x : It} (h : 0 <= greatI x 1 300) (hn : nI x) : x.l.length <= 300 /\ (puts x.l).length <= 1000000 := by
 obtain ⟨k, n, b, l⟩ := x
 rw [greatI] at h
 split at h
 ·omega
 split at h
 ·omega
 have h2 : 0 <= greats l 2 299 := h
 have hs := smalls_wf l 2 299 (by omega) h2 hn.2
 have hlt : greats l 2 299 <= 299 := (greats_le l 2 299 (by omega)).1
 have h3 := hs.2.2.1
 have h4 := hs.2.1
 show l.length <= 300 /\ (puts l).length <= 1000000
 exact ⟨by omega, by omega⟩
theorem lim_few {y : It} (h : (putI y).length <= 900000000) : ∀ s m, s = 1 \/ s = 2 -> (putI (zeroL s (y.l.take m))).length <= 1000000000 := by
 intro s m hs
 have h0 := put_small 4 0 [] (y.l.take m ++ [.mk 2 0 (List.replicate (2 * s) 0) []])
 have h1 := put_small 2 0 (List.replicate (2 * s) 0) []
 have h2 := puts_take_le y.l m
 have h3 : (puts y.l).length <= (putI y).length := by
  obtain ⟨k, n, b, l⟩ := y
  rw [putI, List.length_append, List.length_append]
  show (puts l).length <= _
  omega
 have h5 : ∀ (a c : List It), puts (a ++ c) = puts a ++ puts c := fun a c => by
  induction a with
  | nil => rfl
  | cons y a ih => rw [List.cons_append, puts, puts, ih, List.append_assoc]
 rw [h5] at h0
 simp only [puts, List.length_append, List.length_nil, List.length_replicate, Nat.add_zero, Nat.zero_add] at h0 h1
 show (putI (.mk 4 0 [] (y.l.take m ++ [.mk 2 0 (List.replicate (2 * s) 0) []]))).length <= _
 omega
theorem seal_parts {l : List It} {a : Int} {S : It} (h : sealV l a = (S, 0)) (hl : l.length <= 300) (hws : wfs l) (hp : (puts l).length <= 1000000) : wfI S /\ S.l.length <= 1000000 /\ ∀ s m, s = 1 \/ s = 2 -> (putI (zeroL s (S.l.take m))).length <= 1000000000 := by
 rcases seal_cases h with rfl | ⟨s, hs, rfl⟩
 ·refine ⟨⟨by decide, by simp, by omega, hws⟩, by show l.length <= _; omega, lim_few ?_⟩
  have := put_small 4 0 [] l
  simp only [List.length_nil, Nat.zero_add] at this
  omega
 ·refine ⟨wf_out hs hws (by omega), by show (l ++ [_]).length <= _; simp; omega, lim_few ?_⟩
  have h0 := put_small 4 0 [] (l ++ [.mk 2 0 (sumB s (putI (zeroL s l))) []])
  have h1 := put_small 2 0 (sumB s (putI (zeroL s l))) []
  have h2 := sumB_len s (putI (zeroL s l)) hs
  have h5 : ∀ (a c : List It), puts (a ++ c) = puts a ++ puts c := fun a c => by
   induction a with
   | nil => rfl
   | cons y a ih => rw [List.cons_append, puts, puts, ih, List.append_assoc]
  rw [h5] at h0
  simp only [puts, List.length_append, List.length_nil, Nat.add_zero, Nat.zero_add] at h0 h1
  show (putI (.mk 4 0 [] (l ++ [.mk 2 0 (sumB s (putI (zeroL s l))) []]))).length <= _
  omega
theorem wfI_n {x : It} (h : wfI x) : x.n < 18446744073709551616 := by obtain ⟨k, n, b, l⟩ := x; exact h.1
end Go.Proofs.YtfkmicjlaedlkaaDoor
end
section
open Go.RowKit Go.Pl Go.Av
namespace Go.Proofs.YtfkmicjlaedlkaaDoor
theorem iReadV_item {x : EidV} {t q : Nat} (h : iRight x t q = true) : iReadV (itemN x t q) = (x, t, q, true) := by
 obtain ⟨h1, _, _⟩ := iRight_iff.1 h
 have hr := readV_itemE h1 (right_itemE h1)
 have hz : readZ (itemE x) = x := by show (match (readV (itemE x)).2 with | true => (readV (itemE x)).1 | false => eidZ) = x; rw [hr]
 unfold itemN iReadV
 dsimp only
 have e : readNm (itemE x) (.mk 0 t [] []) (.mk 0 q [] []) (.mk 4 0 [] [itemE x, .mk 4 0 [] [.mk 0 t [] [], .mk 0 q [] []]]) = true := by
  unfold readNm
  rw [hz, hr]
  dsimp only [It.n]
  rw [h]
  exact beq_self _
 rw [e, hz]
 rfl
theorem pr_write_read {p : PriV} (hs : p.sum = IntKind.i64.wrap ((p.sum.toNat : Nat) : Int)) {x : It} (h : writeP p = (x, 0)) : readP x = (p, 0) := by
 have hr : rightP p = true := by
  unfold writeP at h
  cases hr : rightP p with
  | true => rfl
  | false => rw [hr] at h; simp at h
 have h2 := h
 unfold writeP at h2
 rw [hr] at h2
 have ho := seal_open h2
 obtain ⟨_, _, d1, d2, d3, _⟩ := pr_facts hr
 have r1 := readV_itemE d1 (right_itemE d1)
 have r2 := readV_itemE d2 (right_itemE d2)
 have r3 := iReadV_item d3
 have e1 : eZ (itemE p.dest) = p.dest := by unfold eZ; rw [r1]
 have e2 : eZ (itemE p.rep) = p.rep := by unfold eZ; rw [r2]
 unfold itemN at r3
 unfold readP
 rw [ho]
 unfold readQ listP
 dsimp only
 have e : priOf (.mk 0 p.fl [] []) (.mk 0 p.sum.toNat [] []) (itemE p.dest) (itemE p.src) (itemE p.rep) (.mk 4 0 [] [.mk 0 p.t [] [], .mk 0 p.q [] []]) (.mk 0 p.life [] []) = p := by
  unfold priOf
  rw [e1, e2, r3]
  dsimp only [It.n]
  rw [<- hs]
 rw [e, r1, r2, r3, h]
 simp [beq_self]
theorem pr_read_write {x : It} {p : PriV} (h : readP x = (p, 0)) : writeP p = (x, 0) := by
 unfold readP readQ at h
 cases d0 : ((openV x 2).2 != 0) with
 | true =>
  rw [d0] at h
  simp only [Prod.mk.injEq] at h
  rw [h.2] at d0
  cases d0
 | false =>
 rw [d0] at h
 dsimp only at h
 split at h
 ·split at h
  ·simp at h
  ·split at h
   ·simp at h
   ·rename_i d2
    split at h
    ·simp at h
    ·rename_i d3
     simp only [Prod.mk.injEq, and_true] at h
     subst h
     have e1 := It.beq_iff.1 d3
     have e2 := d2
     simp only [bne, Bool.not_eq_false', beq_iff_eq] at e2
     exact Prod.ext e1 e2
 ·simp at h
end Go.Proofs.YtfkmicjlaedlkaaDoor
end
section
open Go.RowKit Go.Pl Go.Av
namespace Go.Proofs.YtfkmicjlaedlkaaDoor
set_option maxHeartbeats 4000000
theorem right_of_writeP {p : PriV} {x : It} (h : writeP p = (x, 0)) : rightP p = true /\ sealV (listP p) 2 = (x, 0) := by
 unfold writeP at h
 cases hr : rightP p with
 | true => rw [hr] at h; exact ⟨rfl, h⟩
 | false => rw [hr] at h; simp at h
theorem rp_fl {z : It} (hw : wfI z) : (readP z).1.fl < 18446744073709551616 := by
 have hsub := open_sub z 2
 have hws : wfs z.l := by obtain ⟨k, n, b, l⟩ := z; exact hw.2.2.2
 unfold readP
 generalize openV z 2 = o at *
 have h0 : pr0.fl < 18446744073709551616 := by decide
 unfold readQ
 split
 ·exact h0
 ·split
  ·rename_i heq
   rw [heq] at hsub
   split
   ·exact h0
   ·split
    ·exact h0
    ·split
     ·exact h0
     ·exact wfI_n (wfs_mem hws _ (hsub _ (List.mem_cons_of_mem _ (List.mem_cons_self ..))))
  ·exact h0
abbrev eqP6 (p : PriV) : Bool := (((p.fl : Int) == (p.fl : Int)) && ((p.sum == p.sum) && ((p.dest.i == p.dest.i) && (((p.dest.n : Int) == (p.dest.n : Int)) && (((p.dest.s : Int) == (p.dest.s : Int)) && ((p.dest.h == p.dest.h) && ((p.dest.d == p.dest.d) && ((p.rep.i == p.rep.i) && (((p.rep.n : Int) == (p.rep.n : Int)) && (((p.rep.s : Int) == (p.rep.s : Int)) && ((p.rep.h == p.rep.h) && ((p.rep.d == p.rep.d) && ((p.src.i == p.src.i) && (((p.src.n : Int) == (p.src.n : Int)) && (((p.src.s : Int) == (p.src.s : Int)) && ((p.src.h == p.src.h) && ((p.src.d == p.src.d) && (((p.t : Int) == (p.t : Int)) && (((p.q : Int) == (p.q : Int)) && (((p.life : Int) == (p.life : Int)) && true))))))))))))))))))))
theorem eqP6_self (p : PriV) : (!eqP6 p) = false := by simp [eqP6]
theorem puts_listP {p : PriV} (h : rightP p = true) : (puts (listP p)).length <= 1000000 := by
 obtain ⟨h1, h2, h3, h4, h5, h6⟩ := pr_facts h
 obtain ⟨i1, _, _⟩ := iRight_iff.1 h5
 have n1 := num_len 7
 have n2 := num_len p.fl
 have n3 := num_len p.sum.toNat
 have n4 := item_len h3
 have n5 := item_len i1
 have n6 := item_len h4
 have n7 := hop_len p.t p.q
 have n8 := num_len p.life
 have e7 : hopI p.t p.q = .mk 4 0 [] [.mk 0 p.t [] [], .mk 0 p.q [] []] := rfl
 rw [e7] at n7
 simp only [listP, puts, List.length_append, List.length_nil, Nat.add_zero]
 omega
end Go.Proofs.YtfkmicjlaedlkaaDoor
end
section
open Go.RowKit Go.Pl Go.Av
namespace Go.Proofs.YtfkmicjlaedlkaaDoor
set_option maxHeartbeats 4000000
def fp1 : PriV := ⟨131072, 1, eidZ, eidZ, eidZ, 0, 0, 9⟩
def fp3 : PriV := ⟨1, 0, eidZ, eidZ, eidZ, 0, 0, 0⟩
abbrev fe0 : It := .mk 4 0 [] [.mk 0 1 [] [], .mk 0 0 [] []]
abbrev fx0 : List It := [.mk 0 7 [] [], .mk 0 0 [] [], .mk 0 0 [] [], fe0, fe0, fe0, .mk 4 0 [] [.mk 0 0 [] [], .mk 0 0 [] []], .mk 0 0 [] []]
abbrev fy1 : List It := [.mk 0 7 [] [], .mk 0 131072 [] [], .mk 0 1 [] [], fe0, fe0, fe0, .mk 4 0 [] [.mk 0 0 [] [], .mk 0 0 [] []], .mk 0 9 [] [], .mk 2 0 [125, 221] []]
abbrev fy2 : List It := [.mk 0 7 [] [], .mk 0 131072 [] [], .mk 0 1 [] [], fe0, fe0, fe0, .mk 4 0 [] [.mk 0 0 [] [], .mk 0 0 [] []], .mk 0 8 [] [], .mk 2 0 [125, 221] []]
theorem fa1 : writeP pr0 = (.mk 4 0 [] fx0, 0) := by kernel_rfl
theorem fa2 : readP (.mk 4 0 [] fx0) = (pr0, 0) := by kernel_rfl
theorem fa3 : (outL 1 (listP fp1)).l = fy1 := by kernel_rfl
theorem fa4 : readP (.mk 4 0 [] fy1) = (fp1, 0) := by kernel_rfl
theorem fa5 : readP (.mk 4 0 [] fy2) = (pr0, 10) := by kernel_rfl
theorem fa6 : writeP fp3 = (z0, 3) := by kernel_rfl
theorem fa7 : rightP fp1 = true := by kernel_rfl
theorem fa8 : (listP fp1).all rightI = true := by kernel_rfl
theorem fa9 : rightI (zeroL 1 (listP fp1)) = true := by kernel_rfl
theorem fa10 : rightI (outL 1 (listP fp1)) = true := by kernel_rfl
theorem wf_f {l : List It} (h1 : l.length <= 9) (h2 : wfs l) : wfI (.mk 4 0 [] l) := ⟨by decide, by simp, by omega, h2⟩
theorem av_alive6 [Known] [KnownU8] : AP Tryd.prog 16 [] (.bool true) [] := by
 have h1 := av_pWriteR pr0 (by decide)
 rw [fa1] at h1
 have h2 := av_pRead (.mk 4 0 [] fx0) (wf_f (by decide) (by simp [wfs, wfI])) (by decide) (lim_few (by decide +kernel))
 rw [fa2] at h2
 have h3 := av_pWriteB fp1 (by decide) 1 (.inl rfl) rfl fa7 (by decide +kernel) fa8 fa9 fa10
 rw [fa3] at h3
 have h4 := av_pRead (.mk 4 0 [] fy1) (wf_f (by decide) (by simp [wfs, wfI])) (by decide) (lim_few (by decide +kernel))
 rw [fa4] at h4
 have h5 := av_pRead (.mk 4 0 [] fy2) (wf_f (by decide) (by simp [wfs, wfI])) (by decide) (lim_few (by decide +kernel))
 rw [fa5] at h5
 have h6 := av_pWriteR fp3 (by decide)
 rw [fa6] at h6
 have hN := av_num 8
 have hst : spliceE (flat (itEs fy1)) 28 [.int .i64 0, .int .u64 8, .sl [], .sl []] = flat (itEs fy2) := rfl
 refine AP.ofA ?_
 refine AC_of Tryd.func16 rfl Tryd.ntmps16 rfl rfl ?_
 repeat' (first | (apply AL_storeR ttok; (iterate 6 exact rfl); exact Nat.le_of_ble_eq_true rfl; exact hst; exact rfl) | (apply AL_callPw (h1); kernel_rfl; (iterate 4 exact rfl)) | (apply AL_callPw (h2); kernel_rfl; (iterate 4 exact rfl)) | (apply AL_callF (h3); kernel_rfl; exact rfl; exact rfl; exact (fun _ => rfl); exact (fun _ => rfl); intro c1 hc1) | (apply AL_callL (b := 2) (h4); kernel_rfl; exact rfl; (repeat (first | exact True.intro | exact LOk_bsl _ _ _ | apply LOk_agg | apply LOks_cons)); (iterate 3 exact rfl); (first | exact rfl | with_reducible assumption | rotate_left)) | (apply AL_callL (b := 2) (h5); kernel_rfl; exact rfl; (repeat (first | exact True.intro | exact LOk_bsl _ _ _ | apply LOk_agg | apply LOks_cons)); (iterate 3 exact rfl); (first | exact rfl | with_reducible assumption | rotate_left)) | (apply AL_callPw (h6); kernel_rfl; (iterate 4 exact rfl)) | (apply AL_callPw (hN); kernel_rfl; (iterate 4 exact rfl)) | (apply AL_lenB ttok; (iterate 4 exact rfl)) | (apply AL_idxB ttok; (iterate 6 exact rfl); (first | with_reducible assumption | exact Int.natCast_nonneg _ | exact Nat.le_of_ble_eq_true rfl | exact (by decide) | rotate_left); (first | with_reducible assumption | exact Nat.le_of_ble_eq_true rfl | exact (by decide) | rotate_left); exact rfl) | (apply AL_loadR1 ttok; (iterate 7 exact rfl)) | (apply AL_go ttok; exact rfl) | (apply AW_go ttok; exact rfl) | (apply K_go ttok; exact rfl) | (apply AL_guardT; (iterate 3 exact rfl); (first | with_reducible assumption | decide +kernel)) | (apply AL_pickT; exact rfl; (first | with_reducible assumption | decide +kernel); exact rfl; exact rfl) | (apply AL_pickF; exact rfl; (first | with_reducible assumption | decide +kernel); exact rfl; exact rfl) | (apply AW_condB; exact rfl; (first | with_reducible assumption | decide +kernel)) | (apply AL_len ttok; (iterate 4 exact rfl)) | (apply AL_eqS ttok; (iterate 4 exact rfl); (kernel_rfl); (kernel_rfl); (iterate 3 exact rfl)) | (apply AW_drawE 3 hmix; (decide +kernel); (kernel_rfl); (kernel_rfl); (kernel_rfl); exact rfl; exact rfl) | (apply AE_consZ; (iterate 4 exact rfl)) | exact AE.nil _ _ _ _ | (apply AEk_puT; exact rfl) | (apply AOt_mk; exact rfl; exact rfl; (decide +kernel); exact rfl) | (apply AO_puT; exact rfl) | exact AO.nil _ _ _ | (apply AOs_skip; (decide +kernel)) | exact AOs.nil | exact qY_ok rfl rfl)
 all_goals first | ((apply endQ []; (apply resG_ok ttok; exact rfl); (iterate 4 exact rfl))) | skip
 all_goals first | rfl
end Go.Proofs.YtfkmicjlaedlkaaDoor
end
section
open Go.RowKit Go.Pl Go.Av
namespace Go.Proofs.YtfkmicjlaedlkaaDoor
set_option maxHeartbeats 4000000
def greatP (p : PriV) : Bool := decide (IntKind.i64.wrap (IntKind.i64.wrap (IntKind.i64.wrap ((p.dest.h.length : Int) + (p.dest.d.length : Int)) + (p.rep.h.length : Int)) + (p.rep.d.length : Int)) > 300) || decide (IntKind.i64.wrap ((p.src.h.length : Int) + (p.src.d.length : Int)) > 300)
theorem av_great6 [Known] (p : PriV) : AP Tryd.prog 24 [.agg (prC p)] (.bool (greatP p)) [] := by
 have hI := av_greatN p.src p.t p.q
 unfold greatP
 obtain ⟨fl, sum, ⟨di, dn, ds, dh, dd⟩, ⟨ri, rn, rs, rh, rd⟩, ⟨xi, xn, xs, xh, xd⟩, t, q, life⟩ := p
 try dsimp only at *
 generalize (IntKind.i64.wrap ((xh.length : Int) + (xd.length : Int))) = w2 at *
 cases t1 : decide (IntKind.i64.wrap (IntKind.i64.wrap (IntKind.i64.wrap ((dh.length : Int) + (dd.length : Int)) + (rh.length : Int)) + (rd.length : Int)) > 300) <;> cases t2 : decide (w2 > 300)
 all_goals
  rw [t2] at hI
  refine AP.ofA ?_
  refine AC_of Tryd.func24 rfl Tryd.ntmps24 rfl rfl ?_
  repeat' (first | (apply AL_callPw (hI); kernel_rfl; (iterate 4 exact rfl)) | (apply AL_go ttok; exact rfl) | (apply AW_go ttok; exact rfl) | (apply AL_guardT; (iterate 3 exact rfl); (first | with_reducible assumption | decide +kernel)) | (apply AL_guardFf; (iterate 3 exact rfl); (first | with_reducible assumption | decide +kernel)) | (apply AL_pickT; exact rfl; (first | with_reducible assumption | decide +kernel); exact rfl; exact rfl) | (apply AL_pickF; exact rfl; (first | with_reducible assumption | decide +kernel); exact rfl; exact rfl) | (apply AL_lens ttok; (iterate 4 exact rfl)))
  all_goals (apply endQ []; (apply resG_ok ttok; exact rfl); (iterate 4 exact rfl))
  all_goals rfl
end Go.Proofs.YtfkmicjlaedlkaaDoor
end
