/- Package primary: items sealed, the sealed item's row handed on as one's own. -/
import Derived.Test.YtfkmicjlaedlkaaDoorG17
import Derived.Test.YtfkmicjlaedlkaaDoorG24
import Derived.Test.YtfkmicjlaedlkaaDoorG22
import Derived.Test.YtfkmicjlaedlkaaDoorG23
import Derived.Test.YtfkmicjlaedlkaaDoorG18
import Derived.Test.YtfkmicjlaedlkaaDoorG19
import Derived.Test.YtfkmicjlaedlkaaDoorG01
set_option linter.unusedVariables false
set_option linter.unusedSimpArgs false
section
open Go.RowKit Go.Pl Go.Av
namespace Go.Proofs.YtfkmicjlaedlkaaDoor
set_option maxHeartbeats 4000000
theorem av_listB [Known] (l : List It) (hne : l ≠ []) (hl : l.length <= 2199023255488) (hws : wfs l) : AF Tryd.prog 12 [.sl .ext (itEs l)] (itEs l).length (fun c => .agg [.int .i64 4, .int .u64 0, .sl .ext [], .bsl 0 0 (itEs l).length c]) (fun c => [[.row (c * 4) (flat (itEs l))]]) := by
 have ih' : ∀ y ∈ l, AP Tryd.prog 42 [itD y] (itD y) [] := fun y hy => av_copied y (wfs_mem hws y hy)
 have hlen := itEs_len l
 refine AF.weak ?_
 refine AC_of Tryd.func12 rfl Tryd.ntmps12 rfl rfl ?_
 repeat' (first | (apply AL_go ttok; exact rfl) | (apply AW_go ttok; exact rfl) | (apply AL_len ttok; (iterate 4 exact rfl)))
 refine AW_loopJ (fun k' tm bx fr => ∃ (i c : Nat) (L : List E), k' + i = l.length /\ L.length <= c /\ L = itEs (l.take i) /\ tm = [(3, .ptr 1 0), (2, .ptr 0 0), (7, .sl .ext (itEs l)), (8, .int .i64 ((itEs l).length : Int)), (9, .int .i64 (i : Int))] /\ fr = [] /\
  ((i = 0 /\ bx = [[.int .i64 0, .int .u64 0, .sl .nil [], .sl .nil []], [.int .i64 4, .int .u64 0, .sl .nil [], .sl .nil []]]) \/
  (bx = [[.int .i64 0, .int .u64 0, .sl .nil [], .sl .nil []], [.int .i64 4, .int .u64 0, .sl .nil [], .bsl 2 0 L.length c], [.row (c * 4) (flat L)]]))) (l.length + 1) (Lands.mk' (m := l.length) (Nat.lt_succ_self _) ⟨0, 0, [], rfl, Nat.zero_le _, rfl, rfl, rfl, .inl ⟨rfl, rfl⟩⟩ ?_ rfl rfl rfl rfl rfl rfl) ?_
 ·exact .cons rfl (.cons rfl (.cons rfl (.cons rfl (.cons rfl .nil))))
 rintro k' tm bx fr ⟨i, c, L, hi, hc, hL, rfl, rfl, ⟨rfl, rfl⟩ | rfl⟩
 ·cases l with
  | nil => exact absurd rfl hne
  | cons y l =>
   have hcp := ih' y (List.mem_cons_self ..)
   have hU := uniI (y :: l)
   have hd : decide (((0 : Nat) : Int) < ((itEs (y :: l)).length : Int)) = true := decide_eq_true (by rw [itEs]; simp)
   obtain ⟨k1, n1, b1, l1⟩ := y
   repeat' (first | (apply AL_appendR (b := 2) ttok; (iterate 6 exact rfl); (first | exact uniB_ok rfl | with_reducible assumption | rotate_left); (first | exact List.cons_ne_nil _ _ | with_reducible assumption | rotate_left); (first | with_reducible assumption | exact Nat.le_of_ble_eq_true rfl | exact (by decide) | rotate_left); (first | with_reducible assumption | exact Nat.le_of_ble_eq_true rfl | exact (by decide) | rotate_left); (iterate 3 exact rfl); exact (fun _ => rfl); exact rfl; intro c2 hc2) | (apply AL_callPw (hcp); kernel_rfl; (iterate 4 exact rfl)) | (apply AL_go ttok; exact rfl) | (apply AW_go ttok; exact rfl) | (apply K_go ttok; exact rfl) | (apply AW_condA; exact rfl; (first | with_reducible assumption | decide +kernel)) | (apply AL_bsZ ttok; (iterate 12 exact rfl)) | (apply AW_drawE 5 hmix; (decide +kernel); (kernel_rfl); (kernel_rfl); (kernel_rfl); exact rfl; exact rfl) | (apply AE_consZ; (iterate 4 exact rfl)) | exact AE.nil _ _ _ _ | (apply AEk_puT; exact rfl) | (apply AOt_mk; exact rfl; exact rfl; (decide +kernel); exact rfl) | (apply AO_puT; exact rfl) | exact AO.nil _ _ _ | (apply AOs_skip; (decide +kernel)) | exact AOs.nil | exact qY_ok rfl rfl | exact qY_wk rfl rfl rfl rfl rfl | (apply AL_idx ttok; (iterate 6 exact rfl); (first | with_reducible assumption | decide +kernel | exact Int.natCast_nonneg _ | (guard_target = (0:Int) <= (OfNat.ofNat _ : Int); decide) | rotate_left); (first | with_reducible assumption | decide +kernel | exact rfl); (first | exact uniB_ok rfl | with_reducible assumption | decide +kernel | rotate_left)))
   refine Lands.mk' (m := k' - 1) (by simp at hi; omega) ⟨1, c2, itEs [It.mk k1 n1 b1 l1], by simp at hi ⊢; omega, hc2, rfl, rfl, rfl, .inr rfl⟩ ?_ rfl rfl rfl rfl rfl rfl
   exact .cons rfl (.cons rfl (.cons rfl (.cons rfl (.cons rfl .nil))))
 ·have hU := uniI l
  have hU2 : Uni 4 L := hL ▸ uniI (l.take i)
  have el := itEs_len (l.take i)
  rw [<- hL] at el
  rcases Nat.lt_or_ge i l.length with hlt | hge
  ·have hd : decide ((i : Int) < ((itEs l).length : Int)) = true := decide_eq_true (by omega)
   obtain ⟨⟨k1, n1, b1, l1⟩, hy⟩ : ∃ y, l[i]? = some y := ⟨_, List.getElem?_eq_getElem hlt⟩
   have hv : (itEs l)[((i : Nat) : Int).toNat]? = some (.agg [.int .i64 k1, .int .u64 (n1 : Int), .sl (b1.map E.byte), .sl (itEs l1)]) := by
    rw [Int.toNat_natCast, itEs_map, List.getElem?_map, hy]; rfl
   have hcp := ih' _ (List.mem_of_getElem? hy)
   have ei : IntKind.i64.wrap ((i : Int) + 1) = ((i + 1 : Nat) : Int) := by rw [IntWalk.i64_in _ (by omega)]; omega
   have hs : L ++ [E.agg [.int .i64 k1, .int .u64 (n1 : Int), .sl (b1.map E.byte), .sl (itEs l1)]] = itEs (l.take (i + 1)) := by
    rw [hL, List.take_add_one, hy]; exact (itEs_app _ [It.mk k1 n1 b1 l1]).symm
   have hl1 : (L ++ [E.agg [.int .i64 k1, .int .u64 (n1 : Int), .sl (b1.map E.byte), .sl (itEs l1)]]).length = L.length + 1 := by simp
   rw [List.length_take] at el
   repeat' (first | (apply AL_appendB ttok; (iterate 9 exact rfl); (first | exact uniB_ok rfl | with_reducible assumption | rotate_left); (first | exact uniB_ok rfl | with_reducible assumption | rotate_left); (first | exact List.cons_ne_nil _ _ | with_reducible assumption | rotate_left); (first | with_reducible assumption | exact Nat.le_of_ble_eq_true rfl | rotate_left); (first | with_reducible assumption | exact Nat.le_of_ble_eq_true rfl | rotate_left); exact rfl; exact rfl; exact (fun _ => rfl); exact rfl; intro c2 hc2) | (apply AL_callPw (hcp); kernel_rfl; (iterate 4 exact rfl)) | rw [ei] | (apply AL_go ttok; exact rfl) | (apply AW_go ttok; exact rfl) | (apply K_go ttok; exact rfl) | (apply AW_condA; exact rfl; (first | with_reducible assumption | decide +kernel)) | (apply AL_bsZ ttok; (iterate 12 exact rfl)) | (apply AW_drawE 5 hmix; (decide +kernel); (kernel_rfl); (kernel_rfl); (kernel_rfl); exact rfl; exact rfl) | (apply AE_consZ; (iterate 4 exact rfl)) | exact AE.nil _ _ _ _ | (apply AEk_puT; exact rfl) | (apply AOt_mk; exact rfl; exact rfl; (decide +kernel); exact rfl) | (apply AO_puT; exact rfl) | exact AO.nil _ _ _ | (apply AOs_skip; (decide +kernel)) | exact AOs.nil | exact qY_ok rfl rfl | exact qY_wk rfl rfl rfl rfl rfl | (apply AL_idx ttok; (iterate 6 exact rfl); (first | with_reducible assumption | decide +kernel | exact Int.natCast_nonneg _ | (guard_target = (0:Int) <= (OfNat.ofNat _ : Int); decide) | rotate_left); (first | with_reducible assumption | decide +kernel | exact rfl); (first | exact uniB_ok rfl | with_reducible assumption | decide +kernel | rotate_left)))
   ·refine Lands.mk' (m := k' - 1) (by omega) ⟨i + 1, c2, _, by omega, by rw [hl1]; exact hc2, hs, rfl, rfl, .inr (by rw [hl1])⟩ ?_ rfl rfl rfl rfl rfl rfl
    exact .cons rfl (.cons rfl (.cons rfl (.cons rfl (.cons rfl .nil))))
   all_goals (first | rfl | (simp only [List.length_append, List.length_cons, List.length_nil, List.length_map, itEs_len]; done) | (simp only [List.length_append, List.length_cons, List.length_nil, List.length_map, itEs_len] at *; (try unfold maxLen); (try simp only [Nat.add_mul]); omega))
  ·have hd : decide ((i : Int) < ((itEs l).length : Int)) = false := decide_eq_false (by omega)
   rw [List.take_of_length_le hge] at hL
   subst hL
   repeat' (first | (apply AW_go ttok; exact rfl) | (apply AW_condB; exact rfl; (first | with_reducible assumption | decide +kernel)))
   all_goals (apply endF [2] c hc; (apply resG_ok ttok; exact rfl); (iterate 5 exact rfl))
theorem av_sealB [Known] [KnownU8] (l : List It) (a : Int) (s : Nat) (hs : s = 1 \/ s = 2) (es : typeV l a = (s : Int)) (h0 : 0 <= a) (hal : a < (l.length : Int)) (hws : wfs l) (hl : l.length <= 1000000) (hlim : (putI (zeroL s l)).length <= 1000000000)
  (hA : l.all rightI = true) (hz : rightI (zeroL s l) = true) (hr : rightI (outL s l) = true) :
  AF Tryd.prog 17 [.sl .ext (itEs l), .int .i64 a] ((itEs l).length + 1) (fun c => .tup [.agg [.int .i64 4, .int .u64 0, .sl .ext [], .bsl 0 0 ((itEs l).length + 1) c], .int .i64 0]) (fun c => [[.row (c * 4) (flat (itEs l ++ [.agg [.int .i64 2, .int .u64 0, .sl ((sumB s (putI (zeroL s l))).map E.byte), .sl []]]))]]) := by
 have hlen := itEs_len l
 have hU := uniI l
 have hC := av_contF l hws hl
 have hT := av_typeAt l hws a
 have hne : l ≠ [] := by rintro rfl; simp at hal; omega
 have t1 : decide (a < 0) = false := decide_eq_false (by omega)
 have t2 : decide (a ≥ ((itEs l).length : Int)) = false := decide_eq_false (by omega)
 rw [hA] at hC
 replace hC : AP Tryd.prog 46 _ (.bool false) [] := hC
 rw [es] at hT
 have hS := av_sumOf l s hs hne hws hl hlim
 have hL := av_listB l hne (by omega) hws
 have hsl := sumB_len s (putI (zeroL s l)) hs
 have hB := av_bytes (sumB s (putI (zeroL s l))) (by omega)
 have hR := av_rightI (outL s l) (wf_out hs hws hl)
 have hmx : (itEs l).length <= 1000000 := by omega
 have d1 : decide ((s : Int) < 0) = false := decide_eq_false (by omega)
 have d2 : decide ((s : Int) > 0) = true := decide_eq_true (by omega)
 have d3 : decide ((s : Int) ≥ 0) = true := decide_eq_true (by omega)
 rw [hz] at hS
 dsimp only at hS ⊢
 have eO : itD (outL s l) = .agg [.int .i64 4, .int .u64 0, .sl .ext [], .sl .ext (itEs l ++ [.agg [.int .i64 2, .int .u64 0, .sl ((sumB s (putI (zeroL s l))).map E.byte), .sl []]])] := by
  show D.agg [.int .i64 4, .int .u64 0, .sl .ext [], .sl .ext (itEs (l ++ [.mk 2 0 (sumB s (putI (zeroL s l))) []]))] = _
  rw [itEs_app]
  rfl
 rw [hr, eO] at hR
 generalize sumB s (putI (zeroL s l)) = SB at *
 have hl1 : (itEs l ++ [E.agg [.int .i64 2, .int .u64 0, .sl (SB.map E.byte), .sl []]]).length = (itEs l).length + 1 := by simp
 refine AF.weak ?_
 refine AC_of Tryd.func17 rfl Tryd.ntmps17 rfl rfl ?_
 repeat' (first | (apply AL_appendB ttok; (iterate 9 exact rfl); (first | exact uniB_ok rfl | with_reducible assumption | rotate_left); (first | exact uniB_ok rfl | with_reducible assumption | rotate_left); (first | exact List.cons_ne_nil _ _ | with_reducible assumption | rotate_left); (first | with_reducible assumption | exact Nat.le_of_ble_eq_true rfl | rotate_left); (first | with_reducible assumption | exact Nat.le_of_ble_eq_true rfl | rotate_left); exact rfl; exact rfl; exact (fun _ => rfl); exact rfl; intro c2 hc2) | (apply AL_callPw (hC); kernel_rfl; (iterate 4 exact rfl)) | (apply AL_callPw (hT); kernel_rfl; (iterate 4 exact rfl)) | (apply AL_callF (hL); kernel_rfl; exact rfl; exact rfl; exact (fun _ => rfl); exact (fun _ => rfl); intro c1 hc1) | (apply AL_callPw (hS); kernel_rfl; (iterate 4 exact rfl)) | (apply AL_callPw (hB); kernel_rfl; (iterate 4 exact rfl)) | (apply AL_callL (b := 1) (hR); kernel_rfl; exact rfl; (repeat (first | exact True.intro | exact LOk_bsl _ _ _ | apply LOk_agg | apply LOks_cons)); (iterate 3 exact rfl); (first | exact rfl | with_reducible assumption | rotate_left)) | (apply AL_go ttok; exact rfl) | (apply AW_go ttok; exact rfl) | (apply K_go ttok; exact rfl) | (apply AL_guardT; (iterate 3 exact rfl); (first | with_reducible assumption | decide +kernel)) | (apply AL_pickF; exact rfl; (first | with_reducible assumption | decide +kernel); exact rfl; exact rfl) | (apply AW_condA; exact rfl; (first | with_reducible assumption | decide +kernel)) | (apply AW_condB; exact rfl; (first | with_reducible assumption | decide +kernel)) | (apply AL_len ttok; (iterate 4 exact rfl)) | (apply AL_bsZ ttok; (iterate 12 exact rfl)) | (apply AW_drawE 5 hmix; (decide +kernel); (kernel_rfl); (kernel_rfl); (kernel_rfl); exact rfl; exact rfl) | (apply AE_consZ; (iterate 4 exact rfl)) | exact AE.nil _ _ _ _ | (apply AEk_puT; exact rfl) | (apply AOt_mk; exact rfl; exact rfl; (decide +kernel); exact rfl) | (apply AO_puT; exact rfl) | exact AO.nil _ _ _ | (apply AOs_skip; (decide +kernel)) | exact AOs.nil | exact qY_ok rfl rfl | exact qY_wk rfl rfl rfl rfl rfl)
 all_goals first | ((apply endF [1] c2 (hl1 ▸ hc2); (apply resG_ok ttok; exact rfl); (iterate 5 exact rfl))) | skip
 all_goals first | rfl | (first | rfl | (simp only [List.length_append, List.length_cons, List.length_nil, List.length_map, itEs_len]; done) | (simp only [List.length_append, List.length_cons, List.length_nil, List.length_map, itEs_len] at *; (try unfold maxLen); (try simp only [Nat.add_mul]); omega)) | (simp; done) | (simp; omega) | (simp; unfold maxLen; omega)
end Go.Proofs.YtfkmicjlaedlkaaDoor
end
section
open Go.RowKit Go.Pl Go.Av
namespace Go.Proofs.YtfkmicjlaedlkaaDoor
set_option maxHeartbeats 4000000
theorem av_pWriteB [Known] [KnownU8] (p : PriV) (hfl : p.fl < 18446744073709551616) (s : Nat) (hs : s = 1 \/ s = 2) (hps : p.sum = (s : Int)) (hr : rightP p = true) (hlim : (putI (zeroL s (listP p))).length <= 1000000000)
  (hA : (listP p).all rightI = true) (hz : rightI (zeroL s (listP p)) = true) (hro : rightI (outL s (listP p)) = true) :
  AF Tryd.prog 25 [.agg (prC p)] 9 (fun c => .tup [.agg [.int .i64 4, .int .u64 0, .sl .ext [], .bsl 0 0 9 c], .int .i64 0]) (fun c => [[.row (c * 4) (flat (itEs (outL s (listP p)).l))]]) := by
 have hR := av_pRight p
 rw [hr] at hR
 obtain ⟨h1, h2, h3, h4, h5, h6⟩ := pr_facts hr
 have hty : typeV (listP p) 2 = (s : Int) := by
  have e : p.sum.toNat = s := by omega
  unfold listP typeV
  rcases hs with rfl | rfl <;> rw [e] <;> rfl
 have hS := av_sealB (listP p) 2 s hs hty (by decide) (by show (2 : Int) < 8; decide) (wfs_P hr hfl) (by simp [listP]) hlim hA hz hro
 have hD := av_eWrite p.dest
 have hP := av_eWrite p.rep
 have hI := av_iWrite p.src p.t p.q
 rw [if_pos h3, if_pos h3] at hD
 rw [if_pos h4, if_pos h4] at hP
 rw [if_pos h5, if_pos h5] at hI
 have hN := av_num 7
 have hF := av_num p.fl
 have hM := av_num p.sum.toNat
 have hL := av_num p.life
 have hrow : flat (itEs (outL s (listP p)).l) = flat (itEs (listP p) ++ [.agg [.int .i64 2, .int .u64 0, .sl ((sumB s (putI (zeroL s (listP p)))).map E.byte), .sl []]]) := by
  show flat (itEs (listP p ++ [.mk 2 0 (sumB s (putI (zeroL s (listP p)))) []])) = _
  rw [itEs_app]
  rfl
 rw [hrow]
 clear hrow hA hz hro hty
 generalize sumB s (putI (zeroL s (listP p))) = SB at *
 unfold listP at hS ⊢
 unfold itemN at hI
 obtain ⟨fl, sum, ⟨di, dn, ds, dh, dd⟩, ⟨ri, rn, rs, rh, rd⟩, ⟨xi, xn, xs, xh, xd⟩, t, q, life⟩ := p
 dsimp only at *
 clear hlim
 generalize itemE ⟨di, dn, ds, dh, dd⟩ = I1 at *
 generalize itemE ⟨ri, rn, rs, rh, rd⟩ = I2 at *
 generalize itemE ⟨xi, xn, xs, xh, xd⟩ = I3 at *
 obtain ⟨ak, an, ab, al⟩ := I1
 obtain ⟨bk, bn, bb, bl⟩ := I2
 obtain ⟨ck, cn, cb, cl⟩ := I3
 have es : IntKind.u64.wrap sum = ((sum.toNat : Nat) : Int) := by rw [IntWalk.u64_in _ (by omega)]; omega
 have hU := uniI [It.mk ck cn cb cl, .mk 4 0 [] [.mk 0 t [] [], .mk 0 q [] []]]
 have hv0 : (itEs [It.mk ck cn cb cl, .mk 4 0 [] [.mk 0 t [] [], .mk 0 q [] []]])[(0 : Int).toNat]? = some (.agg [.int .i64 ck, .int .u64 (cn : Int), .sl (cb.map E.byte), .sl (itEs cl)]) := rfl
 have hv1 : (itEs [It.mk ck cn cb cl, .mk 4 0 [] [.mk 0 t [] [], .mk 0 q [] []]])[(1 : Int).toNat]? = some (.agg [.int .i64 4, .int .u64 0, .sl [], .sl [nmE t, nmE q]]) := rfl
 generalize hLe : itEs [It.mk ck cn cb cl, .mk 4 0 [] [.mk 0 t [] [], .mk 0 q [] []]] = LL at *
 replace hI : AP Tryd.prog 55 [.agg (iC ⟨xi, xn, xs, xh, xd⟩ t q)] (.tup [.agg [.int .i64 4, .int .u64 0, .sl .ext [], .sl .ext LL], .int .i64 0]) [] := by rw [<- hLe]; exact hI
 replace hS : AF Tryd.prog 17 [.sl .ext [nmE 7, nmE fl, nmE sum.toNat, .agg [.int .i64 ak, .int .u64 (an : Int), .sl (ab.map E.byte), .sl (itEs al)], .agg [.int .i64 ck, .int .u64 (cn : Int), .sl (cb.map E.byte), .sl (itEs cl)], .agg [.int .i64 bk, .int .u64 (bn : Int), .sl (bb.map E.byte), .sl (itEs bl)], .agg [.int .i64 4, .int .u64 0, .sl [], .sl [nmE t, nmE q]], nmE life], .int .i64 2] 9
  (fun c => .tup [.agg [.int .i64 4, .int .u64 0, .sl .ext [], .bsl 0 0 9 c], .int .i64 0]) (fun c => [[.row (c * 4) (flat ([nmE 7, nmE fl, nmE sum.toNat, .agg [.int .i64 ak, .int .u64 (an : Int), .sl (ab.map E.byte), .sl (itEs al)], .agg [.int .i64 ck, .int .u64 (cn : Int), .sl (cb.map E.byte), .sl (itEs cl)], .agg [.int .i64 bk, .int .u64 (bn : Int), .sl (bb.map E.byte), .sl (itEs bl)], .agg [.int .i64 4, .int .u64 0, .sl [], .sl [nmE t, nmE q]], nmE life] ++ [.agg [.int .i64 2, .int .u64 0, .sl (SB.map E.byte), .sl []]]))]]) := hS
 refine AF.weak ?_
 refine AC_of Tryd.func25 rfl Tryd.ntmps25 rfl rfl ?_
 repeat' (first | (apply AL_callPw (hR); kernel_rfl; (iterate 4 exact rfl)) | rw [es] | (apply AL_callPw (hD); kernel_rfl; (iterate 4 exact rfl)) | (apply AL_callPw (hP); kernel_rfl; (iterate 4 exact rfl)) | (apply AL_callPw (hI); kernel_rfl; (iterate 4 exact rfl)) | (apply AL_callPw (hN); kernel_rfl; (iterate 4 exact rfl)) | (apply AL_callPw (hF); kernel_rfl; (iterate 4 exact rfl)) | (apply AL_callPw (hM); kernel_rfl; (iterate 4 exact rfl)) | (apply AL_callPw (hL); kernel_rfl; (iterate 4 exact rfl)) | (apply AL_callF (hS); kernel_rfl; exact rfl; exact rfl; exact (fun _ => rfl); exact (fun _ => rfl); intro c1 hc1) | (apply AL_go ttok; exact rfl) | (apply AW_go ttok; exact rfl) | (apply K_go ttok; exact rfl) | (apply AW_condB; exact rfl; (first | with_reducible assumption | decide +kernel)) | (apply AL_bsZ ttok; (iterate 12 exact rfl)) | (apply AW_drawE 21 hmix; (decide +kernel); (kernel_rfl); (kernel_rfl); (kernel_rfl); exact rfl; exact rfl) | (apply AE_consZ; (iterate 4 exact rfl)) | exact AE.nil _ _ _ _ | (apply AEk_puT; exact rfl) | (apply AOt_mk; exact rfl; exact rfl; (decide +kernel); exact rfl) | (apply AO_puT; exact rfl) | exact AO.nil _ _ _ | (apply AOs_skip; (decide +kernel)) | exact AOs.nil | exact qY_ok rfl rfl | (apply AL_idx ttok; (iterate 6 exact rfl); (first | with_reducible assumption | decide +kernel | exact Int.natCast_nonneg _ | (guard_target = (0:Int) <= (OfNat.ofNat _ : Int); decide) | rotate_left); (first | with_reducible assumption | decide +kernel | exact rfl); (first | exact uniB_ok rfl | with_reducible assumption | decide +kernel | rotate_left)))
 all_goals first | ((apply endF [5] c1 hc1; (apply resG_ok ttok; exact rfl); (iterate 5 exact rfl))) | ((apply endF [4] c1 hc1; (apply resG_ok ttok; exact rfl); (iterate 5 exact rfl))) | ((apply endF [3] c1 hc1; (apply resG_ok ttok; exact rfl); (iterate 5 exact rfl))) | ((apply endF [6] c1 hc1; (apply resG_ok ttok; exact rfl); (iterate 5 exact rfl))) | ((apply endF [2] c1 hc1; (apply resG_ok ttok; exact rfl); (iterate 5 exact rfl))) | ((apply endF [1] c1 hc1; (apply resG_ok ttok; exact rfl); (iterate 5 exact rfl)))
end Go.Proofs.YtfkmicjlaedlkaaDoor
end
section
open Go.RowKit Go.Pl Go.Av
namespace Go.Proofs.YtfkmicjlaedlkaaDoor
set_option maxHeartbeats 4000000
theorem pt_m [Known] (pfl pdn pds prn prs pxn pxs pt pq plife : Nat) (psum : Int) (pdi pri pxi : Bool) (pdh pdd prh prd pxh pxd : List UInt8) (b : Nat) (hb : b < 65536) (a0 : UInt8) (s L k0 : Nat) (CS : List E) (N : Nat) (LL : List E)
  (es : IntKind.i64.wrap (1 + bits .and .i64 psum 1) = (s : Int)) (eL : bits .or .u64 2147483648 (bits .and .u64 (plife : Int) 2147483647) = (L : Int)) (ek : bits .and .u8 (a0.toNat : Int) 15 = (k0 : Int)) (hk0 : k0 <= 15) (hL1 : 65536 <= L) (hL2 : L < 4294967296)
  (hA : AP Tryd.prog 16 [] (.bool true) [])
  (hG : AP Tryd.prog 24 [.agg [.int .u64 (pfl : Int), .int .i64 (s : Int), .bool pdi, .int .u64 (pdn : Int), .int .u64 (pds : Int), .str pdh, .str pdd, .bool pri, .int .u64 (prn : Int), .int .u64 (prs : Int), .str prh, .str prd, .bool pxi, .int .u64 (pxn : Int), .int .u64 (pxs : Int), .str pxh, .str pxd, .int .u64 (pt : Int), .int .u64 (pq : Int), .int .u64 (L : Int)]] (.bool false) [])
  (hR : AP Tryd.prog 28 [.agg [.int .u64 (pfl : Int), .int .i64 (s : Int), .bool pdi, .int .u64 (pdn : Int), .int .u64 (pds : Int), .str pdh, .str pdd, .bool pri, .int .u64 (prn : Int), .int .u64 (prs : Int), .str prh, .str prd, .bool pxi, .int .u64 (pxn : Int), .int .u64 (pxs : Int), .str pxh, .str pxd, .int .u64 (pt : Int), .int .u64 (pq : Int), .int .u64 (L : Int)]] (.bool true) [])
  (tz : ((b : Int) == 0) = false)
  (hW : AF Tryd.prog 25 [.agg [.int .u64 (pfl : Int), .int .i64 (s : Int), .bool pdi, .int .u64 (pdn : Int), .int .u64 (pds : Int), .str pdh, .str pdd, .bool pri, .int .u64 (prn : Int), .int .u64 (prs : Int), .str prh, .str prd, .bool pxi, .int .u64 (pxn : Int), .int .u64 (pxs : Int), .str pxh, .str pxd, .int .u64 (pt : Int), .int .u64 (pq : Int), .int .u64 (L : Int)]] 9 (fun c => .tup [.agg [.int .i64 4, .int .u64 0, .sl .ext [], .bsl 0 0 9 c], .int .i64 0]) (fun c => [[.row (c * 4) CS]]))
  (eN : trN b k0 16 L = N)
  (hN : AP Tryd.prog 13 [.int .u64 (N : Int)] (itD (.mk 0 N [] [])) [])
  (hst : spliceE CS 28 [.int .i64 0, .int .u64 (N : Int), .sl [], .sl []] = flat LL) (hcl : 32 <= CS.length)
  (hLL : LL.length = 9)
  (hRd : 65536 <= N -> AP Tryd.prog 26 [.agg [.int .i64 4, .int .u64 0, .sl .ext [], .sl .ext LL]] (prD (pr0, 10)) []) :
  AP Tryd.prog 6 [.agg [.int .u64 (pfl : Int), .int .i64 psum, .bool pdi, .int .u64 (pdn : Int), .int .u64 (pds : Int), .str pdh, .str pdd, .bool pri, .int .u64 (prn : Int), .int .u64 (prs : Int), .str prh, .str prd, .bool pxi, .int .u64 (pxn : Int), .int .u64 (pxs : Int), .str pxh, .str pxd, .int .u64 (pt : Int), .int .u64 (pq : Int), .int .u64 (plife : Int)], .int .u16 (b : Int), .int .u8 (a0.toNat : Int)] (.bool true) [] := by
 refine AP.ofA ?_
 refine AC_of Tryd.func6 rfl Tryd.ntmps6 rfl rfl ?_
 repeat' (first | rw [es] | rw [eL] | (apply AL_callPw (hG); kernel_rfl; (iterate 4 exact rfl)) | (apply AL_callPw (hR); kernel_rfl; (iterate 4 exact rfl)) | (apply AL_callF (hW); kernel_rfl; exact rfl; exact rfl; exact (fun _ => rfl); exact (fun _ => rfl); intro c1 hc1) | (apply AL_lenB ttok; (iterate 4 exact rfl)) | (apply AL_go ttok; exact rfl) | (apply AW_go ttok; exact rfl) | (apply K_go ttok; exact rfl) | (apply AL_guardT; (iterate 3 exact rfl); (first | with_reducible assumption | decide +kernel)) | (apply AL_pickF; exact rfl; (first | with_reducible assumption | decide +kernel); exact rfl; exact rfl) | (apply AW_condB; exact rfl; (first | with_reducible assumption | decide +kernel)))
 refine AW_loopJ (fun f tm bx fr => ∃ (i : Nat), f + i = 16 /\ tm = [(1, .int .u16 (b : Int)), (2, .int .u8 (a0.toNat : Int)), (7, .ptr 2 0), (9, .int .u64 (trN b k0 i L : Int)), (10, .int .i64 (i : Int))] /\ bx = [[.int .u64 (pfl : Int), .int .i64 (s : Int), .bool pdi, .int .u64 (pdn : Int), .int .u64 (pds : Int), .str pdh, .str pdd, .bool pri, .int .u64 (prn : Int), .int .u64 (prs : Int), .str prh, .str prd, .bool pxi, .int .u64 (pxn : Int), .int .u64 (pxs : Int), .str pxh, .str pxd, .int .u64 (pt : Int), .int .u64 (pq : Int), .int .u64 (L : Int)], [.row (c1 * 4) CS], [.int .i64 4, .int .u64 0, .sl .ext [], .bsl 1 0 9 c1]] /\ fr = []) 17 (Lands.mk' (m := 16) (Nat.lt_succ_self _) ⟨0, by omega, rfl, rfl, rfl⟩ ?_ rfl rfl rfl rfl rfl rfl) ?_
 ·exact .cons rfl (.cons rfl (.cons rfl (.cons rfl (.cons rfl .nil))))
 rintro f tm bx fr ⟨i, hf, rfl, rfl, rfl⟩
 rcases Nat.lt_or_ge i 16 with hlt | hge
 ·have hdl : decide ((i : Int) < 16) = true := decide_eq_true (by omega)
  have ei : IntKind.i64.wrap ((i : Int) + 1) = ((i + 1 : Nat) : Int) := by rw [IntWalk.i64_in _ (by omega)]; omega
  have ek1 : IntKind.i64.wrap (k0 : Int) = (k0 : Int) := IntWalk.i64_in _ (by omega)
  have ek2 : IntKind.i64.wrap ((k0 : Int) + (i : Int)) = ((k0 + i : Nat) : Int) := by rw [IntWalk.i64_in _ (by omega)]; omega
  have hbit := bit16 hb hlt
  have htl := tr_lt (by_ := b) (a := k0) hk0 hL2 i (by omega)
  have ht1 : trN b k0 (i + 1) L = if b.testBit i then trN b k0 i L ^^^ (1 <<< posN (k0 + i)) else trN b k0 i L := rfl
  generalize trN b k0 i L = M at *
  cases hbv : b.testBit i with
  | false =>
   rw [hbv] at hbit ht1
   rw [if_neg (by simp)] at ht1
   repeat' (first | rw [ek] | rw [ek1] | rw [ek2] | rw [ei] | (apply AL_go ttok; exact rfl) | (apply AW_go ttok; exact rfl) | (apply K_go ttok; exact rfl) | (apply AW_condA; exact rfl; (first | with_reducible assumption | decide +kernel)) | (apply AW_condB; exact rfl; (first | with_reducible assumption | decide +kernel)) | (apply AL_shr; exact rfl; exact rfl; (first | with_reducible assumption | decide +kernel | exact Int.natCast_nonneg _ | (exact (by decide)) | rotate_left); exact rfl))
   refine Lands.mk' (m := f - 1) (by omega) ⟨i + 1, by omega, by rw [ht1], rfl, rfl⟩ ?_ rfl rfl rfl rfl rfl rfl
   exact .cons rfl (.cons rfl (.cons rfl (.cons rfl (.cons rfl .nil))))
  | true =>
   rw [hbv] at hbit ht1
   rw [if_pos rfl] at ht1
   have ep := pos_i (k0 + i) (by omega)
   have hp0 : (0 : Int) <= ((posN (k0 + i) : Nat) : Int) := Int.natCast_nonneg _
   have es1 := one_shl (k0 + i) (by omega)
   have ex := u64_xor_nat M (1 <<< posN (k0 + i)) (by omega) (shl_lt (k0 + i) (by omega))
   repeat' (first | rw [ek] | rw [ek1] | rw [ek2] | rw [ei] | rw [ep] | rw [es1] | rw [ex] | (apply AL_go ttok; exact rfl) | (apply AW_go ttok; exact rfl) | (apply K_go ttok; exact rfl) | (apply AW_condA; exact rfl; (first | with_reducible assumption | decide +kernel)) | (apply AL_shr; exact rfl; exact rfl; (first | with_reducible assumption | decide +kernel | exact Int.natCast_nonneg _ | (exact (by decide)) | rotate_left); exact rfl) | (apply AL_shl; exact rfl; exact rfl; (first | with_reducible assumption | decide +kernel | exact Int.natCast_nonneg _ | (exact (by decide)) | rotate_left); exact rfl) | (apply AL_quo; exact rfl; exact rfl; (first | (exact (by decide)) | with_reducible assumption | decide +kernel | rotate_left); exact rfl) | (apply AL_rem; exact rfl; exact rfl; (first | (exact (by decide)) | with_reducible assumption | decide +kernel | rotate_left); exact rfl))
   refine Lands.mk' (m := f - 1) (by omega) ⟨i + 1, by omega, by rw [ht1], rfl, rfl⟩ ?_ rfl rfl rfl rfl rfl rfl
   exact .cons rfl (.cons rfl (.cons rfl (.cons rfl (.cons rfl .nil))))
 ·obtain rfl : i = 16 := by omega
  have hdl : decide (((16 : Nat) : Int) < 16) = false := decide_eq_false (by omega)
  rw [eN]
  rcases Nat.lt_or_ge N 65536 with hn | hn
  ·have hdn : decide ((N : Int) < 65536) = true := decide_eq_true (by omega)
   repeat' (first | (apply AL_callPw (hA); kernel_rfl; (iterate 4 exact rfl)) | (apply AL_go ttok; exact rfl) | (apply AW_go ttok; exact rfl) | (apply AW_condA; exact rfl; (first | with_reducible assumption | decide +kernel)) | (apply AW_condB; exact rfl; (first | with_reducible assumption | decide +kernel)))
   all_goals (apply endQ []; (apply resG_ok ttok; exact rfl); (iterate 4 exact rfl))
   all_goals rfl
  ·have hdn : decide ((N : Int) < 65536) = false := decide_eq_false (by omega)
   replace hRd := hRd hn
   repeat' (first | (apply AL_storeR ttok; (iterate 6 exact rfl); exact hcl; exact hst; exact rfl) | (apply AL_callPw (hA); kernel_rfl; (iterate 4 exact rfl)) | (apply AL_callPw (hN); kernel_rfl; (iterate 4 exact rfl)) | (apply AL_callL (b := 1) (hRd); kernel_rfl; exact rfl; (repeat (first | exact True.intro | exact LOk_bsl _ _ _ | apply LOk_agg | apply LOks_cons)); (iterate 3 exact rfl); (first | exact rfl | with_reducible assumption | rotate_left)) | (apply AL_idxB ttok; (iterate 6 exact rfl); (first | with_reducible assumption | exact Int.natCast_nonneg _ | exact Nat.le_of_ble_eq_true rfl | exact (by decide) | rotate_left); (first | with_reducible assumption | exact Nat.le_of_ble_eq_true rfl | exact (by decide) | rotate_left); exact rfl) | (apply AL_go ttok; exact rfl) | (apply AW_go ttok; exact rfl) | (apply AL_guardT; (iterate 3 exact rfl); (first | with_reducible assumption | decide +kernel)) | (apply AL_pickT; exact rfl; (first | with_reducible assumption | decide +kernel); exact rfl; exact rfl) | (apply AW_condB; exact rfl; (first | with_reducible assumption | decide +kernel)) | (apply AW_drawE 4 hmix; (decide +kernel); (kernel_rfl); (kernel_rfl); (kernel_rfl); exact rfl; exact rfl) | (apply AE_consZ; (iterate 4 exact rfl)) | exact AE.nil _ _ _ _ | (apply AEk_puT; exact rfl) | (apply AOt_mk; exact rfl; exact rfl; (decide +kernel); exact rfl) | (apply AO_puT; exact rfl) | exact AO.nil _ _ _ | (apply AOs_skip; (decide +kernel)) | exact AOs.nil | exact qY_ok rfl rfl)
   all_goals first | ((apply endQ []; (apply resG_ok ttok; exact rfl); (iterate 4 exact rfl))) | skip
   all_goals first | rfl
end Go.Proofs.YtfkmicjlaedlkaaDoor
end
section
open Go.RowKit Go.Pl Go.Av
namespace Go.Proofs.YtfkmicjlaedlkaaDoor
set_option maxHeartbeats 4000000
def fp1 : PriV := ⟨131072, 1, eidZ, eidZ, eidZ, 0, 0, 9⟩
def fp3 : PriV := ⟨1, 0, eidZ, eidZ, eidZ, 0, 0, 0⟩
abbrev fe0 : It := .mk 4 0 [] [.mk 0 1 [] [], .mk 0 0 [] []]
abbrev fx0 : List It := [.mk 0 7 [] [], .mk 0 0 [] [], .mk 0 0 [] [], fe0, fe0, fe0, .mk 4 0 [] [.mk 0 0 [] [], .mk 0 0 [] []], .mk 0 0 [] []]
abbrev fy1 : List It := [.mk 0 7 [] [], .mk 0 131072 [] [], .mk 0 1 [] [], fe0, fe0, fe0, .mk 4 0 [] [.mk 0 0 [] [], .mk 0 0 [] []], .mk 0 9 [] [], .mk 2 0 [125, 221] []]
abbrev fy2 : List It := [.mk 0 7 [] [], .mk 0 131072 [] [], .mk 0 1 [] [], fe0, fe0, fe0, .mk 4 0 [] [.mk 0 0 [] [], .mk 0 0 [] []], .mk 0 8 [] [], .mk 2 0 [125, 221] []]
theorem fa1 : writeP pr0 = (.mk 4 0 [] fx0, 0) := by kernel_rfl
theorem fa2 : readP (.mk 4 0 [] fx0) = (pr0, 0) := by kernel_rfl
theorem fa3 : (outL 1 (listP fp1)).l = fy1 := by kernel_rfl
theorem fa4 : readP (.mk 4 0 [] fy1) = (fp1, 0) := by kernel_rfl
theorem fa5 : readP (.mk 4 0 [] fy2) = (pr0, 10) := by kernel_rfl
theorem fa6 : writeP fp3 = (z0, 3) := by kernel_rfl
theorem fa7 : rightP fp1 = true := by kernel_rfl
theorem fa8 : (listP fp1).all rightI = true := by kernel_rfl
theorem fa9 : rightI (zeroL 1 (listP fp1)) = true := by kernel_rfl
theorem fa10 : rightI (outL 1 (listP fp1)) = true := by kernel_rfl
theorem wf_f {l : List It} (h1 : l.length <= 9) (h2 : wfs l) : wfI (.mk 4 0 [] l) := ⟨by decide, by simp, by omega, h2⟩
theorem av_alive6 [Known] [KnownU8] : AP Tryd.prog 16 [] (.bool true) [] := by
 have h1 := av_pWriteR pr0 (by decide)
 rw [fa1] at h1
 have h2 := av_pRead (.mk 4 0 [] fx0) (wf_f (by decide) (by simp [wfs, wfI])) (by decide) (lim_few (by decide +kernel))
 rw [fa2] at h2
 have h3 := av_pWriteB fp1 (by decide) 1 (.inl rfl) rfl fa7 (by decide +kernel) fa8 fa9 fa10
 rw [fa3] at h3
 have h4 := av_pRead (.mk 4 0 [] fy1) (wf_f (by decide) (by simp [wfs, wfI])) (by decide) (lim_few (by decide +kernel))
 rw [fa4] at h4
 have h5 := av_pRead (.mk 4 0 [] fy2) (wf_f (by decide) (by simp [wfs, wfI])) (by decide) (lim_few (by decide +kernel))
 rw [fa5] at h5
 have h6 := av_pWriteR fp3 (by decide)
 rw [fa6] at h6
 have hN := av_num 8
 have hst : spliceE (flat (itEs fy1)) 28 [.int .i64 0, .int .u64 8, .sl [], .sl []] = flat (itEs fy2) := rfl
 refine AP.ofA ?_
 refine AC_of Tryd.func16 rfl Tryd.ntmps16 rfl rfl ?_
 repeat' (first | (apply AL_storeR ttok; (iterate 6 exact rfl); exact Nat.le_of_ble_eq_true rfl; exact hst; exact rfl) | (apply AL_callPw (h1); kernel_rfl; (iterate 4 exact rfl)) | (apply AL_callPw (h2); kernel_rfl; (iterate 4 exact rfl)) | (apply AL_callF (h3); kernel_rfl; exact rfl; exact rfl; exact (fun _ => rfl); exact (fun _ => rfl); intro c1 hc1) | (apply AL_callL (b := 2) (h4); kernel_rfl; exact rfl; (repeat (first | exact True.intro | exact LOk_bsl _ _ _ | apply LOk_agg | apply LOks_cons)); (iterate 3 exact rfl); (first | exact rfl | with_reducible assumption | rotate_left)) | (apply AL_callL (b := 2) (h5); kernel_rfl; exact rfl; (repeat (first | exact True.intro | exact LOk_bsl _ _ _ | apply LOk_agg | apply LOks_cons)); (iterate 3 exact rfl); (first | exact rfl | with_reducible assumption | rotate_left)) | (apply AL_callPw (h6); kernel_rfl; (iterate 4 exact rfl)) | (apply AL_callPw (hN); kernel_rfl; (iterate 4 exact rfl)) | (apply AL_lenB ttok; (iterate 4 exact rfl)) | (apply AL_idxB ttok; (iterate 6 exact rfl); (first | with_reducible assumption | exact Int.natCast_nonneg _ | exact Nat.le_of_ble_eq_true rfl | exact (by decide) | rotate_left); (first | with_reducible assumption | exact Nat.le_of_ble_eq_true rfl | exact (by decide) | rotate_left); exact rfl) | (apply AL_loadR1 ttok; (iterate 7 exact rfl)) | (apply AL_go ttok; exact rfl) | (apply AW_go ttok; exact rfl) | (apply K_go ttok; exact rfl) | (apply AL_guardT; (iterate 3 exact rfl); (first | with_reducible assumption | decide +kernel)) | (apply AL_pickT; exact rfl; (first | with_reducible assumption | decide +kernel); exact rfl; exact rfl) | (apply AL_pickF; exact rfl; (first | with_reducible assumption | decide +kernel); exact rfl; exact rfl) | (apply AW_condB; exact rfl; (first | with_reducible assumption | decide +kernel)) | (apply AL_len ttok; (iterate 4 exact rfl)) | (apply AL_eqS ttok; (iterate 4 exact rfl); (kernel_rfl); (kernel_rfl); (iterate 3 exact rfl)) | (apply AW_drawE 3 hmix; (decide +kernel); (kernel_rfl); (kernel_rfl); (kernel_rfl); exact rfl; exact rfl) | (apply AE_consZ; (iterate 4 exact rfl)) | exact AE.nil _ _ _ _ | (apply AEk_puT; exact rfl) | (apply AOt_mk; exact rfl; exact rfl; (decide +kernel); exact rfl) | (apply AO_puT; exact rfl) | exact AO.nil _ _ _ | (apply AOs_skip; (decide +kernel)) | exact AOs.nil | exact qY_ok rfl rfl)
 all_goals first | ((apply endQ []; (apply resG_ok ttok; exact rfl); (iterate 4 exact rfl))) | skip
 all_goals first | rfl
end Go.Proofs.YtfkmicjlaedlkaaDoor
end
section
open Go.RowKit Go.Pl Go.Av
namespace Go.Proofs.YtfkmicjlaedlkaaDoor
set_option maxHeartbeats 4000000
def greatP (p : PriV) : Bool := decide (IntKind.i64.wrap (IntKind.i64.wrap (IntKind.i64.wrap ((p.dest.h.length : Int) + (p.dest.d.length : Int)) + (p.rep.h.length : Int)) + (p.rep.d.length : Int)) > 300) || decide (IntKind.i64.wrap ((p.src.h.length : Int) + (p.src.d.length : Int)) > 300)
theorem av_great6 [Known] (p : PriV) : AP Tryd.prog 24 [.agg (prC p)] (.bool (greatP p)) [] := by
 have hI := av_greatN p.src p.t p.q
 unfold greatP
 obtain ⟨fl, sum, ⟨di, dn, ds, dh, dd⟩, ⟨ri, rn, rs, rh, rd⟩, ⟨xi, xn, xs, xh, xd⟩, t, q, life⟩ := p
 try dsimp only at *
 generalize (IntKind.i64.wrap ((xh.length : Int) + (xd.length : Int))) = w2 at *
 cases t1 : decide (IntKind.i64.wrap (IntKind.i64.wrap (IntKind.i64.wrap ((dh.length : Int) + (dd.length : Int)) + (rh.length : Int)) + (rd.length : Int)) > 300) <;> cases t2 : decide (w2 > 300)
 all_goals
  rw [t2] at hI
  refine AP.ofA ?_
  refine AC_of Tryd.func24 rfl Tryd.ntmps24 rfl rfl ?_
  repeat' (first | (apply AL_callPw (hI); kernel_rfl; (iterate 4 exact rfl)) | (apply AL_go ttok; exact rfl) | (apply AW_go ttok; exact rfl) | (apply AL_guardT; (iterate 3 exact rfl); (first | with_reducible assumption | decide +kernel)) | (apply AL_guardFf; (iterate 3 exact rfl); (first | with_reducible assumption | decide +kernel)) | (apply AL_pickT; exact rfl; (first | with_reducible assumption | decide +kernel); exact rfl; exact rfl) | (apply AL_pickF; exact rfl; (first | with_reducible assumption | decide +kernel); exact rfl; exact rfl) | (apply AL_lens ttok; (iterate 4 exact rfl)))
  all_goals (apply endQ []; (apply resG_ok ttok; exact rfl); (iterate 4 exact rfl))
  all_goals rfl
end Go.Proofs.YtfkmicjlaedlkaaDoor
end
section
open Go.RowKit Go.Pl Go.Av
namespace Go.Proofs.YtfkmicjlaedlkaaDoor
set_option maxHeartbeats 4000000
theorem right_life {p : PriV} (h : rightP p = true) {N : Nat} (hN : N < 4294967296) : rightP { p with life := N } = true := by
 unfold rightP at h ⊢
 simp only [Bool.and_eq_true, decide_eq_true_eq] at h ⊢
 obtain ⟨a1, a2, a3, a4, a5, a6, a7⟩ := h
 exact ⟨a1, a2, a3, a4, a5, a6, by omega⟩
theorem av_readT [Known] [KnownU8] {q : PriV} (hr : rightP q = true) (hfl : q.fl < 18446744073709551616) {s N b k0 : Nat} (hs : s = 1 \/ s = 2) (hps : q.sum = (s : Int)) (hL1 : 65536 <= q.life) (hL2 : q.life < 4294967296) (hk : k0 <= 15) (hb0 : b ≠ 0) (hb : b < 65536) (eN : trN b k0 16 q.life = N) (hN : 65536 <= N) :
  AP Tryd.prog 26 [itD (.mk 4 0 [] (listT q N ++ [.mk 2 0 (sumB s (putI (zeroL s (listP q)))) []]))] (prD (pr0, 10)) [] := by
 have hNl : N < 4294967296 := by rw [<- eN]; exact tr_lt hk hL2 16 (by omega)
 have hr' := right_life hr hNl
 have hw' : wfs (listT q N) := wfs_P (p := { q with life := N }) hr' hfl
 have hpl : (puts (listT q N)).length <= 1000000 := puts_listP (p := { q with life := N }) hr'
 have hBl := sumB_len s (putI (zeroL s (listP q))) hs
 have hne : sumB s (putI (zeroL s (listP q))) ≠ sumB s (putI (zeroL s (listT q N))) := by
  have h1 := tr_swp (by_ := b) (a := k0) (n := q.life) hk 16 (by omega)
  rw [eN, Nat.mod_eq_of_lt (by show b < 65536; exact hb)] at h1
  have h2 : swp q.life ^^^ swp N = b <<< k0 := by rw [h1, <- Nat.xor_assoc, Nat.xor_self, Nat.zero_xor]
  exact sum_turned (p := q) hs hL1 hL2 hN hNl hk hb0 hb h2
 generalize sumB s (putI (zeroL s (listP q))) = B at *
 have hB : (putI (.mk 2 0 B [])).length <= 20 := by
  have h0 := put_small 2 0 B []
  simp only [puts, List.length_nil, Nat.add_zero] at h0
  omega
 have hall : (putI (.mk 4 0 [] (listT q N ++ [.mk 2 0 B []]))).length <= 900000000 := by
  have h0 := put_small 4 0 [] (listT q N ++ [.mk 2 0 B []])
  rw [puts_appP] at h0
  simp only [puts, List.length_append, List.length_nil, Nat.add_zero, Nat.zero_add] at h0
  omega
 have hwB : wfI (.mk 2 0 B []) := ⟨by decide, by omega, by simp, trivial⟩
 have hlen : (listT q N ++ [It.mk 2 0 B []]).length = 9 := by simp [listT]
 have hwf : wfI (.mk 4 0 [] (listT q N ++ [.mk 2 0 B []])) := wf_f (by omega) (wfs_app hw' ⟨hwB, trivial⟩)
 have hlm := lim_few hall
 have htr := turned_read hr hs hps hBl hne
 generalize listT q N ++ [It.mk 2 0 B []] = Y at *
 have h := av_pRead (.mk 4 0 [] Y) hwf (by show Y.length <= _; omega) hlm
 rw [htr] at h
 exact h
theorem av_turned [Known] [KnownU8] (p : PriV) (b : Nat) (a0 : UInt8) (hfl : p.fl < 18446744073709551616) (hb : b < 65536) : AP Tryd.prog 6 [.agg (prC p), .int .u16 (b : Int), .int .u8 (a0.toNat : Int)] (.bool true) [] := by
 obtain ⟨s, hs, es⟩ := sum_of p.sum
 obtain ⟨L, hL1, hL2, eL⟩ := life_of p.life
 obtain ⟨k0, hk0, ek⟩ := at15 a0
 have hA := av_alive6
 have hG := av_great6 { p with sum := s, life := L }
 have hR := av_pRight { p with sum := s, life := L }
 cases hall : (!greatP { p with sum := s, life := L } && (rightP { p with sum := s, life := L } && !((b : Int) == 0))) with
 | false =>
  obtain ⟨fl, sum, ⟨di, dn, ds, dh, dd⟩, ⟨ri, rn, rs, rh, rd⟩, ⟨xi, xn, xs, xh, xd⟩, t, q, life⟩ := p
  exact pt_e _ _ _ _ _ _ _ _ _ _ _ _ _ _ _ _ _ _ _ _ _ _ _ _ _ _ _ es eL hA hG hR rfl hall
 | true =>
  simp only [Bool.and_eq_true, Bool.not_eq_true'] at hall
  obtain ⟨hg, hr, hz⟩ := hall
  rw [hg] at hG
  have hW := av_pWriteB { p with sum := s, life := L } hfl s hs rfl hr (lim_P hr s hs) (all_T hr L) (right_T hr L _) (right_T hr L _)
  have hb0 : b ≠ 0 := by
   intro e
   rw [e] at hz
   cases hz
  have hRd := fun h => av_readT (q := { p with sum := s, life := L }) hr hfl hs rfl (by show 65536 <= L; omega) hL2 hk0 hb0 hb rfl h
  rw [hr] at hR
  have hN := av_num (trN b k0 16 L)
  obtain ⟨fl, sum, ⟨di, dn, ds, dh, dd⟩, ⟨ri, rn, rs, rh, rd⟩, ⟨xi, xn, xs, xh, xd⟩, t, q, life⟩ := p
  refine pt_m _ _ _ _ _ _ _ _ _ _ _ _ _ _ _ _ _ _ _ _ b hb a0 s L k0 _ (trN b k0 16 L) _ es eL ek hk0 (by omega) hL2 hA hG hR hz hW rfl hN ?_ ?_ ?_ hRd
  ·dsimp only [outL, listP, listT, It.l]
   generalize sumB s _ = B
   generalize itemE ⟨di, dn, ds, dh, dd⟩ = I1
   generalize itemE ⟨ri, rn, rs, rh, rd⟩ = I2
   generalize itemE ⟨xi, xn, xs, xh, xd⟩ = I3
   obtain ⟨ak, an, ab, al⟩ := I1
   obtain ⟨bk, bn, bb, bl⟩ := I2
   obtain ⟨ck, cn, cb, cl⟩ := I3
   rfl
  ·dsimp only [outL, listP, listT, It.l]
   generalize sumB s _ = B
   generalize itemE ⟨di, dn, ds, dh, dd⟩ = I1
   generalize itemE ⟨ri, rn, rs, rh, rd⟩ = I2
   generalize itemE ⟨xi, xn, xs, xh, xd⟩ = I3
   obtain ⟨ak, an, ab, al⟩ := I1
   obtain ⟨bk, bn, bb, bl⟩ := I2
   obtain ⟨ck, cn, cb, cl⟩ := I3
   exact Nat.le_of_ble_eq_true rfl
  ·rw [itEs_len]
   simp [listT]
end Go.Proofs.YtfkmicjlaedlkaaDoor
end
section
open Go.RowKit Go.Pl
namespace Go.Pl
def OpensF {α : Type} (P : Program) (fs : Array Field) (i o : Nat) (R : Rep α) : Prop :=
 ∀ (H : Type) (enc : TypeId × Value -> H) (W : World) (spare : Nat -> Bool) (held : Bool) (n : Nat) (cs : List Value) (xs : List (DataW H × List MemPlace)), cs.length = o + R.n -> xs.length = fs.size ->
  (∀ (j : Nat) (f : Field), fs[j]? = some f -> DataW.trod enc P W 0 spare held n f.type ((cs.drop f.offset).take (P.cellsOf f.type)) = xs[j]?) -> ∃ x, R.ok W (· < W.heap.size) (cs.drop o) x
variable {P : Program} {t : TypeId} {fs : Array Field}
theorem opensF_at {α : Type} {R : Rep α} {i o : Nat} {f : Field} (hf : fs[i]? = some f) (ho : f.offset = o) (hc : P.cellsOf f.type = R.n) (h : Opens P f.type R) {H : Type} {enc : TypeId × Value -> H} {W : World} {spare : Nat -> Bool} {held : Bool} {n : Nat} {cs : List Value} {xs : List (DataW H × List MemPlace)} (hl : xs.length = fs.size)
  (hg : ∀ (j : Nat) (f : Field), fs[j]? = some f -> DataW.trod enc P W 0 spare held n f.type ((cs.drop f.offset).take (P.cellsOf f.type)) = xs[j]?) : ∃ x, R.ok W (· < W.heap.size) ((cs.drop o).take R.n) x := by
 have e := hg i f hf
 rw [ho, hc] at e
 have hi : i < xs.length := by
  rw [hl]
  exact (Array.getElem?_eq_some_iff.1 hf).1
 exact h H enc W spare held n _ _ (e.trans (List.getElem?_eq_getElem hi))
theorem opensF_one {α : Type} {R : Rep α} {i o : Nat} {f : Field} (hf : fs[i]? = some f) (ho : f.offset = o) (hc : P.cellsOf f.type = R.n) (h : Opens P f.type R) : OpensF P fs i o R := by
 intro H enc W spare held n cs xs hcl hl hg
 obtain ⟨x, hx⟩ := opensF_at hf ho hc h hl hg
 rw [List.take_of_length_le (by rw [List.length_drop]; omega)] at hx
 exact ⟨x, hx⟩
theorem opensF_cons {α β : Type} {R : Rep α} {R' : Rep β} {i o : Nat} {f : Field} (hf : fs[i]? = some f) (ho : f.offset = o) (hc : P.cellsOf f.type = R.n) (h : Opens P f.type R) (h' : OpensF P fs (i + 1) (o + R.n) R') : OpensF P fs i o (R.prod R') := by
 intro H enc W spare held n cs xs hcl hl hg
 obtain ⟨x, hx⟩ := opensF_at hf ho hc h hl hg
 have hn : (R.prod R').n = R.n + R'.n := rfl
 obtain ⟨x', hx'⟩ := h' H enc W spare held n cs xs (by rw [hn] at hcl; omega) hl hg
 refine ⟨(x, x'), (cs.drop o).take R.n, (cs.drop o).drop R.n, (List.take_append_drop _ _).symm, hx, ?_⟩
 rw [List.drop_drop]
 exact hx'
theorem opens_struct {α : Type} {R : Rep α} (hs : P.underlying t = some (.struct fs)) (hc : P.cellsOf t = R.n) (h : OpensF P fs 0 0 R) : Opens P t R := by
 intro H enc W spare held fuel cs y hy
 obtain ⟨xs, n, _, _, hl, hxl, hg⟩ := DataW.trod_struct hs hy
 exact h H enc W spare held n cs xs (by omega) hxl hg
end Go.Pl
end
section
open Go.RowKit Go.Pl Go.Av
namespace Go.Proofs.YtfkmicjlaedlkaaDoor
set_option maxHeartbeats 4000000
abbrev RPr : Rep (Nat × Int × XE × XE × (XE × Nat × Nat) × Nat) := Rep.u64.prod (Rep.i64.prod (RE.prod (RE.prod (Go.Pl.RI.prod Rep.u64))))
theorem openPr : Opens Tryd.prog 55 RPr :=
 opens_struct Tryd.underlying55 (by kernel_rfl) (opensF_cons rfl rfl (by kernel_rfl) (opens_u64 Tryd.underlying22) (opensF_cons rfl rfl (by kernel_rfl) (opens_i64 Tryd.underlying3)
  (opensF_cons rfl rfl (by kernel_rfl) openE (opensF_cons rfl rfl (by kernel_rfl) openE (opensF_cons rfl rfl (by kernel_rfl) openI (opensF_one rfl rfl (by kernel_rfl) (opens_u64 Tryd.underlying22)))))))
abbrev XPr := Nat × Int × XE × XE × (XE × Nat × Nat) × Nat
def XPr.v (x : XPr) : PriV := ⟨x.1, x.2.1, x.2.2.1.v, x.2.2.2.1.v, x.2.2.2.2.1.1.v, x.2.2.2.2.1.2.1, x.2.2.2.2.1.2.2, x.2.2.2.2.2⟩
theorem pr_V [Known] {W : World} {cs : List Value} {x : XPr} (h : RPr.ok W (· < W.heap.size) cs x) : V W (g0 W) [] (.agg (prC x.v)) (.agg cs.toArray) := by
 obtain ⟨fl, sum, ⟨di, dn, ds, dh, dd⟩, ⟨ri, rn, rs, rh, rd⟩, ⟨⟨xi, xn, xs, xh, xd⟩, t, q⟩, life⟩ := x
 have te := ToE.u64.prod (ToE.i64.prod (toE_eid.prod (toE_eid.prod ((toE_eid.prod (ToE.u64.prod ToE.u64)).prod ToE.u64))))
 exact ToE.agg te (l := [.int .u64 (fl : Int), .int .i64 sum, .bool di, .int .u64 (dn : Int), .int .u64 (ds : Int), .str dh, .str dd, .bool ri, .int .u64 (rn : Int), .int .u64 (rs : Int), .str rh, .str rd, .bool xi, .int .u64 (xn : Int), .int .u64 (xs : Int), .str xh, .str xd, .int .u64 (t : Int), .int .u64 (q : Int), .int .u64 (life : Int)]) rfl h
theorem pr_fl {W : World} {cs : List Value} {x : XPr} (h : RPr.ok W (· < W.heap.size) cs x) : x.v.fl < 18446744073709551616 := by
 obtain ⟨fl, r⟩ := x
 obtain ⟨_, _, _, ⟨_, h1⟩, _⟩ := h
 exact h1
end Go.Proofs.YtfkmicjlaedlkaaDoor
end
