/- Items over abstract states: what is put together. -/
import Derived.Test.YtfkmicjlaedlkaaDoorG09
import Derived.Test.YtfkmicjlaedlkaaDoorG10
import Derived.Recover
set_option linter.unusedVariables false
set_option linter.unusedSimpArgs false
section
open Go.RowKit Go.Pl Go.Av
namespace Go.Proofs.YtfkmicjlaedlkaaDoor
set_option maxHeartbeats 4000000
theorem It.ind {P : It -> Prop} (h : ∀ k n b l, (∀ y ∈ l, P y) -> P (.mk k n b l)) : ∀ x, P x := by
 intro x
 refine It.rec (motive_1 := P) (motive_2 := fun l => ∀ y ∈ l, P y) (fun k n b l ih => h k n b l ih) (by simp) (fun x l hx hl y hy => ?_) x
 rcases List.mem_cons.1 hy with rfl | hy
 ·exact hx
 ·exact hl y hy
mutual
def itE : It -> E
 | .mk k n b l => .agg [.int .i64 k, .int .u64 (n : Int), .sl (b.map E.byte), .sl (itEs l)]
def itEs : List It -> List E
 | [] => []
 | x :: l => itE x :: itEs l
end
theorem itEs_map : ∀ l : List It, itEs l = l.map itE
 | [] => rfl
 | x :: l => by rw [itEs, List.map_cons, itEs_map l]
theorem itEs_app (a b : List It) : itEs (a ++ b) = itEs a ++ itEs b := by rw [itEs_map, itEs_map, itEs_map, List.map_append]
theorem itEs_len (l : List It) : (itEs l).length = l.length := by rw [itEs_map, List.length_map]
abbrev itC (k : Int) (n : Nat) (b : List UInt8) (l : List It) : List D := [.int .i64 k, .int .u64 (n : Int), byE b, .sl .ext (itEs l)]
def itD : It -> D
 | .mk k n b l => .agg (itC k n b l)
theorem itE_cells (x : It) : (itE x).cells.length = 4 := by obtain ⟨k, n, b, l⟩ := x; rfl
theorem uniI (l : List It) : Uni 4 (itEs l) := by rw [itEs_map]; exact Uni.map itE_cells l
theorem wfs_mem : ∀ {l : List It}, wfs l -> ∀ y ∈ l, wfI y
 | x :: l, ⟨h1, h2⟩, y, hy => by
  rcases List.mem_cons.1 hy with rfl | hy
  ·exact h1
  ·exact wfs_mem h2 y hy
theorem av_copied [Known] : ∀ (x : It), wfI x -> AP Tryd.prog 42 [itD x] (itD x) [] := by
 refine It.ind fun k n b l ih hw => ?_
 obtain ⟨hn, hb, hl, hws⟩ := hw
 have ih' : ∀ y ∈ l, AP Tryd.prog 42 [itD y] (itD y) [] := fun y hy => ih y hy (wfs_mem hws y hy)
 clear ih
 have hlen := itEs_len l
 refine AP.ofA ?_
 refine AC_of Tryd.func42 rfl Tryd.ntmps42 rfl rfl ?_
 repeat' (first | (apply AL_callPw (av_cloneB b hb); kernel_rfl; (iterate 4 exact rfl)) | (apply AL_go ttok; exact rfl) | (apply AW_go ttok; exact rfl) | (apply AL_len ttok; (iterate 4 exact rfl)))
 refine AW_loopJ (fun k' tm bx fr => ∃ (i c : Nat) (L : List E), k' + i = l.length /\ c = L.length /\ L = itEs (l.take i) /\ tm = [(1, .ptr 0 0), (2, .ptr 1 0), (13, .sl .ext (itEs l)), (14, .int .i64 ((itEs l).length : Int)), (15, .int .i64 (i : Int))] /\
  ((i = 0 /\ bx = [[.int .i64 k, .int .u64 (n : Int), byE b, .sl .nil []], [.int .i64 0, .int .u64 0, .sl .nil [], .sl .nil []]] /\ fr = []) \/
  (bx = [[.int .i64 k, .int .u64 (n : Int), byE b, .sl (.own 0) L], [.int .i64 0, .int .u64 0, .sl .nil [], .sl .nil []]] /\ fr = [⟨c, 4, 27⟩]))) (l.length + 1) (Lands.mk' (m := l.length) (Nat.lt_succ_self _) ⟨0, 0, [], rfl, rfl, rfl, rfl, .inl ⟨rfl, rfl, rfl⟩⟩ ?_ rfl rfl rfl rfl rfl rfl) ?_
 ·exact .cons rfl (.cons rfl (.cons rfl (.cons rfl (.cons rfl .nil))))
 rintro k' tm bx fr ⟨i, c, L, hi, hc, hL, rfl, ⟨rfl, rfl, rfl⟩ | ⟨rfl, rfl⟩⟩
 ·cases l with
  | nil =>
   repeat' (first | (apply AW_go ttok; exact rfl) | (apply AW_condB; exact rfl; (first | with_reducible assumption | decide +kernel)))
   all_goals (apply endQ []; (apply resG_ok ttok; exact rfl); (iterate 4 exact rfl))
   all_goals rfl
  | cons y l =>
   have hc := ih' y (List.mem_cons_self ..)
   have hU := uniI (y :: l)
   have hd : decide (((0 : Nat) : Int) < ((itEs (y :: l)).length : Int)) = true := decide_eq_true (by rw [itEs]; simp)
   obtain ⟨k1, n1, b1, l1⟩ := y
   repeat' (first | (apply AL_callPw (hc); kernel_rfl; (iterate 4 exact rfl)) | (apply AL_append_nilZ ttok; (iterate 6 exact rfl); exact uniB_ok rfl; exact List.cons_ne_nil _ _; exact rfl; decide +kernel; decide +kernel; (iterate 3 exact rfl)) | (apply AL_go ttok; exact rfl) | (apply AW_go ttok; exact rfl) | (apply K_go ttok; exact rfl) | (apply AW_condA; exact rfl; (first | with_reducible assumption | decide +kernel)) | (apply AL_bsZ ttok; (iterate 12 exact rfl)) | (apply AW_drawE 5 hmix; (decide +kernel); (kernel_rfl); (kernel_rfl); (kernel_rfl); exact rfl; exact rfl) | (apply AE_consZ; (iterate 4 exact rfl)) | exact AE.nil _ _ _ _ | (apply AEk_puT; exact rfl) | (apply AOt_mk; exact rfl; exact rfl; (decide +kernel); exact rfl) | (apply AO_puT; exact rfl) | exact AO.nil _ _ _ | (apply AOs_skip; (decide +kernel)) | exact AOs.nil | exact qY_ok rfl rfl | exact qY_wk rfl rfl rfl rfl rfl | (apply AL_idx ttok; (iterate 6 exact rfl); (first | with_reducible assumption | decide +kernel | exact Int.natCast_nonneg _ | (guard_target = (0:Int) <= (OfNat.ofNat _ : Int); decide) | rotate_left); (first | with_reducible assumption | decide +kernel | exact rfl); (first | exact uniB_ok rfl | with_reducible assumption | decide +kernel | rotate_left)))
   refine Lands.mk' (m := k' - 1) (by simp at hi; omega) ⟨1, 1, itEs [It.mk k1 n1 b1 l1], by simp at hi ⊢; omega, rfl, rfl, rfl, .inr ⟨rfl, rfl⟩⟩ ?_ rfl rfl rfl rfl rfl rfl
   exact .cons rfl (.cons rfl (.cons rfl (.cons rfl (.cons rfl .nil))))
 ·have hU := uniI l
  have hU2 : Uni 4 L := hL ▸ uniI (l.take i)
  have el := itEs_len (l.take i)
  rw [<- hL] at el
  subst hc
  rcases Nat.lt_or_ge i l.length with hlt | hge
  ·have hd : decide ((i : Int) < ((itEs l).length : Int)) = true := decide_eq_true (by omega)
   obtain ⟨⟨k1, n1, b1, l1⟩, hy⟩ : ∃ y, l[i]? = some y := ⟨_, List.getElem?_eq_getElem hlt⟩
   have hv : (itEs l)[((i : Nat) : Int).toNat]? = some (.agg [.int .i64 k1, .int .u64 (n1 : Int), .sl (b1.map E.byte), .sl (itEs l1)]) := by
    rw [Int.toNat_natCast, itEs_map, List.getElem?_map, hy]; rfl
   have hc := ih' _ (List.mem_of_getElem? hy)
   have ei : IntKind.i64.wrap ((i : Int) + 1) = ((i + 1 : Nat) : Int) := by rw [IntWalk.i64_in _ (by omega)]; omega
   have hs : L ++ [E.agg [.int .i64 k1, .int .u64 (n1 : Int), .sl (b1.map E.byte), .sl (itEs l1)]] = itEs (l.take (i + 1)) := by
    rw [hL, List.take_add_one, hy]; exact (itEs_app _ [It.mk k1 n1 b1 l1]).symm
   rw [List.length_take] at el
   repeat' (first | (apply AL_callPw (hc); kernel_rfl; (iterate 4 exact rfl)) | rw [ei] | (apply AL_go ttok; exact rfl) | (apply AW_go ttok; exact rfl) | (apply K_go ttok; exact rfl) | (apply AW_condA; exact rfl; (first | with_reducible assumption | decide +kernel)) | (apply AL_bsZ ttok; (iterate 12 exact rfl)) | (apply AW_drawE 5 hmix; (decide +kernel); (kernel_rfl); (kernel_rfl); (kernel_rfl); exact rfl; exact rfl) | (apply AE_consZ; (iterate 4 exact rfl)) | exact AE.nil _ _ _ _ | (apply AEk_puT; exact rfl) | (apply AOt_mk; exact rfl; exact rfl; (decide +kernel); exact rfl) | (apply AO_puT; exact rfl) | exact AO.nil _ _ _ | (apply AOs_skip; (decide +kernel)) | exact AOs.nil | exact qY_ok rfl rfl | exact qY_wk rfl rfl rfl rfl rfl | (apply AL_append ttok; (iterate 6 exact rfl); (first | with_reducible assumption | decide +kernel | exact rfl | rotate_left); exact rfl; exact rfl; (first | exact uniB_ok rfl | with_reducible assumption | decide +kernel | rotate_left); (first | exact uniB_ok rfl | with_reducible assumption | decide +kernel | rotate_left); (first | exact List.cons_ne_nil _ _ | with_reducible assumption | decide +kernel | rotate_left); (first | with_reducible assumption | decide +kernel | rotate_left); (first | with_reducible assumption | decide +kernel | rotate_left); exact rfl; exact rfl) | (apply AL_idx ttok; (iterate 6 exact rfl); (first | with_reducible assumption | decide +kernel | exact Int.natCast_nonneg _ | (guard_target = (0:Int) <= (OfNat.ofNat _ : Int); decide) | rotate_left); (first | with_reducible assumption | decide +kernel | exact rfl); (first | exact uniB_ok rfl | with_reducible assumption | decide +kernel | rotate_left)))
   ·refine Lands.mk' (m := k' - 1) (by omega) ⟨i + 1, L.length + 1, _, by omega, by rw [List.length_append]; rfl, hs, rfl, .inr ⟨rfl, rfl⟩⟩ ?_ rfl rfl rfl rfl rfl rfl
    exact .cons rfl (.cons rfl (.cons rfl (.cons rfl (.cons rfl .nil))))
   all_goals (first | rfl | (simp only [List.length_append, List.length_cons, List.length_nil, List.length_map, itEs_len]; done) | (simp only [List.length_append, List.length_cons, List.length_nil, List.length_map, itEs_len] at *; (try unfold maxLen); (try simp only [Nat.add_mul]); omega))
  ·have hd : decide ((i : Int) < ((itEs l).length : Int)) = false := decide_eq_false (by omega)
   rw [List.take_of_length_le hge] at hL
   subst hL
   repeat' (first | (apply AW_go ttok; exact rfl) | (apply AW_condB; exact rfl; (first | with_reducible assumption | decide +kernel)))
   all_goals (apply endQ []; (apply resG_ok ttok; exact rfl); (iterate 4 exact rfl))
   all_goals rfl
theorem av_num [Known] (n : Nat) : AP Tryd.prog 13 [.int .u64 (n : Int)] (itD (.mk 0 n [] [])) [] := by
 refine AP.ofA ?_
 refine AC_of Tryd.func13 rfl Tryd.ntmps13 rfl rfl ?_
 repeat' (first | (apply AW_go ttok; exact rfl))
 all_goals (apply endQ []; (apply resG_ok ttok; exact rfl); (iterate 4 exact rfl))
 all_goals rfl
theorem av_text [Known] (b : List UInt8) : AP Tryd.prog 14 [.str b] (itD (.mk 3 0 b [])) [] := by
 refine AP.ofA ?_
 refine AC_of Tryd.func14 rfl Tryd.ntmps14 rfl rfl ?_
 repeat' (first | (apply AL_s2b ttok; (iterate 8 exact rfl)) | (apply AL_go ttok; exact rfl) | (apply AW_go ttok; exact rfl))
 all_goals (apply endQ []; (apply resG_ok ttok; exact rfl); (iterate 4 exact rfl))
 all_goals rfl
theorem av_bytes [Known] (b : List UInt8) (hb : b.length <= 140737488351232) : AP Tryd.prog 11 [byE b] (itD (.mk 2 0 b [])) [] := by
 refine AP.ofA ?_
 refine AC_of Tryd.func11 rfl Tryd.ntmps11 rfl rfl ?_
 repeat' (first | (apply AL_callPw (av_cloneB b hb); kernel_rfl; (iterate 4 exact rfl)) | (apply AL_go ttok; exact rfl) | (apply AW_go ttok; exact rfl))
 all_goals (apply endQ []; (apply resG_ok ttok; exact rfl); (iterate 4 exact rfl))
 all_goals rfl
theorem av_list [Known] (l : List It) (hl : l.length <= 2199023255488) (hws : wfs l) : AP Tryd.prog 12 [.sl .ext (itEs l)] (itD (.mk 4 0 [] l)) [] := by
 have ih' : ∀ y ∈ l, AP Tryd.prog 42 [itD y] (itD y) [] := fun y hy => av_copied y (wfs_mem hws y hy)
 have hlen := itEs_len l
 refine AP.ofA ?_
 refine AC_of Tryd.func12 rfl Tryd.ntmps12 rfl rfl ?_
 repeat' (first | (apply AL_go ttok; exact rfl) | (apply AW_go ttok; exact rfl) | (apply AL_len ttok; (iterate 4 exact rfl)))
 refine AW_loopJ (fun k' tm bx fr => ∃ (i c : Nat) (L : List E), k' + i = l.length /\ c = L.length /\ L = itEs (l.take i) /\ tm = [(3, .ptr 1 0), (2, .ptr 0 0), (7, .sl .ext (itEs l)), (8, .int .i64 ((itEs l).length : Int)), (9, .int .i64 (i : Int))] /\
  ((i = 0 /\ bx = [[.int .i64 0, .int .u64 0, .sl .nil [], .sl .nil []], [.int .i64 4, .int .u64 0, .sl .nil [], .sl .nil []]] /\ fr = []) \/
  (bx = [[.int .i64 0, .int .u64 0, .sl .nil [], .sl .nil []], [.int .i64 4, .int .u64 0, .sl .nil [], .sl (.own 0) L]] /\ fr = [⟨c, 4, 27⟩]))) (l.length + 1) (Lands.mk' (m := l.length) (Nat.lt_succ_self _) ⟨0, 0, [], rfl, rfl, rfl, rfl, .inl ⟨rfl, rfl, rfl⟩⟩ ?_ rfl rfl rfl rfl rfl rfl) ?_
 ·exact .cons rfl (.cons rfl (.cons rfl (.cons rfl (.cons rfl .nil))))
 rintro k' tm bx fr ⟨i, c, L, hi, hc, hL, rfl, ⟨rfl, rfl, rfl⟩ | ⟨rfl, rfl⟩⟩
 ·cases l with
  | nil =>
   repeat' (first | (apply AW_go ttok; exact rfl) | (apply AW_condB; exact rfl; (first | with_reducible assumption | decide +kernel)))
   all_goals (apply endQ []; (apply resG_ok ttok; exact rfl); (iterate 4 exact rfl))
   all_goals rfl
  | cons y l =>
   have hc := ih' y (List.mem_cons_self ..)
   have hU := uniI (y :: l)
   have hd : decide (((0 : Nat) : Int) < ((itEs (y :: l)).length : Int)) = true := decide_eq_true (by rw [itEs]; simp)
   obtain ⟨k1, n1, b1, l1⟩ := y
   repeat' (first | (apply AL_callPw (hc); kernel_rfl; (iterate 4 exact rfl)) | (apply AL_append_nilZ ttok; (iterate 6 exact rfl); exact uniB_ok rfl; exact List.cons_ne_nil _ _; exact rfl; decide +kernel; decide +kernel; (iterate 3 exact rfl)) | (apply AL_go ttok; exact rfl) | (apply AW_go ttok; exact rfl) | (apply K_go ttok; exact rfl) | (apply AW_condA; exact rfl; (first | with_reducible assumption | decide +kernel)) | (apply AL_bsZ ttok; (iterate 12 exact rfl)) | (apply AW_drawE 5 hmix; (decide +kernel); (kernel_rfl); (kernel_rfl); (kernel_rfl); exact rfl; exact rfl) | (apply AE_consZ; (iterate 4 exact rfl)) | exact AE.nil _ _ _ _ | (apply AEk_puT; exact rfl) | (apply AOt_mk; exact rfl; exact rfl; (decide +kernel); exact rfl) | (apply AO_puT; exact rfl) | exact AO.nil _ _ _ | (apply AOs_skip; (decide +kernel)) | exact AOs.nil | exact qY_ok rfl rfl | exact qY_wk rfl rfl rfl rfl rfl | (apply AL_idx ttok; (iterate 6 exact rfl); (first | with_reducible assumption | decide +kernel | exact Int.natCast_nonneg _ | (guard_target = (0:Int) <= (OfNat.ofNat _ : Int); decide) | rotate_left); (first | with_reducible assumption | decide +kernel | exact rfl); (first | exact uniB_ok rfl | with_reducible assumption | decide +kernel | rotate_left)))
   refine Lands.mk' (m := k' - 1) (by simp at hi; omega) ⟨1, 1, itEs [It.mk k1 n1 b1 l1], by simp at hi ⊢; omega, rfl, rfl, rfl, .inr ⟨rfl, rfl⟩⟩ ?_ rfl rfl rfl rfl rfl rfl
   exact .cons rfl (.cons rfl (.cons rfl (.cons rfl (.cons rfl .nil))))
 ·have hU := uniI l
  have hU2 : Uni 4 L := hL ▸ uniI (l.take i)
  have el := itEs_len (l.take i)
  rw [<- hL] at el
  subst hc
  rcases Nat.lt_or_ge i l.length with hlt | hge
  ·have hd : decide ((i : Int) < ((itEs l).length : Int)) = true := decide_eq_true (by omega)
   obtain ⟨⟨k1, n1, b1, l1⟩, hy⟩ : ∃ y, l[i]? = some y := ⟨_, List.getElem?_eq_getElem hlt⟩
   have hv : (itEs l)[((i : Nat) : Int).toNat]? = some (.agg [.int .i64 k1, .int .u64 (n1 : Int), .sl (b1.map E.byte), .sl (itEs l1)]) := by
    rw [Int.toNat_natCast, itEs_map, List.getElem?_map, hy]; rfl
   have hc := ih' _ (List.mem_of_getElem? hy)
   have ei : IntKind.i64.wrap ((i : Int) + 1) = ((i + 1 : Nat) : Int) := by rw [IntWalk.i64_in _ (by omega)]; omega
   have hs : L ++ [E.agg [.int .i64 k1, .int .u64 (n1 : Int), .sl (b1.map E.byte), .sl (itEs l1)]] = itEs (l.take (i + 1)) := by
    rw [hL, List.take_add_one, hy]; exact (itEs_app _ [It.mk k1 n1 b1 l1]).symm
   rw [List.length_take] at el
   repeat' (first | (apply AL_callPw (hc); kernel_rfl; (iterate 4 exact rfl)) | rw [ei] | (apply AL_go ttok; exact rfl) | (apply AW_go ttok; exact rfl) | (apply K_go ttok; exact rfl) | (apply AW_condA; exact rfl; (first | with_reducible assumption | decide +kernel)) | (apply AL_bsZ ttok; (iterate 12 exact rfl)) | (apply AW_drawE 5 hmix; (decide +kernel); (kernel_rfl); (kernel_rfl); (kernel_rfl); exact rfl; exact rfl) | (apply AE_consZ; (iterate 4 exact rfl)) | exact AE.nil _ _ _ _ | (apply AEk_puT; exact rfl) | (apply AOt_mk; exact rfl; exact rfl; (decide +kernel); exact rfl) | (apply AO_puT; exact rfl) | exact AO.nil _ _ _ | (apply AOs_skip; (decide +kernel)) | exact AOs.nil | exact qY_ok rfl rfl | exact qY_wk rfl rfl rfl rfl rfl | (apply AL_append ttok; (iterate 6 exact rfl); (first | with_reducible assumption | decide +kernel | exact rfl | rotate_left); exact rfl; exact rfl; (first | exact uniB_ok rfl | with_reducible assumption | decide +kernel | rotate_left); (first | exact uniB_ok rfl | with_reducible assumption | decide +kernel | rotate_left); (first | exact List.cons_ne_nil _ _ | with_reducible assumption | decide +kernel | rotate_left); (first | with_reducible assumption | decide +kernel | rotate_left); (first | with_reducible assumption | decide +kernel | rotate_left); exact rfl; exact rfl) | (apply AL_idx ttok; (iterate 6 exact rfl); (first | with_reducible assumption | decide +kernel | exact Int.natCast_nonneg _ | (guard_target = (0:Int) <= (OfNat.ofNat _ : Int); decide) | rotate_left); (first | with_reducible assumption | decide +kernel | exact rfl); (first | exact uniB_ok rfl | with_reducible assumption | decide +kernel | rotate_left)))
   ·refine Lands.mk' (m := k' - 1) (by omega) ⟨i + 1, L.length + 1, _, by omega, by rw [List.length_append]; rfl, hs, rfl, .inr ⟨rfl, rfl⟩⟩ ?_ rfl rfl rfl rfl rfl rfl
    exact .cons rfl (.cons rfl (.cons rfl (.cons rfl (.cons rfl .nil))))
   all_goals (first | rfl | (simp only [List.length_append, List.length_cons, List.length_nil, List.length_map, itEs_len]; done) | (simp only [List.length_append, List.length_cons, List.length_nil, List.length_map, itEs_len] at *; (try unfold maxLen); (try simp only [Nat.add_mul]); omega))
  ·have hd : decide ((i : Int) < ((itEs l).length : Int)) = false := decide_eq_false (by omega)
   rw [List.take_of_length_le hge] at hL
   subst hL
   repeat' (first | (apply AW_go ttok; exact rfl) | (apply AW_condB; exact rfl; (first | with_reducible assumption | decide +kernel)))
   all_goals (apply endQ []; (apply resG_ok ttok; exact rfl); (iterate 4 exact rfl))
   all_goals rfl
end Go.Proofs.YtfkmicjlaedlkaaDoor
end
section
open Go.RowKit Go.Pl
namespace Go.Av
section
variable {P : Program} {Q : X -> St -> Prop} {n : Nat} {ee : Nat × Nat} {tm tm' : List (Nat × D)} {bx bx' : List (List D)} {fr fr' : List Fr} {b0 : Bs} {g : G} {w : World} {a : Act} {T : Tab}
variable {ops : Array Oper} {rest : List Oper} {t ty : Nat} {pos : String} {after : Array Edge}
end
end Go.Av
end
section
open Go.RowKit Go.Pl Go.Av
namespace Go.Proofs.YtfkmicjlaedlkaaDoor
set_option maxHeartbeats 4000000
theorem beqs_len : ∀ {l l' : List It}, l.length ≠ l'.length -> It.beqs l l' = false
 | [], [], h => by simp at h
 | [], _ :: _, _ => rfl
 | _ :: _, [], _ => rfl
 | x :: l, y :: l', h => by
  rw [It.beqs]
  cases It.beq x y
  ·rfl
  ·exact beqs_len (by simpa using h)
theorem av_eqFunc [Known] (l l' : List It) (hl : l.length <= 2199023255488) (hl' : l'.length <= 2199023255488) (ih : ∀ y ∈ l, ∀ y' ∈ l', AP Tryd.prog 27 [itD y, itD y'] (.bool (It.beq y y')) []) : AP Tryd.prog 58 [.sl .ext (itEs l), .sl .ext (itEs l'), .fn 27 []] (.bool (It.beqs l l')) [] := by
 have e1 := itEs_len l
 have e2 := itEs_len l'
 by_cases hne : l.length = l'.length
 ·have t1 : (((itEs l).length : Int) != ((itEs l').length : Int)) = false := by rw [e1, e2, hne]; simp
  generalize hfin : It.beqs l l' = fin
  refine AP.ofA ?_
  refine AC_of Tryd.func58 rfl Tryd.ntmps58 rfl rfl ?_
  repeat' (first | (apply AL_go ttok; exact rfl) | (apply AW_go ttok; exact rfl) | (apply K_go ttok; exact rfl) | (apply AW_condB; exact rfl; (first | with_reducible assumption | decide +kernel)) | (apply AL_len ttok; (iterate 4 exact rfl)))
  refine AW_loopJ (fun f tm bx fr => ∃ i : Nat, f + i = l.length /\ It.beqs (l.drop i) (l'.drop i) = fin /\ tm = [(0, .sl .ext (itEs l)), (1, .sl .ext (itEs l')), (2, .fn 27 []), (6, .bool false), (15, .sl .ext (itEs l)), (16, .int .i64 ((itEs l).length : Int)), (17, .int .i64 (i : Int))] /\ bx = [] /\ fr = []) (l.length + 1) (Lands.mk' (m := l.length) (Nat.lt_succ_self _) ⟨0, rfl, hfin, rfl, rfl, rfl⟩ ?_ rfl rfl rfl rfl rfl rfl) ?_
  ·exact .cons rfl (.cons rfl (.cons rfl (.cons rfl (.cons rfl (.cons rfl (.cons rfl .nil))))))
  rintro f tm bx fr ⟨i, hf, hfin, rfl, rfl, rfl⟩
  have hU := uniI l
  have hU' := uniI l'
  rcases Nat.lt_or_ge i l.length with hlt | hge
  ·have hdl : decide ((i : Int) < ((itEs l).length : Int)) = true := decide_eq_true (by omega)
   obtain ⟨⟨k1, n1, b1, l1⟩, hy⟩ : ∃ y, l[i]? = some y := ⟨_, List.getElem?_eq_getElem hlt⟩
   obtain ⟨⟨k2, n2, b2, l2⟩, hy'⟩ : ∃ y, l'[i]? = some y := ⟨_, List.getElem?_eq_getElem (by omega)⟩
   have hv : (itEs l)[((i : Nat) : Int).toNat]? = some (.agg [.int .i64 k1, .int .u64 (n1 : Int), .sl (b1.map E.byte), .sl (itEs l1)]) := by
    rw [Int.toNat_natCast, itEs_map, List.getElem?_map, hy]; rfl
   have hv' : (itEs l')[((i : Nat) : Int).toNat]? = some (.agg [.int .i64 k2, .int .u64 (n2 : Int), .sl (b2.map E.byte), .sl (itEs l2)]) := by
    rw [Int.toNat_natCast, itEs_map, List.getElem?_map, hy']; rfl
   have hc := ih _ (List.mem_of_getElem? hy) _ (List.mem_of_getElem? hy')
   have hdr : l.drop i = It.mk k1 n1 b1 l1 :: l.drop (i + 1) := by
    rw [List.drop_eq_getElem_cons hlt]; congr 1
    exact (List.getElem?_eq_some_iff.1 hy).2
   have hdr' : l'.drop i = It.mk k2 n2 b2 l2 :: l'.drop (i + 1) := by
    rw [List.drop_eq_getElem_cons (by omega)]; congr 1
    exact (List.getElem?_eq_some_iff.1 hy').2
   rw [hdr, hdr', It.beqs] at hfin
   have ei : IntKind.i64.wrap ((i : Int) + 1) = ((i + 1 : Nat) : Int) := by rw [IntWalk.i64_in _ (by omega)]; omega
   cases hb : It.beq (.mk k1 n1 b1 l1) (.mk k2 n2 b2 l2) with
   | false =>
    rw [hb] at hfin hc
    subst hfin
    repeat' (first | (apply AL_callPv (hc); exact rfl; kernel_rfl; (iterate 3 exact rfl)) | (apply AL_go ttok; exact rfl) | (apply AW_go ttok; exact rfl) | (apply K_go ttok; exact rfl) | (apply AW_condA; exact rfl; (first | with_reducible assumption | decide +kernel)) | (apply AL_idx ttok; (iterate 6 exact rfl); (first | with_reducible assumption | decide +kernel | exact Int.natCast_nonneg _ | (guard_target = (0:Int) <= (OfNat.ofNat _ : Int); decide) | rotate_left); (first | with_reducible assumption | decide +kernel | exact rfl); (first | exact uniB_ok rfl | with_reducible assumption | decide +kernel | rotate_left)))
    all_goals (apply endQ []; (apply resG_ok ttok; exact rfl); (iterate 4 exact rfl))
    all_goals rfl
   | true =>
    rw [hb] at hfin hc
    repeat' (first | rw [ei] | (apply AL_callPv (hc); exact rfl; kernel_rfl; (iterate 3 exact rfl)) | (apply AL_go ttok; exact rfl) | (apply AW_go ttok; exact rfl) | (apply K_go ttok; exact rfl) | (apply AW_condA; exact rfl; (first | with_reducible assumption | decide +kernel)) | (apply AW_condB; exact rfl; (first | with_reducible assumption | decide +kernel)) | (apply AL_idx ttok; (iterate 6 exact rfl); (first | with_reducible assumption | decide +kernel | exact Int.natCast_nonneg _ | (guard_target = (0:Int) <= (OfNat.ofNat _ : Int); decide) | rotate_left); (first | with_reducible assumption | decide +kernel | exact rfl); (first | exact uniB_ok rfl | with_reducible assumption | decide +kernel | rotate_left)))
    refine Lands.mk' (m := f - 1) (by omega) ⟨i + 1, by omega, hfin, rfl, rfl, rfl⟩ ?_ rfl rfl rfl rfl rfl rfl
    exact .cons rfl (.cons rfl (.cons rfl (.cons rfl (.cons rfl (.cons rfl (.cons rfl .nil))))))
  ·have hdl : decide ((i : Int) < ((itEs l).length : Int)) = false := decide_eq_false (by omega)
   rw [List.drop_eq_nil_of_le hge, List.drop_eq_nil_of_le (by omega)] at hfin
   have hfin : true = fin := hfin
   subst hfin
   repeat' (first | (apply AW_go ttok; exact rfl) | (apply AW_condB; exact rfl; (first | with_reducible assumption | decide +kernel)))
   all_goals (apply endQ []; (apply resG_ok ttok; exact rfl); (iterate 4 exact rfl))
   all_goals rfl
 ·have t1 : (((itEs l).length : Int) != ((itEs l').length : Int)) = true := by rw [e1, e2]; simp; omega
  rw [beqs_len hne]
  refine AP.ofA ?_
  refine AC_of Tryd.func58 rfl Tryd.ntmps58 rfl rfl ?_
  repeat' (first | (apply AL_go ttok; exact rfl) | (apply AW_go ttok; exact rfl) | (apply K_go ttok; exact rfl) | (apply AW_condA; exact rfl; (first | with_reducible assumption | decide +kernel)) | (apply AL_len ttok; (iterate 4 exact rfl)))
  all_goals (apply endQ []; (apply resG_ok ttok; exact rfl); (iterate 4 exact rfl))
  all_goals rfl
theorem nn_eq (n m : Nat) : ((n : Int) == (m : Int)) = (n == m) := by
 rw [Bool.eq_iff_iff, beq_iff_eq, beq_iff_eq]; omega
theorem av_same [Known] : ∀ (x : It), wfI x -> ∀ y : It, wfI y -> AP Tryd.prog 27 [itD x, itD y] (.bool (It.beq x y)) [] := by
 refine It.ind fun k n b l ih hw y hw' => ?_
 obtain ⟨k', n', b', l'⟩ := y
 obtain ⟨_, _, hl, hws⟩ := hw
 obtain ⟨_, _, hl', hws'⟩ := hw'
 have hE := av_eqFunc l l' hl hl' fun y hy y' hy' => ih y hy (wfs_mem hws y hy) y' (wfs_mem hws' y' hy')
 have hB := av_bEq b b'
 have en := nn_eq n n'
 rw [It.beq]
 cases h1 : k == k' <;> cases h2 : n == n' <;> cases h3 : b == b'
 all_goals
  rw [h2] at en
  rw [h3] at hB
  refine AP.ofA ?_
  refine AC_of Tryd.func27 rfl Tryd.ntmps27 rfl rfl ?_
  repeat' (first | rw [en] | (apply AL_callPw (hB); kernel_rfl; (iterate 4 exact rfl)) | (apply AL_callPw (hE); kernel_rfl; (iterate 4 exact rfl)) | (apply AL_go ttok; exact rfl) | (apply AW_go ttok; exact rfl) | (apply AL_guardT; (iterate 3 exact rfl); (first | with_reducible assumption | decide +kernel)) | (apply AL_guardFt; (iterate 3 exact rfl); (first | with_reducible assumption | decide +kernel)) | (apply AL_pickT; exact rfl; (first | with_reducible assumption | decide +kernel); exact rfl; exact rfl) | (apply AL_pickF; exact rfl; (first | with_reducible assumption | decide +kernel); exact rfl; exact rfl))
  all_goals (apply endQ []; (apply resG_ok ttok; exact rfl); (iterate 4 exact rfl))
  all_goals rfl
end Go.Proofs.YtfkmicjlaedlkaaDoor
end
section
open Go.RowKit Go.Pl Go.Av
namespace Go.Proofs.YtfkmicjlaedlkaaDoor
set_option maxHeartbeats 4000000
def w8N : List UInt8 -> Nat
 | c0 :: c1 :: c2 :: c3 :: c4 :: c5 :: c6 :: c7 :: _ => c0.toNat + 256 * c1.toNat + 65536 * c2.toNat + 16777216 * c3.toNat + 4294967296 * c4.toNat + 1099511627776 * c5.toNat + 281474976710656 * c6.toNat + 72057594037927936 * c7.toNat
 | _ => 0
theorem eight {l : List UInt8} (h : 8 <= l.length) : ∃ c0 c1 c2 c3 c4 c5 c6 c7 r, l = c0 :: c1 :: c2 :: c3 :: c4 :: c5 :: c6 :: c7 :: r := by
 match l, h with
 | c0 :: c1 :: c2 :: c3 :: c4 :: c5 :: c6 :: c7 :: r, _ => exact ⟨c0, c1, c2, c3, c4, c5, c6, c7, r, rfl⟩
abbrev hi8 : Nat := 9259542123273814144
theorem w8N_lt (l : List UInt8) : w8N l < 18446744073709551616 := by
 unfold w8N
 split
 ·rename_i c0 c1 c2 c3 c4 c5 c6 c7 r
  have := c0.toNat_lt; have := c1.toNat_lt; have := c2.toNat_lt; have := c3.toNat_lt
  have := c4.toNat_lt; have := c5.toNat_lt; have := c6.toNat_lt; have := c7.toNat_lt
  omega
 ·omega
theorem bit_and {w k : Nat} (h : w &&& hi8 = 0) (hk : hi8.testBit k = true) : w.testBit k = false := by
 have := congrArg (fun x => x.testBit k) h
 simp only [Nat.testBit_and, hk, Bool.and_true, Nat.zero_testBit] at this
 exact this
theorem w8N_asc {l : List UInt8} (hl : 8 <= l.length) (h : w8N l &&& hi8 = 0) : ∀ c ∈ l.take 8, c.toNat < 128 := by
 obtain ⟨c0, c1, c2, c3, c4, c5, c6, c7, r, rfl⟩ := eight hl
 have b0 := bit_and (k := 7) h (by decide)
 have b1 := bit_and (k := 15) h (by decide)
 have b2 := bit_and (k := 23) h (by decide)
 have b3 := bit_and (k := 31) h (by decide)
 have b4 := bit_and (k := 39) h (by decide)
 have b5 := bit_and (k := 47) h (by decide)
 have b6 := bit_and (k := 55) h (by decide)
 have b7 := bit_and (k := 63) h (by decide)
 have := c0.toNat_lt; have := c1.toNat_lt; have := c2.toNat_lt; have := c3.toNat_lt
 have := c4.toNat_lt; have := c5.toNat_lt; have := c6.toNat_lt; have := c7.toNat_lt
 simp only [Nat.testBit_eq_decide_div_mod_eq, decide_eq_false_iff_not, w8N] at b0 b1 b2 b3 b4 b5 b6 b7
 intro c hc
 simp only [List.take_succ_cons, List.take_zero, List.mem_cons, List.not_mem_nil, or_false] at hc
 rcases hc with rfl | rfl | rfl | rfl | rfl | rfl | rfl | rfl
 all_goals omega
theorem or_join (a x k : Nat) (ha : a < 2 ^ k) : a ||| x * 2 ^ k = a + x * 2 ^ k := by
 rw [Nat.or_comm, Nat.mul_comm, <- Nat.two_pow_add_eq_or_of_lt ha x]; omega
theorem sh_eq (c : UInt8) (k : Nat) (hk : k <= 56) : IntKind.u64.wrap (IntKind.u64.wrap (c.toNat : Int) * 2 ^ min (Int.toNat (k : Int)) IntKind.u64.bits) = ((c.toNat * 2 ^ k : Nat) : Int) := by
 have hc := c.toNat_lt
 rw [Int.toNat_natCast, show min k IntKind.u64.bits = k from Nat.min_eq_left (by show k <= 64; omega)]
 have e1 : IntKind.u64.wrap (c.toNat : Int) = (c.toNat : Int) := by rw [IntKind.wrap_u64]; omega
 have e2 : ((c.toNat : Int) * 2 ^ k) = ((c.toNat * 2 ^ k : Nat) : Int) := by simp
 rw [e1, e2, IntKind.wrap_u64]
 have : c.toNat * 2 ^ k < 18446744073709551616 := by
  have h1 : c.toNat * 2 ^ k < 256 * 2 ^ k := Nat.mul_lt_mul_of_pos_right hc (Nat.two_pow_pos k)
  have h2 : 256 * 2 ^ k <= 256 * 2 ^ 56 := Nat.mul_le_mul_left _ (Nat.pow_le_pow_right (by decide) hk)
  omega
 omega
theorem or_eq {a : Nat} (c : UInt8) (k : Nat) (ha : a < 2 ^ k) (hk : k <= 56) : bits .or .u64 (a : Int) (IntKind.u64.wrap (IntKind.u64.wrap (c.toNat : Int) * 2 ^ min (Int.toNat (k : Int)) IntKind.u64.bits)) = ((a + c.toNat * 2 ^ k : Nat) : Int) := by
 have hc := c.toNat_lt
 have h56 : 2 ^ k <= 2 ^ 56 := Nat.pow_le_pow_right (by decide) hk
 have h1 : c.toNat * 2 ^ k < 256 * 2 ^ k := Nat.mul_lt_mul_of_pos_right hc (Nat.two_pow_pos k)
 rw [sh_eq c k hk, u64_or_nat _ _ (by omega) (by omega), or_join _ _ _ ha]
theorem av_word [Known] (l : List UInt8) (hl : 8 <= l.length) : AP Tryd.prog 127 [byE l] (.int .u64 (w8N l : Int)) [] := by
 have hU := uniB1 l
 obtain ⟨c0, c1, c2, c3, c4, c5, c6, c7, r, rfl⟩ := eight hl
 refine AP.ofA ?_
 refine AC_of Tryd.func127 rfl Tryd.ntmps127 rfl rfl ?_
 repeat' (first | (apply AL_go ttok; exact rfl) | (apply AW_go ttok; exact rfl) | (apply AW_drawM 45 hmix; (decide +kernel); (kernel_rfl); (kernel_rfl); exact rfl; exact rfl) | (apply AD_cons; (iterate 3 exact rfl)) | refine AD.nil _ | exact qp_ok rfl | (apply AL_idx ttok; (iterate 6 exact rfl); (first | with_reducible assumption | exact Int.natCast_nonneg _ | (guard_target = (0:Int) <= (OfNat.ofNat _ : Int); decide) | rotate_left); (first | with_reducible assumption | exact rfl); (first | exact uniB_ok rfl | with_reducible assumption | rotate_left)) | (apply AL_shl; exact rfl; exact rfl; (first | with_reducible assumption | exact Int.natCast_nonneg _ | (exact (by decide)) | rotate_left); exact rfl))
 all_goals (apply endQ []; (apply resG_ok ttok; exact rfl); (iterate 4 exact rfl))
 all_goals first | rfl | skip
 have := c0.toNat_lt; have := c1.toNat_lt; have := c2.toNat_lt; have := c3.toNat_lt
 have := c4.toNat_lt; have := c5.toNat_lt; have := c6.toNat_lt; have := c7.toNat_lt
 congr 1
 have e0 : IntKind.u64.wrap (c0.toNat : Int) = ((c0.toNat : Nat) : Int) := by rw [IntKind.wrap_u64]; omega
 have q1 := or_eq (a := c0.toNat) c1 8 (by omega) (by omega)
 have q2 := or_eq (a := c0.toNat + c1.toNat * 2 ^ 8) c2 16 (by omega) (by omega)
 have q3 := or_eq (a := c0.toNat + c1.toNat * 2 ^ 8 + c2.toNat * 2 ^ 16) c3 24 (by omega) (by omega)
 have q4 := or_eq (a := c0.toNat + c1.toNat * 2 ^ 8 + c2.toNat * 2 ^ 16 + c3.toNat * 2 ^ 24) c4 32 (by omega) (by omega)
 have q5 := or_eq (a := c0.toNat + c1.toNat * 2 ^ 8 + c2.toNat * 2 ^ 16 + c3.toNat * 2 ^ 24 + c4.toNat * 2 ^ 32) c5 40 (by omega) (by omega)
 have q6 := or_eq (a := c0.toNat + c1.toNat * 2 ^ 8 + c2.toNat * 2 ^ 16 + c3.toNat * 2 ^ 24 + c4.toNat * 2 ^ 32 + c5.toNat * 2 ^ 40) c6 48 (by omega) (by omega)
 have q7 := or_eq (a := c0.toNat + c1.toNat * 2 ^ 8 + c2.toNat * 2 ^ 16 + c3.toNat * 2 ^ 24 + c4.toNat * 2 ^ 32 + c5.toNat * 2 ^ 40 + c6.toNat * 2 ^ 48) c7 56 (by omega) (by omega)
 rw [e0] at *
 have fin : (w8N (c0 :: c1 :: c2 :: c3 :: c4 :: c5 :: c6 :: c7 :: r) : Int) = ((c0.toNat + c1.toNat * 2 ^ 8 + c2.toNat * 2 ^ 16 + c3.toNat * 2 ^ 24 + c4.toNat * 2 ^ 32 + c5.toNat * 2 ^ 40 + c6.toNat * 2 ^ 48 + c7.toNat * 2 ^ 56 : Nat) : Int) := by
  simp only [w8N]; omega
 rw [fin, <- q7, <- q6, <- q5, <- q4, <- q3, <- q2, <- q1]
 rfl
theorem and_or0 {a b : Nat} (h : (a ||| b) &&& hi8 = 0) : a &&& hi8 = 0 /\ b &&& hi8 = 0 := by
 rw [Nat.and_or_distrib_right] at h
 exact Nat.or_eq_zero_iff.1 h
theorem validU_asc : ∀ (k : Nat) (l : List UInt8), k <= l.length -> (∀ c ∈ l.take k, c.toNat < 128) -> validU l = validU (l.drop k)
 | 0, l, _, _ => rfl
 | k + 1, [], h, _ => by simp at h
 | k + 1, c :: r, h, ha => by
  have hc : c.toNat < 128 := ha c (by simp)
  rw [validU_cons]
  have : pt (c :: r) = 1 := by simp [pt, ptN, hc]
  rw [this]
  simp only [List.drop_zero, List.drop_succ_cons]
  exact validU_asc k r (by simpa using h) fun c' h' => ha c' (by simp [h'])
def fT (c : Nat) : Nat := if c < 128 then 240 else if c < 194 then 241 else if c < 224 then 2 else if c < 225 then 19 else if c < 237 then 3 else if c < 238 then 35 else if c < 240 then 3 else if c < 241 then 52 else if c < 244 then 4 else if c < 245 then 68 else 241
theorem tab_first : (0, (List.range 256).map fun c => Value.int .u8 (fT c : Int)) ∈ tabs := by
 have e : (List.range 256).map (fun c => Value.int .u8 (fT c : Int)) = dcs Rows.laid_unicode_utf8_first := by kernel_rfl
 rw [e]
 unfold tabs
 simp
def aT (i : Nat) : List Value := if i = 0 then [.int .u8 128, .int .u8 191] else if i = 1 then [.int .u8 160, .int .u8 191] else if i = 2 then [.int .u8 128, .int .u8 159] else if i = 3 then [.int .u8 144, .int .u8 191] else if i = 4 then [.int .u8 128, .int .u8 143] else [.int .u8 0, .int .u8 0]
theorem tab_accept : (1, (List.range 16).flatMap aT) ∈ tabs := by
 have e : (List.range 16).flatMap aT = dcs Rows.laid_unicode_utf8_acceptRanges := by kernel_rfl
 rw [e]
 unfold tabs
 simp
theorem first_at (c : UInt8) : ((List.range 256).map fun c => Value.int .u8 (fT c : Int))[0 + ((c.toNat : Nat) : Int).toNat * 1]? = some (.int .u8 (fT c.toNat : Int)) := by
 have := c.toNat_lt
 rw [Int.toNat_natCast, Nat.zero_add, Nat.mul_one, List.getElem?_map, List.getElem?_range (by omega)]
 rfl
end Go.Proofs.YtfkmicjlaedlkaaDoor
end
