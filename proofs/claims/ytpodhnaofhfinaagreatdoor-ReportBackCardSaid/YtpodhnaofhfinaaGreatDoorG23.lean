/- Items: their bytes. -/
import Derived.Test.YtpodhnaofhfinaaGreatDoorG12
import Derived.Test.YtpodhnaofhfinaaGreatDoorG19
set_option linter.unusedVariables false
set_option linter.unusedSimpArgs false
section
open Go.RowKit Go.Pl Go.Av
namespace Go.Proofs.YtpodhnaofhfinaaGreatDoor
set_option maxHeartbeats 4000000
mutual
def okx : It -> Prop
 | .mk k _ _ l => (0 <= k /\ k <= 7) /\ okxs l
def okxs : List It -> Prop
 | [] => True
 | x :: l => okx x /\ okxs l
end
theorem okxs_mem : ∀ {l : List It}, okxs l -> ∀ y ∈ l, okx y
 | x :: l, ⟨h1, h2⟩, y, hy => by
  rcases List.mem_cons.1 hy with rfl | hy
  ·exact h1
  ·exact okxs_mem h2 y hy
mutual
theorem walk_okx : ∀ {x : It} {d m m' : Nat}, walkI x d m = some m' -> okx x
 | .mk k n b l, d, m, m', h => by
  obtain ⟨_, _, h3, h4⟩ := walkI_own h
  exact ⟨own_k07 h3, walks_okx h4⟩
theorem walks_okx : ∀ {l : List It} {d m m' : Nat}, walks l d m = some m' -> okxs l
 | [], d, m, m', h => trivial
 | x :: l, d, m, m', h => by
  obtain ⟨m1, h1, h2⟩ := walks_cons h
  exact ⟨walk_okx h1, walks_okx h2⟩
end
theorem right_okx {x : It} (h : rightI x = true) : okx x := by
 unfold rightI at h
 cases hw : walkI x 1 256 with
 | none => rw [hw] at h; cases h
 | some m => exact walk_okx hw
theorem writeL_cons (h : Hd) : ∃ c t, writeL h = c :: t := by
 unfold writeL
 split
 ·exact ⟨_, _, rfl⟩
 ·exact ⟨_, _, rfl⟩
theorem puts_take_succ {l : List It} {i : Nat} {y : It} (hy : l[i]? = some y) : puts (l.take (i + 1)) = puts (l.take i) ++ putI y := by
 rw [List.take_add_one, hy, puts_app]
 simp [puts]
theorem puts_take_le (l : List It) (i : Nat) : (puts (l.take i)).length <= (puts l).length := by
 have h := congrArg List.length (puts_app (l.take i) (l.drop i))
 rw [List.take_append_drop, List.length_append] at h
 omega
theorem av_putO [Known] : ∀ (x : It), wfI x -> okx x -> ∀ (L : List E) (c : Nat), c = L.length -> Uni 1 L -> L.length + (putI x).length <= 1099511627776 -> AT Tryz.prog 71 [.sl (.own 0) L, itD x] [] [⟨c, 1, 5⟩] (.sl (.own 0) (L ++ (putI x).map E.byte)) [] [⟨c + (putI x).length, 1, 5⟩] := by
 refine It.ind fun k n b l ih hw ho L c hc hUL hlim => ?_
 subst hc
 obtain ⟨hn, hb, hl, hws⟩ := hw
 obtain ⟨hk7, hos⟩ := ho
 have hlen := itEs_len l
 have hr : rightB (k, (It.mk k n b l).hn, false) = true := by simp [rightB]; exact hk7
 have hhn : (It.mk k n b l).hn < 18446744073709551616 := by simp only [It.hn]; (repeat' split) <;> omega
 have hput : putI (.mk k n b l) = writeL (k, (It.mk k n b l).hn, false) ++ (b ++ puts l) := by rw [putI, if_pos hr]
 rw [hput] at hlim ⊢
 have hW := av_write (k, (It.mk k n b l).hn, false) hhn
 rw [if_pos hr, if_pos hr] at hW
 obtain ⟨c0, t0, hcw⟩ := writeL_cons (k, (It.mk k n b l).hn, false)
 rw [hcw] at hW hlim ⊢
 have hU0 := uniB1 (c0 :: t0)
 have hU1 := uniB1 b
 have hU01 : Uni 1 (L ++ (c0 :: t0).map E.byte) := hUL.append hU0
 have eb : IntKind.u64.wrap (((b.map E.byte).length : Nat) : Int) = ((b.length : Nat) : Int) := by rw [List.length_map, IntKind.wrap_u64]; omega
 have el : IntKind.u64.wrap (((itEs l).length : Nat) : Int) = ((l.length : Nat) : Int) := by rw [hlen, IntKind.wrap_u64]; omega
 have hS : ∀ (i : Nat), IntKind.i64.wrap ((i : Int) + 1) = ((i + 1 : Nat) : Int) \/ 2199023255488 < i := fun i => by
  rcases Nat.lt_or_ge 2199023255488 i with h | h
  ·exact .inr h
  ·left; rw [IntWalk.i64_in _ (by omega)]; omega
 have hkc : (k = 2 /\ (It.mk k n b l).hn = b.length) \/ (k = 3 /\ (It.mk k n b l).hn = b.length) \/ (k = 4 /\ (It.mk k n b l).hn = l.length) \/ (k ≠ 2 /\ k ≠ 3 /\ k ≠ 4 /\ (It.mk k n b l).hn = n) := by
  by_cases h2 : k = 2
  ·subst h2; exact .inl ⟨rfl, rfl⟩
  by_cases h3 : k = 3
  ·subst h3; exact .inr (.inl ⟨rfl, rfl⟩)
  by_cases h4 : k = 4
  ·subst h4; exact .inr (.inr (.inl ⟨rfl, rfl⟩))
  ·exact .inr (.inr (.inr ⟨h2, h3, h4, by simp [It.hn, h2, h3, h4]⟩))
 clear hhn hr hcw hput
 generalize (It.mk k n b l).hn = hn0 at hkc hW
 have hbc : b = [] \/ ∃ c1 b1, b = c1 :: b1 := by cases b <;> simp
 have hne2 : k ≠ 2 -> (k == 2) = false := fun h => by simpa using h
 have hne3 : k ≠ 3 -> (k == 3) = false := fun h => by simpa using h
 have hne4 : k ≠ 4 -> (k == 4) = false := fun h => by simpa using h
 rcases hkc with ⟨rfl, rfl⟩ | ⟨rfl, rfl⟩ | ⟨rfl, rfl⟩ | ⟨k2, k3, k4, hh⟩
 ·rcases hbc with rfl | ⟨c1, b1, rfl⟩
  ·refine AC_of Tryz.func71 rfl Tryz.ntmps71 rfl rfl ?_
   repeat' (first | rw [eb] | (apply AL_callPw (hW); kernel_rfl; (iterate 4 exact rfl)) | (apply AL_go ttok; exact rfl) | (apply AW_go ttok; exact rfl) | (apply K_go ttok; exact rfl) | (apply AW_condA; exact rfl; (first | with_reducible assumption | decide +kernel)) | (apply AL_len ttok; (iterate 4 exact rfl)) | (apply AW_drawE 5 hmix; (decide +kernel); (kernel_rfl); (kernel_rfl); (kernel_rfl); exact rfl; exact rfl) | (apply AE_consZ; (iterate 4 exact rfl)) | exact AE.nil _ _ _ _ | (apply AEk_puT; exact rfl) | (apply AEk_efT; exact rfl) | (apply AOt_mk; exact rfl; exact rfl; (decide +kernel); exact rfl) | (apply AO_puT; exact rfl) | (apply AO_efT; exact rfl) | exact AO.nil _ _ _ | (apply AOs_skip; (decide +kernel)) | (apply AOs_goZ; (iterate 3 exact rfl)) | exact AOs.nil | exact qY_ok rfl rfl | exact qY_ef rfl rfl | (apply AL_append_none ttok; (iterate 6 exact rfl)) | (apply AL_append ttok; (iterate 6 exact rfl); (first | with_reducible assumption | decide +kernel | exact rfl | rotate_left); exact rfl; exact rfl; (first | exact uniB_ok rfl | with_reducible assumption | decide +kernel | rotate_left); (first | exact uniB_ok rfl | with_reducible assumption | decide +kernel | rotate_left); (first | exact List.cons_ne_nil _ _ | with_reducible assumption | decide +kernel | rotate_left); (first | with_reducible assumption | decide +kernel | rotate_left); (first | with_reducible assumption | decide +kernel | rotate_left); exact rfl; exact rfl))
   all_goals first | (first | rfl | (simp only [List.length_append, List.length_cons, List.length_nil, List.length_map, itEs_len]; done) | (simp only [List.length_append, List.length_cons, List.length_nil, List.length_map, itEs_len] at *; (try unfold maxLen); (try simp only [Nat.add_mul]); omega)) | skip
   refine AW_loopJ (fun f tm bx fr => ∃ (i c : Nat) (M : List E), f + i = l.length /\ c = M.length /\ M = L ++ ((c0 :: t0) ++ (([] : List UInt8) ++ puts (l.take i))).map E.byte /\ tm = [(0, .sl (.own 0) M), (3, .ptr 0 0), (42, .sl .ext (itEs l)), (43, .int .i64 ((itEs l).length : Int)), (44, .int .i64 (i : Int))] /\ bx = [itC (2) n ([] : List UInt8) l] /\ fr = [⟨c, 1, 5⟩]) (l.length + 1) (Lands.mk' (m := l.length) (Nat.lt_succ_self _) ⟨0, L.length + ((c0 :: t0).map E.byte).length, L ++ (c0 :: t0).map E.byte, rfl, by simp only [List.length_append], by simp [puts], rfl, rfl, rfl⟩ ?_ rfl rfl rfl rfl rfl rfl) ?_
   ·exact .cons rfl (.cons rfl (.cons rfl (.cons rfl (.cons rfl .nil))))
   rintro f tm bx fr ⟨i, c, M, hf, hc, hM, rfl, rfl, rfl⟩
   subst hc
   have hU := uniI l
   have hUM : Uni 1 M := by rw [hM]; exact hUL.append (uniB1 _)
   have hMl : M.length = L.length + ((c0 :: t0) ++ (([] : List UInt8) ++ puts (l.take i))).length := by rw [hM]; simp only [List.length_append, List.length_map]
   rcases Nat.lt_or_ge i l.length with hlt | hge
   ·have hdl : decide ((i : Int) < ((itEs l).length : Int)) = true := decide_eq_true (by omega)
    obtain ⟨⟨k1, n1, b2, l1⟩, hy⟩ : ∃ y, l[i]? = some y := ⟨_, List.getElem?_eq_getElem hlt⟩
    have hv : (itEs l)[((i : Nat) : Int).toNat]? = some (.agg [.int .i64 k1, .int .u64 (n1 : Int), .sl (b2.map E.byte), .sl (itEs l1)]) := by
     rw [Int.toNat_natCast, itEs_map, List.getElem?_map, hy]; rfl
    have hmem := List.mem_of_getElem? hy
    have hps := puts_take_succ hy
    have hpl := puts_take_le l (i + 1)
    have hps2 := congrArg List.length hps
    rw [List.length_append] at hps2
    have hc := ih _ hmem (wfs_mem hws _ hmem) (okxs_mem hos _ hmem) M _ rfl hUM (by simp only [List.length_append] at hMl hlim; omega)
    have ei : IntKind.i64.wrap ((i : Int) + 1) = ((i + 1 : Nat) : Int) := by rw [IntWalk.i64_in _ (by omega)]; omega
    repeat' (first | rw [ei] | (apply AL_callT [] [0] (hc); kernel_rfl; (iterate 10 exact rfl)) | (apply AL_go ttok; exact rfl) | (apply AW_go ttok; exact rfl) | (apply AW_condA; exact rfl; (first | with_reducible assumption | decide +kernel)) | (apply AL_idx ttok; (iterate 6 exact rfl); (first | with_reducible assumption | decide +kernel | exact Int.natCast_nonneg _ | (guard_target = (0:Int) <= (OfNat.ofNat _ : Int); decide) | rotate_left); (first | with_reducible assumption | decide +kernel | exact rfl); (first | exact uniB_ok rfl | with_reducible assumption | decide +kernel | rotate_left)))
    refine Lands.mk' (m := f - 1) (by omega) ⟨i + 1, M.length + (putI (.mk k1 n1 b2 l1)).length, M ++ (putI (.mk k1 n1 b2 l1)).map E.byte, by omega, by simp only [List.length_append, List.length_map], by rw [hM, hps]; simp, rfl, rfl, rfl⟩ ?_ rfl rfl rfl rfl rfl rfl
    exact .cons rfl (.cons rfl (.cons rfl (.cons rfl (.cons rfl .nil))))
   ·have hdl : decide ((i : Int) < ((itEs l).length : Int)) = false := decide_eq_false (by omega)
    rw [List.take_of_length_le hge] at hM hMl
    repeat' (first | (apply AW_go ttok; exact rfl) | (apply AW_condB; exact rfl; (first | with_reducible assumption | decide +kernel)))
    all_goals (apply endT [] [0]; (apply resG_ok ttok; exact rfl); (iterate 7 exact rfl))
    ·rw [hM]; rfl
    ·rfl
    ·rw [hMl]; rfl
  ·refine AC_of Tryz.func71 rfl Tryz.ntmps71 rfl rfl ?_
   repeat' (first | rw [eb] | (apply AL_callPw (hW); kernel_rfl; (iterate 4 exact rfl)) | (apply AL_go ttok; exact rfl) | (apply AW_go ttok; exact rfl) | (apply K_go ttok; exact rfl) | (apply AW_condA; exact rfl; (first | with_reducible assumption | decide +kernel)) | (apply AL_len ttok; (iterate 4 exact rfl)) | (apply AW_drawE 5 hmix; (decide +kernel); (kernel_rfl); (kernel_rfl); (kernel_rfl); exact rfl; exact rfl) | (apply AE_consZ; (iterate 4 exact rfl)) | exact AE.nil _ _ _ _ | (apply AEk_puT; exact rfl) | (apply AEk_efT; exact rfl) | (apply AOt_mk; exact rfl; exact rfl; (decide +kernel); exact rfl) | (apply AO_puT; exact rfl) | (apply AO_efT; exact rfl) | exact AO.nil _ _ _ | (apply AOs_skip; (decide +kernel)) | (apply AOs_goZ; (iterate 3 exact rfl)) | exact AOs.nil | exact qY_ok rfl rfl | exact qY_ef rfl rfl | (apply AL_append ttok; (iterate 6 exact rfl); (first | with_reducible assumption | decide +kernel | exact rfl | rotate_left); exact rfl; exact rfl; (first | exact uniB_ok rfl | with_reducible assumption | decide +kernel | rotate_left); (first | exact uniB_ok rfl | with_reducible assumption | decide +kernel | rotate_left); (first | exact List.cons_ne_nil _ _ | with_reducible assumption | decide +kernel | rotate_left); (first | with_reducible assumption | decide +kernel | rotate_left); (first | with_reducible assumption | decide +kernel | rotate_left); exact rfl; exact rfl))
   all_goals first | (first | rfl | (simp only [List.length_append, List.length_cons, List.length_nil, List.length_map, itEs_len]; done) | (simp only [List.length_append, List.length_cons, List.length_nil, List.length_map, itEs_len] at *; (try unfold maxLen); (try simp only [Nat.add_mul]); omega)) | skip
   refine AW_loopJ (fun f tm bx fr => ∃ (i c : Nat) (M : List E), f + i = l.length /\ c = M.length /\ M = L ++ ((c0 :: t0) ++ ((c1 :: b1) ++ puts (l.take i))).map E.byte /\ tm = [(0, .sl (.own 0) M), (3, .ptr 0 0), (42, .sl .ext (itEs l)), (43, .int .i64 ((itEs l).length : Int)), (44, .int .i64 (i : Int))] /\ bx = [itC (2) n (c1 :: b1) l] /\ fr = [⟨c, 1, 5⟩]) (l.length + 1) (Lands.mk' (m := l.length) (Nat.lt_succ_self _) ⟨0, (L ++ (c0 :: t0).map E.byte).length + ((c1 :: b1).map E.byte).length, (L ++ (c0 :: t0).map E.byte) ++ (c1 :: b1).map E.byte, rfl, by simp only [List.length_append], by simp [puts], rfl, rfl, rfl⟩ ?_ rfl rfl rfl rfl rfl rfl) ?_
   ·exact .cons rfl (.cons rfl (.cons rfl (.cons rfl (.cons rfl .nil))))
   rintro f tm bx fr ⟨i, c, M, hf, hc, hM, rfl, rfl, rfl⟩
   subst hc
   have hU := uniI l
   have hUM : Uni 1 M := by rw [hM]; exact hUL.append (uniB1 _)
   have hMl : M.length = L.length + ((c0 :: t0) ++ ((c1 :: b1) ++ puts (l.take i))).length := by rw [hM]; simp only [List.length_append, List.length_map]
   rcases Nat.lt_or_ge i l.length with hlt | hge
   ·have hdl : decide ((i : Int) < ((itEs l).length : Int)) = true := decide_eq_true (by omega)
    obtain ⟨⟨k1, n1, b2, l1⟩, hy⟩ : ∃ y, l[i]? = some y := ⟨_, List.getElem?_eq_getElem hlt⟩
    have hv : (itEs l)[((i : Nat) : Int).toNat]? = some (.agg [.int .i64 k1, .int .u64 (n1 : Int), .sl (b2.map E.byte), .sl (itEs l1)]) := by
     rw [Int.toNat_natCast, itEs_map, List.getElem?_map, hy]; rfl
    have hmem := List.mem_of_getElem? hy
    have hps := puts_take_succ hy
    have hpl := puts_take_le l (i + 1)
    have hps2 := congrArg List.length hps
    rw [List.length_append] at hps2
    have hc := ih _ hmem (wfs_mem hws _ hmem) (okxs_mem hos _ hmem) M _ rfl hUM (by simp only [List.length_append] at hMl hlim; omega)
    have ei : IntKind.i64.wrap ((i : Int) + 1) = ((i + 1 : Nat) : Int) := by rw [IntWalk.i64_in _ (by omega)]; omega
    repeat' (first | rw [ei] | (apply AL_callT [] [0] (hc); kernel_rfl; (iterate 10 exact rfl)) | (apply AL_go ttok; exact rfl) | (apply AW_go ttok; exact rfl) | (apply AW_condA; exact rfl; (first | with_reducible assumption | decide +kernel)) | (apply AL_idx ttok; (iterate 6 exact rfl); (first | with_reducible assumption | decide +kernel | exact Int.natCast_nonneg _ | (guard_target = (0:Int) <= (OfNat.ofNat _ : Int); decide) | rotate_left); (first | with_reducible assumption | decide +kernel | exact rfl); (first | exact uniB_ok rfl | with_reducible assumption | decide +kernel | rotate_left)))
    refine Lands.mk' (m := f - 1) (by omega) ⟨i + 1, M.length + (putI (.mk k1 n1 b2 l1)).length, M ++ (putI (.mk k1 n1 b2 l1)).map E.byte, by omega, by simp only [List.length_append, List.length_map], by rw [hM, hps]; simp, rfl, rfl, rfl⟩ ?_ rfl rfl rfl rfl rfl rfl
    exact .cons rfl (.cons rfl (.cons rfl (.cons rfl (.cons rfl .nil))))
   ·have hdl : decide ((i : Int) < ((itEs l).length : Int)) = false := decide_eq_false (by omega)
    rw [List.take_of_length_le hge] at hM hMl
    repeat' (first | (apply AW_go ttok; exact rfl) | (apply AW_condB; exact rfl; (first | with_reducible assumption | decide +kernel)))
    all_goals (apply endT [] [0]; (apply resG_ok ttok; exact rfl); (iterate 7 exact rfl))
    ·rw [hM]; rfl
    ·rfl
    ·rw [hMl]; rfl
 ·rcases hbc with rfl | ⟨c1, b1, rfl⟩
  ·refine AC_of Tryz.func71 rfl Tryz.ntmps71 rfl rfl ?_
   repeat' (first | rw [eb] | (apply AL_callPw (hW); kernel_rfl; (iterate 4 exact rfl)) | (apply AL_go ttok; exact rfl) | (apply AW_go ttok; exact rfl) | (apply K_go ttok; exact rfl) | (apply AW_condA; exact rfl; (first | with_reducible assumption | decide +kernel)) | (apply AW_condB; exact rfl; (first | with_reducible assumption | decide +kernel)) | (apply AL_len ttok; (iterate 4 exact rfl)) | (apply AW_drawE 5 hmix; (decide +kernel); (kernel_rfl); (kernel_rfl); (kernel_rfl); exact rfl; exact rfl) | (apply AE_consZ; (iterate 4 exact rfl)) | exact AE.nil _ _ _ _ | (apply AEk_puT; exact rfl) | (apply AEk_efT; exact rfl) | (apply AOt_mk; exact rfl; exact rfl; (decide +kernel); exact rfl) | (apply AO_puT; exact rfl) | (apply AO_efT; exact rfl) | exact AO.nil _ _ _ | (apply AOs_skip; (decide +kernel)) | (apply AOs_goZ; (iterate 3 exact rfl)) | exact AOs.nil | exact qY_ok rfl rfl | exact qY_ef rfl rfl | (apply AL_append_none ttok; (iterate 6 exact rfl)) | (apply AL_append ttok; (iterate 6 exact rfl); (first | with_reducible assumption | decide +kernel | exact rfl | rotate_left); exact rfl; exact rfl; (first | exact uniB_ok rfl | with_reducible assumption | decide +kernel | rotate_left); (first | exact uniB_ok rfl | with_reducible assumption | decide +kernel | rotate_left); (first | exact List.cons_ne_nil _ _ | with_reducible assumption | decide +kernel | rotate_left); (first | with_reducible assumption | decide +kernel | rotate_left); (first | with_reducible assumption | decide +kernel | rotate_left); exact rfl; exact rfl))
   all_goals first | (first | rfl | (simp only [List.length_append, List.length_cons, List.length_nil, List.length_map, itEs_len]; done) | (simp only [List.length_append, List.length_cons, List.length_nil, List.length_map, itEs_len] at *; (try unfold maxLen); (try simp only [Nat.add_mul]); omega)) | skip
   refine AW_loopJ (fun f tm bx fr => ∃ (i c : Nat) (M : List E), f + i = l.length /\ c = M.length /\ M = L ++ ((c0 :: t0) ++ (([] : List UInt8) ++ puts (l.take i))).map E.byte /\ tm = [(0, .sl (.own 0) M), (3, .ptr 0 0), (42, .sl .ext (itEs l)), (43, .int .i64 ((itEs l).length : Int)), (44, .int .i64 (i : Int))] /\ bx = [itC (3) n ([] : List UInt8) l] /\ fr = [⟨c, 1, 5⟩]) (l.length + 1) (Lands.mk' (m := l.length) (Nat.lt_succ_self _) ⟨0, L.length + ((c0 :: t0).map E.byte).length, L ++ (c0 :: t0).map E.byte, rfl, by simp only [List.length_append], by simp [puts], rfl, rfl, rfl⟩ ?_ rfl rfl rfl rfl rfl rfl) ?_
   ·exact .cons rfl (.cons rfl (.cons rfl (.cons rfl (.cons rfl .nil))))
   rintro f tm bx fr ⟨i, c, M, hf, hc, hM, rfl, rfl, rfl⟩
   subst hc
   have hU := uniI l
   have hUM : Uni 1 M := by rw [hM]; exact hUL.append (uniB1 _)
   have hMl : M.length = L.length + ((c0 :: t0) ++ (([] : List UInt8) ++ puts (l.take i))).length := by rw [hM]; simp only [List.length_append, List.length_map]
   rcases Nat.lt_or_ge i l.length with hlt | hge
   ·have hdl : decide ((i : Int) < ((itEs l).length : Int)) = true := decide_eq_true (by omega)
    obtain ⟨⟨k1, n1, b2, l1⟩, hy⟩ : ∃ y, l[i]? = some y := ⟨_, List.getElem?_eq_getElem hlt⟩
    have hv : (itEs l)[((i : Nat) : Int).toNat]? = some (.agg [.int .i64 k1, .int .u64 (n1 : Int), .sl (b2.map E.byte), .sl (itEs l1)]) := by
     rw [Int.toNat_natCast, itEs_map, List.getElem?_map, hy]; rfl
    have hmem := List.mem_of_getElem? hy
    have hps := puts_take_succ hy
    have hpl := puts_take_le l (i + 1)
    have hps2 := congrArg List.length hps
    rw [List.length_append] at hps2
    have hc := ih _ hmem (wfs_mem hws _ hmem) (okxs_mem hos _ hmem) M _ rfl hUM (by simp only [List.length_append] at hMl hlim; omega)
    have ei : IntKind.i64.wrap ((i : Int) + 1) = ((i + 1 : Nat) : Int) := by rw [IntWalk.i64_in _ (by omega)]; omega
    repeat' (first | rw [ei] | (apply AL_callT [] [0] (hc); kernel_rfl; (iterate 10 exact rfl)) | (apply AL_go ttok; exact rfl) | (apply AW_go ttok; exact rfl) | (apply AW_condA; exact rfl; (first | with_reducible assumption | decide +kernel)) | (apply AL_idx ttok; (iterate 6 exact rfl); (first | with_reducible assumption | decide +kernel | exact Int.natCast_nonneg _ | (guard_target = (0:Int) <= (OfNat.ofNat _ : Int); decide) | rotate_left); (first | with_reducible assumption | decide +kernel | exact rfl); (first | exact uniB_ok rfl | with_reducible assumption | decide +kernel | rotate_left)))
    refine Lands.mk' (m := f - 1) (by omega) ⟨i + 1, M.length + (putI (.mk k1 n1 b2 l1)).length, M ++ (putI (.mk k1 n1 b2 l1)).map E.byte, by omega, by simp only [List.length_append, List.length_map], by rw [hM, hps]; simp, rfl, rfl, rfl⟩ ?_ rfl rfl rfl rfl rfl rfl
    exact .cons rfl (.cons rfl (.cons rfl (.cons rfl (.cons rfl .nil))))
   ·have hdl : decide ((i : Int) < ((itEs l).length : Int)) = false := decide_eq_false (by omega)
    rw [List.take_of_length_le hge] at hM hMl
    repeat' (first | (apply AW_go ttok; exact rfl) | (apply AW_condB; exact rfl; (first | with_reducible assumption | decide +kernel)))
    all_goals (apply endT [] [0]; (apply resG_ok ttok; exact rfl); (iterate 7 exact rfl))
    ·rw [hM]; rfl
    ·rfl
    ·rw [hMl]; rfl
  ·refine AC_of Tryz.func71 rfl Tryz.ntmps71 rfl rfl ?_
   repeat' (first | rw [eb] | (apply AL_callPw (hW); kernel_rfl; (iterate 4 exact rfl)) | (apply AL_go ttok; exact rfl) | (apply AW_go ttok; exact rfl) | (apply K_go ttok; exact rfl) | (apply AW_condA; exact rfl; (first | with_reducible assumption | decide +kernel)) | (apply AW_condB; exact rfl; (first | with_reducible assumption | decide +kernel)) | (apply AL_len ttok; (iterate 4 exact rfl)) | (apply AW_drawE 5 hmix; (decide +kernel); (kernel_rfl); (kernel_rfl); (kernel_rfl); exact rfl; exact rfl) | (apply AE_consZ; (iterate 4 exact rfl)) | exact AE.nil _ _ _ _ | (apply AEk_puT; exact rfl) | (apply AEk_efT; exact rfl) | (apply AOt_mk; exact rfl; exact rfl; (decide +kernel); exact rfl) | (apply AO_puT; exact rfl) | (apply AO_efT; exact rfl) | exact AO.nil _ _ _ | (apply AOs_skip; (decide +kernel)) | (apply AOs_goZ; (iterate 3 exact rfl)) | exact AOs.nil | exact qY_ok rfl rfl | exact qY_ef rfl rfl | (apply AL_append ttok; (iterate 6 exact rfl); (first | with_reducible assumption | decide +kernel | exact rfl | rotate_left); exact rfl; exact rfl; (first | exact uniB_ok rfl | with_reducible assumption | decide +kernel | rotate_left); (first | exact uniB_ok rfl | with_reducible assumption | decide +kernel | rotate_left); (first | exact List.cons_ne_nil _ _ | with_reducible assumption | decide +kernel | rotate_left); (first | with_reducible assumption | decide +kernel | rotate_left); (first | with_reducible assumption | decide +kernel | rotate_left); exact rfl; exact rfl))
   all_goals first | (first | rfl | (simp only [List.length_append, List.length_cons, List.length_nil, List.length_map, itEs_len]; done) | (simp only [List.length_append, List.length_cons, List.length_nil, List.length_map, itEs_len] at *; (try unfold maxLen); (try simp only [Nat.add_mul]); omega)) | skip
   refine AW_loopJ (fun f tm bx fr => ∃ (i c : Nat) (M : List E), f + i = l.length /\ c = M.length /\ M = L ++ ((c0 :: t0) ++ ((c1 :: b1) ++ puts (l.take i))).map E.byte /\ tm = [(0, .sl (.own 0) M), (3, .ptr 0 0), (42, .sl .ext (itEs l)), (43, .int .i64 ((itEs l).length : Int)), (44, .int .i64 (i : Int))] /\ bx = [itC (3) n (c1 :: b1) l] /\ fr = [⟨c, 1, 5⟩]) (l.length + 1) (Lands.mk' (m := l.length) (Nat.lt_succ_self _) ⟨0, (L ++ (c0 :: t0).map E.byte).length + ((c1 :: b1).map E.byte).length, (L ++ (c0 :: t0).map E.byte) ++ (c1 :: b1).map E.byte, rfl, by simp only [List.length_append], by simp [puts], rfl, rfl, rfl⟩ ?_ rfl rfl rfl rfl rfl rfl) ?_
   ·exact .cons rfl (.cons rfl (.cons rfl (.cons rfl (.cons rfl .nil))))
   rintro f tm bx fr ⟨i, c, M, hf, hc, hM, rfl, rfl, rfl⟩
   subst hc
   have hU := uniI l
   have hUM : Uni 1 M := by rw [hM]; exact hUL.append (uniB1 _)
   have hMl : M.length = L.length + ((c0 :: t0) ++ ((c1 :: b1) ++ puts (l.take i))).length := by rw [hM]; simp only [List.length_append, List.length_map]
   rcases Nat.lt_or_ge i l.length with hlt | hge
   ·have hdl : decide ((i : Int) < ((itEs l).length : Int)) = true := decide_eq_true (by omega)
    obtain ⟨⟨k1, n1, b2, l1⟩, hy⟩ : ∃ y, l[i]? = some y := ⟨_, List.getElem?_eq_getElem hlt⟩
    have hv : (itEs l)[((i : Nat) : Int).toNat]? = some (.agg [.int .i64 k1, .int .u64 (n1 : Int), .sl (b2.map E.byte), .sl (itEs l1)]) := by
     rw [Int.toNat_natCast, itEs_map, List.getElem?_map, hy]; rfl
    have hmem := List.mem_of_getElem? hy
    have hps := puts_take_succ hy
    have hpl := puts_take_le l (i + 1)
    have hps2 := congrArg List.length hps
    rw [List.length_append] at hps2
    have hc := ih _ hmem (wfs_mem hws _ hmem) (okxs_mem hos _ hmem) M _ rfl hUM (by simp only [List.length_append] at hMl hlim; omega)
    have ei : IntKind.i64.wrap ((i : Int) + 1) = ((i + 1 : Nat) : Int) := by rw [IntWalk.i64_in _ (by omega)]; omega
    repeat' (first | rw [ei] | (apply AL_callT [] [0] (hc); kernel_rfl; (iterate 10 exact rfl)) | (apply AL_go ttok; exact rfl) | (apply AW_go ttok; exact rfl) | (apply AW_condA; exact rfl; (first | with_reducible assumption | decide +kernel)) | (apply AL_idx ttok; (iterate 6 exact rfl); (first | with_reducible assumption | decide +kernel | exact Int.natCast_nonneg _ | (guard_target = (0:Int) <= (OfNat.ofNat _ : Int); decide) | rotate_left); (first | with_reducible assumption | decide +kernel | exact rfl); (first | exact uniB_ok rfl | with_reducible assumption | decide +kernel | rotate_left)))
    refine Lands.mk' (m := f - 1) (by omega) ⟨i + 1, M.length + (putI (.mk k1 n1 b2 l1)).length, M ++ (putI (.mk k1 n1 b2 l1)).map E.byte, by omega, by simp only [List.length_append, List.length_map], by rw [hM, hps]; simp, rfl, rfl, rfl⟩ ?_ rfl rfl rfl rfl rfl rfl
    exact .cons rfl (.cons rfl (.cons rfl (.cons rfl (.cons rfl .nil))))
   ·have hdl : decide ((i : Int) < ((itEs l).length : Int)) = false := decide_eq_false (by omega)
    rw [List.take_of_length_le hge] at hM hMl
    repeat' (first | (apply AW_go ttok; exact rfl) | (apply AW_condB; exact rfl; (first | with_reducible assumption | decide +kernel)))
    all_goals (apply endT [] [0]; (apply resG_ok ttok; exact rfl); (iterate 7 exact rfl))
    ·rw [hM]; rfl
    ·rfl
    ·rw [hMl]; rfl
 ·rcases hbc with rfl | ⟨c1, b1, rfl⟩
  ·refine AC_of Tryz.func71 rfl Tryz.ntmps71 rfl rfl ?_
   repeat' (first | rw [el] | (apply AL_callPw (hW); kernel_rfl; (iterate 4 exact rfl)) | (apply AL_go ttok; exact rfl) | (apply AW_go ttok; exact rfl) | (apply K_go ttok; exact rfl) | (apply AW_condA; exact rfl; (first | with_reducible assumption | decide +kernel)) | (apply AW_condB; exact rfl; (first | with_reducible assumption | decide +kernel)) | (apply AL_len ttok; (iterate 4 exact rfl)) | (apply AW_drawE 5 hmix; (decide +kernel); (kernel_rfl); (kernel_rfl); (kernel_rfl); exact rfl; exact rfl) | (apply AE_consZ; (iterate 4 exact rfl)) | exact AE.nil _ _ _ _ | (apply AEk_puT; exact rfl) | (apply AEk_efT; exact rfl) | (apply AOt_mk; exact rfl; exact rfl; (decide +kernel); exact rfl) | (apply AO_puT; exact rfl) | (apply AO_efT; exact rfl) | exact AO.nil _ _ _ | (apply AOs_skip; (decide +kernel)) | (apply AOs_goZ; (iterate 3 exact rfl)) | exact AOs.nil | exact qY_ok rfl rfl | exact qY_ef rfl rfl | (apply AL_append_none ttok; (iterate 6 exact rfl)) | (apply AL_append ttok; (iterate 6 exact rfl); (first | with_reducible assumption | decide +kernel | exact rfl | rotate_left); exact rfl; exact rfl; (first | exact uniB_ok rfl | with_reducible assumption | decide +kernel | rotate_left); (first | exact uniB_ok rfl | with_reducible assumption | decide +kernel | rotate_left); (first | exact List.cons_ne_nil _ _ | with_reducible assumption | decide +kernel | rotate_left); (first | with_reducible assumption | decide +kernel | rotate_left); (first | with_reducible assumption | decide +kernel | rotate_left); exact rfl; exact rfl))
   all_goals first | (first | rfl | (simp only [List.length_append, List.length_cons, List.length_nil, List.length_map, itEs_len]; done) | (simp only [List.length_append, List.length_cons, List.length_nil, List.length_map, itEs_len] at *; (try unfold maxLen); (try simp only [Nat.add_mul]); omega)) | skip
   refine AW_loopJ (fun f tm bx fr => ∃ (i c : Nat) (M : List E), f + i = l.length /\ c = M.length /\ M = L ++ ((c0 :: t0) ++ (([] : List UInt8) ++ puts (l.take i))).map E.byte /\ tm = [(0, .sl (.own 0) M), (3, .ptr 0 0), (42, .sl .ext (itEs l)), (43, .int .i64 ((itEs l).length : Int)), (44, .int .i64 (i : Int))] /\ bx = [itC (4) n ([] : List UInt8) l] /\ fr = [⟨c, 1, 5⟩]) (l.length + 1) (Lands.mk' (m := l.length) (Nat.lt_succ_self _) ⟨0, L.length + ((c0 :: t0).map E.byte).length, L ++ (c0 :: t0).map E.byte, rfl, by simp only [List.length_append], by simp [puts], rfl, rfl, rfl⟩ ?_ rfl rfl rfl rfl rfl rfl) ?_
   ·exact .cons rfl (.cons rfl (.cons rfl (.cons rfl (.cons rfl .nil))))
   rintro f tm bx fr ⟨i, c, M, hf, hc, hM, rfl, rfl, rfl⟩
   subst hc
   have hU := uniI l
   have hUM : Uni 1 M := by rw [hM]; exact hUL.append (uniB1 _)
   have hMl : M.length = L.length + ((c0 :: t0) ++ (([] : List UInt8) ++ puts (l.take i))).length := by rw [hM]; simp only [List.length_append, List.length_map]
   rcases Nat.lt_or_ge i l.length with hlt | hge
   ·have hdl : decide ((i : Int) < ((itEs l).length : Int)) = true := decide_eq_true (by omega)
    obtain ⟨⟨k1, n1, b2, l1⟩, hy⟩ : ∃ y, l[i]? = some y := ⟨_, List.getElem?_eq_getElem hlt⟩
    have hv : (itEs l)[((i : Nat) : Int).toNat]? = some (.agg [.int .i64 k1, .int .u64 (n1 : Int), .sl (b2.map E.byte), .sl (itEs l1)]) := by
     rw [Int.toNat_natCast, itEs_map, List.getElem?_map, hy]; rfl
    have hmem := List.mem_of_getElem? hy
    have hps := puts_take_succ hy
    have hpl := puts_take_le l (i + 1)
    have hps2 := congrArg List.length hps
    rw [List.length_append] at hps2
    have hc := ih _ hmem (wfs_mem hws _ hmem) (okxs_mem hos _ hmem) M _ rfl hUM (by simp only [List.length_append] at hMl hlim; omega)
    have ei : IntKind.i64.wrap ((i : Int) + 1) = ((i + 1 : Nat) : Int) := by rw [IntWalk.i64_in _ (by omega)]; omega
    repeat' (first | rw [ei] | (apply AL_callT [] [0] (hc); kernel_rfl; (iterate 10 exact rfl)) | (apply AL_go ttok; exact rfl) | (apply AW_go ttok; exact rfl) | (apply AW_condA; exact rfl; (first | with_reducible assumption | decide +kernel)) | (apply AL_idx ttok; (iterate 6 exact rfl); (first | with_reducible assumption | decide +kernel | exact Int.natCast_nonneg _ | (guard_target = (0:Int) <= (OfNat.ofNat _ : Int); decide) | rotate_left); (first | with_reducible assumption | decide +kernel | exact rfl); (first | exact uniB_ok rfl | with_reducible assumption | decide +kernel | rotate_left)))
    refine Lands.mk' (m := f - 1) (by omega) ⟨i + 1, M.length + (putI (.mk k1 n1 b2 l1)).length, M ++ (putI (.mk k1 n1 b2 l1)).map E.byte, by omega, by simp only [List.length_append, List.length_map], by rw [hM, hps]; simp, rfl, rfl, rfl⟩ ?_ rfl rfl rfl rfl rfl rfl
    exact .cons rfl (.cons rfl (.cons rfl (.cons rfl (.cons rfl .nil))))
   ·have hdl : decide ((i : Int) < ((itEs l).length : Int)) = false := decide_eq_false (by omega)
    rw [List.take_of_length_le hge] at hM hMl
    repeat' (first | (apply AW_go ttok; exact rfl) | (apply AW_condB; exact rfl; (first | with_reducible assumption | decide +kernel)))
    all_goals (apply endT [] [0]; (apply resG_ok ttok; exact rfl); (iterate 7 exact rfl))
    ·rw [hM]; rfl
    ·rfl
    ·rw [hMl]; rfl
  ·refine AC_of Tryz.func71 rfl Tryz.ntmps71 rfl rfl ?_
   repeat' (first | rw [el] | (apply AL_callPw (hW); kernel_rfl; (iterate 4 exact rfl)) | (apply AL_go ttok; exact rfl) | (apply AW_go ttok; exact rfl) | (apply K_go ttok; exact rfl) | (apply AW_condA; exact rfl; (first | with_reducible assumption | decide +kernel)) | (apply AW_condB; exact rfl; (first | with_reducible assumption | decide +kernel)) | (apply AL_len ttok; (iterate 4 exact rfl)) | (apply AW_drawE 5 hmix; (decide +kernel); (kernel_rfl); (kernel_rfl); (kernel_rfl); exact rfl; exact rfl) | (apply AE_consZ; (iterate 4 exact rfl)) | exact AE.nil _ _ _ _ | (apply AEk_puT; exact rfl) | (apply AEk_efT; exact rfl) | (apply AOt_mk; exact rfl; exact rfl; (decide +kernel); exact rfl) | (apply AO_puT; exact rfl) | (apply AO_efT; exact rfl) | exact AO.nil _ _ _ | (apply AOs_skip; (decide +kernel)) | (apply AOs_goZ; (iterate 3 exact rfl)) | exact AOs.nil | exact qY_ok rfl rfl | exact qY_ef rfl rfl | (apply AL_append ttok; (iterate 6 exact rfl); (first | with_reducible assumption | decide +kernel | exact rfl | rotate_left); exact rfl; exact rfl; (first | exact uniB_ok rfl | with_reducible assumption | decide +kernel | rotate_left); (first | exact uniB_ok rfl | with_reducible assumption | decide +kernel | rotate_left); (first | exact List.cons_ne_nil _ _ | with_reducible assumption | decide +kernel | rotate_left); (first | with_reducible assumption | decide +kernel | rotate_left); (first | with_reducible assumption | decide +kernel | rotate_left); exact rfl; exact rfl))
   all_goals first | (first | rfl | (simp only [List.length_append, List.length_cons, List.length_nil, List.length_map, itEs_len]; done) | (simp only [List.length_append, List.length_cons, List.length_nil, List.length_map, itEs_len] at *; (try unfold maxLen); (try simp only [Nat.add_mul]); omega)) | skip
   refine AW_loopJ (fun f tm bx fr => ∃ (i c : Nat) (M : List E), f + i = l.length /\ c = M.length /\ M = L ++ ((c0 :: t0) ++ ((c1 :: b1) ++ puts (l.take i))).map E.byte /\ tm = [(0, .sl (.own 0) M), (3, .ptr 0 0), (42, .sl .ext (itEs l)), (43, .int .i64 ((itEs l).length : Int)), (44, .int .i64 (i : Int))] /\ bx = [itC (4) n (c1 :: b1) l] /\ fr = [⟨c, 1, 5⟩]) (l.length + 1) (Lands.mk' (m := l.length) (Nat.lt_succ_self _) ⟨0, (L ++ (c0 :: t0).map E.byte).length + ((c1 :: b1).map E.byte).length, (L ++ (c0 :: t0).map E.byte) ++ (c1 :: b1).map E.byte, rfl, by simp only [List.length_append], by simp [puts], rfl, rfl, rfl⟩ ?_ rfl rfl rfl rfl rfl rfl) ?_
   ·exact .cons rfl (.cons rfl (.cons rfl (.cons rfl (.cons rfl .nil))))
   rintro f tm bx fr ⟨i, c, M, hf, hc, hM, rfl, rfl, rfl⟩
   subst hc
   have hU := uniI l
   have hUM : Uni 1 M := by rw [hM]; exact hUL.append (uniB1 _)
   have hMl : M.length = L.length + ((c0 :: t0) ++ ((c1 :: b1) ++ puts (l.take i))).length := by rw [hM]; simp only [List.length_append, List.length_map]
   rcases Nat.lt_or_ge i l.length with hlt | hge
   ·have hdl : decide ((i : Int) < ((itEs l).length : Int)) = true := decide_eq_true (by omega)
    obtain ⟨⟨k1, n1, b2, l1⟩, hy⟩ : ∃ y, l[i]? = some y := ⟨_, List.getElem?_eq_getElem hlt⟩
    have hv : (itEs l)[((i : Nat) : Int).toNat]? = some (.agg [.int .i64 k1, .int .u64 (n1 : Int), .sl (b2.map E.byte), .sl (itEs l1)]) := by
     rw [Int.toNat_natCast, itEs_map, List.getElem?_map, hy]; rfl
    have hmem := List.mem_of_getElem? hy
    have hps := puts_take_succ hy
    have hpl := puts_take_le l (i + 1)
    have hps2 := congrArg List.length hps
    rw [List.length_append] at hps2
    have hc := ih _ hmem (wfs_mem hws _ hmem) (okxs_mem hos _ hmem) M _ rfl hUM (by simp only [List.length_append] at hMl hlim; omega)
    have ei : IntKind.i64.wrap ((i : Int) + 1) = ((i + 1 : Nat) : Int) := by rw [IntWalk.i64_in _ (by omega)]; omega
    repeat' (first | rw [ei] | (apply AL_callT [] [0] (hc); kernel_rfl; (iterate 10 exact rfl)) | (apply AL_go ttok; exact rfl) | (apply AW_go ttok; exact rfl) | (apply AW_condA; exact rfl; (first | with_reducible assumption | decide +kernel)) | (apply AL_idx ttok; (iterate 6 exact rfl); (first | with_reducible assumption | decide +kernel | exact Int.natCast_nonneg _ | (guard_target = (0:Int) <= (OfNat.ofNat _ : Int); decide) | rotate_left); (first | with_reducible assumption | decide +kernel | exact rfl); (first | exact uniB_ok rfl | with_reducible assumption | decide +kernel | rotate_left)))
    refine Lands.mk' (m := f - 1) (by omega) ⟨i + 1, M.length + (putI (.mk k1 n1 b2 l1)).length, M ++ (putI (.mk k1 n1 b2 l1)).map E.byte, by omega, by simp only [List.length_append, List.length_map], by rw [hM, hps]; simp, rfl, rfl, rfl⟩ ?_ rfl rfl rfl rfl rfl rfl
    exact .cons rfl (.cons rfl (.cons rfl (.cons rfl (.cons rfl .nil))))
   ·have hdl : decide ((i : Int) < ((itEs l).length : Int)) = false := decide_eq_false (by omega)
    rw [List.take_of_length_le hge] at hM hMl
    repeat' (first | (apply AW_go ttok; exact rfl) | (apply AW_condB; exact rfl; (first | with_reducible assumption | decide +kernel)))
    all_goals (apply endT [] [0]; (apply resG_ok ttok; exact rfl); (iterate 7 exact rfl))
    ·rw [hM]; rfl
    ·rfl
    ·rw [hMl]; rfl
 ·rw [hh] at hW
  clear hh
  have q2 := hne2 k2
  have q3 := hne3 k3
  have q4 := hne4 k4
  rcases hbc with rfl | ⟨c1, b1, rfl⟩
  ·refine AC_of Tryz.func71 rfl Tryz.ntmps71 rfl rfl ?_
   repeat' (first | (apply AL_callPw (hW); kernel_rfl; (iterate 4 exact rfl)) | (apply AL_go ttok; exact rfl) | (apply AW_go ttok; exact rfl) | (apply K_go ttok; exact rfl) | (apply AW_condB; exact rfl; (first | with_reducible assumption | decide +kernel)) | (apply AL_len ttok; (iterate 4 exact rfl)) | (apply AW_drawE 5 hmix; (decide +kernel); (kernel_rfl); (kernel_rfl); (kernel_rfl); exact rfl; exact rfl) | (apply AE_consZ; (iterate 4 exact rfl)) | exact AE.nil _ _ _ _ | (apply AEk_puT; exact rfl) | (apply AEk_efT; exact rfl) | (apply AOt_mk; exact rfl; exact rfl; (decide +kernel); exact rfl) | (apply AO_puT; exact rfl) | (apply AO_efT; exact rfl) | exact AO.nil _ _ _ | (apply AOs_skip; (decide +kernel)) | (apply AOs_goZ; (iterate 3 exact rfl)) | exact AOs.nil | exact qY_ok rfl rfl | exact qY_ef rfl rfl | (apply AL_append_none ttok; (iterate 6 exact rfl)) | (apply AL_append ttok; (iterate 6 exact rfl); (first | with_reducible assumption | decide +kernel | exact rfl | rotate_left); exact rfl; exact rfl; (first | exact uniB_ok rfl | with_reducible assumption | decide +kernel | rotate_left); (first | exact uniB_ok rfl | with_reducible assumption | decide +kernel | rotate_left); (first | exact List.cons_ne_nil _ _ | with_reducible assumption | decide +kernel | rotate_left); (first | with_reducible assumption | decide +kernel | rotate_left); (first | with_reducible assumption | decide +kernel | rotate_left); exact rfl; exact rfl))
   all_goals first | (first | rfl | (simp only [List.length_append, List.length_cons, List.length_nil, List.length_map, itEs_len]; done) | (simp only [List.length_append, List.length_cons, List.length_nil, List.length_map, itEs_len] at *; (try unfold maxLen); (try simp only [Nat.add_mul]); omega)) | skip
   refine AW_loopJ (fun f tm bx fr => ∃ (i c : Nat) (M : List E), f + i = l.length /\ c = M.length /\ M = L ++ ((c0 :: t0) ++ (([] : List UInt8) ++ puts (l.take i))).map E.byte /\ tm = [(0, .sl (.own 0) M), (3, .ptr 0 0), (42, .sl .ext (itEs l)), (43, .int .i64 ((itEs l).length : Int)), (44, .int .i64 (i : Int))] /\ bx = [itC (k) n ([] : List UInt8) l] /\ fr = [⟨c, 1, 5⟩]) (l.length + 1) (Lands.mk' (m := l.length) (Nat.lt_succ_self _) ⟨0, L.length + ((c0 :: t0).map E.byte).length, L ++ (c0 :: t0).map E.byte, rfl, by simp only [List.length_append], by simp [puts], rfl, rfl, rfl⟩ ?_ rfl rfl rfl rfl rfl rfl) ?_
   ·exact .cons rfl (.cons rfl (.cons rfl (.cons rfl (.cons rfl .nil))))
   rintro f tm bx fr ⟨i, c, M, hf, hc, hM, rfl, rfl, rfl⟩
   subst hc
   have hU := uniI l
   have hUM : Uni 1 M := by rw [hM]; exact hUL.append (uniB1 _)
   have hMl : M.length = L.length + ((c0 :: t0) ++ (([] : List UInt8) ++ puts (l.take i))).length := by rw [hM]; simp only [List.length_append, List.length_map]
   rcases Nat.lt_or_ge i l.length with hlt | hge
   ·have hdl : decide ((i : Int) < ((itEs l).length : Int)) = true := decide_eq_true (by omega)
    obtain ⟨⟨k1, n1, b2, l1⟩, hy⟩ : ∃ y, l[i]? = some y := ⟨_, List.getElem?_eq_getElem hlt⟩
    have hv : (itEs l)[((i : Nat) : Int).toNat]? = some (.agg [.int .i64 k1, .int .u64 (n1 : Int), .sl (b2.map E.byte), .sl (itEs l1)]) := by
     rw [Int.toNat_natCast, itEs_map, List.getElem?_map, hy]; rfl
    have hmem := List.mem_of_getElem? hy
    have hps := puts_take_succ hy
    have hpl := puts_take_le l (i + 1)
    have hps2 := congrArg List.length hps
    rw [List.length_append] at hps2
    have hc := ih _ hmem (wfs_mem hws _ hmem) (okxs_mem hos _ hmem) M _ rfl hUM (by simp only [List.length_append] at hMl hlim; omega)
    have ei : IntKind.i64.wrap ((i : Int) + 1) = ((i + 1 : Nat) : Int) := by rw [IntWalk.i64_in _ (by omega)]; omega
    repeat' (first | rw [ei] | (apply AL_callT [] [0] (hc); kernel_rfl; (iterate 10 exact rfl)) | (apply AL_go ttok; exact rfl) | (apply AW_go ttok; exact rfl) | (apply AW_condA; exact rfl; (first | with_reducible assumption | decide +kernel)) | (apply AL_idx ttok; (iterate 6 exact rfl); (first | with_reducible assumption | decide +kernel | exact Int.natCast_nonneg _ | (guard_target = (0:Int) <= (OfNat.ofNat _ : Int); decide) | rotate_left); (first | with_reducible assumption | decide +kernel | exact rfl); (first | exact uniB_ok rfl | with_reducible assumption | decide +kernel | rotate_left)))
    refine Lands.mk' (m := f - 1) (by omega) ⟨i + 1, M.length + (putI (.mk k1 n1 b2 l1)).length, M ++ (putI (.mk k1 n1 b2 l1)).map E.byte, by omega, by simp only [List.length_append, List.length_map], by rw [hM, hps]; simp, rfl, rfl, rfl⟩ ?_ rfl rfl rfl rfl rfl rfl
    exact .cons rfl (.cons rfl (.cons rfl (.cons rfl (.cons rfl .nil))))
   ·have hdl : decide ((i : Int) < ((itEs l).length : Int)) = false := decide_eq_false (by omega)
    rw [List.take_of_length_le hge] at hM hMl
    repeat' (first | (apply AW_go ttok; exact rfl) | (apply AW_condB; exact rfl; (first | with_reducible assumption | decide +kernel)))
    all_goals (apply endT [] [0]; (apply resG_ok ttok; exact rfl); (iterate 7 exact rfl))
    ·rw [hM]; rfl
    ·rfl
    ·rw [hMl]; rfl
  ·refine AC_of Tryz.func71 rfl Tryz.ntmps71 rfl rfl ?_
   repeat' (first | (apply AL_callPw (hW); kernel_rfl; (iterate 4 exact rfl)) | (apply AL_go ttok; exact rfl) | (apply AW_go ttok; exact rfl) | (apply K_go ttok; exact rfl) | (apply AW_condB; exact rfl; (first | with_reducible assumption | decide +kernel)) | (apply AL_len ttok; (iterate 4 exact rfl)) | (apply AW_drawE 5 hmix; (decide +kernel); (kernel_rfl); (kernel_rfl); (kernel_rfl); exact rfl; exact rfl) | (apply AE_consZ; (iterate 4 exact rfl)) | exact AE.nil _ _ _ _ | (apply AEk_puT; exact rfl) | (apply AEk_efT; exact rfl) | (apply AOt_mk; exact rfl; exact rfl; (decide +kernel); exact rfl) | (apply AO_puT; exact rfl) | (apply AO_efT; exact rfl) | exact AO.nil _ _ _ | (apply AOs_skip; (decide +kernel)) | (apply AOs_goZ; (iterate 3 exact rfl)) | exact AOs.nil | exact qY_ok rfl rfl | exact qY_ef rfl rfl | (apply AL_append ttok; (iterate 6 exact rfl); (first | with_reducible assumption | decide +kernel | exact rfl | rotate_left); exact rfl; exact rfl; (first | exact uniB_ok rfl | with_reducible assumption | decide +kernel | rotate_left); (first | exact uniB_ok rfl | with_reducible assumption | decide +kernel | rotate_left); (first | exact List.cons_ne_nil _ _ | with_reducible assumption | decide +kernel | rotate_left); (first | with_reducible assumption | decide +kernel | rotate_left); (first | with_reducible assumption | decide +kernel | rotate_left); exact rfl; exact rfl))
   all_goals first | (first | rfl | (simp only [List.length_append, List.length_cons, List.length_nil, List.length_map, itEs_len]; done) | (simp only [List.length_append, List.length_cons, List.length_nil, List.length_map, itEs_len] at *; (try unfold maxLen); (try simp only [Nat.add_mul]); omega)) | skip
   refine AW_loopJ (fun f tm bx fr => ∃ (i c : Nat) (M : List E), f + i = l.length /\ c = M.length /\ M = L ++ ((c0 :: t0) ++ ((c1 :: b1) ++ puts (l.take i))).map E.byte /\ tm = [(0, .sl (.own 0) M), (3, .ptr 0 0), (42, .sl .ext (itEs l)), (43, .int .i64 ((itEs l).length : Int)), (44, .int .i64 (i : Int))] /\ bx = [itC (k) n (c1 :: b1) l] /\ fr = [⟨c, 1, 5⟩]) (l.length + 1) (Lands.mk' (m := l.length) (Nat.lt_succ_self _) ⟨0, (L ++ (c0 :: t0).map E.byte).length + ((c1 :: b1).map E.byte).length, (L ++ (c0 :: t0).map E.byte) ++ (c1 :: b1).map E.byte, rfl, by simp only [List.length_append], by simp [puts], rfl, rfl, rfl⟩ ?_ rfl rfl rfl rfl rfl rfl) ?_
   ·exact .cons rfl (.cons rfl (.cons rfl (.cons rfl (.cons rfl .nil))))
   rintro f tm bx fr ⟨i, c, M, hf, hc, hM, rfl, rfl, rfl⟩
   subst hc
   have hU := uniI l
   have hUM : Uni 1 M := by rw [hM]; exact hUL.append (uniB1 _)
   have hMl : M.length = L.length + ((c0 :: t0) ++ ((c1 :: b1) ++ puts (l.take i))).length := by rw [hM]; simp only [List.length_append, List.length_map]
   rcases Nat.lt_or_ge i l.length with hlt | hge
   ·have hdl : decide ((i : Int) < ((itEs l).length : Int)) = true := decide_eq_true (by omega)
    obtain ⟨⟨k1, n1, b2, l1⟩, hy⟩ : ∃ y, l[i]? = some y := ⟨_, List.getElem?_eq_getElem hlt⟩
    have hv : (itEs l)[((i : Nat) : Int).toNat]? = some (.agg [.int .i64 k1, .int .u64 (n1 : Int), .sl (b2.map E.byte), .sl (itEs l1)]) := by
     rw [Int.toNat_natCast, itEs_map, List.getElem?_map, hy]; rfl
    have hmem := List.mem_of_getElem? hy
    have hps := puts_take_succ hy
    have hpl := puts_take_le l (i + 1)
    have hps2 := congrArg List.length hps
    rw [List.length_append] at hps2
    have hc := ih _ hmem (wfs_mem hws _ hmem) (okxs_mem hos _ hmem) M _ rfl hUM (by simp only [List.length_append] at hMl hlim; omega)
    have ei : IntKind.i64.wrap ((i : Int) + 1) = ((i + 1 : Nat) : Int) := by rw [IntWalk.i64_in _ (by omega)]; omega
    repeat' (first | rw [ei] | (apply AL_callT [] [0] (hc); kernel_rfl; (iterate 10 exact rfl)) | (apply AL_go ttok; exact rfl) | (apply AW_go ttok; exact rfl) | (apply AW_condA; exact rfl; (first | with_reducible assumption | decide +kernel)) | (apply AL_idx ttok; (iterate 6 exact rfl); (first | with_reducible assumption | decide +kernel | exact Int.natCast_nonneg _ | (guard_target = (0:Int) <= (OfNat.ofNat _ : Int); decide) | rotate_left); (first | with_reducible assumption | decide +kernel | exact rfl); (first | exact uniB_ok rfl | with_reducible assumption | decide +kernel | rotate_left)))
    refine Lands.mk' (m := f - 1) (by omega) ⟨i + 1, M.length + (putI (.mk k1 n1 b2 l1)).length, M ++ (putI (.mk k1 n1 b2 l1)).map E.byte, by omega, by simp only [List.length_append, List.length_map], by rw [hM, hps]; simp, rfl, rfl, rfl⟩ ?_ rfl rfl rfl rfl rfl rfl
    exact .cons rfl (.cons rfl (.cons rfl (.cons rfl (.cons rfl .nil))))
   ·have hdl : decide ((i : Int) < ((itEs l).length : Int)) = false := decide_eq_false (by omega)
    rw [List.take_of_length_le hge] at hM hMl
    repeat' (first | (apply AW_go ttok; exact rfl) | (apply AW_condB; exact rfl; (first | with_reducible assumption | decide +kernel)))
    all_goals (apply endT [] [0]; (apply resG_ok ttok; exact rfl); (iterate 7 exact rfl))
    ·rw [hM]; rfl
    ·rfl
    ·rw [hMl]; rfl
theorem av_putN [Known] (x : It) (hw : wfI x) (ho : okx x) (hlim : (putI x).length <= 1099511627776) : AT Tryz.prog 71 [.sl .nil [], itD x] [] [] (.sl (.own 0) ((putI x).map E.byte)) [] [⟨(putI x).length, 1, 5⟩] := by
 obtain ⟨k, n, b, l⟩ := x
 obtain ⟨hn, hb, hl, hws⟩ := hw
 obtain ⟨hk7, hos⟩ := ho
 have hlen := itEs_len l
 have hr : rightB (k, (It.mk k n b l).hn, false) = true := by simp [rightB]; exact hk7
 have hhn : (It.mk k n b l).hn < 18446744073709551616 := by simp only [It.hn]; (repeat' split) <;> omega
 have hput : putI (.mk k n b l) = writeL (k, (It.mk k n b l).hn, false) ++ (b ++ puts l) := by rw [putI, if_pos hr]
 rw [hput] at hlim ⊢
 have hW := av_write (k, (It.mk k n b l).hn, false) hhn
 rw [if_pos hr, if_pos hr] at hW
 obtain ⟨c0, t0, hcw⟩ := writeL_cons (k, (It.mk k n b l).hn, false)
 rw [hcw] at hW hlim ⊢
 have hU0 := uniB1 (c0 :: t0)
 have hU1 := uniB1 b
 have eb : IntKind.u64.wrap (((b.map E.byte).length : Nat) : Int) = ((b.length : Nat) : Int) := by rw [List.length_map, IntKind.wrap_u64]; omega
 have el : IntKind.u64.wrap (((itEs l).length : Nat) : Int) = ((l.length : Nat) : Int) := by rw [hlen, IntKind.wrap_u64]; omega
 have hS : ∀ (i : Nat), IntKind.i64.wrap ((i : Int) + 1) = ((i + 1 : Nat) : Int) \/ 2199023255488 < i := fun i => by
  rcases Nat.lt_or_ge 2199023255488 i with h | h
  ·exact .inr h
  ·left; rw [IntWalk.i64_in _ (by omega)]; omega
 have hkc : (k = 2 /\ (It.mk k n b l).hn = b.length) \/ (k = 3 /\ (It.mk k n b l).hn = b.length) \/ (k = 4 /\ (It.mk k n b l).hn = l.length) \/ (k ≠ 2 /\ k ≠ 3 /\ k ≠ 4 /\ (It.mk k n b l).hn = n) := by
  by_cases h2 : k = 2
  ·subst h2; exact .inl ⟨rfl, rfl⟩
  by_cases h3 : k = 3
  ·subst h3; exact .inr (.inl ⟨rfl, rfl⟩)
  by_cases h4 : k = 4
  ·subst h4; exact .inr (.inr (.inl ⟨rfl, rfl⟩))
  ·exact .inr (.inr (.inr ⟨h2, h3, h4, by simp [It.hn, h2, h3, h4]⟩))
 clear hhn hr hcw hput
 generalize (It.mk k n b l).hn = hn0 at hkc hW
 have hbc : b = [] \/ ∃ c1 b1, b = c1 :: b1 := by cases b <;> simp
 have hne2 : k ≠ 2 -> (k == 2) = false := fun h => by simpa using h
 have hne3 : k ≠ 3 -> (k == 3) = false := fun h => by simpa using h
 have hne4 : k ≠ 4 -> (k == 4) = false := fun h => by simpa using h
 rcases hkc with ⟨rfl, rfl⟩ | ⟨rfl, rfl⟩ | ⟨rfl, rfl⟩ | ⟨k2, k3, k4, hh⟩
 ·rcases hbc with rfl | ⟨c1, b1, rfl⟩
  ·refine AC_of Tryz.func71 rfl Tryz.ntmps71 rfl rfl ?_
   repeat' (first | rw [eb] | (apply AL_callPw (hW); kernel_rfl; (iterate 4 exact rfl)) | (apply AL_go ttok; exact rfl) | (apply AW_go ttok; exact rfl) | (apply K_go ttok; exact rfl) | (apply AW_condA; exact rfl; (first | with_reducible assumption | decide +kernel)) | (apply AL_len ttok; (iterate 4 exact rfl)) | (apply AW_drawE 5 hmix; (decide +kernel); (kernel_rfl); (kernel_rfl); (kernel_rfl); exact rfl; exact rfl) | (apply AE_consZ; (iterate 4 exact rfl)) | exact AE.nil _ _ _ _ | (apply AEk_puT; exact rfl) | (apply AEk_efT; exact rfl) | (apply AOt_mk; exact rfl; exact rfl; (decide +kernel); exact rfl) | (apply AO_puT; exact rfl) | (apply AO_efT; exact rfl) | exact AO.nil _ _ _ | (apply AOs_skip; (decide +kernel)) | (apply AOs_goZ; (iterate 3 exact rfl)) | exact AOs.nil | exact qY_ok rfl rfl | exact qY_ef rfl rfl | (apply AL_append_none ttok; (iterate 6 exact rfl)) | (apply AL_append_nil ttok; (iterate 6 exact rfl); (first | exact uniB_ok rfl | with_reducible assumption | decide +kernel | rotate_left); (first | exact List.cons_ne_nil _ _ | with_reducible assumption | decide +kernel | rotate_left); (first | with_reducible assumption | decide +kernel | rotate_left); (first | with_reducible assumption | decide +kernel | rotate_left); (iterate 3 exact rfl)))
   all_goals first | (first | rfl | (simp only [List.length_append, List.length_cons, List.length_nil, List.length_map, itEs_len]; done) | (simp only [List.length_append, List.length_cons, List.length_nil, List.length_map, itEs_len] at *; (try unfold maxLen); (try simp only [Nat.add_mul]); omega)) | skip
   refine AW_loopJ (fun f tm bx fr => ∃ (i c : Nat) (M : List E), f + i = l.length /\ c = M.length /\ M = ((c0 :: t0) ++ (([] : List UInt8) ++ puts (l.take i))).map E.byte /\ tm = [(0, .sl (.own 0) M), (3, .ptr 0 0), (42, .sl .ext (itEs l)), (43, .int .i64 ((itEs l).length : Int)), (44, .int .i64 (i : Int))] /\ bx = [itC (2) n ([] : List UInt8) l] /\ fr = [⟨c, 1, 5⟩]) (l.length + 1) (Lands.mk' (m := l.length) (Nat.lt_succ_self _) ⟨0, ((c0 :: t0).map E.byte).length, (c0 :: t0).map E.byte, rfl, by simp only [List.length_append], by simp [puts], rfl, rfl, rfl⟩ ?_ rfl rfl rfl rfl rfl rfl) ?_
   ·exact .cons rfl (.cons rfl (.cons rfl (.cons rfl (.cons rfl .nil))))
   rintro f tm bx fr ⟨i, c, M, hf, hc, hM, rfl, rfl, rfl⟩
   subst hc
   have hU := uniI l
   have hUM : Uni 1 M := by rw [hM]; exact uniB1 _
   have hMl : M.length = ((c0 :: t0) ++ (([] : List UInt8) ++ puts (l.take i))).length := by rw [hM]; simp only [List.length_append, List.length_map]
   rcases Nat.lt_or_ge i l.length with hlt | hge
   ·have hdl : decide ((i : Int) < ((itEs l).length : Int)) = true := decide_eq_true (by omega)
    obtain ⟨⟨k1, n1, b2, l1⟩, hy⟩ : ∃ y, l[i]? = some y := ⟨_, List.getElem?_eq_getElem hlt⟩
    have hv : (itEs l)[((i : Nat) : Int).toNat]? = some (.agg [.int .i64 k1, .int .u64 (n1 : Int), .sl (b2.map E.byte), .sl (itEs l1)]) := by
     rw [Int.toNat_natCast, itEs_map, List.getElem?_map, hy]; rfl
    have hmem := List.mem_of_getElem? hy
    have hps := puts_take_succ hy
    have hpl := puts_take_le l (i + 1)
    have hps2 := congrArg List.length hps
    rw [List.length_append] at hps2
    have hc := av_putO _ (wfs_mem hws _ hmem) (okxs_mem hos _ hmem) M _ rfl hUM (by simp only [List.length_append] at hMl hlim; omega)
    have ei : IntKind.i64.wrap ((i : Int) + 1) = ((i + 1 : Nat) : Int) := by rw [IntWalk.i64_in _ (by omega)]; omega
    repeat' (first | rw [ei] | (apply AL_callT [] [0] (hc); kernel_rfl; (iterate 10 exact rfl)) | (apply AL_go ttok; exact rfl) | (apply AW_go ttok; exact rfl) | (apply AW_condA; exact rfl; (first | with_reducible assumption | decide +kernel)) | (apply AL_idx ttok; (iterate 6 exact rfl); (first | with_reducible assumption | decide +kernel | exact Int.natCast_nonneg _ | (guard_target = (0:Int) <= (OfNat.ofNat _ : Int); decide) | rotate_left); (first | with_reducible assumption | decide +kernel | exact rfl); (first | exact uniB_ok rfl | with_reducible assumption | decide +kernel | rotate_left)))
    refine Lands.mk' (m := f - 1) (by omega) ⟨i + 1, M.length + (putI (.mk k1 n1 b2 l1)).length, M ++ (putI (.mk k1 n1 b2 l1)).map E.byte, by omega, by simp only [List.length_append, List.length_map], by rw [hM, hps]; simp, rfl, rfl, rfl⟩ ?_ rfl rfl rfl rfl rfl rfl
    exact .cons rfl (.cons rfl (.cons rfl (.cons rfl (.cons rfl .nil))))
   ·have hdl : decide ((i : Int) < ((itEs l).length : Int)) = false := decide_eq_false (by omega)
    rw [List.take_of_length_le hge] at hM hMl
    repeat' (first | (apply AW_go ttok; exact rfl) | (apply AW_condB; exact rfl; (first | with_reducible assumption | decide +kernel)))
    all_goals (apply endT [] [0]; (apply resG_ok ttok; exact rfl); (iterate 7 exact rfl))
    ·rw [hM]; rfl
    ·rfl
    ·rw [hMl]; rfl
  ·refine AC_of Tryz.func71 rfl Tryz.ntmps71 rfl rfl ?_
   repeat' (first | rw [eb] | (apply AL_callPw (hW); kernel_rfl; (iterate 4 exact rfl)) | (apply AL_go ttok; exact rfl) | (apply AW_go ttok; exact rfl) | (apply K_go ttok; exact rfl) | (apply AW_condA; exact rfl; (first | with_reducible assumption | decide +kernel)) | (apply AL_len ttok; (iterate 4 exact rfl)) | (apply AW_drawE 5 hmix; (decide +kernel); (kernel_rfl); (kernel_rfl); (kernel_rfl); exact rfl; exact rfl) | (apply AE_consZ; (iterate 4 exact rfl)) | exact AE.nil _ _ _ _ | (apply AEk_puT; exact rfl) | (apply AEk_efT; exact rfl) | (apply AOt_mk; exact rfl; exact rfl; (decide +kernel); exact rfl) | (apply AO_puT; exact rfl) | (apply AO_efT; exact rfl) | exact AO.nil _ _ _ | (apply AOs_skip; (decide +kernel)) | (apply AOs_goZ; (iterate 3 exact rfl)) | exact AOs.nil | exact qY_ok rfl rfl | exact qY_ef rfl rfl | (apply AL_append ttok; (iterate 6 exact rfl); (first | with_reducible assumption | decide +kernel | exact rfl | rotate_left); exact rfl; exact rfl; (first | exact uniB_ok rfl | with_reducible assumption | decide +kernel | rotate_left); (first | exact uniB_ok rfl | with_reducible assumption | decide +kernel | rotate_left); (first | exact List.cons_ne_nil _ _ | with_reducible assumption | decide +kernel | rotate_left); (first | with_reducible assumption | decide +kernel | rotate_left); (first | with_reducible assumption | decide +kernel | rotate_left); exact rfl; exact rfl) | (apply AL_append_nil ttok; (iterate 6 exact rfl); (first | exact uniB_ok rfl | with_reducible assumption | decide +kernel | rotate_left); (first | exact List.cons_ne_nil _ _ | with_reducible assumption | decide +kernel | rotate_left); (first | with_reducible assumption | decide +kernel | rotate_left); (first | with_reducible assumption | decide +kernel | rotate_left); (iterate 3 exact rfl)))
   all_goals first | (first | rfl | (simp only [List.length_append, List.length_cons, List.length_nil, List.length_map, itEs_len]; done) | (simp only [List.length_append, List.length_cons, List.length_nil, List.length_map, itEs_len] at *; (try unfold maxLen); (try simp only [Nat.add_mul]); omega)) | skip
   refine AW_loopJ (fun f tm bx fr => ∃ (i c : Nat) (M : List E), f + i = l.length /\ c = M.length /\ M = ((c0 :: t0) ++ ((c1 :: b1) ++ puts (l.take i))).map E.byte /\ tm = [(0, .sl (.own 0) M), (3, .ptr 0 0), (42, .sl .ext (itEs l)), (43, .int .i64 ((itEs l).length : Int)), (44, .int .i64 (i : Int))] /\ bx = [itC (2) n (c1 :: b1) l] /\ fr = [⟨c, 1, 5⟩]) (l.length + 1) (Lands.mk' (m := l.length) (Nat.lt_succ_self _) ⟨0, ((c0 :: t0).map E.byte).length + ((c1 :: b1).map E.byte).length, ((c0 :: t0).map E.byte) ++ (c1 :: b1).map E.byte, rfl, by simp only [List.length_append], by simp [puts], rfl, rfl, rfl⟩ ?_ rfl rfl rfl rfl rfl rfl) ?_
   ·exact .cons rfl (.cons rfl (.cons rfl (.cons rfl (.cons rfl .nil))))
   rintro f tm bx fr ⟨i, c, M, hf, hc, hM, rfl, rfl, rfl⟩
   subst hc
   have hU := uniI l
   have hUM : Uni 1 M := by rw [hM]; exact uniB1 _
   have hMl : M.length = ((c0 :: t0) ++ ((c1 :: b1) ++ puts (l.take i))).length := by rw [hM]; simp only [List.length_append, List.length_map]
   rcases Nat.lt_or_ge i l.length with hlt | hge
   ·have hdl : decide ((i : Int) < ((itEs l).length : Int)) = true := decide_eq_true (by omega)
    obtain ⟨⟨k1, n1, b2, l1⟩, hy⟩ : ∃ y, l[i]? = some y := ⟨_, List.getElem?_eq_getElem hlt⟩
    have hv : (itEs l)[((i : Nat) : Int).toNat]? = some (.agg [.int .i64 k1, .int .u64 (n1 : Int), .sl (b2.map E.byte), .sl (itEs l1)]) := by
     rw [Int.toNat_natCast, itEs_map, List.getElem?_map, hy]; rfl
    have hmem := List.mem_of_getElem? hy
    have hps := puts_take_succ hy
    have hpl := puts_take_le l (i + 1)
    have hps2 := congrArg List.length hps
    rw [List.length_append] at hps2
    have hc := av_putO _ (wfs_mem hws _ hmem) (okxs_mem hos _ hmem) M _ rfl hUM (by simp only [List.length_append] at hMl hlim; omega)
    have ei : IntKind.i64.wrap ((i : Int) + 1) = ((i + 1 : Nat) : Int) := by rw [IntWalk.i64_in _ (by omega)]; omega
    repeat' (first | rw [ei] | (apply AL_callT [] [0] (hc); kernel_rfl; (iterate 10 exact rfl)) | (apply AL_go ttok; exact rfl) | (apply AW_go ttok; exact rfl) | (apply AW_condA; exact rfl; (first | with_reducible assumption | decide +kernel)) | (apply AL_idx ttok; (iterate 6 exact rfl); (first | with_reducible assumption | decide +kernel | exact Int.natCast_nonneg _ | (guard_target = (0:Int) <= (OfNat.ofNat _ : Int); decide) | rotate_left); (first | with_reducible assumption | decide +kernel | exact rfl); (first | exact uniB_ok rfl | with_reducible assumption | decide +kernel | rotate_left)))
    refine Lands.mk' (m := f - 1) (by omega) ⟨i + 1, M.length + (putI (.mk k1 n1 b2 l1)).length, M ++ (putI (.mk k1 n1 b2 l1)).map E.byte, by omega, by simp only [List.length_append, List.length_map], by rw [hM, hps]; simp, rfl, rfl, rfl⟩ ?_ rfl rfl rfl rfl rfl rfl
    exact .cons rfl (.cons rfl (.cons rfl (.cons rfl (.cons rfl .nil))))
   ·have hdl : decide ((i : Int) < ((itEs l).length : Int)) = false := decide_eq_false (by omega)
    rw [List.take_of_length_le hge] at hM hMl
    repeat' (first | (apply AW_go ttok; exact rfl) | (apply AW_condB; exact rfl; (first | with_reducible assumption | decide +kernel)))
    all_goals (apply endT [] [0]; (apply resG_ok ttok; exact rfl); (iterate 7 exact rfl))
    ·rw [hM]; rfl
    ·rfl
    ·rw [hMl]; rfl
 ·rcases hbc with rfl | ⟨c1, b1, rfl⟩
  ·refine AC_of Tryz.func71 rfl Tryz.ntmps71 rfl rfl ?_
   repeat' (first | rw [eb] | (apply AL_callPw (hW); kernel_rfl; (iterate 4 exact rfl)) | (apply AL_go ttok; exact rfl) | (apply AW_go ttok; exact rfl) | (apply K_go ttok; exact rfl) | (apply AW_condA; exact rfl; (first | with_reducible assumption | decide +kernel)) | (apply AW_condB; exact rfl; (first | with_reducible assumption | decide +kernel)) | (apply AL_len ttok; (iterate 4 exact rfl)) | (apply AW_drawE 5 hmix; (decide +kernel); (kernel_rfl); (kernel_rfl); (kernel_rfl); exact rfl; exact rfl) | (apply AE_consZ; (iterate 4 exact rfl)) | exact AE.nil _ _ _ _ | (apply AEk_puT; exact rfl) | (apply AEk_efT; exact rfl) | (apply AOt_mk; exact rfl; exact rfl; (decide +kernel); exact rfl) | (apply AO_puT; exact rfl) | (apply AO_efT; exact rfl) | exact AO.nil _ _ _ | (apply AOs_skip; (decide +kernel)) | (apply AOs_goZ; (iterate 3 exact rfl)) | exact AOs.nil | exact qY_ok rfl rfl | exact qY_ef rfl rfl | (apply AL_append_none ttok; (iterate 6 exact rfl)) | (apply AL_append_nil ttok; (iterate 6 exact rfl); (first | exact uniB_ok rfl | with_reducible assumption | decide +kernel | rotate_left); (first | exact List.cons_ne_nil _ _ | with_reducible assumption | decide +kernel | rotate_left); (first | with_reducible assumption | decide +kernel | rotate_left); (first | with_reducible assumption | decide +kernel | rotate_left); (iterate 3 exact rfl)))
   all_goals first | (first | rfl | (simp only [List.length_append, List.length_cons, List.length_nil, List.length_map, itEs_len]; done) | (simp only [List.length_append, List.length_cons, List.length_nil, List.length_map, itEs_len] at *; (try unfold maxLen); (try simp only [Nat.add_mul]); omega)) | skip
   refine AW_loopJ (fun f tm bx fr => ∃ (i c : Nat) (M : List E), f + i = l.length /\ c = M.length /\ M = ((c0 :: t0) ++ (([] : List UInt8) ++ puts (l.take i))).map E.byte /\ tm = [(0, .sl (.own 0) M), (3, .ptr 0 0), (42, .sl .ext (itEs l)), (43, .int .i64 ((itEs l).length : Int)), (44, .int .i64 (i : Int))] /\ bx = [itC (3) n ([] : List UInt8) l] /\ fr = [⟨c, 1, 5⟩]) (l.length + 1) (Lands.mk' (m := l.length) (Nat.lt_succ_self _) ⟨0, ((c0 :: t0).map E.byte).length, (c0 :: t0).map E.byte, rfl, by simp only [List.length_append], by simp [puts], rfl, rfl, rfl⟩ ?_ rfl rfl rfl rfl rfl rfl) ?_
   ·exact .cons rfl (.cons rfl (.cons rfl (.cons rfl (.cons rfl .nil))))
   rintro f tm bx fr ⟨i, c, M, hf, hc, hM, rfl, rfl, rfl⟩
   subst hc
   have hU := uniI l
   have hUM : Uni 1 M := by rw [hM]; exact uniB1 _
   have hMl : M.length = ((c0 :: t0) ++ (([] : List UInt8) ++ puts (l.take i))).length := by rw [hM]; simp only [List.length_append, List.length_map]
   rcases Nat.lt_or_ge i l.length with hlt | hge
   ·have hdl : decide ((i : Int) < ((itEs l).length : Int)) = true := decide_eq_true (by omega)
    obtain ⟨⟨k1, n1, b2, l1⟩, hy⟩ : ∃ y, l[i]? = some y := ⟨_, List.getElem?_eq_getElem hlt⟩
    have hv : (itEs l)[((i : Nat) : Int).toNat]? = some (.agg [.int .i64 k1, .int .u64 (n1 : Int), .sl (b2.map E.byte), .sl (itEs l1)]) := by
     rw [Int.toNat_natCast, itEs_map, List.getElem?_map, hy]; rfl
    have hmem := List.mem_of_getElem? hy
    have hps := puts_take_succ hy
    have hpl := puts_take_le l (i + 1)
    have hps2 := congrArg List.length hps
    rw [List.length_append] at hps2
    have hc := av_putO _ (wfs_mem hws _ hmem) (okxs_mem hos _ hmem) M _ rfl hUM (by simp only [List.length_append] at hMl hlim; omega)
    have ei : IntKind.i64.wrap ((i : Int) + 1) = ((i + 1 : Nat) : Int) := by rw [IntWalk.i64_in _ (by omega)]; omega
    repeat' (first | rw [ei] | (apply AL_callT [] [0] (hc); kernel_rfl; (iterate 10 exact rfl)) | (apply AL_go ttok; exact rfl) | (apply AW_go ttok; exact rfl) | (apply AW_condA; exact rfl; (first | with_reducible assumption | decide +kernel)) | (apply AL_idx ttok; (iterate 6 exact rfl); (first | with_reducible assumption | decide +kernel | exact Int.natCast_nonneg _ | (guard_target = (0:Int) <= (OfNat.ofNat _ : Int); decide) | rotate_left); (first | with_reducible assumption | decide +kernel | exact rfl); (first | exact uniB_ok rfl | with_reducible assumption | decide +kernel | rotate_left)))
    refine Lands.mk' (m := f - 1) (by omega) ⟨i + 1, M.length + (putI (.mk k1 n1 b2 l1)).length, M ++ (putI (.mk k1 n1 b2 l1)).map E.byte, by omega, by simp only [List.length_append, List.length_map], by rw [hM, hps]; simp, rfl, rfl, rfl⟩ ?_ rfl rfl rfl rfl rfl rfl
    exact .cons rfl (.cons rfl (.cons rfl (.cons rfl (.cons rfl .nil))))
   ·have hdl : decide ((i : Int) < ((itEs l).length : Int)) = false := decide_eq_false (by omega)
    rw [List.take_of_length_le hge] at hM hMl
    repeat' (first | (apply AW_go ttok; exact rfl) | (apply AW_condB; exact rfl; (first | with_reducible assumption | decide +kernel)))
    all_goals (apply endT [] [0]; (apply resG_ok ttok; exact rfl); (iterate 7 exact rfl))
    ·rw [hM]; rfl
    ·rfl
    ·rw [hMl]; rfl
  ·refine AC_of Tryz.func71 rfl Tryz.ntmps71 rfl rfl ?_
   repeat' (first | rw [eb] | (apply AL_callPw (hW); kernel_rfl; (iterate 4 exact rfl)) | (apply AL_go ttok; exact rfl) | (apply AW_go ttok; exact rfl) | (apply K_go ttok; exact rfl) | (apply AW_condA; exact rfl; (first | with_reducible assumption | decide +kernel)) | (apply AW_condB; exact rfl; (first | with_reducible assumption | decide +kernel)) | (apply AL_len ttok; (iterate 4 exact rfl)) | (apply AW_drawE 5 hmix; (decide +kernel); (kernel_rfl); (kernel_rfl); (kernel_rfl); exact rfl; exact rfl) | (apply AE_consZ; (iterate 4 exact rfl)) | exact AE.nil _ _ _ _ | (apply AEk_puT; exact rfl) | (apply AEk_efT; exact rfl) | (apply AOt_mk; exact rfl; exact rfl; (decide +kernel); exact rfl) | (apply AO_puT; exact rfl) | (apply AO_efT; exact rfl) | exact AO.nil _ _ _ | (apply AOs_skip; (decide +kernel)) | (apply AOs_goZ; (iterate 3 exact rfl)) | exact AOs.nil | exact qY_ok rfl rfl | exact qY_ef rfl rfl | (apply AL_append ttok; (iterate 6 exact rfl); (first | with_reducible assumption | decide +kernel | exact rfl | rotate_left); exact rfl; exact rfl; (first | exact uniB_ok rfl | with_reducible assumption | decide +kernel | rotate_left); (first | exact uniB_ok rfl | with_reducible assumption | decide +kernel | rotate_left); (first | exact List.cons_ne_nil _ _ | with_reducible assumption | decide +kernel | rotate_left); (first | with_reducible assumption | decide +kernel | rotate_left); (first | with_reducible assumption | decide +kernel | rotate_left); exact rfl; exact rfl) | (apply AL_append_nil ttok; (iterate 6 exact rfl); (first | exact uniB_ok rfl | with_reducible assumption | decide +kernel | rotate_left); (first | exact List.cons_ne_nil _ _ | with_reducible assumption | decide +kernel | rotate_left); (first | with_reducible assumption | decide +kernel | rotate_left); (first | with_reducible assumption | decide +kernel | rotate_left); (iterate 3 exact rfl)))
   all_goals first | (first | rfl | (simp only [List.length_append, List.length_cons, List.length_nil, List.length_map, itEs_len]; done) | (simp only [List.length_append, List.length_cons, List.length_nil, List.length_map, itEs_len] at *; (try unfold maxLen); (try simp only [Nat.add_mul]); omega)) | skip
   refine AW_loopJ (fun f tm bx fr => ∃ (i c : Nat) (M : List E), f + i = l.length /\ c = M.length /\ M = ((c0 :: t0) ++ ((c1 :: b1) ++ puts (l.take i))).map E.byte /\ tm = [(0, .sl (.own 0) M), (3, .ptr 0 0), (42, .sl .ext (itEs l)), (43, .int .i64 ((itEs l).length : Int)), (44, .int .i64 (i : Int))] /\ bx = [itC (3) n (c1 :: b1) l] /\ fr = [⟨c, 1, 5⟩]) (l.length + 1) (Lands.mk' (m := l.length) (Nat.lt_succ_self _) ⟨0, ((c0 :: t0).map E.byte).length + ((c1 :: b1).map E.byte).length, ((c0 :: t0).map E.byte) ++ (c1 :: b1).map E.byte, rfl, by simp only [List.length_append], by simp [puts], rfl, rfl, rfl⟩ ?_ rfl rfl rfl rfl rfl rfl) ?_
   ·exact .cons rfl (.cons rfl (.cons rfl (.cons rfl (.cons rfl .nil))))
   rintro f tm bx fr ⟨i, c, M, hf, hc, hM, rfl, rfl, rfl⟩
   subst hc
   have hU := uniI l
   have hUM : Uni 1 M := by rw [hM]; exact uniB1 _
   have hMl : M.length = ((c0 :: t0) ++ ((c1 :: b1) ++ puts (l.take i))).length := by rw [hM]; simp only [List.length_append, List.length_map]
   rcases Nat.lt_or_ge i l.length with hlt | hge
   ·have hdl : decide ((i : Int) < ((itEs l).length : Int)) = true := decide_eq_true (by omega)
    obtain ⟨⟨k1, n1, b2, l1⟩, hy⟩ : ∃ y, l[i]? = some y := ⟨_, List.getElem?_eq_getElem hlt⟩
    have hv : (itEs l)[((i : Nat) : Int).toNat]? = some (.agg [.int .i64 k1, .int .u64 (n1 : Int), .sl (b2.map E.byte), .sl (itEs l1)]) := by
     rw [Int.toNat_natCast, itEs_map, List.getElem?_map, hy]; rfl
    have hmem := List.mem_of_getElem? hy
    have hps := puts_take_succ hy
    have hpl := puts_take_le l (i + 1)
    have hps2 := congrArg List.length hps
    rw [List.length_append] at hps2
    have hc := av_putO _ (wfs_mem hws _ hmem) (okxs_mem hos _ hmem) M _ rfl hUM (by simp only [List.length_append] at hMl hlim; omega)
    have ei : IntKind.i64.wrap ((i : Int) + 1) = ((i + 1 : Nat) : Int) := by rw [IntWalk.i64_in _ (by omega)]; omega
    repeat' (first | rw [ei] | (apply AL_callT [] [0] (hc); kernel_rfl; (iterate 10 exact rfl)) | (apply AL_go ttok; exact rfl) | (apply AW_go ttok; exact rfl) | (apply AW_condA; exact rfl; (first | with_reducible assumption | decide +kernel)) | (apply AL_idx ttok; (iterate 6 exact rfl); (first | with_reducible assumption | decide +kernel | exact Int.natCast_nonneg _ | (guard_target = (0:Int) <= (OfNat.ofNat _ : Int); decide) | rotate_left); (first | with_reducible assumption | decide +kernel | exact rfl); (first | exact uniB_ok rfl | with_reducible assumption | decide +kernel | rotate_left)))
    refine Lands.mk' (m := f - 1) (by omega) ⟨i + 1, M.length + (putI (.mk k1 n1 b2 l1)).length, M ++ (putI (.mk k1 n1 b2 l1)).map E.byte, by omega, by simp only [List.length_append, List.length_map], by rw [hM, hps]; simp, rfl, rfl, rfl⟩ ?_ rfl rfl rfl rfl rfl rfl
    exact .cons rfl (.cons rfl (.cons rfl (.cons rfl (.cons rfl .nil))))
   ·have hdl : decide ((i : Int) < ((itEs l).length : Int)) = false := decide_eq_false (by omega)
    rw [List.take_of_length_le hge] at hM hMl
    repeat' (first | (apply AW_go ttok; exact rfl) | (apply AW_condB; exact rfl; (first | with_reducible assumption | decide +kernel)))
    all_goals (apply endT [] [0]; (apply resG_ok ttok; exact rfl); (iterate 7 exact rfl))
    ·rw [hM]; rfl
    ·rfl
    ·rw [hMl]; rfl
 ·rcases hbc with rfl | ⟨c1, b1, rfl⟩
  ·refine AC_of Tryz.func71 rfl Tryz.ntmps71 rfl rfl ?_
   repeat' (first | rw [el] | (apply AL_callPw (hW); kernel_rfl; (iterate 4 exact rfl)) | (apply AL_go ttok; exact rfl) | (apply AW_go ttok; exact rfl) | (apply K_go ttok; exact rfl) | (apply AW_condA; exact rfl; (first | with_reducible assumption | decide +kernel)) | (apply AW_condB; exact rfl; (first | with_reducible assumption | decide +kernel)) | (apply AL_len ttok; (iterate 4 exact rfl)) | (apply AW_drawE 5 hmix; (decide +kernel); (kernel_rfl); (kernel_rfl); (kernel_rfl); exact rfl; exact rfl) | (apply AE_consZ; (iterate 4 exact rfl)) | exact AE.nil _ _ _ _ | (apply AEk_puT; exact rfl) | (apply AEk_efT; exact rfl) | (apply AOt_mk; exact rfl; exact rfl; (decide +kernel); exact rfl) | (apply AO_puT; exact rfl) | (apply AO_efT; exact rfl) | exact AO.nil _ _ _ | (apply AOs_skip; (decide +kernel)) | (apply AOs_goZ; (iterate 3 exact rfl)) | exact AOs.nil | exact qY_ok rfl rfl | exact qY_ef rfl rfl | (apply AL_append_none ttok; (iterate 6 exact rfl)) | (apply AL_append_nil ttok; (iterate 6 exact rfl); (first | exact uniB_ok rfl | with_reducible assumption | decide +kernel | rotate_left); (first | exact List.cons_ne_nil _ _ | with_reducible assumption | decide +kernel | rotate_left); (first | with_reducible assumption | decide +kernel | rotate_left); (first | with_reducible assumption | decide +kernel | rotate_left); (iterate 3 exact rfl)))
   all_goals first | (first | rfl | (simp only [List.length_append, List.length_cons, List.length_nil, List.length_map, itEs_len]; done) | (simp only [List.length_append, List.length_cons, List.length_nil, List.length_map, itEs_len] at *; (try unfold maxLen); (try simp only [Nat.add_mul]); omega)) | skip
   refine AW_loopJ (fun f tm bx fr => ∃ (i c : Nat) (M : List E), f + i = l.length /\ c = M.length /\ M = ((c0 :: t0) ++ (([] : List UInt8) ++ puts (l.take i))).map E.byte /\ tm = [(0, .sl (.own 0) M), (3, .ptr 0 0), (42, .sl .ext (itEs l)), (43, .int .i64 ((itEs l).length : Int)), (44, .int .i64 (i : Int))] /\ bx = [itC (4) n ([] : List UInt8) l] /\ fr = [⟨c, 1, 5⟩]) (l.length + 1) (Lands.mk' (m := l.length) (Nat.lt_succ_self _) ⟨0, ((c0 :: t0).map E.byte).length, (c0 :: t0).map E.byte, rfl, by simp only [List.length_append], by simp [puts], rfl, rfl, rfl⟩ ?_ rfl rfl rfl rfl rfl rfl) ?_
   ·exact .cons rfl (.cons rfl (.cons rfl (.cons rfl (.cons rfl .nil))))
   rintro f tm bx fr ⟨i, c, M, hf, hc, hM, rfl, rfl, rfl⟩
   subst hc
   have hU := uniI l
   have hUM : Uni 1 M := by rw [hM]; exact uniB1 _
   have hMl : M.length = ((c0 :: t0) ++ (([] : List UInt8) ++ puts (l.take i))).length := by rw [hM]; simp only [List.length_append, List.length_map]
   rcases Nat.lt_or_ge i l.length with hlt | hge
   ·have hdl : decide ((i : Int) < ((itEs l).length : Int)) = true := decide_eq_true (by omega)
    obtain ⟨⟨k1, n1, b2, l1⟩, hy⟩ : ∃ y, l[i]? = some y := ⟨_, List.getElem?_eq_getElem hlt⟩
    have hv : (itEs l)[((i : Nat) : Int).toNat]? = some (.agg [.int .i64 k1, .int .u64 (n1 : Int), .sl (b2.map E.byte), .sl (itEs l1)]) := by
     rw [Int.toNat_natCast, itEs_map, List.getElem?_map, hy]; rfl
    have hmem := List.mem_of_getElem? hy
    have hps := puts_take_succ hy
    have hpl := puts_take_le l (i + 1)
    have hps2 := congrArg List.length hps
    rw [List.length_append] at hps2
    have hc := av_putO _ (wfs_mem hws _ hmem) (okxs_mem hos _ hmem) M _ rfl hUM (by simp only [List.length_append] at hMl hlim; omega)
    have ei : IntKind.i64.wrap ((i : Int) + 1) = ((i + 1 : Nat) : Int) := by rw [IntWalk.i64_in _ (by omega)]; omega
    repeat' (first | rw [ei] | (apply AL_callT [] [0] (hc); kernel_rfl; (iterate 10 exact rfl)) | (apply AL_go ttok; exact rfl) | (apply AW_go ttok; exact rfl) | (apply AW_condA; exact rfl; (first | with_reducible assumption | decide +kernel)) | (apply AL_idx ttok; (iterate 6 exact rfl); (first | with_reducible assumption | decide +kernel | exact Int.natCast_nonneg _ | (guard_target = (0:Int) <= (OfNat.ofNat _ : Int); decide) | rotate_left); (first | with_reducible assumption | decide +kernel | exact rfl); (first | exact uniB_ok rfl | with_reducible assumption | decide +kernel | rotate_left)))
    refine Lands.mk' (m := f - 1) (by omega) ⟨i + 1, M.length + (putI (.mk k1 n1 b2 l1)).length, M ++ (putI (.mk k1 n1 b2 l1)).map E.byte, by omega, by simp only [List.length_append, List.length_map], by rw [hM, hps]; simp, rfl, rfl, rfl⟩ ?_ rfl rfl rfl rfl rfl rfl
    exact .cons rfl (.cons rfl (.cons rfl (.cons rfl (.cons rfl .nil))))
   ·have hdl : decide ((i : Int) < ((itEs l).length : Int)) = false := decide_eq_false (by omega)
    rw [List.take_of_length_le hge] at hM hMl
    repeat' (first | (apply AW_go ttok; exact rfl) | (apply AW_condB; exact rfl; (first | with_reducible assumption | decide +kernel)))
    all_goals (apply endT [] [0]; (apply resG_ok ttok; exact rfl); (iterate 7 exact rfl))
    ·rw [hM]; rfl
    ·rfl
    ·rw [hMl]; rfl
  ·refine AC_of Tryz.func71 rfl Tryz.ntmps71 rfl rfl ?_
   repeat' (first | rw [el] | (apply AL_callPw (hW); kernel_rfl; (iterate 4 exact rfl)) | (apply AL_go ttok; exact rfl) | (apply AW_go ttok; exact rfl) | (apply K_go ttok; exact rfl) | (apply AW_condA; exact rfl; (first | with_reducible assumption | decide +kernel)) | (apply AW_condB; exact rfl; (first | with_reducible assumption | decide +kernel)) | (apply AL_len ttok; (iterate 4 exact rfl)) | (apply AW_drawE 5 hmix; (decide +kernel); (kernel_rfl); (kernel_rfl); (kernel_rfl); exact rfl; exact rfl) | (apply AE_consZ; (iterate 4 exact rfl)) | exact AE.nil _ _ _ _ | (apply AEk_puT; exact rfl) | (apply AEk_efT; exact rfl) | (apply AOt_mk; exact rfl; exact rfl; (decide +kernel); exact rfl) | (apply AO_puT; exact rfl) | (apply AO_efT; exact rfl) | exact AO.nil _ _ _ | (apply AOs_skip; (decide +kernel)) | (apply AOs_goZ; (iterate 3 exact rfl)) | exact AOs.nil | exact qY_ok rfl rfl | exact qY_ef rfl rfl | (apply AL_append ttok; (iterate 6 exact rfl); (first | with_reducible assumption | decide +kernel | exact rfl | rotate_left); exact rfl; exact rfl; (first | exact uniB_ok rfl | with_reducible assumption | decide +kernel | rotate_left); (first | exact uniB_ok rfl | with_reducible assumption | decide +kernel | rotate_left); (first | exact List.cons_ne_nil _ _ | with_reducible assumption | decide +kernel | rotate_left); (first | with_reducible assumption | decide +kernel | rotate_left); (first | with_reducible assumption | decide +kernel | rotate_left); exact rfl; exact rfl) | (apply AL_append_nil ttok; (iterate 6 exact rfl); (first | exact uniB_ok rfl | with_reducible assumption | decide +kernel | rotate_left); (first | exact List.cons_ne_nil _ _ | with_reducible assumption | decide +kernel | rotate_left); (first | with_reducible assumption | decide +kernel | rotate_left); (first | with_reducible assumption | decide +kernel | rotate_left); (iterate 3 exact rfl)))
   all_goals first | (first | rfl | (simp only [List.length_append, List.length_cons, List.length_nil, List.length_map, itEs_len]; done) | (simp only [List.length_append, List.length_cons, List.length_nil, List.length_map, itEs_len] at *; (try unfold maxLen); (try simp only [Nat.add_mul]); omega)) | skip
   refine AW_loopJ (fun f tm bx fr => ∃ (i c : Nat) (M : List E), f + i = l.length /\ c = M.length /\ M = ((c0 :: t0) ++ ((c1 :: b1) ++ puts (l.take i))).map E.byte /\ tm = [(0, .sl (.own 0) M), (3, .ptr 0 0), (42, .sl .ext (itEs l)), (43, .int .i64 ((itEs l).length : Int)), (44, .int .i64 (i : Int))] /\ bx = [itC (4) n (c1 :: b1) l] /\ fr = [⟨c, 1, 5⟩]) (l.length + 1) (Lands.mk' (m := l.length) (Nat.lt_succ_self _) ⟨0, ((c0 :: t0).map E.byte).length + ((c1 :: b1).map E.byte).length, ((c0 :: t0).map E.byte) ++ (c1 :: b1).map E.byte, rfl, by simp only [List.length_append], by simp [puts], rfl, rfl, rfl⟩ ?_ rfl rfl rfl rfl rfl rfl) ?_
   ·exact .cons rfl (.cons rfl (.cons rfl (.cons rfl (.cons rfl .nil))))
   rintro f tm bx fr ⟨i, c, M, hf, hc, hM, rfl, rfl, rfl⟩
   subst hc
   have hU := uniI l
   have hUM : Uni 1 M := by rw [hM]; exact uniB1 _
   have hMl : M.length = ((c0 :: t0) ++ ((c1 :: b1) ++ puts (l.take i))).length := by rw [hM]; simp only [List.length_append, List.length_map]
   rcases Nat.lt_or_ge i l.length with hlt | hge
   ·have hdl : decide ((i : Int) < ((itEs l).length : Int)) = true := decide_eq_true (by omega)
    obtain ⟨⟨k1, n1, b2, l1⟩, hy⟩ : ∃ y, l[i]? = some y := ⟨_, List.getElem?_eq_getElem hlt⟩
    have hv : (itEs l)[((i : Nat) : Int).toNat]? = some (.agg [.int .i64 k1, .int .u64 (n1 : Int), .sl (b2.map E.byte), .sl (itEs l1)]) := by
     rw [Int.toNat_natCast, itEs_map, List.getElem?_map, hy]; rfl
    have hmem := List.mem_of_getElem? hy
    have hps := puts_take_succ hy
    have hpl := puts_take_le l (i + 1)
    have hps2 := congrArg List.length hps
    rw [List.length_append] at hps2
    have hc := av_putO _ (wfs_mem hws _ hmem) (okxs_mem hos _ hmem) M _ rfl hUM (by simp only [List.length_append] at hMl hlim; omega)
    have ei : IntKind.i64.wrap ((i : Int) + 1) = ((i + 1 : Nat) : Int) := by rw [IntWalk.i64_in _ (by omega)]; omega
    repeat' (first | rw [ei] | (apply AL_callT [] [0] (hc); kernel_rfl; (iterate 10 exact rfl)) | (apply AL_go ttok; exact rfl) | (apply AW_go ttok; exact rfl) | (apply AW_condA; exact rfl; (first | with_reducible assumption | decide +kernel)) | (apply AL_idx ttok; (iterate 6 exact rfl); (first | with_reducible assumption | decide +kernel | exact Int.natCast_nonneg _ | (guard_target = (0:Int) <= (OfNat.ofNat _ : Int); decide) | rotate_left); (first | with_reducible assumption | decide +kernel | exact rfl); (first | exact uniB_ok rfl | with_reducible assumption | decide +kernel | rotate_left)))
    refine Lands.mk' (m := f - 1) (by omega) ⟨i + 1, M.length + (putI (.mk k1 n1 b2 l1)).length, M ++ (putI (.mk k1 n1 b2 l1)).map E.byte, by omega, by simp only [List.length_append, List.length_map], by rw [hM, hps]; simp, rfl, rfl, rfl⟩ ?_ rfl rfl rfl rfl rfl rfl
    exact .cons rfl (.cons rfl (.cons rfl (.cons rfl (.cons rfl .nil))))
   ·have hdl : decide ((i : Int) < ((itEs l).length : Int)) = false := decide_eq_false (by omega)
    rw [List.take_of_length_le hge] at hM hMl
    repeat' (first | (apply AW_go ttok; exact rfl) | (apply AW_condB; exact rfl; (first | with_reducible assumption | decide +kernel)))
    all_goals (apply endT [] [0]; (apply resG_ok ttok; exact rfl); (iterate 7 exact rfl))
    ·rw [hM]; rfl
    ·rfl
    ·rw [hMl]; rfl
 ·rw [hh] at hW
  clear hh
  have q2 := hne2 k2
  have q3 := hne3 k3
  have q4 := hne4 k4
  rcases hbc with rfl | ⟨c1, b1, rfl⟩
  ·refine AC_of Tryz.func71 rfl Tryz.ntmps71 rfl rfl ?_
   repeat' (first | (apply AL_callPw (hW); kernel_rfl; (iterate 4 exact rfl)) | (apply AL_go ttok; exact rfl) | (apply AW_go ttok; exact rfl) | (apply K_go ttok; exact rfl) | (apply AW_condB; exact rfl; (first | with_reducible assumption | decide +kernel)) | (apply AL_len ttok; (iterate 4 exact rfl)) | (apply AW_drawE 5 hmix; (decide +kernel); (kernel_rfl); (kernel_rfl); (kernel_rfl); exact rfl; exact rfl) | (apply AE_consZ; (iterate 4 exact rfl)) | exact AE.nil _ _ _ _ | (apply AEk_puT; exact rfl) | (apply AEk_efT; exact rfl) | (apply AOt_mk; exact rfl; exact rfl; (decide +kernel); exact rfl) | (apply AO_puT; exact rfl) | (apply AO_efT; exact rfl) | exact AO.nil _ _ _ | (apply AOs_skip; (decide +kernel)) | (apply AOs_goZ; (iterate 3 exact rfl)) | exact AOs.nil | exact qY_ok rfl rfl | exact qY_ef rfl rfl | (apply AL_append_none ttok; (iterate 6 exact rfl)) | (apply AL_append_nil ttok; (iterate 6 exact rfl); (first | exact uniB_ok rfl | with_reducible assumption | decide +kernel | rotate_left); (first | exact List.cons_ne_nil _ _ | with_reducible assumption | decide +kernel | rotate_left); (first | with_reducible assumption | decide +kernel | rotate_left); (first | with_reducible assumption | decide +kernel | rotate_left); (iterate 3 exact rfl)))
   all_goals first | (first | rfl | (simp only [List.length_append, List.length_cons, List.length_nil, List.length_map, itEs_len]; done) | (simp only [List.length_append, List.length_cons, List.length_nil, List.length_map, itEs_len] at *; (try unfold maxLen); (try simp only [Nat.add_mul]); omega)) | skip
   refine AW_loopJ (fun f tm bx fr => ∃ (i c : Nat) (M : List E), f + i = l.length /\ c = M.length /\ M = ((c0 :: t0) ++ (([] : List UInt8) ++ puts (l.take i))).map E.byte /\ tm = [(0, .sl (.own 0) M), (3, .ptr 0 0), (42, .sl .ext (itEs l)), (43, .int .i64 ((itEs l).length : Int)), (44, .int .i64 (i : Int))] /\ bx = [itC (k) n ([] : List UInt8) l] /\ fr = [⟨c, 1, 5⟩]) (l.length + 1) (Lands.mk' (m := l.length) (Nat.lt_succ_self _) ⟨0, ((c0 :: t0).map E.byte).length, (c0 :: t0).map E.byte, rfl, by simp only [List.length_append], by simp [puts], rfl, rfl, rfl⟩ ?_ rfl rfl rfl rfl rfl rfl) ?_
   ·exact .cons rfl (.cons rfl (.cons rfl (.cons rfl (.cons rfl .nil))))
   rintro f tm bx fr ⟨i, c, M, hf, hc, hM, rfl, rfl, rfl⟩
   subst hc
   have hU := uniI l
   have hUM : Uni 1 M := by rw [hM]; exact uniB1 _
   have hMl : M.length = ((c0 :: t0) ++ (([] : List UInt8) ++ puts (l.take i))).length := by rw [hM]; simp only [List.length_append, List.length_map]
   rcases Nat.lt_or_ge i l.length with hlt | hge
   ·have hdl : decide ((i : Int) < ((itEs l).length : Int)) = true := decide_eq_true (by omega)
    obtain ⟨⟨k1, n1, b2, l1⟩, hy⟩ : ∃ y, l[i]? = some y := ⟨_, List.getElem?_eq_getElem hlt⟩
    have hv : (itEs l)[((i : Nat) : Int).toNat]? = some (.agg [.int .i64 k1, .int .u64 (n1 : Int), .sl (b2.map E.byte), .sl (itEs l1)]) := by
     rw [Int.toNat_natCast, itEs_map, List.getElem?_map, hy]; rfl
    have hmem := List.mem_of_getElem? hy
    have hps := puts_take_succ hy
    have hpl := puts_take_le l (i + 1)
    have hps2 := congrArg List.length hps
    rw [List.length_append] at hps2
    have hc := av_putO _ (wfs_mem hws _ hmem) (okxs_mem hos _ hmem) M _ rfl hUM (by simp only [List.length_append] at hMl hlim; omega)
    have ei : IntKind.i64.wrap ((i : Int) + 1) = ((i + 1 : Nat) : Int) := by rw [IntWalk.i64_in _ (by omega)]; omega
    repeat' (first | rw [ei] | (apply AL_callT [] [0] (hc); kernel_rfl; (iterate 10 exact rfl)) | (apply AL_go ttok; exact rfl) | (apply AW_go ttok; exact rfl) | (apply AW_condA; exact rfl; (first | with_reducible assumption | decide +kernel)) | (apply AL_idx ttok; (iterate 6 exact rfl); (first | with_reducible assumption | decide +kernel | exact Int.natCast_nonneg _ | (guard_target = (0:Int) <= (OfNat.ofNat _ : Int); decide) | rotate_left); (first | with_reducible assumption | decide +kernel | exact rfl); (first | exact uniB_ok rfl | with_reducible assumption | decide +kernel | rotate_left)))
    refine Lands.mk' (m := f - 1) (by omega) ⟨i + 1, M.length + (putI (.mk k1 n1 b2 l1)).length, M ++ (putI (.mk k1 n1 b2 l1)).map E.byte, by omega, by simp only [List.length_append, List.length_map], by rw [hM, hps]; simp, rfl, rfl, rfl⟩ ?_ rfl rfl rfl rfl rfl rfl
    exact .cons rfl (.cons rfl (.cons rfl (.cons rfl (.cons rfl .nil))))
   ·have hdl : decide ((i : Int) < ((itEs l).length : Int)) = false := decide_eq_false (by omega)
    rw [List.take_of_length_le hge] at hM hMl
    repeat' (first | (apply AW_go ttok; exact rfl) | (apply AW_condB; exact rfl; (first | with_reducible assumption | decide +kernel)))
    all_goals (apply endT [] [0]; (apply resG_ok ttok; exact rfl); (iterate 7 exact rfl))
    ·rw [hM]; rfl
    ·rfl
    ·rw [hMl]; rfl
  ·refine AC_of Tryz.func71 rfl Tryz.ntmps71 rfl rfl ?_
   repeat' (first | (apply AL_callPw (hW); kernel_rfl; (iterate 4 exact rfl)) | (apply AL_go ttok; exact rfl) | (apply AW_go ttok; exact rfl) | (apply K_go ttok; exact rfl) | (apply AW_condB; exact rfl; (first | with_reducible assumption | decide +kernel)) | (apply AL_len ttok; (iterate 4 exact rfl)) | (apply AW_drawE 5 hmix; (decide +kernel); (kernel_rfl); (kernel_rfl); (kernel_rfl); exact rfl; exact rfl) | (apply AE_consZ; (iterate 4 exact rfl)) | exact AE.nil _ _ _ _ | (apply AEk_puT; exact rfl) | (apply AEk_efT; exact rfl) | (apply AOt_mk; exact rfl; exact rfl; (decide +kernel); exact rfl) | (apply AO_puT; exact rfl) | (apply AO_efT; exact rfl) | exact AO.nil _ _ _ | (apply AOs_skip; (decide +kernel)) | (apply AOs_goZ; (iterate 3 exact rfl)) | exact AOs.nil | exact qY_ok rfl rfl | exact qY_ef rfl rfl | (apply AL_append ttok; (iterate 6 exact rfl); (first | with_reducible assumption | decide +kernel | exact rfl | rotate_left); exact rfl; exact rfl; (first | exact uniB_ok rfl | with_reducible assumption | decide +kernel | rotate_left); (first | exact uniB_ok rfl | with_reducible assumption | decide +kernel | rotate_left); (first | exact List.cons_ne_nil _ _ | with_reducible assumption | decide +kernel | rotate_left); (first | with_reducible assumption | decide +kernel | rotate_left); (first | with_reducible assumption | decide +kernel | rotate_left); exact rfl; exact rfl) | (apply AL_append_nil ttok; (iterate 6 exact rfl); (first | exact uniB_ok rfl | with_reducible assumption | decide +kernel | rotate_left); (first | exact List.cons_ne_nil _ _ | with_reducible assumption | decide +kernel | rotate_left); (first | with_reducible assumption | decide +kernel | rotate_left); (first | with_reducible assumption | decide +kernel | rotate_left); (iterate 3 exact rfl)))
   all_goals first | (first | rfl | (simp only [List.length_append, List.length_cons, List.length_nil, List.length_map, itEs_len]; done) | (simp only [List.length_append, List.length_cons, List.length_nil, List.length_map, itEs_len] at *; (try unfold maxLen); (try simp only [Nat.add_mul]); omega)) | skip
   refine AW_loopJ (fun f tm bx fr => ∃ (i c : Nat) (M : List E), f + i = l.length /\ c = M.length /\ M = ((c0 :: t0) ++ ((c1 :: b1) ++ puts (l.take i))).map E.byte /\ tm = [(0, .sl (.own 0) M), (3, .ptr 0 0), (42, .sl .ext (itEs l)), (43, .int .i64 ((itEs l).length : Int)), (44, .int .i64 (i : Int))] /\ bx = [itC (k) n (c1 :: b1) l] /\ fr = [⟨c, 1, 5⟩]) (l.length + 1) (Lands.mk' (m := l.length) (Nat.lt_succ_self _) ⟨0, ((c0 :: t0).map E.byte).length + ((c1 :: b1).map E.byte).length, ((c0 :: t0).map E.byte) ++ (c1 :: b1).map E.byte, rfl, by simp only [List.length_append], by simp [puts], rfl, rfl, rfl⟩ ?_ rfl rfl rfl rfl rfl rfl) ?_
   ·exact .cons rfl (.cons rfl (.cons rfl (.cons rfl (.cons rfl .nil))))
   rintro f tm bx fr ⟨i, c, M, hf, hc, hM, rfl, rfl, rfl⟩
   subst hc
   have hU := uniI l
   have hUM : Uni 1 M := by rw [hM]; exact uniB1 _
   have hMl : M.length = ((c0 :: t0) ++ ((c1 :: b1) ++ puts (l.take i))).length := by rw [hM]; simp only [List.length_append, List.length_map]
   rcases Nat.lt_or_ge i l.length with hlt | hge
   ·have hdl : decide ((i : Int) < ((itEs l).length : Int)) = true := decide_eq_true (by omega)
    obtain ⟨⟨k1, n1, b2, l1⟩, hy⟩ : ∃ y, l[i]? = some y := ⟨_, List.getElem?_eq_getElem hlt⟩
    have hv : (itEs l)[((i : Nat) : Int).toNat]? = some (.agg [.int .i64 k1, .int .u64 (n1 : Int), .sl (b2.map E.byte), .sl (itEs l1)]) := by
     rw [Int.toNat_natCast, itEs_map, List.getElem?_map, hy]; rfl
    have hmem := List.mem_of_getElem? hy
    have hps := puts_take_succ hy
    have hpl := puts_take_le l (i + 1)
    have hps2 := congrArg List.length hps
    rw [List.length_append] at hps2
    have hc := av_putO _ (wfs_mem hws _ hmem) (okxs_mem hos _ hmem) M _ rfl hUM (by simp only [List.length_append] at hMl hlim; omega)
    have ei : IntKind.i64.wrap ((i : Int) + 1) = ((i + 1 : Nat) : Int) := by rw [IntWalk.i64_in _ (by omega)]; omega
    repeat' (first | rw [ei] | (apply AL_callT [] [0] (hc); kernel_rfl; (iterate 10 exact rfl)) | (apply AL_go ttok; exact rfl) | (apply AW_go ttok; exact rfl) | (apply AW_condA; exact rfl; (first | with_reducible assumption | decide +kernel)) | (apply AL_idx ttok; (iterate 6 exact rfl); (first | with_reducible assumption | decide +kernel | exact Int.natCast_nonneg _ | (guard_target = (0:Int) <= (OfNat.ofNat _ : Int); decide) | rotate_left); (first | with_reducible assumption | decide +kernel | exact rfl); (first | exact uniB_ok rfl | with_reducible assumption | decide +kernel | rotate_left)))
    refine Lands.mk' (m := f - 1) (by omega) ⟨i + 1, M.length + (putI (.mk k1 n1 b2 l1)).length, M ++ (putI (.mk k1 n1 b2 l1)).map E.byte, by omega, by simp only [List.length_append, List.length_map], by rw [hM, hps]; simp, rfl, rfl, rfl⟩ ?_ rfl rfl rfl rfl rfl rfl
    exact .cons rfl (.cons rfl (.cons rfl (.cons rfl (.cons rfl .nil))))
   ·have hdl : decide ((i : Int) < ((itEs l).length : Int)) = false := decide_eq_false (by omega)
    rw [List.take_of_length_le hge] at hM hMl
    repeat' (first | (apply AW_go ttok; exact rfl) | (apply AW_condB; exact rfl; (first | with_reducible assumption | decide +kernel)))
    all_goals (apply endT [] [0]; (apply resG_ok ttok; exact rfl); (iterate 7 exact rfl))
    ·rw [hM]; rfl
    ·rfl
    ·rw [hMl]; rfl
theorem av_writeI [Known] [KnownU8] (x : It) (hw : wfI x) (hlim : (putI x).length <= 1099511627776) (hR : AP Tryz.prog 70 [itD x] (.bool (rightI x)) []) : AP Tryz.prog 46 [itD x] (.tup [byE (if rightI x then putI x else []), .int .i64 (if rightI x then 0 else 3)]) [] := by
 cases hr : rightI x with
 | false =>
  rw [hr] at hR
  obtain ⟨k, n, b, l⟩ := x
  refine AP.ofA ?_
  refine AC_of Tryz.func46 rfl Tryz.ntmps46 rfl rfl ?_
  repeat' (first | (apply AL_callPw (hR); kernel_rfl; (iterate 4 exact rfl)) | (apply AL_go ttok; exact rfl) | (apply AW_go ttok; exact rfl) | (apply K_go ttok; exact rfl) | (apply AW_condA; exact rfl; (first | with_reducible assumption | decide +kernel)))
  all_goals (apply endQ []; (apply resG_ok ttok; exact rfl); (iterate 4 exact rfl))
  all_goals rfl
 | true =>
  rw [hr] at hR
  have hp := av_putN x hw (right_okx hr) hlim
  obtain ⟨k, n, b, l⟩ := x
  refine AP.ofA ?_
  refine AC_of Tryz.func46 rfl Tryz.ntmps46 rfl rfl ?_
  repeat' (first | (apply AL_callPw (hR); kernel_rfl; (iterate 4 exact rfl)) | (apply AL_callT [] [] (hp); kernel_rfl; (iterate 10 exact rfl)) | (apply AL_go ttok; exact rfl) | (apply AW_go ttok; exact rfl) | (apply K_go ttok; exact rfl) | (apply AW_condB; exact rfl; (first | with_reducible assumption | decide +kernel)))
  all_goals (apply endQ []; (apply resG_ok ttok; exact rfl); (iterate 4 exact rfl))
  all_goals rfl
end Go.Proofs.YtpodhnaofhfinaaGreatDoor
end
