/- Package bundle: read. -/
import Derived.Test.YtpodhnaofhfinaaGreatDoorG31
import Derived.Test.YtpodhnaofhfinaaGreatDoorG30
import Derived.Test.YtpodhnaofhfinaaGreatDoorG26
import Derived.Test.YtpodhnaofhfinaaGreatDoorG19
set_option linter.unusedVariables false
set_option linter.unusedSimpArgs false
section
open Go.RowKit Go.Pl Go.Av
namespace Go.Proofs.YtpodhnaofhfinaaGreatDoor
set_option maxHeartbeats 4000000
abbrev bnT (p : PriV) (d : D) : List D := [.int .u64 (p.fl : Int), .int .i64 p.sum, .bool p.dest.i, .int .u64 (p.dest.n : Int), .int .u64 (p.dest.s : Int), .str p.dest.h, .str p.dest.d, .bool p.rep.i, .int .u64 (p.rep.n : Int), .int .u64 (p.rep.s : Int), .str p.rep.h, .str p.rep.d, .bool p.src.i, .int .u64 (p.src.n : Int), .int .u64 (p.src.s : Int), .str p.src.h, .str p.src.d, .int .u64 (p.t : Int), .int .u64 (p.q : Int), .int .u64 (p.life : Int), d]
abbrev zBn : List D := [.int .u64 0, .int .i64 0, .bool false, .int .u64 0, .int .u64 0, .str [], .str [], .bool false, .int .u64 0, .int .u64 0, .str [], .str [], .bool false, .int .u64 0, .int .u64 0, .str [], .str [], .int .u64 0, .int .u64 0, .int .u64 0, .sl .nil []]
theorem rd_fl {z : It} (hw : wfI z) (hb : ∀ y ∈ z.l, y.b.length <= 3000) : (readB z).1.fl < 18446744073709551616 /\ (readB z).1.data.length <= 3000 := by
 have hsub := open_sub z 3
 have hws : wfs z.l := by obtain ⟨k, n, b, l⟩ := z; exact hw.2.2.2
 unfold readB
 generalize openV z 3 = o at *
 have h0 : bk0.fl < 18446744073709551616 /\ bk0.data.length <= 3000 := by decide
 unfold readX
 split
 ·exact h0
 ·split
  ·rename_i heq
   rw [heq] at hsub
   split
   ·exact h0
   ·split
    ·exact h0
    ·split
     ·exact h0
     ·exact ⟨wfI_n (wfs_mem hws _ (hsub _ (List.mem_cons_of_mem _ (List.mem_cons_of_mem _ (List.mem_cons_self ..))))), hb _ (hsub _ (List.mem_cons_of_mem _ (List.mem_cons_of_mem _ (List.mem_cons_of_mem _ (List.mem_cons_of_mem _ (List.mem_cons_self ..))))))⟩
  ·exact h0
theorem puts_in : ∀ {l : List It} {y : It}, y ∈ l -> (putI y).length <= (puts l).length
 | x :: l, y, h => by
  rw [puts, List.length_append]
  rcases List.mem_cons.1 h with rfl | h
  ·omega
  ·have := puts_in h; omega
theorem sub_len (y : It) : y.b.length <= (putI y).length /\ (puts y.l).length <= (putI y).length := by
 obtain ⟨k, n, b, l⟩ := y
 rw [putI, List.length_append, List.length_append]
 show b.length <= _ /\ (puts l).length <= _
 omega
theorem size_pos (x : It) : 1 <= sizeI x := by obtain ⟨k, n, b, l⟩ := x; rw [sizeI]; omega
theorem size_l : ∀ (l : List It), l.length <= sizes l
 | [] => by simp
 | x :: l => by
  have h1 := size_pos x
  have h2 := size_l l
  rw [sizes, List.length_cons]; omega
theorem size_in : ∀ {l : List It} {y : It}, y ∈ l -> sizeI y <= sizes l
 | x :: l, y, h => by
  rw [sizes]
  rcases List.mem_cons.1 h with rfl | h
  ·omega
  ·have := size_in h; omega
theorem few_parts {y : It} (h : (putI y).length <= 100000) (hy : ∀ z ∈ y.l, (putI z).length <= 3000) (hl : y.l.length <= 1000000) : (∀ z ∈ y.l, z.b.length <= 3000) /\ ∀ s m, s = 1 \/ s = 2 -> (putI (zeroL s (y.l.take m))).length <= 1000000000 := by
 refine ⟨fun z hz => Nat.le_trans (sub_len z).1 (hy z hz), fun s m hs => ?_⟩
 have h0 := put_small 4 0 [] (y.l.take m ++ [.mk 2 0 (List.replicate (2 * s) 0) []])
 have h1 := put_small 2 0 (List.replicate (2 * s) 0) []
 have h2 := puts_take_le y.l m
 have h3 := (sub_len y).2
 rw [puts_appP] at h0
 simp only [puts, List.length_append, List.length_nil, List.length_replicate, Nat.add_zero, Nat.zero_add] at h0 h1
 show (putI (.mk 4 0 [] (y.l.take m ++ [.mk 2 0 (List.replicate (2 * s) 0) []]))).length <= _
 omega
abbrev bnR (r : BunV × Int) : D := .tup [.agg (bnC r.1), .int .i64 r.2]
def onBs (acc : List BlkV) (r : List It) : Except Int (List BlkV) := match readBs r with
 | .error e => .error e
 | .ok l => .ok (acc ++ l)
theorem onBs_cons (acc : List BlkV) (y : It) (r : List It) : onBs acc (y :: r) = match (readB y).2 == 0 with
  | false => .error (readB y).2
  | true => onBs (acc ++ [(readB y).1]) r := by
 unfold onBs
 rw [readBs]
 cases (readB y).2 == 0 with
 | false => rfl
 | true =>
  dsimp only
  cases readBs r with
  | error e => rfl
  | ok l => simp
theorem av_bnRead [Known] [KnownU8] (x : List UInt8) (hx : x.length <= 3000) : AP Tryz.prog 13 [byE x] (bnR (readBn x)) [] := by
 have hR := av_readC x 0 (by omega)
 have hlm : (x.map E.byte).length = x.length := List.length_map ..
 unfold readBn
 cases t0 : decide ((x.length : Int) > 1200) with
 | true =>
  have t1 : decide (((x.map E.byte).length : Int) > 1200) = true := by rw [hlm]; exact t0
  refine AP.ofA ?_
  refine AC_of Tryz.func13 rfl Tryz.ntmps13 rfl rfl ?_
  repeat' (first | (apply AL_go ttok; exact rfl) | (apply AW_go ttok; exact rfl) | (apply K_go ttok; exact rfl) | (apply AW_condA; exact rfl; (first | with_reducible assumption | decide +kernel)) | (apply AL_len ttok; (iterate 4 exact rfl)))
  all_goals (apply endQ []; (apply resG_ok ttok; exact rfl); (iterate 4 exact rfl))
  all_goals rfl
 | false =>
 have t1 : decide (((x.map E.byte).length : Int) > 1200) = false := by rw [hlm]; exact t0
 dsimp only
 rcases read_case x (by omega) with ⟨e, he, h, _⟩ | ⟨y, n, h, hw, hr, hpl, hn⟩
 ·rw [h] at hR ⊢
  have te : ((e : Int) != 0) = true := by simpa using he
  dsimp only
  rw [te]
  refine AP.ofA ?_
  refine AC_of Tryz.func13 rfl Tryz.ntmps13 rfl rfl ?_
  repeat' (first | (apply AL_callPw (hR); kernel_rfl; (iterate 4 exact rfl)) | (apply AL_go ttok; exact rfl) | (apply AW_go ttok; exact rfl) | (apply K_go ttok; exact rfl) | (apply AW_condA; exact rfl; (first | with_reducible assumption | decide +kernel)) | (apply AW_condB; exact rfl; (first | with_reducible assumption | decide +kernel)) | (apply AL_len ttok; (iterate 4 exact rfl)))
  all_goals (apply endQ []; (apply resG_ok ttok; exact rfl); (iterate 4 exact rfl))
  all_goals rfl
 rw [h] at hR ⊢
 have te : (((0 : Nat) : Int) != 0) = false := rfl
 dsimp only
 rw [te]
 dsimp only
 cases t2 : (n == x.length) with
 | false =>
  have t3 : ((n : Int) != ((x.map E.byte).length : Int)) = true := by rw [hlm]; simp at t2 ⊢; omega
  obtain ⟨k, n1, b, l⟩ := y
  refine AP.ofA ?_
  refine AC_of Tryz.func13 rfl Tryz.ntmps13 rfl rfl ?_
  repeat' (first | (apply AL_callPw (hR); kernel_rfl; (iterate 4 exact rfl)) | (apply AL_go ttok; exact rfl) | (apply AW_go ttok; exact rfl) | (apply K_go ttok; exact rfl) | (apply AL_guardFf; (iterate 3 exact rfl); (first | with_reducible assumption | decide +kernel)) | (apply AL_pickT; exact rfl; (first | with_reducible assumption | decide +kernel); exact rfl; exact rfl) | (apply AW_condA; exact rfl; (first | with_reducible assumption | decide +kernel)) | (apply AW_condB; exact rfl; (first | with_reducible assumption | decide +kernel)) | (apply AL_len ttok; (iterate 4 exact rfl)))
  all_goals (apply endQ []; (apply resG_ok ttok; exact rfl); (iterate 4 exact rfl))
  all_goals rfl
 | true =>
 have t3 : ((n : Int) != ((x.map E.byte).length : Int)) = false := by rw [hlm]; simp at t2 ⊢; omega
 have hyl : (putI y).length <= 3000 := by omega
 have hsub := sub_len y
 have hws : wfs y.l := by obtain ⟨k, n1, b, l⟩ := y; exact hw.2.2.2
 have hsz : sizes y.l <= 256 := by
  rw [right_iff] at hr
  simp only [Bool.and_eq_true, decide_eq_true_eq] at hr
  obtain ⟨k, n1, b, l⟩ := y
  have := hr.2.1
  rw [sizeI] at this
  show sizes l <= 256
  omega
 clear h hr t2 hpl hn
 obtain ⟨k, n1, b, l⟩ := y
 dsimp only [It.l] at hsub hws hsz
 have hlen := itEs_len l
 unfold bunOf
 dsimp only
 cases t4 : (k == 4) with
 | false =>
  have t5 : (k != 4) = true := by simpa using t4
  refine AP.ofA ?_
  refine AC_of Tryz.func13 rfl Tryz.ntmps13 rfl rfl ?_
  repeat' (first | (apply AL_callPw (hR); kernel_rfl; (iterate 4 exact rfl)) | (apply AL_go ttok; exact rfl) | (apply AW_go ttok; exact rfl) | (apply K_go ttok; exact rfl) | (apply AL_guardT; (iterate 3 exact rfl); (first | with_reducible assumption | decide +kernel)) | (apply AL_guardFf; (iterate 3 exact rfl); (first | with_reducible assumption | decide +kernel)) | (apply AL_pickT; exact rfl; (first | with_reducible assumption | decide +kernel); exact rfl; exact rfl) | (apply AL_pickF; exact rfl; (first | with_reducible assumption | decide +kernel); exact rfl; exact rfl) | (apply AW_condA; exact rfl; (first | with_reducible assumption | decide +kernel)) | (apply AW_condB; exact rfl; (first | with_reducible assumption | decide +kernel)) | (apply AL_len ttok; (iterate 4 exact rfl)))
  all_goals (apply endQ []; (apply resG_ok ttok; exact rfl); (iterate 4 exact rfl))
  all_goals rfl
 | true =>
 have t5 : (k != 4) = false := by simpa using t4
 cases t6 : decide (2 <= l.length) with
 | false =>
  have t7 : decide (((itEs l).length : Int) < 2) = true := by rw [hlen]; simp at t6 ⊢; omega
  refine AP.ofA ?_
  refine AC_of Tryz.func13 rfl Tryz.ntmps13 rfl rfl ?_
  repeat' (first | (apply AL_callPw (hR); kernel_rfl; (iterate 4 exact rfl)) | (apply AL_go ttok; exact rfl) | (apply AW_go ttok; exact rfl) | (apply K_go ttok; exact rfl) | (apply AL_guardT; (iterate 3 exact rfl); (first | with_reducible assumption | decide +kernel)) | (apply AL_guardFf; (iterate 3 exact rfl); (first | with_reducible assumption | decide +kernel)) | (apply AL_pickT; exact rfl; (first | with_reducible assumption | decide +kernel); exact rfl; exact rfl) | (apply AL_pickF; exact rfl; (first | with_reducible assumption | decide +kernel); exact rfl; exact rfl) | (apply AW_condA; exact rfl; (first | with_reducible assumption | decide +kernel)) | (apply AW_condB; exact rfl; (first | with_reducible assumption | decide +kernel)) | (apply AL_len ttok; (iterate 4 exact rfl)))
  all_goals (apply endQ []; (apply resG_ok ttok; exact rfl); (iterate 4 exact rfl))
  all_goals rfl
 | true =>
 have t7 : decide (((itEs l).length : Int) < 2) = false := by rw [hlen]; simp at t6 ⊢; omega
 cases t8 : decide (l.length <= 9) with
 | false =>
  have t9 : decide (((itEs l).length : Int) > 9) = true := by rw [hlen]; simp at t8 ⊢; omega
  refine AP.ofA ?_
  refine AC_of Tryz.func13 rfl Tryz.ntmps13 rfl rfl ?_
  repeat' (first | (apply AL_callPw (hR); kernel_rfl; (iterate 4 exact rfl)) | (apply AL_go ttok; exact rfl) | (apply AW_go ttok; exact rfl) | (apply K_go ttok; exact rfl) | (apply AL_guardT; (iterate 3 exact rfl); (first | with_reducible assumption | decide +kernel)) | (apply AL_pickF; exact rfl; (first | with_reducible assumption | decide +kernel); exact rfl; exact rfl) | (apply AW_condA; exact rfl; (first | with_reducible assumption | decide +kernel)) | (apply AW_condB; exact rfl; (first | with_reducible assumption | decide +kernel)) | (apply AL_len ttok; (iterate 4 exact rfl)))
  all_goals (apply endQ []; (apply resG_ok ttok; exact rfl); (iterate 4 exact rfl))
  all_goals rfl
 | true =>
 have t9 : decide (((itEs l).length : Int) > 9) = false := by rw [hlen]; simp at t8 ⊢; omega
 have hl9 := of_decide_eq_true t8
 have hl2 := of_decide_eq_true t6
 clear t6 t8
 rw [Bool.true_and, Bool.true_and]
 cases l with
 | nil => simp at hl2
 | cons y0 r =>
 dsimp only
 have hmem : ∀ z ∈ y0 :: r, wfI z /\ (putI z).length <= 3000 := fun z hz => ⟨wfs_mem hws z hz, Nat.le_trans (puts_in hz) (Nat.le_trans hsub.2 hyl)⟩
 have hpart : ∀ z ∈ y0 :: r, z.l.length <= 1000000 /\ (∀ u ∈ z.l, u.b.length <= 3000) /\ ∀ s m, s = 1 \/ s = 2 -> (putI (zeroL s (z.l.take m))).length <= 1000000000 := fun z hz => by
  obtain ⟨h1, h2⟩ := hmem z hz
  have h3 := (sub_len z).2
  have h5 := size_in hz
  have h6 := size_l z.l
  have h4 : z.l.length <= 1000000 := by
   obtain ⟨kz, nz, bz, lz⟩ := z
   rw [sizeI] at h5
   dsimp only [It.l] at h6 ⊢
   omega
  exact ⟨h4, few_parts (by omega) (fun u hu => Nat.le_trans (puts_in hu) (by omega)) h4⟩
 have hw0 := (hmem y0 (List.mem_cons_self ..)).1
 obtain ⟨p1, _, p3⟩ := hpart y0 (List.mem_cons_self ..)
 have hP := av_pRead y0 hw0 p1 p3
 have hpf := rp_fl hw0
 have hU := uniI (y0 :: r)
 obtain ⟨k0, n0, b0, l0⟩ := y0
 have hv0 : (itEs (It.mk k0 n0 b0 l0 :: r))[(0 : Int).toNat]? = some (.agg [.int .i64 k0, .int .u64 (n0 : Int), .sl (b0.map E.byte), .sl (itEs l0)]) := rfl
 generalize hLe : itEs (It.mk k0 n0 b0 l0 :: r) = LL at *
 replace hR : AP Tryz.prog 38 [byE x, .int .i64 0] (.tup [.agg [.int .i64 k, .int .u64 (n1 : Int), .sl .ext (b.map E.byte), .sl .ext LL], .int .i64 (n : Int), .int .i64 0]) [] := by rw [<- hLe]; exact hR
 generalize readP (.mk k0 n0 b0 l0) = rp at *
 obtain ⟨p, e⟩ := rp
 dsimp only at hpf ⊢
 cases t10 : (e != 0) with
 | true =>
  refine AP.ofA ?_
  refine AC_of Tryz.func13 rfl Tryz.ntmps13 rfl rfl ?_
  repeat' (first | (apply AL_callPw (hR); kernel_rfl; (iterate 4 exact rfl)) | (apply AL_callPw (hP); kernel_rfl; (iterate 4 exact rfl)) | (apply AL_go ttok; exact rfl) | (apply AW_go ttok; exact rfl) | (apply K_go ttok; exact rfl) | (apply AL_guardT; (iterate 3 exact rfl); (first | with_reducible assumption | decide +kernel)) | (apply AL_pickF; exact rfl; (first | with_reducible assumption | decide +kernel); exact rfl; exact rfl) | (apply AW_condA; exact rfl; (first | with_reducible assumption | decide +kernel)) | (apply AW_condB; exact rfl; (first | with_reducible assumption | decide +kernel)) | (apply AL_len ttok; (iterate 4 exact rfl)) | (apply AL_idx ttok; (iterate 6 exact rfl); (first | with_reducible assumption | decide +kernel | exact Int.natCast_nonneg _ | (guard_target = (0:Int) <= (OfNat.ofNat _ : Int); decide) | rotate_left); (first | with_reducible assumption | decide +kernel | exact rfl); (first | exact uniB_ok rfl | with_reducible assumption | decide +kernel | rotate_left)))
  all_goals (apply endQ []; (apply resG_ok ttok; exact rfl); (iterate 4 exact rfl))
  all_goals rfl
 | false =>
 dsimp only
 have hle1 : (1 : Int).toNat <= LL.length := by rw [hlen]; show 1 <= _; omega
 have hI : LL.drop (1 : Int).toNat = itEs r := by rw [<- hLe]; rfl
 have hr0 : 1 <= r.length := by rw [List.length_cons] at hl2; omega
 have hr9 : r.length <= 9 := by rw [List.length_cons] at hl9; omega
 have hlr := itEs_len r
 have hUr := uniI r
 have hF : onBs [] r = readBs r := by unfold onBs; cases readBs r <;> rfl
 rw [<- hF]
 generalize hF2 : onBs [] r = F
 have key : ∀ d, bnR (match F with | .error e => (bn0, e) | .ok bl => match rightBn ⟨p, bl⟩ with | false => (bn0, 3) | true => (⟨p, bl⟩, 0)) = d -> AP Tryz.prog 13 [byE x] d [] := fun d hd => by
  refine AP.ofA ?_
  refine AC_of Tryz.func13 rfl Tryz.ntmps13 rfl rfl ?_
  repeat' (first | (apply AL_callPw (hR); kernel_rfl; (iterate 4 exact rfl)) | (apply AL_callPw (hP); kernel_rfl; (iterate 4 exact rfl)) | (apply AL_fromE ttok; (iterate 6 exact rfl); exact hU; exact (by decide); exact hle1; exact hI) | (apply AL_go ttok; exact rfl) | (apply AW_go ttok; exact rfl) | (apply K_go ttok; exact rfl) | (apply AL_guardT; (iterate 3 exact rfl); (first | with_reducible assumption | decide +kernel)) | (apply AL_pickF; exact rfl; (first | with_reducible assumption | decide +kernel); exact rfl; exact rfl) | (apply AW_condB; exact rfl; (first | with_reducible assumption | decide +kernel)) | (apply AL_len ttok; (iterate 4 exact rfl)) | (apply AL_idx ttok; (iterate 6 exact rfl); (first | with_reducible assumption | decide +kernel | exact Int.natCast_nonneg _ | (guard_target = (0:Int) <= (OfNat.ofNat _ : Int); decide) | rotate_left); (first | with_reducible assumption | decide +kernel | exact rfl); (first | exact uniB_ok rfl | with_reducible assumption | decide +kernel | rotate_left)))
  show AW _ _ _ _
  refine AW_loopJ (fun f tm bx fr => ∃ (i c : Nat) (acc : List BlkV) (f0 : Fr), f + i = r.length /\ c = (bksE acc).length /\ acc.length = i /\ (∀ c ∈ acc, c.fl < 18446744073709551616 /\ c.data.length <= 3000) /\ onBs acc (r.drop i) = F /\ tm = [(2, .ptr 0 0), (7, .ptr 2 0), (65, .sl .ext (itEs r)), (66, .int .i64 ((itEs r).length : Int)), (67, .int .i64 (i : Int))] /\
   ((i = 0 /\ acc = [] /\ bx = [zBn, [.int .i64 k, .int .u64 (n1 : Int), .sl .ext (b.map E.byte), .sl .ext LL], bnT p (.sl .nil [])] /\ fr = []) \/
   (bx = [zBn, [.int .i64 k, .int .u64 (n1 : Int), .sl .ext (b.map E.byte), .sl .ext LL], bnT p (.sl (.own 1) (bksE acc))] /\ fr = [f0, ⟨c, 5, 40⟩]))) (r.length + 1) (Lands.mk' (m := r.length) (Nat.lt_succ_self _) ⟨0, 0, [], default, rfl, rfl, rfl, by simp, hF2, rfl, .inl ⟨rfl, rfl, rfl, rfl⟩⟩ ?_ rfl rfl rfl rfl rfl rfl) ?_
  ·exact .cons rfl (.cons rfl (.cons rfl (.cons rfl (.cons rfl .nil))))
  rintro f tm bx fr ⟨i, c, acc, f0, hf, hc, hai, hab, hq, rfl, hst⟩
  rcases Nat.lt_or_ge i r.length with hlt | hge
  ·have hdl : decide ((i : Int) < ((itEs r).length : Int)) = true := decide_eq_true (by omega)
   obtain ⟨z, hy⟩ : ∃ y, r[i]? = some y := ⟨_, List.getElem?_eq_getElem hlt⟩
   have hzm : z ∈ It.mk k0 n0 b0 l0 :: r := List.mem_cons_of_mem _ (List.mem_of_getElem? hy)
   have hwz := (hmem z hzm).1
   obtain ⟨q1, q2, q3⟩ := hpart z hzm
   have hB := av_bRead z hwz q1 q3 q2
   have hbf := rd_fl hwz q2
   have hdr : r.drop i = z :: r.drop (i + 1) := by
    rw [List.drop_eq_getElem_cons hlt]; congr 1
    exact (List.getElem?_eq_some_iff.1 hy).2
   rw [hdr, onBs_cons] at hq
   have ei : IntKind.i64.wrap ((i : Int) + 1) = ((i + 1 : Nat) : Int) := by rw [IntWalk.i64_in _ (by omega)]; omega
   obtain ⟨kz, nz, bz, lz⟩ := z
   have hv : (itEs r)[((i : Nat) : Int).toNat]? = some (.agg [.int .i64 kz, .int .u64 (nz : Int), .sl (bz.map E.byte), .sl (itEs lz)]) := by
    rw [Int.toNat_natCast, itEs_map, List.getElem?_map, hy]; rfl
   generalize readB (.mk kz nz bz lz) = rb at *
   obtain ⟨cb, e2⟩ := rb
   dsimp only at hbf hq
   cases t11 : (e2 == 0) with
   | false =>
    have t12 : (e2 != 0) = true := by simpa using t11
    rw [t11] at hq
    dsimp only at hq
    subst hq
    dsimp only at hd
    subst hd
    rcases hst with ⟨rfl, rfl, rfl, rfl⟩ | ⟨rfl, rfl⟩
    ·repeat' (first | (apply AL_callPw (hB); kernel_rfl; (iterate 4 exact rfl)) | (apply AL_go ttok; exact rfl) | (apply AW_go ttok; exact rfl) | (apply K_go ttok; exact rfl) | (apply AW_condA; exact rfl; (first | with_reducible assumption | decide +kernel)) | (apply AL_idx ttok; (iterate 6 exact rfl); (first | with_reducible assumption | decide +kernel | exact Int.natCast_nonneg _ | (guard_target = (0:Int) <= (OfNat.ofNat _ : Int); decide) | rotate_left); (first | with_reducible assumption | decide +kernel | exact rfl); (first | exact uniB_ok rfl | with_reducible assumption | decide +kernel | rotate_left)))
     all_goals (apply endQ []; (apply resG_ok ttok; exact rfl); (iterate 4 exact rfl))
     all_goals rfl
    ·repeat' (first | (apply AL_callPw (hB); kernel_rfl; (iterate 4 exact rfl)) | (apply AL_go ttok; exact rfl) | (apply AW_go ttok; exact rfl) | (apply K_go ttok; exact rfl) | (apply AW_condA; exact rfl; (first | with_reducible assumption | decide +kernel)) | (apply AL_idx ttok; (iterate 6 exact rfl); (first | with_reducible assumption | decide +kernel | exact Int.natCast_nonneg _ | (guard_target = (0:Int) <= (OfNat.ofNat _ : Int); decide) | rotate_left); (first | with_reducible assumption | decide +kernel | exact rfl); (first | exact uniB_ok rfl | with_reducible assumption | decide +kernel | rotate_left)))
     all_goals (apply endQ []; (apply resG_ok ttok; exact rfl); (iterate 4 exact rfl))
     all_goals rfl
   | true =>
    have t12 : (e2 != 0) = false := by simpa using t11
    rw [t11] at hq
    dsimp only at hq
    have hab2 : ∀ c ∈ acc ++ [cb], c.fl < 18446744073709551616 /\ c.data.length <= 3000 := fun c hc => by
     rcases List.mem_append.1 hc with hc | hc
     ·exact hab c hc
     ·simp at hc; subst hc; exact hbf
    have hU5 := uniK acc
    have hUc := uniK [cb]
    subst hc
    have hbl := bks_len acc
    rcases hst with ⟨rfl, rfl, rfl, rfl⟩ | ⟨rfl, rfl⟩
    ·repeat' (first | (apply AL_callPw (hB); kernel_rfl; (iterate 4 exact rfl)) | rw [ei] | (apply AL_append_nilZ ttok; (iterate 6 exact rfl); exact uniB_ok rfl; exact List.cons_ne_nil _ _; exact rfl; decide +kernel; decide +kernel; (iterate 3 exact rfl)) | (apply AL_go ttok; exact rfl) | (apply AW_go ttok; exact rfl) | (apply AW_condA; exact rfl; (first | with_reducible assumption | decide +kernel)) | (apply AW_condB; exact rfl; (first | with_reducible assumption | decide +kernel)) | (apply AL_bsZ ttok; (iterate 12 exact rfl)) | (apply AL_idx ttok; (iterate 6 exact rfl); (first | with_reducible assumption | decide +kernel | exact Int.natCast_nonneg _ | (guard_target = (0:Int) <= (OfNat.ofNat _ : Int); decide) | rotate_left); (first | with_reducible assumption | decide +kernel | exact rfl); (first | exact uniB_ok rfl | with_reducible assumption | decide +kernel | rotate_left)))
     refine Lands.mk' (m := f - 1) (by omega) ⟨1, 1, [cb], _, by omega, rfl, rfl, hab2, hq, rfl, .inr ⟨rfl, rfl⟩⟩ ?_ rfl rfl rfl rfl rfl rfl
     exact .cons rfl (.cons rfl (.cons rfl (.cons rfl (.cons rfl .nil))))
    ·have hs : bksE acc ++ [bkE cb] = bksE (acc ++ [cb]) := (List.map_append (f := bkE) (l₁ := acc) (l₂ := [cb])).symm
     repeat' (first | (apply AL_callPw (hB); kernel_rfl; (iterate 4 exact rfl)) | rw [ei] | (apply AL_go ttok; exact rfl) | (apply AW_go ttok; exact rfl) | (apply AW_condA; exact rfl; (first | with_reducible assumption | decide +kernel)) | (apply AW_condB; exact rfl; (first | with_reducible assumption | decide +kernel)) | (apply AL_bsZ ttok; (iterate 12 exact rfl)) | (apply AL_append ttok; (iterate 6 exact rfl); (first | with_reducible assumption | decide +kernel | exact rfl | rotate_left); exact rfl; exact rfl; (first | exact uniB_ok rfl | with_reducible assumption | decide +kernel | rotate_left); (first | exact uniB_ok rfl | with_reducible assumption | decide +kernel | rotate_left); (first | exact List.cons_ne_nil _ _ | with_reducible assumption | decide +kernel | rotate_left); (first | with_reducible assumption | decide +kernel | rotate_left); (first | with_reducible assumption | decide +kernel | rotate_left); exact rfl; exact rfl) | (apply AL_idx ttok; (iterate 6 exact rfl); (first | with_reducible assumption | decide +kernel | exact Int.natCast_nonneg _ | (guard_target = (0:Int) <= (OfNat.ofNat _ : Int); decide) | rotate_left); (first | with_reducible assumption | decide +kernel | exact rfl); (first | exact uniB_ok rfl | with_reducible assumption | decide +kernel | rotate_left)))
     ·refine Lands.mk' (m := f - 1) (by omega) ⟨i + 1, (bksE acc).length + 1, acc ++ [cb], f0, by omega, by rw [<- hs, List.length_append]; rfl, by rw [List.length_append, hai]; rfl, hab2, hq, rfl, .inr ⟨by rw [<- hs], rfl⟩⟩ ?_ rfl rfl rfl rfl rfl rfl
      exact .cons rfl (.cons rfl (.cons rfl (.cons rfl (.cons rfl .nil))))
     all_goals (first | rfl | (simp only [List.length_append, List.length_cons, List.length_nil, List.length_map, itEs_len]; done) | (simp only [List.length_append, List.length_cons, List.length_nil, List.length_map, itEs_len] at *; (try unfold maxLen); (try simp only [Nat.add_mul]); omega))
  ·have hdl : decide ((i : Int) < ((itEs r).length : Int)) = false := decide_eq_false (by omega)
   have hqn : F = .ok acc := by
    rw [<- hq, List.drop_eq_nil_of_le hge]
    unfold onBs
    rw [readBs]
    dsimp only
    rw [List.append_nil]
   subst hqn
   dsimp only at hd
   have hRt := av_bnRight ⟨p, acc⟩ ⟨hpf, by show acc.length <= _; omega, hab⟩
   rcases hst with ⟨rfl, _, _, _⟩ | ⟨rfl, rfl⟩
   ·omega
   cases t13 : rightBn ⟨p, acc⟩ with
   | false =>
    rw [t13] at hRt hd
    dsimp only at hd
    subst hd
    repeat' (first | (apply AL_callPw (hRt); kernel_rfl; (iterate 4 exact rfl)) | (apply AL_go ttok; exact rfl) | (apply AW_go ttok; exact rfl) | (apply K_go ttok; exact rfl) | (apply AW_condA; exact rfl; (first | with_reducible assumption | decide +kernel)) | (apply AW_condB; exact rfl; (first | with_reducible assumption | decide +kernel)))
    all_goals (apply endQ []; (apply resG_ok ttok; exact rfl); (iterate 4 exact rfl))
    all_goals rfl
   | true =>
    rw [t13] at hRt hd
    dsimp only at hd
    subst hd
    repeat' (first | (apply AL_callPw (hRt); kernel_rfl; (iterate 4 exact rfl)) | (apply AL_go ttok; exact rfl) | (apply AW_go ttok; exact rfl) | (apply K_go ttok; exact rfl) | (apply AW_condB; exact rfl; (first | with_reducible assumption | decide +kernel)))
    all_goals (apply endQ []; (apply resG_ok ttok; exact rfl); (iterate 4 exact rfl))
    all_goals rfl
 exact key _ rfl
end Go.Proofs.YtpodhnaofhfinaaGreatDoor
end
section
open Go.RowKit Go.Pl Go.Av
namespace Go.Proofs.YtpodhnaofhfinaaGreatDoor
set_option maxHeartbeats 4000000
end Go.Proofs.YtpodhnaofhfinaaGreatDoor
end
section
open Go.RowKit Go.Pl Go.Av
namespace Go.Proofs.YtpodhnaofhfinaaGreatDoor
set_option maxHeartbeats 4000000
end Go.Proofs.YtpodhnaofhfinaaGreatDoor
end
section
open Go.RowKit Go.Pl Go.Av
namespace Go.Proofs.YtpodhnaofhfinaaGreatDoor
set_option maxHeartbeats 4000000
end Go.Proofs.YtpodhnaofhfinaaGreatDoor
end
section
open Go.RowKit Go.Pl Go.Av
namespace Go.Proofs.YtpodhnaofhfinaaGreatDoor
set_option maxHeartbeats 4000000
def payV (b : BunV) : List UInt8 := match b.bl[b.bl.length - 1]? with
 | some c => c.data
 | none => []
theorem av_pay [Known] (b : BunV) (hb : BunOk b) : AP Tryz.prog 7 [.agg (bnC b)] (byE (payV b)) [] := by
 have hlen := bks_len b.bl
 have hU := uniK b.bl
 unfold payV
 obtain ⟨_, hl, hbl⟩ := hb
 cases hlast : b.bl[b.bl.length - 1]? with
 | none =>
  have h0 : b.bl.length = 0 := by have := List.getElem?_eq_none_iff.1 hlast; omega
  have t1 : (((bksE b.bl).length : Int) == 0) = true := by rw [hlen, h0]; rfl
  obtain ⟨⟨fl, sum, ⟨di, dn, ds, dh, dd⟩, ⟨ri, rn, rs, rh, rd⟩, ⟨xi, xn, xs, xh, xd⟩, t, q, life⟩, bl⟩ := b
  try dsimp only at *
  refine AP.ofA ?_
  refine AC_of Tryz.func7 rfl Tryz.ntmps7 rfl rfl ?_
  repeat' (first | (apply AL_go ttok; exact rfl) | (apply AW_go ttok; exact rfl) | (apply K_go ttok; exact rfl) | (apply AW_condA; exact rfl; (first | with_reducible assumption | decide +kernel)) | (apply AL_len ttok; (iterate 4 exact rfl)))
  all_goals (apply endQ []; (apply resG_ok ttok; exact rfl); (iterate 4 exact rfl))
  all_goals rfl
 | some c =>
 have hlt := (List.getElem?_eq_some_iff.1 hlast).1
 have hv := bks_get hlast
 rw [show ((b.bl.length - 1 : Nat) : Int) = (b.bl.length : Int) - 1 from by omega] at hv
 have t1 : (((bksE b.bl).length : Int) == 0) = false := by rw [hlen]; exact beq_eq_false_iff_ne.2 (by omega)
 have en : IntKind.i64.wrap (((bksE b.bl).length : Int) - 1) = (b.bl.length : Int) - 1 := by rw [IntWalk.i64_in _ (by omega)]; omega
 have i0 : (0 : Int) <= (b.bl.length : Int) - 1 := by omega
 have hC := av_cloneB c.data (by have := (hbl c (List.mem_of_getElem? hlast)).2; omega)
 obtain ⟨⟨fl, sum, ⟨di, dn, ds, dh, dd⟩, ⟨ri, rn, rs, rh, rd⟩, ⟨xi, xn, xs, xh, xd⟩, t, q, life⟩, bl⟩ := b
 try dsimp only at *
 refine AP.ofA ?_
 refine AC_of Tryz.func7 rfl Tryz.ntmps7 rfl rfl ?_
 repeat' (first | rw [en] | (apply AL_callPw (hC); kernel_rfl; (iterate 4 exact rfl)) | (apply AL_go ttok; exact rfl) | (apply AW_go ttok; exact rfl) | (apply K_go ttok; exact rfl) | (apply AW_condB; exact rfl; (first | with_reducible assumption | decide +kernel)) | (apply AL_len ttok; (iterate 4 exact rfl)) | (apply AL_idx ttok; (iterate 6 exact rfl); (first | with_reducible assumption | decide +kernel | exact Int.natCast_nonneg _ | (guard_target = (0:Int) <= (OfNat.ofNat _ : Int); decide) | rotate_left); (first | with_reducible assumption | decide +kernel | exact rfl); (first | exact uniB_ok rfl | with_reducible assumption | decide +kernel | rotate_left)))
 all_goals (apply endQ []; (apply resG_ok ttok; exact rfl); (iterate 4 exact rfl))
 all_goals rfl
theorem ok_bn0 : BunOk bn0 := ⟨by decide, by decide, by decide⟩
abbrev zeC : List D := [.int .u64 0, .int .i64 0, .bool false, .int .u64 0, .int .u64 0, .str [], .str [], .bool false, .int .u64 0, .int .u64 0, .str [], .str [], .bool false, .int .u64 0, .int .u64 0, .str [], .str [], .int .u64 0, .int .u64 0, .int .u64 0, .sl .ext []]
end Go.Proofs.YtpodhnaofhfinaaGreatDoor
end
section
open Go.RowKit Go.Pl Go.Av
namespace Go.Proofs.YtpodhnaofhfinaaGreatDoor
set_option maxHeartbeats 4000000
def bunR (b : List UInt8) (dest src : EidV) (t q life : Nat) : BunV := ⟨⟨2, 0, dest, eidZ, src, t, q, life⟩, [⟨1, 1, 0, 0, b⟩]⟩
def bundleR (r : RepV) (dest src : EidV) (t q life : Nat) : BunV × Int := match (writeR r).2 != 0 with
 | true => (bn0, (writeR r).2)
 | false => match rightBn (bunR (writeR r).1 dest src t q life) with
  | false => (bn0, 3)
  | true => (bunR (writeR r).1 dest src t q life, 0)
theorem writeR_len (r : RepV) : (writeR r).1.length <= 200 := by
 unfold writeR
 cases h : rightR r with
 | false => simp
 | true => exact len_itemR h
theorem ok_bunR (b : List UInt8) (hb : b.length <= 3000) (dest src : EidV) (t q life : Nat) : BunOk (bunR b dest src t q life) :=
 ⟨by show 2 < _; decide, by show 1 <= _; decide, fun c hc => by
  rcases List.mem_cons.1 hc with rfl | hc
  ·exact ⟨by show 0 < _; decide, hb⟩
  ·cases hc⟩
theorem av_rBundle [Known] [KnownU8] (r : RepV) (dest src : EidV) (t q life : Nat) : AP Tryz.prog 17 [.agg (repC r), .agg (eC dest), .agg (iC src t q), .int .u64 (life : Int)] (bnR (bundleR r dest src t q life)) [] := by
 have hW := av_rWrite r
 have hl := writeR_len r
 unfold bundleR
 generalize writeR r = w at *
 obtain ⟨wb, we⟩ := w
 dsimp only at *
 have hRt := av_bnRight (bunR wb dest src t q life) (ok_bunR wb (by omega) dest src t q life)
 have hUb := uniB1 (wb)
 cases tw : (we != 0) with
 | true =>
  obtain ⟨a, b, c, rs, tm, ⟨i, n, s, h, d⟩, rt, rq⟩ := r
  obtain ⟨di, dn, ds, dh, dd⟩ := dest
  obtain ⟨xi, xn, xs, xh, xd⟩ := src
  dsimp only at *
  refine AP.ofA ?_
  refine AC_of Tryz.func17 rfl Tryz.ntmps17 rfl rfl ?_
  repeat' (first | (apply AL_callPw (hW); kernel_rfl; (iterate 4 exact rfl)) | (apply AL_go ttok; exact rfl) | (apply AW_go ttok; exact rfl) | (apply K_go ttok; exact rfl) | (apply AW_condA; exact rfl; (first | with_reducible assumption | decide +kernel | (solve | simp only [bn]))))
  all_goals (apply endQ []; (apply resG_ok ttok; exact rfl); (iterate 4 exact rfl))
  all_goals rfl
 | false =>
  have we0 : we = 0 := by simpa using tw
  subst we0
  generalize hrt : rightBn (bunR wb dest src t q life) = R at *
  obtain ⟨a, b, c, rs, tm, ⟨i, n, s, h, d⟩, rt, rq⟩ := r
  obtain ⟨di, dn, ds, dh, dd⟩ := dest
  obtain ⟨xi, xn, xs, xh, xd⟩ := src
  dsimp only at *
  replace hRt : AP Tryz.prog 5 [.agg [.int .u64 2, .int .i64 0, .bool di, .int .u64 (dn : Int), .int .u64 (ds : Int), .str dh, .str dd, .bool false, .int .u64 0, .int .u64 0, .str [], .str [], .bool xi, .int .u64 (xn : Int), .int .u64 (xs : Int), .str xh, .str xd, .int .u64 (t : Int), .int .u64 (q : Int), .int .u64 (life : Int), .sl .ext [.agg [.int .u64 1, .int .u64 1, .int .u64 0, .int .i64 0, .sl (wb.map E.byte)]]]] (.bool R) [] := hRt
  cases R with
  | false =>
   refine AP.ofA ?_
   refine AC_of Tryz.func17 rfl Tryz.ntmps17 rfl rfl ?_
   repeat' (first | (apply AL_callPw (hW); kernel_rfl; (iterate 4 exact rfl)) | (apply AL_callPw (hRt); kernel_rfl; (iterate 4 exact rfl)) | (apply AL_go ttok; exact rfl) | (apply AW_go ttok; exact rfl) | (apply K_go ttok; exact rfl) | (apply AW_condA; exact rfl; (first | with_reducible assumption | decide +kernel | (solve | simp only [bn]))) | (apply AW_condB; exact rfl; (first | with_reducible assumption | decide +kernel | (solve | simp only [bn]))) | (apply AL_bsZ ttok; (iterate 12 exact rfl)))
   all_goals (apply endQ []; (apply resG_ok ttok; exact rfl); (iterate 4 exact rfl))
   all_goals rfl
  | true =>
   refine AP.ofA ?_
   refine AC_of Tryz.func17 rfl Tryz.ntmps17 rfl rfl ?_
   repeat' (first | (apply AL_callPw (hW); kernel_rfl; (iterate 4 exact rfl)) | (apply AL_callPw (hRt); kernel_rfl; (iterate 4 exact rfl)) | (apply AL_go ttok; exact rfl) | (apply AW_go ttok; exact rfl) | (apply K_go ttok; exact rfl) | (apply AW_condB; exact rfl; (first | with_reducible assumption | decide +kernel | (solve | simp only [bn]))) | (apply AL_bsZ ttok; (iterate 12 exact rfl)))
   all_goals (apply endQ []; (apply resG_ok ttok; exact rfl); (iterate 4 exact rfl))
   all_goals rfl
def ofR (b : BunV) : RepV × Int := match bits .and .u64 (b.p.fl : Int) 2 == 0 with
 | true => (rp0, 4)
 | false => match rightBn b with
  | false => (rp0, 3)
  | true => readR (payV b)
theorem pay_len {b : BunV} (hb : BunOk b) : (payV b).length <= 3000 := by
 unfold payV
 cases h : b.bl[b.bl.length - 1]? with
 | none => simp
 | some c => exact (hb.bl c (List.mem_of_getElem? h)).2
theorem av_rOf [Known] [KnownU8] (b : BunV) (hb : BunOk b) : AP Tryz.prog 18 [.agg (bnC b)] (.tup [.agg (repC (ofR b).1), .int .i64 (ofR b).2]) [] := by
 have hRt := av_bnRight b hb
 have hP := av_pay b hb
 have hRd := av_rRead (payV b) (pay_len hb)
 unfold ofR
 generalize hrt : rightBn b = R at *
 generalize payV b = pl at *
 generalize readR pl = rr at *
 obtain ⟨⟨ra, rb, rc, rs, rtm, ⟨ri, rn, rs2, rh, rd⟩, rt, rq⟩, re⟩ := rr
 have hUb := uniK b.bl
 obtain ⟨⟨fl, sum, ⟨di, dn, ds, dh, dd⟩, ⟨pi, pn, ps, ph, pd⟩, ⟨xi, xn, xs, xh, xd⟩, t, q, life⟩, bl⟩ := b
 dsimp only at *
 cases t1 : (bits .and .u64 (fl : Int) 2 == 0) <;> cases R
 all_goals
  refine AP.ofA ?_
  refine AC_of Tryz.func18 rfl Tryz.ntmps18 rfl rfl ?_
  repeat' (first | (apply AL_callPw (hRt); kernel_rfl; (iterate 4 exact rfl)) | (apply AL_callPw (hP); kernel_rfl; (iterate 4 exact rfl)) | (apply AL_callPw (hRd); kernel_rfl; (iterate 4 exact rfl)) | (apply AL_go ttok; exact rfl) | (apply AW_go ttok; exact rfl) | (apply K_go ttok; exact rfl) | (apply AW_condA; exact rfl; (first | with_reducible assumption | decide +kernel | (solve | simp only [bn]))) | (apply AW_condB; exact rfl; (first | with_reducible assumption | decide +kernel | (solve | simp only [bn]))))
  all_goals (apply endQ []; (apply resG_ok ttok; exact rfl); (iterate 4 exact rfl))
  all_goals rfl
end Go.Proofs.YtpodhnaofhfinaaGreatDoor
end
section
open Go.RowKit Go.Pl Go.Av
namespace Go.Proofs.YtpodhnaofhfinaaGreatDoor
theorem nb_one (b : Bool) : ((nb b : Int) == 1) = b := by cases b <;> rfl
theorem writeR_yes {r : RepV} (h : rightR r = true) : writeR r = (putI (itemR r), 0) := by
 unfold writeR
 rw [h]
theorem writeR_no {r : RepV} (h : rightR r = false) : writeR r = ([], 3) := by
 unfold writeR
 rw [h]
theorem rp_write_read {r : RepV} (h : rightR r = true) : readR (putI (itemR r)) = (r, 0) := by
 obtain ⟨h1, h2, h3⟩ := rp_facts h
 have hi := iReadV_item h3
 have hrep : repOf (.mk 0 (nb r.a) [] []) (.mk 0 (nb r.b) [] []) (.mk 0 (nb r.c) [] []) (.mk 0 r.rs [] []) (.mk 0 r.tm [] []) (itemN r.of r.t r.q) = r := by
  unfold repOf
  rw [hi]
  dsimp only [It.n]
  rw [nb_one, nb_one, nb_one]
 unfold readR
 rw [read_put00 (wf_itemR h) (right_itemR h)]
 dsimp only
 rw [show (((0 : Nat) : Int) != 0) = false from rfl]
 dsimp only
 unfold readRx
 show (match (iReadV (itemN r.of r.t r.q)).2.2.2 with
  | false => (rp0, (3 : Int))
  | true => match (writeR (repOf (.mk 0 (nb r.a) [] []) (.mk 0 (nb r.b) [] []) (.mk 0 (nb r.c) [] []) (.mk 0 r.rs [] []) (.mk 0 r.tm [] []) (itemN r.of r.t r.q))).2 != 0 with
   | true => (rp0, 3)
   | false => match (writeR (repOf (.mk 0 (nb r.a) [] []) (.mk 0 (nb r.b) [] []) (.mk 0 (nb r.c) [] []) (.mk 0 r.rs [] []) (.mk 0 r.tm [] []) (itemN r.of r.t r.q))).1 == putI (itemR r) with
    | false => (rp0, 3)
    | true => (repOf (.mk 0 (nb r.a) [] []) (.mk 0 (nb r.b) [] []) (.mk 0 (nb r.c) [] []) (.mk 0 r.rs [] []) (.mk 0 r.tm [] []) (itemN r.of r.t r.q), 0)) = (r, 0)
 rw [hrep, hi, writeR_yes h]
 dsimp only
 rw [show ((0 : Int) != 0) = false from rfl]
 dsimp only
 rw [beq_self_eq_true]
theorem rp_read_write {b : List UInt8} {s : RepV} (h : readR b = (s, 0)) : writeR s = (b, 0) := by
 unfold readR at h
 split at h
 ·cases (Prod.mk.inj h).2
 ·unfold readRx at h
  split at h
  ·split at h
   ·split at h
    ·split at h
     ·cases (Prod.mk.inj h).2
     ·split at h
      ·cases (Prod.mk.inj h).2
      ·split at h
       ·cases (Prod.mk.inj h).2
       ·rename_i d2 _ d3
        have e := (Prod.mk.inj h).1
        subst e
        exact Prod.ext (by simpa using d3) (by simpa using d2)
    ·cases (Prod.mk.inj h).2
   ·cases (Prod.mk.inj h).2
  ·cases (Prod.mk.inj h).2
theorem right_listP {p : PriV} (h : rightP p = true) : rightI (.mk 4 0 [] (listP p)) = true := by
 obtain ⟨h1, h2, d1, d2, d3, h6⟩ := pr_facts h
 obtain ⟨i1, _, _⟩ := iRight_iff.1 d3
 have f : ∀ {x : It}, rightI x = true -> fineI x = true := fun {x} h => by
  rw [right_iff] at h
  simp only [Bool.and_eq_true] at h
  exact h.2.2
 have g : ∀ x : EidV, deepI (itemE x) 5 = true /\ sizeI (itemE x) <= 5 := fun x => by
  unfold itemE
  repeat' split
  all_goals simp [deepI, deeps, sizeI, sizes]
 obtain ⟨a1, a2⟩ := g p.dest
 obtain ⟨b1, b2⟩ := g p.src
 obtain ⟨c1, c2⟩ := g p.rep
 have f1 := f (right_itemE d1)
 have f2 := f (right_itemE i1)
 have f3 := f (right_itemE d2)
 rw [right_iff]
 simp only [Bool.and_eq_true, decide_eq_true_eq]
 refine ⟨?_, ?_, ?_⟩
 ·simp [listP, deepI, deeps, a1, b1, c1]
 ·simp [listP, sizeI, sizes]; omega
 ·simp [listP, fineI, fines, ownI, f1, f2, f3]
theorem all_listP {p : PriV} (h : rightP p = true) : (listP p).all rightI = true := by
 obtain ⟨h1, h2, d1, d2, d3, h6⟩ := pr_facts h
 obtain ⟨i1, _, _⟩ := iRight_iff.1 d3
 have e1 := right_itemE d1
 have e2 := right_itemE i1
 have e3 := right_itemE d2
 simp only [listP, List.all_cons, List.all_nil, e1, e2, e3, num_right, Bool.true_and, Bool.and_true]
 exact hop_right p.t p.q
theorem write_plain {p : PriV} (h : rightP p = true) (hs : p.sum = 0) : writeP p = (.mk 4 0 [] (listP p), 0) := by
 have ht : typeV (listP p) 2 = 0 := by
  unfold listP typeV
  rw [hs]
  rfl
 unfold writeP sealV
 rw [h, ht, all_listP h, right_listP h]
 rfl
theorem bk_key : (!(badN 1 || badN 1) && (bits .andNot .u64 ((0 : Nat) : Int) 23 == 0 && (decide ((0 : Int) ≥ 0) && (decide ((0 : Int) <= 2) && (true && true))))) = true := by kernel_rfl
theorem pr_key : (bits .andNot .u64 ((2 : Nat) : Int) 409638 == 0 && (decide ((0 : Int) ≥ 0) && (decide ((0 : Int) <= 2) && (true && (true && (true && true)))))) = true := by kernel_rfl
theorem write_data {d : List UInt8} (hd : d.length <= 200) : writeB ⟨1, 1, 0, 0, d⟩ = (.mk 4 0 [] (listB ⟨1, 1, 0, 0, d⟩), 0) /\ bkRight ⟨1, 1, 0, 0, d⟩ = true := by
 have hk : bkRight ⟨1, 1, 0, 0, d⟩ = true := by
  unfold bkRight dataV
  have e : decide ((d.length : Int) <= 200) = true := decide_eq_true (by omega)
  have e2 : dataK 1 d = true := rfl
  dsimp only
  rw [e, e2]
  exact bk_key
 refine ⟨?_, hk⟩
 have ht : typeV (listB ⟨1, 1, 0, 0, d⟩) 3 = 0 := rfl
 have ha : (listB ⟨1, 1, 0, 0, d⟩).all rightI = true := by simp [listB, rightI, walkI, walks, ownI]
 have hr : rightI (.mk 4 0 [] (listB ⟨1, 1, 0, 0, d⟩)) = true := by simp [listB, rightI, walkI, walks, ownI]
 unfold writeB sealV
 rw [hk, ht, ha, hr]
 rfl
theorem bun_right {B : List UInt8} (hB : B.length <= 200) {dest src : EidV} {t q life : Nat} (hd : eRight dest = true) (hi : iRight src t q = true) (hl : life <= 1099511627776) : rightBn (bunR B dest src t q life) = true := by
 have hp : rightP ⟨2, 0, dest, eidZ, src, t, q, life⟩ = true := by
  unfold rightP
  have e1 : eRight eidZ = true := by decide
  have e2 : decide ((life : Int) <= 1099511627776) = true := decide_eq_true (by omega)
  dsimp only
  rw [hd, e1, hi, e2]
  exact pr_key
 have hw := write_plain hp rfl
 obtain ⟨hwb, hk⟩ := write_data hB
 have hlen : (puts (itemsL (bunR B dest src t q life))).length <= 598 := by
  obtain ⟨i1, _, _⟩ := iRight_iff.1 hi
  have e : itemsL (bunR B dest src t q life) = [.mk 4 0 [] (listP ⟨2, 0, dest, eidZ, src, t, q, life⟩), .mk 4 0 [] (listB ⟨1, 1, 0, 0, B⟩)] := by
   unfold itemsL bunR
   rw [hw]
   simp only [List.map_cons, List.map_nil, hwb]
  rw [e]
  have p1 := put_small 4 0 [] (listP ⟨2, 0, dest, eidZ, src, t, q, life⟩)
  have p2 := put_small 4 0 [] (listB ⟨1, 1, 0, 0, B⟩)
  have p3 := put_small 2 0 B []
  have n1 := num_len 7
  have n2 := num_len 2
  have n3 := num_len 0
  have n4 := item_small hd
  have n5 := item_small i1
  have n6 := item_small (show eRight eidZ = true from by decide)
  have n7 := hop_len t q
  have n8 := num_len life
  have n9 := num_len 1
  have e7 : hopI t q = .mk 4 0 [] [.mk 0 t [] [], .mk 0 q [] []] := rfl
  rw [e7] at n7
  have e8 : (0 : Int).toNat = 0 := rfl
  simp only [listP, listB, puts, List.length_append, List.length_nil, Nat.add_zero, Nat.zero_add, e8] at p1 p2 p3 ⊢
  omega
 unfold rightBn
 have hf : fitV (bunR B dest src t q life).bl = true := by
  unfold bunR fitV
  show (decide (1 <= 8) && ((1 : Nat) == 1 && ((1 : Nat) == 1 && fitL [] [⟨1, 1, 0, 0, B⟩]))) = true
  have : fitL [] [⟨1, 1, 0, 0, B⟩] = true := by
   rw [fitL, fitL, hk]
   rfl
  rw [this]
  rfl
 have ho : okAll (bunR B dest src t q life) = true := by
  unfold okAll bunR
  rw [hw]
  simp only [List.all_cons, List.all_nil, hwb]
  rfl
 rw [hf, ho, decide_eq_true (by omega : ((puts (itemsL (bunR B dest src t q life))).length : Int) <= 598)]
 rfl
end Go.Proofs.YtpodhnaofhfinaaGreatDoor
end
section
open Go.RowKit Go.Pl Go.Av
namespace Go.Proofs.YtpodhnaofhfinaaGreatDoor
set_option maxHeartbeats 4000000
def rf1 : RepV := ⟨false, true, false, 0, 9, eidZ, 3, 0⟩
def rfA : EidV := ⟨false, 0, 0, [97], []⟩
theorem rfa1 : rightR rf1 = true := by kernel_rfl
theorem rfa2 : rightBn (bunR (putI (itemR rf1)) rfA eidZ 4 0 5) = true := by kernel_rfl
theorem rfa3 : ofR (bunR (putI (itemR rf1)) rfA eidZ 4 0 5) = (rf1, 0) := by
 have h : payV (bunR (putI (itemR rf1)) rfA eidZ 4 0 5) = putI (itemR rf1) := rfl
 have h2 : (bits .and .u64 ((bunR (putI (itemR rf1)) rfA eidZ 4 0 5).p.fl : Int) 2 == 0) = false := by kernel_rfl
 unfold ofR
 rw [h2, rfa2, h, rp_write_read rfa1]
theorem rfa4 : ofR bn0 = (rp0, 4) := by kernel_rfl
theorem av_alive9 [Known] [KnownU8] : AP Tryz.prog 16 [] (.bool true) [] := by
 have h1 := av_rWrite rf1
 have hw := writeR_yes rfa1
 rw [hw] at h1
 have hl := len_itemR rfa1
 have h2 := av_rRead (putI (itemR rf1)) (by omega)
 rw [rp_write_read rfa1] at h2
 have h3 := av_rBundle rf1 rfA eidZ 4 0 5
 have h3e : bundleR rf1 rfA eidZ 4 0 5 = (bunR (putI (itemR rf1)) rfA eidZ 4 0 5, 0) := by
  unfold bundleR
  rw [hw]
  dsimp only
  rw [rfa2]
  rfl
 rw [h3e] at h3
 have h4 := av_rOf (bunR (putI (itemR rf1)) rfA eidZ 4 0 5) (ok_bunR _ (by omega) _ _ _ _ _)
 rw [rfa3] at h4
 have h5 := av_rOf bn0 ok_bn0
 rw [rfa4] at h5
 have h6 := av_rWrite rp0
 rw [writeR_no (show rightR rp0 = false from by kernel_rfl)] at h6
 unfold bunR at h3 h4
 generalize putI (itemR rf1) = B at *
 clear hw h3e
 replace h1 : AP Tryz.prog 23 [.agg [.bool false, .bool true, .bool false, .int .u64 0, .int .u64 9, .bool false, .int .u64 0, .int .u64 0, .str [], .str [], .int .u64 3, .int .u64 0]] (.tup [byE B, .int .i64 0]) [] := h1
 replace h2 : AP Tryz.prog 22 [byE B] (.tup [.agg [.bool false, .bool true, .bool false, .int .u64 0, .int .u64 9, .bool false, .int .u64 0, .int .u64 0, .str [], .str [], .int .u64 3, .int .u64 0], .int .i64 0]) [] := h2
 replace h3 : AP Tryz.prog 17 [.agg [.bool false, .bool true, .bool false, .int .u64 0, .int .u64 9, .bool false, .int .u64 0, .int .u64 0, .str [], .str [], .int .u64 3, .int .u64 0], .agg [.bool false, .int .u64 0, .int .u64 0, .str [97], .str []], .agg [.bool false, .int .u64 0, .int .u64 0, .str [], .str [], .int .u64 4, .int .u64 0], .int .u64 5] (.tup [.agg [.int .u64 2, .int .i64 0, .bool false, .int .u64 0, .int .u64 0, .str [97], .str [], .bool false, .int .u64 0, .int .u64 0, .str [], .str [], .bool false, .int .u64 0, .int .u64 0, .str [], .str [], .int .u64 4, .int .u64 0, .int .u64 5, .sl .ext [.agg [.int .u64 1, .int .u64 1, .int .u64 0, .int .i64 0, .sl (B.map E.byte)]]], .int .i64 0]) [] := h3
 replace h4 : AP Tryz.prog 18 [.agg [.int .u64 2, .int .i64 0, .bool false, .int .u64 0, .int .u64 0, .str [97], .str [], .bool false, .int .u64 0, .int .u64 0, .str [], .str [], .bool false, .int .u64 0, .int .u64 0, .str [], .str [], .int .u64 4, .int .u64 0, .int .u64 5, .sl .ext [.agg [.int .u64 1, .int .u64 1, .int .u64 0, .int .i64 0, .sl (B.map E.byte)]]]] (.tup [.agg [.bool false, .bool true, .bool false, .int .u64 0, .int .u64 9, .bool false, .int .u64 0, .int .u64 0, .str [], .str [], .int .u64 3, .int .u64 0], .int .i64 0]) [] := h4
 replace h5 : AP Tryz.prog 18 [.agg zeC] (.tup [.agg [.bool false, .bool false, .bool false, .int .u64 0, .int .u64 0, .bool false, .int .u64 0, .int .u64 0, .str [], .str [], .int .u64 0, .int .u64 0], .int .i64 4]) [] := h5
 replace h6 : AP Tryz.prog 23 [.agg [.bool false, .bool false, .bool false, .int .u64 0, .int .u64 0, .bool false, .int .u64 0, .int .u64 0, .str [], .str [], .int .u64 0, .int .u64 0]] (.tup [.sl .ext [], .int .i64 3]) [] := h6
 refine AP.ofA ?_
 refine AC_of Tryz.func16 rfl Tryz.ntmps16 rfl rfl ?_
 repeat' (first | (apply AL_callPw (h1); kernel_rfl; (iterate 4 exact rfl)) | (apply AL_callPw (h2); kernel_rfl; (iterate 4 exact rfl)) | (apply AL_callPw (h3); kernel_rfl; (iterate 4 exact rfl)) | (apply AL_callPw (h4); kernel_rfl; (iterate 4 exact rfl)) | (apply AL_callPw (h5); kernel_rfl; (iterate 4 exact rfl)) | (apply AL_callPw (h6); kernel_rfl; (iterate 4 exact rfl)) | (apply AL_go ttok; exact rfl) | (apply AW_go ttok; exact rfl) | (apply AL_guardT; (iterate 3 exact rfl); (first | with_reducible assumption | decide +kernel | (solve | simp only [bn]))) | (apply AL_pickT; exact rfl; (first | with_reducible assumption | decide +kernel | (solve | simp only [bn])); exact rfl; exact rfl) | (apply AL_eqS ttok; (iterate 4 exact rfl); (kernel_rfl); (kernel_rfl); (iterate 3 exact rfl)))
 all_goals (apply endQ []; (apply resG_ok ttok; exact rfl); (iterate 4 exact rfl))
 all_goals rfl
end Go.Proofs.YtpodhnaofhfinaaGreatDoor
end
