/- Package bundle: read. -/
import Derived.Test.YtfkmicjlaedlkaaGreatDoorG29
set_option linter.unusedVariables false
set_option linter.unusedSimpArgs false
section
open Go.RowKit Go.Pl Go.Av
namespace Go.Proofs.YtfkmicjlaedlkaaGreatDoor
set_option maxHeartbeats 4000000
abbrev bnT (p : PriV) (d : D) : List D := [.int .u64 (p.fl : Int), .int .i64 p.sum, .bool p.dest.i, .int .u64 (p.dest.n : Int), .int .u64 (p.dest.s : Int), .str p.dest.h, .str p.dest.d, .bool p.rep.i, .int .u64 (p.rep.n : Int), .int .u64 (p.rep.s : Int), .str p.rep.h, .str p.rep.d, .bool p.src.i, .int .u64 (p.src.n : Int), .int .u64 (p.src.s : Int), .str p.src.h, .str p.src.d, .int .u64 (p.t : Int), .int .u64 (p.q : Int), .int .u64 (p.life : Int), d]
abbrev zBn : List D := [.int .u64 0, .int .i64 0, .bool false, .int .u64 0, .int .u64 0, .str [], .str [], .bool false, .int .u64 0, .int .u64 0, .str [], .str [], .bool false, .int .u64 0, .int .u64 0, .str [], .str [], .int .u64 0, .int .u64 0, .int .u64 0, .sl .nil []]
theorem wfI_n {x : It} (h : wfI x) : x.n < 18446744073709551616 := by obtain ⟨k, n, b, l⟩ := x; exact h.1
theorem rd_fl {z : It} (hw : wfI z) (hb : ∀ y ∈ z.l, y.b.length <= 3000) : (readB z).1.fl < 18446744073709551616 /\ (readB z).1.data.length <= 3000 := by
 have hsub := open_sub z 3
 have hws : wfs z.l := by obtain ⟨k, n, b, l⟩ := z; exact hw.2.2.2
 unfold readB
 generalize openV z 3 = o at *
 have h0 : bk0.fl < 18446744073709551616 /\ bk0.data.length <= 3000 := by decide
 unfold readX
 split
 ·exact h0
 ·split
  ·rename_i heq
   rw [heq] at hsub
   split
   ·exact h0
   ·split
    ·exact h0
    ·split
     ·exact h0
     ·exact ⟨wfI_n (wfs_mem hws _ (hsub _ (List.mem_cons_of_mem _ (List.mem_cons_of_mem _ (List.mem_cons_self ..))))), hb _ (hsub _ (List.mem_cons_of_mem _ (List.mem_cons_of_mem _ (List.mem_cons_of_mem _ (List.mem_cons_of_mem _ (List.mem_cons_self ..))))))⟩
  ·exact h0
theorem rp_fl {z : It} (hw : wfI z) : (readP z).1.fl < 18446744073709551616 := by
 have hsub := open_sub z 2
 have hws : wfs z.l := by obtain ⟨k, n, b, l⟩ := z; exact hw.2.2.2
 unfold readP
 generalize openV z 2 = o at *
 have h0 : pr0.fl < 18446744073709551616 := by decide
 unfold readQ
 split
 ·exact h0
 ·split
  ·rename_i heq
   rw [heq] at hsub
   split
   ·exact h0
   ·split
    ·exact h0
    ·split
     ·exact h0
     ·exact wfI_n (wfs_mem hws _ (hsub _ (List.mem_cons_of_mem _ (List.mem_cons_self ..))))
  ·exact h0
theorem puts_in : ∀ {l : List It} {y : It}, y ∈ l -> (putI y).length <= (puts l).length
 | x :: l, y, h => by
  rw [puts, List.length_append]
  rcases List.mem_cons.1 h with rfl | h
  ·omega
  ·have := puts_in h; omega
theorem sub_len (y : It) : y.b.length <= (putI y).length /\ (puts y.l).length <= (putI y).length := by
 obtain ⟨k, n, b, l⟩ := y
 rw [putI, List.length_append, List.length_append]
 show b.length <= _ /\ (puts l).length <= _
 omega
theorem size_pos (x : It) : 1 <= sizeI x := by obtain ⟨k, n, b, l⟩ := x; rw [sizeI]; omega
theorem size_l : ∀ (l : List It), l.length <= sizes l
 | [] => by simp
 | x :: l => by
  have h1 := size_pos x
  have h2 := size_l l
  rw [sizes, List.length_cons]; omega
theorem size_in : ∀ {l : List It} {y : It}, y ∈ l -> sizeI y <= sizes l
 | x :: l, y, h => by
  rw [sizes]
  rcases List.mem_cons.1 h with rfl | h
  ·omega
  ·have := size_in h; omega
theorem few_parts {y : It} (h : (putI y).length <= 100000) (hy : ∀ z ∈ y.l, (putI z).length <= 3000) (hl : y.l.length <= 1000000) : (∀ z ∈ y.l, z.b.length <= 3000) /\ ∀ s m, s = 1 \/ s = 2 -> (putI (zeroL s (y.l.take m))).length <= 1000000000 := by
 refine ⟨fun z hz => Nat.le_trans (sub_len z).1 (hy z hz), fun s m hs => ?_⟩
 have h0 := put_small 4 0 [] (y.l.take m ++ [.mk 2 0 (List.replicate (2 * s) 0) []])
 have h1 := put_small 2 0 (List.replicate (2 * s) 0) []
 have h2 := puts_take_le y.l m
 have h3 := (sub_len y).2
 rw [puts_appP] at h0
 simp only [puts, List.length_append, List.length_nil, List.length_replicate, Nat.add_zero, Nat.zero_add] at h0 h1
 show (putI (.mk 4 0 [] (y.l.take m ++ [.mk 2 0 (List.replicate (2 * s) 0) []]))).length <= _
 omega
abbrev bnR (r : BunV × Int) : D := .tup [.agg (bnC r.1), .int .i64 r.2]
def onBs (acc : List BlkV) (r : List It) : Except Int (List BlkV) := match readBs r with
 | .error e => .error e
 | .ok l => .ok (acc ++ l)
theorem onBs_cons (acc : List BlkV) (y : It) (r : List It) : onBs acc (y :: r) = match (readB y).2 == 0 with
  | false => .error (readB y).2
  | true => onBs (acc ++ [(readB y).1]) r := by
 unfold onBs
 rw [readBs]
 cases (readB y).2 == 0 with
 | false => rfl
 | true =>
  dsimp only
  cases readBs r with
  | error e => rfl
  | ok l => simp
theorem av_bnRead [Known] [KnownU8] (x : List UInt8) (hx : x.length <= 3000) : AP Tryz.prog 23 [byE x] (bnR (readBn x)) [] := by
 have hR := av_readC x 0 (by omega)
 have hlm : (x.map E.byte).length = x.length := List.length_map ..
 unfold readBn
 cases t0 : decide ((x.length : Int) > 1200) with
 | true =>
  have t1 : decide (((x.map E.byte).length : Int) > 1200) = true := by rw [hlm]; exact t0
  refine AP.ofA ?_
  refine AC_of Tryz.func23 rfl Tryz.ntmps23 rfl rfl ?_
  repeat' (first | (apply AL_go ttok; exact rfl) | (apply AW_go ttok; exact rfl) | (apply K_go ttok; exact rfl) | (apply AW_condA; exact rfl; (first | with_reducible assumption | decide +kernel)) | (apply AL_len ttok; (iterate 4 exact rfl)))
  all_goals (apply endQ []; (apply resG_ok ttok; exact rfl); (iterate 4 exact rfl))
  all_goals rfl
 | false =>
 have t1 : decide (((x.map E.byte).length : Int) > 1200) = false := by rw [hlm]; exact t0
 dsimp only
 rcases read_case x (by omega) with ⟨e, he, h, _⟩ | ⟨y, n, h, hw, hr, hpl, hn⟩
 ·rw [h] at hR ⊢
  have te : ((e : Int) != 0) = true := by simpa using he
  dsimp only
  rw [te]
  refine AP.ofA ?_
  refine AC_of Tryz.func23 rfl Tryz.ntmps23 rfl rfl ?_
  repeat' (first | (apply AL_callPw (hR); kernel_rfl; (iterate 4 exact rfl)) | (apply AL_go ttok; exact rfl) | (apply AW_go ttok; exact rfl) | (apply K_go ttok; exact rfl) | (apply AW_condA; exact rfl; (first | with_reducible assumption | decide +kernel)) | (apply AW_condB; exact rfl; (first | with_reducible assumption | decide +kernel)) | (apply AL_len ttok; (iterate 4 exact rfl)))
  all_goals (apply endQ []; (apply resG_ok ttok; exact rfl); (iterate 4 exact rfl))
  all_goals rfl
 rw [h] at hR ⊢
 have te : (((0 : Nat) : Int) != 0) = false := rfl
 dsimp only
 rw [te]
 dsimp only
 cases t2 : (n == x.length) with
 | false =>
  have t3 : ((n : Int) != ((x.map E.byte).length : Int)) = true := by rw [hlm]; simp at t2 ⊢; omega
  obtain ⟨k, n1, b, l⟩ := y
  refine AP.ofA ?_
  refine AC_of Tryz.func23 rfl Tryz.ntmps23 rfl rfl ?_
  repeat' (first | (apply AL_callPw (hR); kernel_rfl; (iterate 4 exact rfl)) | (apply AL_go ttok; exact rfl) | (apply AW_go ttok; exact rfl) | (apply K_go ttok; exact rfl) | (apply AL_guardFf; (iterate 3 exact rfl); (first | with_reducible assumption | decide +kernel)) | (apply AL_pickT; exact rfl; (first | with_reducible assumption | decide +kernel); exact rfl; exact rfl) | (apply AW_condA; exact rfl; (first | with_reducible assumption | decide +kernel)) | (apply AW_condB; exact rfl; (first | with_reducible assumption | decide +kernel)) | (apply AL_len ttok; (iterate 4 exact rfl)))
  all_goals (apply endQ []; (apply resG_ok ttok; exact rfl); (iterate 4 exact rfl))
  all_goals rfl
 | true =>
 have t3 : ((n : Int) != ((x.map E.byte).length : Int)) = false := by rw [hlm]; simp at t2 ⊢; omega
 have hyl : (putI y).length <= 3000 := by omega
 have hsub := sub_len y
 have hws : wfs y.l := by obtain ⟨k, n1, b, l⟩ := y; exact hw.2.2.2
 have hsz : sizes y.l <= 256 := by
  rw [right_iff] at hr
  simp only [Bool.and_eq_true, decide_eq_true_eq] at hr
  obtain ⟨k, n1, b, l⟩ := y
  have := hr.2.1
  rw [sizeI] at this
  show sizes l <= 256
  omega
 clear h hr t2 hpl hn
 obtain ⟨k, n1, b, l⟩ := y
 dsimp only [It.l] at hsub hws hsz
 have hlen := itEs_len l
 unfold bunOf
 dsimp only
 cases t4 : (k == 4) with
 | false =>
  have t5 : (k != 4) = true := by simpa using t4
  refine AP.ofA ?_
  refine AC_of Tryz.func23 rfl Tryz.ntmps23 rfl rfl ?_
  repeat' (first | (apply AL_callPw (hR); kernel_rfl; (iterate 4 exact rfl)) | (apply AL_go ttok; exact rfl) | (apply AW_go ttok; exact rfl) | (apply K_go ttok; exact rfl) | (apply AL_guardT; (iterate 3 exact rfl); (first | with_reducible assumption | decide +kernel)) | (apply AL_guardFf; (iterate 3 exact rfl); (first | with_reducible assumption | decide +kernel)) | (apply AL_pickT; exact rfl; (first | with_reducible assumption | decide +kernel); exact rfl; exact rfl) | (apply AL_pickF; exact rfl; (first | with_reducible assumption | decide +kernel); exact rfl; exact rfl) | (apply AW_condA; exact rfl; (first | with_reducible assumption | decide +kernel)) | (apply AW_condB; exact rfl; (first | with_reducible assumption | decide +kernel)) | (apply AL_len ttok; (iterate 4 exact rfl)))
  all_goals (apply endQ []; (apply resG_ok ttok; exact rfl); (iterate 4 exact rfl))
  all_goals rfl
 | true =>
 have t5 : (k != 4) = false := by simpa using t4
 cases t6 : decide (2 <= l.length) with
 | false =>
  have t7 : decide (((itEs l).length : Int) < 2) = true := by rw [hlen]; simp at t6 ⊢; omega
  refine AP.ofA ?_
  refine AC_of Tryz.func23 rfl Tryz.ntmps23 rfl rfl ?_
  repeat' (first | (apply AL_callPw (hR); kernel_rfl; (iterate 4 exact rfl)) | (apply AL_go ttok; exact rfl) | (apply AW_go ttok; exact rfl) | (apply K_go ttok; exact rfl) | (apply AL_guardT; (iterate 3 exact rfl); (first | with_reducible assumption | decide +kernel)) | (apply AL_guardFf; (iterate 3 exact rfl); (first | with_reducible assumption | decide +kernel)) | (apply AL_pickT; exact rfl; (first | with_reducible assumption | decide +kernel); exact rfl; exact rfl) | (apply AL_pickF; exact rfl; (first | with_reducible assumption | decide +kernel); exact rfl; exact rfl) | (apply AW_condA; exact rfl; (first | with_reducible assumption | decide +kernel)) | (apply AW_condB; exact rfl; (first | with_reducible assumption | decide +kernel)) | (apply AL_len ttok; (iterate 4 exact rfl)))
  all_goals (apply endQ []; (apply resG_ok ttok; exact rfl); (iterate 4 exact rfl))
  all_goals rfl
 | true =>
 have t7 : decide (((itEs l).length : Int) < 2) = false := by rw [hlen]; simp at t6 ⊢; omega
 cases t8 : decide (l.length <= 9) with
 | false =>
  have t9 : decide (((itEs l).length : Int) > 9) = true := by rw [hlen]; simp at t8 ⊢; omega
  refine AP.ofA ?_
  refine AC_of Tryz.func23 rfl Tryz.ntmps23 rfl rfl ?_
  repeat' (first | (apply AL_callPw (hR); kernel_rfl; (iterate 4 exact rfl)) | (apply AL_go ttok; exact rfl) | (apply AW_go ttok; exact rfl) | (apply K_go ttok; exact rfl) | (apply AL_guardT; (iterate 3 exact rfl); (first | with_reducible assumption | decide +kernel)) | (apply AL_pickF; exact rfl; (first | with_reducible assumption | decide +kernel); exact rfl; exact rfl) | (apply AW_condA; exact rfl; (first | with_reducible assumption | decide +kernel)) | (apply AW_condB; exact rfl; (first | with_reducible assumption | decide +kernel)) | (apply AL_len ttok; (iterate 4 exact rfl)))
  all_goals (apply endQ []; (apply resG_ok ttok; exact rfl); (iterate 4 exact rfl))
  all_goals rfl
 | true =>
 have t9 : decide (((itEs l).length : Int) > 9) = false := by rw [hlen]; simp at t8 ⊢; omega
 have hl9 := of_decide_eq_true t8
 have hl2 := of_decide_eq_true t6
 clear t6 t8
 rw [Bool.true_and, Bool.true_and]
 cases l with
 | nil => simp at hl2
 | cons y0 r =>
 dsimp only
 have hmem : ∀ z ∈ y0 :: r, wfI z /\ (putI z).length <= 3000 := fun z hz => ⟨wfs_mem hws z hz, Nat.le_trans (puts_in hz) (Nat.le_trans hsub.2 hyl)⟩
 have hpart : ∀ z ∈ y0 :: r, z.l.length <= 1000000 /\ (∀ u ∈ z.l, u.b.length <= 3000) /\ ∀ s m, s = 1 \/ s = 2 -> (putI (zeroL s (z.l.take m))).length <= 1000000000 := fun z hz => by
  obtain ⟨h1, h2⟩ := hmem z hz
  have h3 := (sub_len z).2
  have h5 := size_in hz
  have h6 := size_l z.l
  have h4 : z.l.length <= 1000000 := by
   obtain ⟨kz, nz, bz, lz⟩ := z
   rw [sizeI] at h5
   dsimp only [It.l] at h6 ⊢
   omega
  exact ⟨h4, few_parts (by omega) (fun u hu => Nat.le_trans (puts_in hu) (by omega)) h4⟩
 have hw0 := (hmem y0 (List.mem_cons_self ..)).1
 obtain ⟨p1, _, p3⟩ := hpart y0 (List.mem_cons_self ..)
 have hP := av_pRead y0 hw0 p1 p3
 have hpf := rp_fl hw0
 have hU := uniI (y0 :: r)
 obtain ⟨k0, n0, b0, l0⟩ := y0
 have hv0 : (itEs (It.mk k0 n0 b0 l0 :: r))[(0 : Int).toNat]? = some (.agg [.int .i64 k0, .int .u64 (n0 : Int), .sl (b0.map E.byte), .sl (itEs l0)]) := rfl
 generalize hLe : itEs (It.mk k0 n0 b0 l0 :: r) = LL at *
 replace hR : AP Tryz.prog 60 [byE x, .int .i64 0] (.tup [.agg [.int .i64 k, .int .u64 (n1 : Int), .sl .ext (b.map E.byte), .sl .ext LL], .int .i64 (n : Int), .int .i64 0]) [] := by rw [<- hLe]; exact hR
 generalize readP (.mk k0 n0 b0 l0) = rp at *
 obtain ⟨p, e⟩ := rp
 dsimp only at hpf ⊢
 cases t10 : (e != 0) with
 | true =>
  refine AP.ofA ?_
  refine AC_of Tryz.func23 rfl Tryz.ntmps23 rfl rfl ?_
  repeat' (first | (apply AL_callPw (hR); kernel_rfl; (iterate 4 exact rfl)) | (apply AL_callPw (hP); kernel_rfl; (iterate 4 exact rfl)) | (apply AL_go ttok; exact rfl) | (apply AW_go ttok; exact rfl) | (apply K_go ttok; exact rfl) | (apply AL_guardT; (iterate 3 exact rfl); (first | with_reducible assumption | decide +kernel)) | (apply AL_pickF; exact rfl; (first | with_reducible assumption | decide +kernel); exact rfl; exact rfl) | (apply AW_condA; exact rfl; (first | with_reducible assumption | decide +kernel)) | (apply AW_condB; exact rfl; (first | with_reducible assumption | decide +kernel)) | (apply AL_len ttok; (iterate 4 exact rfl)) | (apply AL_idx ttok; (iterate 6 exact rfl); (first | with_reducible assumption | decide +kernel | exact Int.natCast_nonneg _ | (guard_target = (0:Int) <= (OfNat.ofNat _ : Int); decide) | rotate_left); (first | with_reducible assumption | decide +kernel | exact rfl); (first | exact uniB_ok rfl | with_reducible assumption | decide +kernel | rotate_left)))
  all_goals (apply endQ []; (apply resG_ok ttok; exact rfl); (iterate 4 exact rfl))
  all_goals rfl
 | false =>
 dsimp only
 have hle1 : (1 : Int).toNat <= LL.length := by rw [hlen]; show 1 <= _; omega
 have hI : LL.drop (1 : Int).toNat = itEs r := by rw [<- hLe]; rfl
 have hr0 : 1 <= r.length := by rw [List.length_cons] at hl2; omega
 have hr9 : r.length <= 9 := by rw [List.length_cons] at hl9; omega
 have hlr := itEs_len r
 have hUr := uniI r
 have hF : onBs [] r = readBs r := by unfold onBs; cases readBs r <;> rfl
 rw [<- hF]
 generalize hF2 : onBs [] r = F
 have key : ∀ d, bnR (match F with | .error e => (bn0, e) | .ok bl => match rightBn ⟨p, bl⟩ with | false => (bn0, 3) | true => (⟨p, bl⟩, 0)) = d -> AP Tryz.prog 23 [byE x] d [] := fun d hd => by
  refine AP.ofA ?_
  refine AC_of Tryz.func23 rfl Tryz.ntmps23 rfl rfl ?_
  repeat' (first | (apply AL_callPw (hR); kernel_rfl; (iterate 4 exact rfl)) | (apply AL_callPw (hP); kernel_rfl; (iterate 4 exact rfl)) | (apply AL_fromE ttok; (iterate 6 exact rfl); exact hU; exact (by decide); exact hle1; exact hI) | (apply AL_go ttok; exact rfl) | (apply AW_go ttok; exact rfl) | (apply K_go ttok; exact rfl) | (apply AL_guardT; (iterate 3 exact rfl); (first | with_reducible assumption | decide +kernel)) | (apply AL_pickF; exact rfl; (first | with_reducible assumption | decide +kernel); exact rfl; exact rfl) | (apply AW_condB; exact rfl; (first | with_reducible assumption | decide +kernel)) | (apply AL_len ttok; (iterate 4 exact rfl)) | (apply AL_idx ttok; (iterate 6 exact rfl); (first | with_reducible assumption | decide +kernel | exact Int.natCast_nonneg _ | (guard_target = (0:Int) <= (OfNat.ofNat _ : Int); decide) | rotate_left); (first | with_reducible assumption | decide +kernel | exact rfl); (first | exact uniB_ok rfl | with_reducible assumption | decide +kernel | rotate_left)))
  show AW _ _ _ _
  refine AW_loopJ (fun f tm bx fr => ∃ (i c : Nat) (acc : List BlkV) (f0 : Fr), f + i = r.length /\ c = (bksE acc).length /\ acc.length = i /\ (∀ c ∈ acc, c.fl < 18446744073709551616 /\ c.data.length <= 3000) /\ onBs acc (r.drop i) = F /\ tm = [(2, .ptr 0 0), (7, .ptr 2 0), (65, .sl .ext (itEs r)), (66, .int .i64 ((itEs r).length : Int)), (67, .int .i64 (i : Int))] /\
   ((i = 0 /\ acc = [] /\ bx = [zBn, [.int .i64 k, .int .u64 (n1 : Int), .sl .ext (b.map E.byte), .sl .ext LL], bnT p (.sl .nil [])] /\ fr = []) \/
   (bx = [zBn, [.int .i64 k, .int .u64 (n1 : Int), .sl .ext (b.map E.byte), .sl .ext LL], bnT p (.sl (.own 1) (bksE acc))] /\ fr = [f0, ⟨c, 5, 69⟩]))) (r.length + 1) (Lands.mk' (m := r.length) (Nat.lt_succ_self _) ⟨0, 0, [], default, rfl, rfl, rfl, by simp, hF2, rfl, .inl ⟨rfl, rfl, rfl, rfl⟩⟩ ?_ rfl rfl rfl rfl rfl rfl) ?_
  ·exact .cons rfl (.cons rfl (.cons rfl (.cons rfl (.cons rfl .nil))))
  rintro f tm bx fr ⟨i, c, acc, f0, hf, hc, hai, hab, hq, rfl, hst⟩
  rcases Nat.lt_or_ge i r.length with hlt | hge
  ·have hdl : decide ((i : Int) < ((itEs r).length : Int)) = true := decide_eq_true (by omega)
   obtain ⟨z, hy⟩ : ∃ y, r[i]? = some y := ⟨_, List.getElem?_eq_getElem hlt⟩
   have hzm : z ∈ It.mk k0 n0 b0 l0 :: r := List.mem_cons_of_mem _ (List.mem_of_getElem? hy)
   have hwz := (hmem z hzm).1
   obtain ⟨q1, q2, q3⟩ := hpart z hzm
   have hB := av_bRead z hwz q1 q3 q2
   have hbf := rd_fl hwz q2
   have hdr : r.drop i = z :: r.drop (i + 1) := by
    rw [List.drop_eq_getElem_cons hlt]; congr 1
    exact (List.getElem?_eq_some_iff.1 hy).2
   rw [hdr, onBs_cons] at hq
   have ei : IntKind.i64.wrap ((i : Int) + 1) = ((i + 1 : Nat) : Int) := by rw [IntWalk.i64_in _ (by omega)]; omega
   obtain ⟨kz, nz, bz, lz⟩ := z
   have hv : (itEs r)[((i : Nat) : Int).toNat]? = some (.agg [.int .i64 kz, .int .u64 (nz : Int), .sl (bz.map E.byte), .sl (itEs lz)]) := by
    rw [Int.toNat_natCast, itEs_map, List.getElem?_map, hy]; rfl
   generalize readB (.mk kz nz bz lz) = rb at *
   obtain ⟨cb, e2⟩ := rb
   dsimp only at hbf hq
   cases t11 : (e2 == 0) with
   | false =>
    have t12 : (e2 != 0) = true := by simpa using t11
    rw [t11] at hq
    dsimp only at hq
    subst hq
    dsimp only at hd
    subst hd
    rcases hst with ⟨rfl, rfl, rfl, rfl⟩ | ⟨rfl, rfl⟩
    ·repeat' (first | (apply AL_callPw (hB); kernel_rfl; (iterate 4 exact rfl)) | (apply AL_go ttok; exact rfl) | (apply AW_go ttok; exact rfl) | (apply K_go ttok; exact rfl) | (apply AW_condA; exact rfl; (first | with_reducible assumption | decide +kernel)) | (apply AL_idx ttok; (iterate 6 exact rfl); (first | with_reducible assumption | decide +kernel | exact Int.natCast_nonneg _ | (guard_target = (0:Int) <= (OfNat.ofNat _ : Int); decide) | rotate_left); (first | with_reducible assumption | decide +kernel | exact rfl); (first | exact uniB_ok rfl | with_reducible assumption | decide +kernel | rotate_left)))
     all_goals (apply endQ []; (apply resG_ok ttok; exact rfl); (iterate 4 exact rfl))
     all_goals rfl
    ·repeat' (first | (apply AL_callPw (hB); kernel_rfl; (iterate 4 exact rfl)) | (apply AL_go ttok; exact rfl) | (apply AW_go ttok; exact rfl) | (apply K_go ttok; exact rfl) | (apply AW_condA; exact rfl; (first | with_reducible assumption | decide +kernel)) | (apply AL_idx ttok; (iterate 6 exact rfl); (first | with_reducible assumption | decide +kernel | exact Int.natCast_nonneg _ | (guard_target = (0:Int) <= (OfNat.ofNat _ : Int); decide) | rotate_left); (first | with_reducible assumption | decide +kernel | exact rfl); (first | exact uniB_ok rfl | with_reducible assumption | decide +kernel | rotate_left)))
     all_goals (apply endQ []; (apply resG_ok ttok; exact rfl); (iterate 4 exact rfl))
     all_goals rfl
   | true =>
    have t12 : (e2 != 0) = false := by simpa using t11
    rw [t11] at hq
    dsimp only at hq
    have hab2 : ∀ c ∈ acc ++ [cb], c.fl < 18446744073709551616 /\ c.data.length <= 3000 := fun c hc => by
     rcases List.mem_append.1 hc with hc | hc
     ·exact hab c hc
     ·simp at hc; subst hc; exact hbf
    have hU5 := uniK acc
    have hUc := uniK [cb]
    subst hc
    have hbl := bks_len acc
    rcases hst with ⟨rfl, rfl, rfl, rfl⟩ | ⟨rfl, rfl⟩
    ·repeat' (first | (apply AL_callPw (hB); kernel_rfl; (iterate 4 exact rfl)) | rw [ei] | (apply AL_append_nilZ ttok; (iterate 6 exact rfl); exact uniB_ok rfl; exact List.cons_ne_nil _ _; exact rfl; decide +kernel; decide +kernel; (iterate 3 exact rfl)) | (apply AL_go ttok; exact rfl) | (apply AW_go ttok; exact rfl) | (apply AW_condA; exact rfl; (first | with_reducible assumption | decide +kernel)) | (apply AW_condB; exact rfl; (first | with_reducible assumption | decide +kernel)) | (apply AL_bsZ ttok; (iterate 12 exact rfl)) | (apply AL_idx ttok; (iterate 6 exact rfl); (first | with_reducible assumption | decide +kernel | exact Int.natCast_nonneg _ | (guard_target = (0:Int) <= (OfNat.ofNat _ : Int); decide) | rotate_left); (first | with_reducible assumption | decide +kernel | exact rfl); (first | exact uniB_ok rfl | with_reducible assumption | decide +kernel | rotate_left)))
     refine Lands.mk' (m := f - 1) (by omega) ⟨1, 1, [cb], _, by omega, rfl, rfl, hab2, hq, rfl, .inr ⟨rfl, rfl⟩⟩ ?_ rfl rfl rfl rfl rfl rfl
     exact .cons rfl (.cons rfl (.cons rfl (.cons rfl (.cons rfl .nil))))
    ·have hs : bksE acc ++ [bkE cb] = bksE (acc ++ [cb]) := (List.map_append (f := bkE) (l₁ := acc) (l₂ := [cb])).symm
     repeat' (first | (apply AL_callPw (hB); kernel_rfl; (iterate 4 exact rfl)) | rw [ei] | (apply AL_go ttok; exact rfl) | (apply AW_go ttok; exact rfl) | (apply AW_condA; exact rfl; (first | with_reducible assumption | decide +kernel)) | (apply AW_condB; exact rfl; (first | with_reducible assumption | decide +kernel)) | (apply AL_bsZ ttok; (iterate 12 exact rfl)) | (apply AL_append ttok; (iterate 6 exact rfl); (first | with_reducible assumption | decide +kernel | exact rfl | rotate_left); exact rfl; exact rfl; (first | exact uniB_ok rfl | with_reducible assumption | decide +kernel | rotate_left); (first | exact uniB_ok rfl | with_reducible assumption | decide +kernel | rotate_left); (first | exact List.cons_ne_nil _ _ | with_reducible assumption | decide +kernel | rotate_left); (first | with_reducible assumption | decide +kernel | rotate_left); (first | with_reducible assumption | decide +kernel | rotate_left); exact rfl; exact rfl) | (apply AL_idx ttok; (iterate 6 exact rfl); (first | with_reducible assumption | decide +kernel | exact Int.natCast_nonneg _ | (guard_target = (0:Int) <= (OfNat.ofNat _ : Int); decide) | rotate_left); (first | with_reducible assumption | decide +kernel | exact rfl); (first | exact uniB_ok rfl | with_reducible assumption | decide +kernel | rotate_left)))
     ·refine Lands.mk' (m := f - 1) (by omega) ⟨i + 1, (bksE acc).length + 1, acc ++ [cb], f0, by omega, by rw [<- hs, List.length_append]; rfl, by rw [List.length_append, hai]; rfl, hab2, hq, rfl, .inr ⟨by rw [<- hs], rfl⟩⟩ ?_ rfl rfl rfl rfl rfl rfl
      exact .cons rfl (.cons rfl (.cons rfl (.cons rfl (.cons rfl .nil))))
     all_goals (first | rfl | (simp only [List.length_append, List.length_cons, List.length_nil, List.length_map, itEs_len]; done) | (simp only [List.length_append, List.length_cons, List.length_nil, List.length_map, itEs_len] at *; (try unfold maxLen); (try simp only [Nat.add_mul]); omega))
  ·have hdl : decide ((i : Int) < ((itEs r).length : Int)) = false := decide_eq_false (by omega)
   have hqn : F = .ok acc := by
    rw [<- hq, List.drop_eq_nil_of_le hge]
    unfold onBs
    rw [readBs]
    dsimp only
    rw [List.append_nil]
   subst hqn
   dsimp only at hd
   have hRt := av_bnRight ⟨p, acc⟩ ⟨hpf, by show acc.length <= _; omega, hab⟩
   rcases hst with ⟨rfl, _, _, _⟩ | ⟨rfl, rfl⟩
   ·omega
   cases t13 : rightBn ⟨p, acc⟩ with
   | false =>
    rw [t13] at hRt hd
    dsimp only at hd
    subst hd
    repeat' (first | (apply AL_callPw (hRt); kernel_rfl; (iterate 4 exact rfl)) | (apply AL_go ttok; exact rfl) | (apply AW_go ttok; exact rfl) | (apply K_go ttok; exact rfl) | (apply AW_condA; exact rfl; (first | with_reducible assumption | decide +kernel)) | (apply AW_condB; exact rfl; (first | with_reducible assumption | decide +kernel)))
    all_goals (apply endQ []; (apply resG_ok ttok; exact rfl); (iterate 4 exact rfl))
    all_goals rfl
   | true =>
    rw [t13] at hRt hd
    dsimp only at hd
    subst hd
    repeat' (first | (apply AL_callPw (hRt); kernel_rfl; (iterate 4 exact rfl)) | (apply AL_go ttok; exact rfl) | (apply AW_go ttok; exact rfl) | (apply K_go ttok; exact rfl) | (apply AW_condB; exact rfl; (first | with_reducible assumption | decide +kernel)))
    all_goals (apply endQ []; (apply resG_ok ttok; exact rfl); (iterate 4 exact rfl))
    all_goals rfl
 exact key _ rfl
end Go.Proofs.YtfkmicjlaedlkaaGreatDoor
end
section
open Go.RowKit Go.Pl Go.Av
namespace Go.Proofs.YtfkmicjlaedlkaaGreatDoor
set_option maxHeartbeats 4000000
theorem rd_fl1 {z : It} (hw : wfI z) : (readB z).1.fl < 18446744073709551616 := by
 have hsub := open_sub z 3
 have hws : wfs z.l := by obtain ⟨k, n, b, l⟩ := z; exact hw.2.2.2
 unfold readB
 generalize openV z 3 = o at *
 have h0 : bk0.fl < 18446744073709551616 := by decide
 unfold readX
 split
 ·exact h0
 ·split
  ·rename_i heq
   rw [heq] at hsub
   split
   ·exact h0
   ·split
    ·exact h0
    ·split
     ·exact h0
     ·exact wfI_n (wfs_mem hws _ (hsub _ (List.mem_cons_of_mem _ (List.mem_cons_of_mem _ (List.mem_cons_self ..)))))
  ·exact h0
theorem readBs_fl : ∀ {l : List It} {bl : List BlkV}, wfs l -> readBs l = .ok bl -> ∀ c ∈ bl, c.fl < 18446744073709551616
 | [], bl, _, h, c, hc => by rw [readBs] at h; cases h; simp at hc
 | y :: r, bl, hw, h, c, hc => by
  rw [readBs] at h
  split at h
  ·cases h
  ·split at h
   ·cases h
   ·rename_i l hr
    cases h
    rcases List.mem_cons.1 hc with rfl | hc
    ·exact rd_fl1 hw.1
    ·exact readBs_fl hw.2 hr c hc
theorem read_ok {x : List UInt8} (hx : x.length <= 3000) {c : BunV} (h : readBn x = (c, 0)) : BunOk c := by
 have hr := read_right h
 unfold rightBn at hr
 rw [Bool.and_eq_true] at hr
 obtain ⟨h8, hb⟩ := fit_right_all hr.1
 have key : c.p.fl < 18446744073709551616 /\ ∀ y ∈ c.bl, y.fl < 18446744073709551616 := by
  unfold readBn at h
  split at h
  ·simp at h
  ·rcases read_case x (by omega) with ⟨e, he, hi, _⟩ | ⟨y, n, hi, hw, _⟩
   ·rw [hi] at h
    have te : ((e : Int) != 0) = true := by simpa using he
    dsimp only at h
    rw [te] at h
    simp only [Prod.mk.injEq] at h
    exact absurd h.2 (by omega)
   ·rw [hi] at h
    dsimp only at h
    rw [show (((0 : Nat) : Int) != 0) = false from rfl] at h
    dsimp only at h
    split at h
    ·simp at h
    ·unfold bunOf at h
     obtain ⟨k, n2, b, l⟩ := y
     have hws : wfs l := hw.2.2.2
     dsimp only at h
     split at h
     ·simp at h
     ·split at h
      ·simp at h
      ·split at h
       ·rename_i t
        simp only [Prod.mk.injEq] at h
        rw [h.2] at t
        cases t
       ·split at h
        ·rename_i e he
         simp only [Prod.mk.injEq] at h
         exact absurd h.2 (readBs_err he)
        ·rename_i bl he
         split at h
         ·simp at h
         ·simp only [Prod.mk.injEq, and_true] at h
          subst h
          exact ⟨rp_fl hws.1, readBs_fl hws.2 he⟩
 exact ⟨key.1, by omega, fun y hy => ⟨key.2 y hy, Nat.le_trans (data_len (hb y hy)) (by omega)⟩⟩
theorem beq_sym (a b : List UInt8) : (a == b) = (b == a) := by
 rw [Bool.eq_iff_iff, beq_iff_eq, beq_iff_eq]; exact eq_comm
theorem av_bnShort [Known] [KnownU8] (x : List UInt8) (hx : x.length <= 3000) : AP Tryz.prog 25 [byE x] (.bool (shortBn x)) [] := by
 have hR := av_bnRead x hx
 unfold shortBn
 rcases hr : readBn x with ⟨c, e⟩
 rw [hr] at hR
 dsimp only [bnR] at hR ⊢
 by_cases he : e = 0
 case neg =>
  have te : (e != 0) = true := by simpa using he
  have te2 : (e == 0) = false := by simpa using he
  rw [te2, Bool.false_and]
  obtain ⟨⟨fl, sum, ⟨di, dn, ds, dh, dd⟩, ⟨ri, rn, rs, rh, rd⟩, ⟨xi, xn, xs, xh, xd⟩, t, q, life⟩, bl⟩ := c
  try dsimp only at *
  refine AP.ofA ?_
  refine AC_of Tryz.func25 rfl Tryz.ntmps25 rfl rfl ?_
  repeat' (first | (apply AL_callPw (hR); kernel_rfl; (iterate 4 exact rfl)) | (apply AL_go ttok; exact rfl) | (apply AW_go ttok; exact rfl) | (apply K_go ttok; exact rfl) | (apply AW_condA; exact rfl; (first | with_reducible assumption | decide +kernel)))
  all_goals (apply endQ []; (apply resG_ok ttok; exact rfl); (iterate 4 exact rfl))
  all_goals rfl
 subst he
 have hW := av_bnWrite c (read_ok hx hr)
 unfold writeBnD at hW
 rw [read_right hr] at hW
 have hE := av_bEq x (putBn c)
 rw [show ((0 : Int) == 0) = true from rfl, Bool.true_and, beq_sym]
 clear hr
 generalize putBn c = pb at *
 obtain ⟨⟨fl, sum, ⟨di, dn, ds, dh, dd⟩, ⟨ri, rn, rs, rh, rd⟩, ⟨xi, xn, xs, xh, xd⟩, t, q, life⟩, bl⟩ := c
 try dsimp only at *
 refine AP.ofA ?_
 refine AC_of Tryz.func25 rfl Tryz.ntmps25 rfl rfl ?_
 repeat' (first | (apply AL_callPw (hR); kernel_rfl; (iterate 4 exact rfl)) | (apply AL_callPw (hW); kernel_rfl; (iterate 4 exact rfl)) | (apply AL_callPw (hE); kernel_rfl; (iterate 4 exact rfl)) | (apply AL_go ttok; exact rfl) | (apply AW_go ttok; exact rfl) | (apply AL_guardT; (iterate 3 exact rfl); (first | with_reducible assumption | decide +kernel)) | (apply AL_pickT; exact rfl; (first | with_reducible assumption | decide +kernel); exact rfl; exact rfl) | (apply AW_condB; exact rfl; (first | with_reducible assumption | decide +kernel)))
 all_goals (apply endQ []; (apply resG_ok ttok; exact rfl); (iterate 4 exact rfl))
 all_goals rfl
theorem av_eqFuncK [Known] (l : List BlkV) (hl : l.length <= 1000000) : AP Tryz.prog 62 [.sl .ext (bksE l), .sl .ext (bksE l), .fn 63 []] (.bool true) [] := by
 have e1 := bks_len l
 have t1 : (((bksE l).length : Int) != ((bksE l).length : Int)) = false := by simp
 refine AP.ofA ?_
 refine AC_of Tryz.func62 rfl Tryz.ntmps62 rfl rfl ?_
 repeat' (first | (apply AL_go ttok; exact rfl) | (apply AW_go ttok; exact rfl) | (apply K_go ttok; exact rfl) | (apply AW_condB; exact rfl; (first | with_reducible assumption | decide +kernel)) | (apply AL_len ttok; (iterate 4 exact rfl)))
 refine AW_loopJ (fun f tm bx fr => ∃ i : Nat, f + i = l.length /\ tm = [(0, .sl .ext (bksE l)), (1, .sl .ext (bksE l)), (2, .fn 63 []), (6, .bool false), (15, .sl .ext (bksE l)), (16, .int .i64 ((bksE l).length : Int)), (17, .int .i64 (i : Int))] /\ bx = [] /\ fr = []) (l.length + 1) (Lands.mk' (m := l.length) (Nat.lt_succ_self _) ⟨0, rfl, rfl, rfl, rfl⟩ ?_ rfl rfl rfl rfl rfl rfl) ?_
 ·exact .cons rfl (.cons rfl (.cons rfl (.cons rfl (.cons rfl (.cons rfl (.cons rfl .nil))))))
 rintro f tm bx fr ⟨i, hf, rfl, rfl, rfl⟩
 have hU := uniK l
 rcases Nat.lt_or_ge i l.length with hlt | hge
 ·have hdl : decide ((i : Int) < ((bksE l).length : Int)) = true := decide_eq_true (by omega)
  obtain ⟨y, hy⟩ : ∃ y, l[i]? = some y := ⟨_, List.getElem?_eq_getElem hlt⟩
  have hv := bks_get hy
  have hc := av_bkSame y y
  rw [bkSame_self] at hc
  have ei : IntKind.i64.wrap ((i : Int) + 1) = ((i + 1 : Nat) : Int) := by rw [IntWalk.i64_in _ (by omega)]; omega
  repeat' (first | rw [ei] | (apply AL_callPv (hc); exact rfl; kernel_rfl; (iterate 3 exact rfl)) | (apply AL_go ttok; exact rfl) | (apply AW_go ttok; exact rfl) | (apply K_go ttok; exact rfl) | (apply AW_condA; exact rfl; (first | with_reducible assumption | decide +kernel)) | (apply AW_condB; exact rfl; (first | with_reducible assumption | decide +kernel)) | (apply AL_idx ttok; (iterate 6 exact rfl); (first | with_reducible assumption | decide +kernel | exact Int.natCast_nonneg _ | (guard_target = (0:Int) <= (OfNat.ofNat _ : Int); decide) | rotate_left); (first | with_reducible assumption | decide +kernel | exact rfl); (first | exact uniB_ok rfl | with_reducible assumption | decide +kernel | rotate_left)))
  refine Lands.mk' (m := f - 1) (by omega) ⟨i + 1, by omega, rfl, rfl, rfl⟩ ?_ rfl rfl rfl rfl rfl rfl
  exact .cons rfl (.cons rfl (.cons rfl (.cons rfl (.cons rfl (.cons rfl (.cons rfl .nil))))))
 ·have hdl : decide ((i : Int) < ((bksE l).length : Int)) = false := decide_eq_false (by omega)
  repeat' (first | (apply AW_go ttok; exact rfl) | (apply AW_condB; exact rfl; (first | with_reducible assumption | decide +kernel)))
  all_goals (apply endQ []; (apply resG_ok ttok; exact rfl); (iterate 4 exact rfl))
  all_goals rfl
abbrev eqP (a b : PriV) : Bool := ((a.fl : Int) == (b.fl : Int)) && ((a.sum == b.sum) && ((a.dest.i == b.dest.i) && (((a.dest.n : Int) == (b.dest.n : Int)) && (((a.dest.s : Int) == (b.dest.s : Int)) && ((a.dest.h == b.dest.h) && ((a.dest.d == b.dest.d) && ((a.rep.i == b.rep.i) && (((a.rep.n : Int) == (b.rep.n : Int)) && (((a.rep.s : Int) == (b.rep.s : Int)) && ((a.rep.h == b.rep.h) && ((a.rep.d == b.rep.d) && ((a.src.i == b.src.i) && (((a.src.n : Int) == (b.src.n : Int)) && (((a.src.s : Int) == (b.src.s : Int)) && ((a.src.h == b.src.h) && ((a.src.d == b.src.d) && (((a.t : Int) == (b.t : Int)) && (((a.q : Int) == (b.q : Int)) && (((a.life : Int) == (b.life : Int)) && true)))))))))))))))))))
theorem eqP_self (p : PriV) : eqP p p = true := by simp [eqP]
theorem av_bnSame [Known] (b : BunV) (hb : BunOk b) : AP Tryz.prog 24 [.agg (bnC b), .agg (bnC b)] (.bool true) [] := by
 have hE := av_eqFuncK b.bl hb.len
 have hP := eqP_self b.p
 clear hb
 obtain ⟨⟨fl, sum, ⟨di, dn, ds, dh, dd⟩, ⟨ri, rn, rs, rh, rd⟩, ⟨xi, xn, xs, xh, xd⟩, t, q, life⟩, bl⟩ := b
 try dsimp only at *
 refine AP.ofA ?_
 refine AC_of Tryz.func24 rfl Tryz.ntmps24 rfl rfl ?_
 repeat' (first | (apply AL_callPw (hE); kernel_rfl; (iterate 4 exact rfl)) | (apply AL_go ttok; exact rfl) | (apply AW_go ttok; exact rfl) | (apply AL_guardT; (iterate 3 exact rfl); (first | with_reducible assumption | decide +kernel)) | (apply AL_pickT; exact rfl; (first | with_reducible assumption | decide +kernel); exact rfl; exact rfl) | (apply AL_eqS ttok; (iterate 4 exact rfl); (kernel_rfl); (kernel_rfl); (iterate 3 exact rfl)))
 all_goals (apply endQ []; (apply resG_ok ttok; exact rfl); (iterate 4 exact rfl))
 all_goals rfl
end Go.Proofs.YtfkmicjlaedlkaaGreatDoor
end
section
open Go.RowKit Go.Pl Go.Av
namespace Go.Proofs.YtfkmicjlaedlkaaGreatDoor
set_option maxHeartbeats 4000000
def greatP (p : PriV) : Bool := decide (IntKind.i64.wrap (IntKind.i64.wrap (IntKind.i64.wrap ((p.dest.h.length : Int) + (p.dest.d.length : Int)) + (p.rep.h.length : Int)) + (p.rep.d.length : Int)) > 300) || decide (IntKind.i64.wrap ((p.src.h.length : Int) + (p.src.d.length : Int)) > 300)
theorem av_great6 [Known] (p : PriV) : AP Tryz.prog 8 [.agg (prC p)] (.bool (greatP p)) [] := by
 have hI := av_greatN p.src p.t p.q
 unfold greatP
 obtain ⟨fl, sum, ⟨di, dn, ds, dh, dd⟩, ⟨ri, rn, rs, rh, rd⟩, ⟨xi, xn, xs, xh, xd⟩, t, q, life⟩ := p
 try dsimp only at *
 generalize (IntKind.i64.wrap ((xh.length : Int) + (xd.length : Int))) = w2 at *
 cases t1 : decide (IntKind.i64.wrap (IntKind.i64.wrap (IntKind.i64.wrap ((dh.length : Int) + (dd.length : Int)) + (rh.length : Int)) + (rd.length : Int)) > 300) <;> cases t2 : decide (w2 > 300)
 all_goals
  rw [t2] at hI
  refine AP.ofA ?_
  refine AC_of Tryz.func8 rfl Tryz.ntmps8 rfl rfl ?_
  repeat' (first | (apply AL_callPw (hI); kernel_rfl; (iterate 4 exact rfl)) | (apply AL_go ttok; exact rfl) | (apply AW_go ttok; exact rfl) | (apply AL_guardT; (iterate 3 exact rfl); (first | with_reducible assumption | decide +kernel)) | (apply AL_guardFf; (iterate 3 exact rfl); (first | with_reducible assumption | decide +kernel)) | (apply AL_pickT; exact rfl; (first | with_reducible assumption | decide +kernel); exact rfl; exact rfl) | (apply AL_pickF; exact rfl; (first | with_reducible assumption | decide +kernel); exact rfl; exact rfl) | (apply AL_lens ttok; (iterate 4 exact rfl)))
  all_goals (apply endQ []; (apply resG_ok ttok; exact rfl); (iterate 4 exact rfl))
  all_goals rfl
def bigB (l : List BlkV) : Bool := l.any fun c => decide ((c.data.length : Int) > 400)
def greatBn (b : BunV) : Bool := decide ((b.bl.length : Int) > 20) || (greatP b.p || bigB b.bl)
theorem great_no {b : BunV} (h : greatBn b = false) : b.bl.length <= 20 /\ ∀ c ∈ b.bl, c.data.length <= 400 := by
 unfold greatBn bigB at h
 simp only [Bool.or_eq_false_iff, decide_eq_false_iff_not, List.any_eq_false, decide_eq_true_eq] at h
 refine ⟨by omega, fun c hc => ?_⟩
 have := h.2.2 c hc
 omega
theorem av_great8 [Known] (b : BunV) : AP Tryz.prog 20 [.agg (bnC b)] (.bool (greatBn b)) [] := by
 have hG := av_great6 b.p
 have hlen := bks_len b.bl
 unfold greatBn
 cases t0 : decide ((b.bl.length : Int) > 20) with
 | true =>
  have t1 : decide (((bksE b.bl).length : Int) > 20) = true := by rw [hlen]; exact t0
  obtain ⟨⟨fl, sum, ⟨di, dn, ds, dh, dd⟩, ⟨ri, rn, rs, rh, rd⟩, ⟨xi, xn, xs, xh, xd⟩, t, q, life⟩, bl⟩ := b
  try dsimp only at *
  refine AP.ofA ?_
  refine AC_of Tryz.func20 rfl Tryz.ntmps20 rfl rfl ?_
  repeat' (first | (apply AL_go ttok; exact rfl) | (apply AW_go ttok; exact rfl) | (apply K_go ttok; exact rfl) | (apply AL_guardFf; (iterate 3 exact rfl); (first | with_reducible assumption | decide +kernel)) | (apply AL_pickT; exact rfl; (first | with_reducible assumption | decide +kernel); exact rfl; exact rfl) | (apply AW_condA; exact rfl; (first | with_reducible assumption | decide +kernel)) | (apply AL_len ttok; (iterate 4 exact rfl)))
  all_goals (apply endQ []; (apply resG_ok ttok; exact rfl); (iterate 4 exact rfl))
  all_goals rfl
 | false =>
 have h20 := of_decide_eq_false t0
 have t1 : decide (((bksE b.bl).length : Int) > 20) = false := by rw [hlen]; exact t0
 generalize greatP b.p = gp at *
 cases gp with
 | true =>
  obtain ⟨⟨fl, sum, ⟨di, dn, ds, dh, dd⟩, ⟨ri, rn, rs, rh, rd⟩, ⟨xi, xn, xs, xh, xd⟩, t, q, life⟩, bl⟩ := b
  try dsimp only at *
  refine AP.ofA ?_
  refine AC_of Tryz.func20 rfl Tryz.ntmps20 rfl rfl ?_
  repeat' (first | (apply AL_callPw (hG); kernel_rfl; (iterate 4 exact rfl)) | (apply AL_go ttok; exact rfl) | (apply AW_go ttok; exact rfl) | (apply K_go ttok; exact rfl) | (apply AL_guardT; (iterate 3 exact rfl); (first | with_reducible assumption | decide +kernel)) | (apply AL_pickF; exact rfl; (first | with_reducible assumption | decide +kernel); exact rfl; exact rfl) | (apply AW_condA; exact rfl; (first | with_reducible assumption | decide +kernel)) | (apply AL_len ttok; (iterate 4 exact rfl)))
  all_goals (apply endQ []; (apply resG_ok ttok; exact rfl); (iterate 4 exact rfl))
  all_goals rfl
 | false =>
 rw [Bool.false_or, Bool.false_or]
 obtain ⟨⟨fl, sum, ⟨di, dn, ds, dh, dd⟩, ⟨ri, rn, rs, rh, rd⟩, ⟨xi, xn, xs, xh, xd⟩, t, q, life⟩, bl⟩ := b
 try dsimp only at *
 have hU := uniK bl
 generalize hF : bigB bl = F
 refine AP.ofA ?_
 refine AC_of Tryz.func20 rfl Tryz.ntmps20 rfl rfl ?_
 repeat' (first | (apply AL_callPw (hG); kernel_rfl; (iterate 4 exact rfl)) | (apply AL_go ttok; exact rfl) | (apply AW_go ttok; exact rfl) | (apply K_go ttok; exact rfl) | (apply AL_guardT; (iterate 3 exact rfl); (first | with_reducible assumption | decide +kernel)) | (apply AL_pickF; exact rfl; (first | with_reducible assumption | decide +kernel); exact rfl; exact rfl) | (apply AW_condB; exact rfl; (first | with_reducible assumption | decide +kernel)) | (apply AL_len ttok; (iterate 4 exact rfl)))
 show AW _ _ _ _
 refine AW_loopJ (fun f tm bx fr => ∃ (i : Nat), f + i = bl.length /\ bigB (bl.drop i) = F /\ tm = [(1, .ptr 0 0), (3, .int .i64 (i : Int))] /\ bx = [[.int .u64 (fl : Int), .int .i64 sum, .bool di, .int .u64 (dn : Int), .int .u64 (ds : Int), .str dh, .str dd, .bool ri, .int .u64 (rn : Int), .int .u64 (rs : Int), .str rh, .str rd, .bool xi, .int .u64 (xn : Int), .int .u64 (xs : Int), .str xh, .str xd, .int .u64 (t : Int), .int .u64 (q : Int), .int .u64 (life : Int), .sl .ext (bksE bl)]] /\ fr = []) (bl.length + 1) (Lands.mk' (m := bl.length) (Nat.lt_succ_self _) ⟨0, by omega, hF, rfl, rfl, rfl⟩ ?_ rfl rfl rfl rfl rfl rfl) ?_
 ·exact .cons rfl (.cons rfl .nil)
 rintro f tm bx fr ⟨i, hf, hq, rfl, rfl, rfl⟩
 rcases Nat.lt_or_ge i bl.length with hlt | hge
 ·have hdl : decide ((i : Int) < ((bksE bl).length : Int)) = true := decide_eq_true (by omega)
  obtain ⟨c, hy⟩ : ∃ y, bl[i]? = some y := ⟨_, List.getElem?_eq_getElem hlt⟩
  have hv := bks_get hy
  have hdr : bl.drop i = c :: bl.drop (i + 1) := by
   rw [List.drop_eq_getElem_cons hlt]; congr 1
   exact (List.getElem?_eq_some_iff.1 hy).2
  rw [hdr] at hq
  replace hq : (decide ((c.data.length : Int) > 400) || bigB (bl.drop (i + 1))) = F := hq
  have hcl : ((c.data.map E.byte).length : Int) = (c.data.length : Int) := by rw [List.length_map]
  have ei : IntKind.i64.wrap ((i : Int) + 1) = ((i + 1 : Nat) : Int) := by rw [IntWalk.i64_in _ (by omega)]; omega
  rw [<- hcl] at hq
  cases hb : decide (((c.data.map E.byte).length : Int) > 400) with
  | true =>
   rw [hb, Bool.true_or] at hq
   subst hq
   repeat' (first | (apply AL_go ttok; exact rfl) | (apply AW_go ttok; exact rfl) | (apply K_go ttok; exact rfl) | (apply AW_condA; exact rfl; (first | with_reducible assumption | decide +kernel)) | refine then_ret ?_ | (apply AL_len ttok; (iterate 4 exact rfl)) | (apply AL_idx ttok; (iterate 6 exact rfl); (first | with_reducible assumption | decide +kernel | exact Int.natCast_nonneg _ | (guard_target = (0:Int) <= (OfNat.ofNat _ : Int); decide) | rotate_left); (first | with_reducible assumption | decide +kernel | exact rfl); (first | exact uniB_ok rfl | with_reducible assumption | decide +kernel | rotate_left)))
   all_goals (apply endQ []; (apply resG_ok ttok; exact rfl); (iterate 4 exact rfl))
   all_goals rfl
  | false =>
   rw [hb, Bool.false_or] at hq
   repeat' (first | rw [ei] | (apply AL_go ttok; exact rfl) | (apply AW_go ttok; exact rfl) | (apply K_go ttok; exact rfl) | (apply AW_condA; exact rfl; (first | with_reducible assumption | decide +kernel)) | (apply AW_condB; exact rfl; (first | with_reducible assumption | decide +kernel)) | (apply AL_len ttok; (iterate 4 exact rfl)) | (apply AL_idx ttok; (iterate 6 exact rfl); (first | with_reducible assumption | decide +kernel | exact Int.natCast_nonneg _ | (guard_target = (0:Int) <= (OfNat.ofNat _ : Int); decide) | rotate_left); (first | with_reducible assumption | decide +kernel | exact rfl); (first | exact uniB_ok rfl | with_reducible assumption | decide +kernel | rotate_left)))
   refine Lands.mk' (m := f - 1) (by omega) ⟨i + 1, by omega, hq, rfl, rfl, rfl⟩ ?_ rfl rfl rfl rfl rfl rfl
   exact .cons rfl (.cons rfl .nil)
 ·have hdl : decide ((i : Int) < ((bksE bl).length : Int)) = false := decide_eq_false (by omega)
  rw [List.drop_eq_nil_of_le hge] at hq
  replace hq : false = F := hq
  subst hq
  repeat' (first | (apply AL_go ttok; exact rfl) | (apply AW_go ttok; exact rfl) | (apply K_go ttok; exact rfl) | (apply AW_condB; exact rfl; (first | with_reducible assumption | decide +kernel)) | (apply AL_len ttok; (iterate 4 exact rfl)))
  all_goals (apply endQ []; (apply resG_ok ttok; exact rfl); (iterate 4 exact rfl))
  all_goals rfl
end Go.Proofs.YtfkmicjlaedlkaaGreatDoor
end
