/- Items: which are equal. -/
import Derived.Test.YtihkbilhgbmbhaaDoorG12
import Derived.Test.YtihkbilhgbmbhaaDoorG09
set_option linter.unusedVariables false
set_option linter.unusedSimpArgs false
section
open Go.RowKit Go.Pl Go.Av
namespace Go.Proofs.YtihkbilhgbmbhaaDoor
set_option maxHeartbeats 4000000
theorem beqs_len : ∀ {l l' : List It}, l.length ≠ l'.length -> It.beqs l l' = false
 | [], [], h => by simp at h
 | [], _ :: _, _ => rfl
 | _ :: _, [], _ => rfl
 | x :: l, y :: l', h => by
  rw [It.beqs]
  cases It.beq x y
  ·rfl
  ·exact beqs_len (by simpa using h)
theorem av_eqFunc [Known] (l l' : List It) (hl : l.length <= 2199023255488) (hl' : l'.length <= 2199023255488) (ih : ∀ y ∈ l, ∀ y' ∈ l', AP Tryd.prog 27 [itD y, itD y'] (.bool (It.beq y y')) []) : AP Tryd.prog 60 [.sl .ext (itEs l), .sl .ext (itEs l'), .fn 27 []] (.bool (It.beqs l l')) [] := by
 have e1 := itEs_len l
 have e2 := itEs_len l'
 by_cases hne : l.length = l'.length
 ·have t1 : (((itEs l).length : Int) != ((itEs l').length : Int)) = false := by rw [e1, e2, hne]; simp
  generalize hfin : It.beqs l l' = fin
  refine AP.ofA ?_
  refine AC_of Tryd.func60 rfl Tryd.ntmps60 rfl rfl ?_
  repeat' (first | (apply AL_move; exact rfl; exact rfl) | (apply AL_assign; exact rfl; exact rfl) | (apply AL_bin; (iterate 5 exact rfl)) | refine AL_nil ?_ | refine AW_region ?_ | refine AW_seq' ?_ | (apply AW_condB; exact rfl; (first | with_reducible assumption | decide +kernel)) | refine then_norm ?_ | refine AW_block ?_ | (apply AL_len ttok; (iterate 4 exact rfl)) | refine AW_skip ?_)
  refine AW_loopJ (fun f tm bx fr => ∃ i : Nat, f + i = l.length /\ It.beqs (l.drop i) (l'.drop i) = fin /\ tm = [(0, .sl .ext (itEs l)), (1, .sl .ext (itEs l')), (2, .fn 27 []), (6, .bool false), (15, .sl .ext (itEs l)), (16, .int .i64 ((itEs l).length : Int)), (17, .int .i64 (i : Int))] /\ bx = [] /\ fr = []) (l.length + 1) (Lands.mk' (m := l.length) (Nat.lt_succ_self _) ⟨0, rfl, hfin, rfl, rfl, rfl⟩ ?_ rfl rfl rfl rfl rfl rfl) ?_
  ·exact .cons rfl (.cons rfl (.cons rfl (.cons rfl (.cons rfl (.cons rfl (.cons rfl .nil))))))
  rintro f tm bx fr ⟨i, hf, hfin, rfl, rfl, rfl⟩
  have hU := uniI l
  have hU' := uniI l'
  rcases Nat.lt_or_ge i l.length with hlt | hge
  ·have hdl : decide ((i : Int) < ((itEs l).length : Int)) = true := decide_eq_true (by omega)
   obtain ⟨⟨k1, n1, b1, l1⟩, hy⟩ : ∃ y, l[i]? = some y := ⟨_, List.getElem?_eq_getElem hlt⟩
   obtain ⟨⟨k2, n2, b2, l2⟩, hy'⟩ : ∃ y, l'[i]? = some y := ⟨_, List.getElem?_eq_getElem (by omega)⟩
   have hv : (itEs l)[((i : Nat) : Int).toNat]? = some (.agg [.int .i64 k1, .int .u64 (n1 : Int), .sl (b1.map E.byte), .sl (itEs l1)]) := by
    rw [Int.toNat_natCast, itEs_map, List.getElem?_map, hy]; rfl
   have hv' : (itEs l')[((i : Nat) : Int).toNat]? = some (.agg [.int .i64 k2, .int .u64 (n2 : Int), .sl (b2.map E.byte), .sl (itEs l2)]) := by
    rw [Int.toNat_natCast, itEs_map, List.getElem?_map, hy']; rfl
   have hc := ih _ (List.mem_of_getElem? hy) _ (List.mem_of_getElem? hy')
   have hdr : l.drop i = It.mk k1 n1 b1 l1 :: l.drop (i + 1) := by
    rw [List.drop_eq_getElem_cons hlt]; congr 1
    exact (List.getElem?_eq_some_iff.1 hy).2
   have hdr' : l'.drop i = It.mk k2 n2 b2 l2 :: l'.drop (i + 1) := by
    rw [List.drop_eq_getElem_cons (by omega)]; congr 1
    exact (List.getElem?_eq_some_iff.1 hy').2
   rw [hdr, hdr', It.beqs] at hfin
   have ei : IntKind.i64.wrap ((i : Int) + 1) = ((i + 1 : Nat) : Int) := by rw [IntWalk.i64_in _ (by omega)]; omega
   cases hb : It.beq (.mk k1 n1 b1 l1) (.mk k2 n2 b2 l2) with
   | false =>
    rw [hb] at hfin hc
    subst hfin
    repeat' (first | (apply AL_callPv (hc); exact rfl; kernel_rfl; (iterate 3 exact rfl)) | (apply AL_move; exact rfl; exact rfl) | (apply AL_assign; exact rfl; exact rfl) | (apply AL_bin; (iterate 5 exact rfl)) | (apply AL_loadn ttok; (iterate 7 exact rfl)) | (apply AL_store ttok; (iterate 8 exact rfl)) | (apply AL_not; exact rfl; exact rfl) | refine AL_nil ?_ | refine AW_region ?_ | refine AW_seq' ?_ | (apply AW_condA; exact rfl; (first | with_reducible assumption | decide +kernel)) | refine then_norm ?_ | refine AW_block ?_ | refine AW_ret ?_ | refine then_ret ?_ | refine blk_ret ?_ | (apply AL_eloadn ttok; (iterate 6 exact rfl)) | (apply AL_alloc ttok; (iterate 4 exact rfl)) | refine AW_skip ?_ | (apply AL_idx ttok; (iterate 6 exact rfl); (first | with_reducible assumption | decide +kernel | exact Int.natCast_nonneg _ | (guard_target = (0:Int) <= (OfNat.ofNat _ : Int); decide) | rotate_left); (first | with_reducible assumption | decide +kernel | exact rfl); (first | exact uniB_ok rfl | with_reducible assumption | decide +kernel | rotate_left)))
    all_goals (apply endQ []; (repeat (first | exact ResL.nil | (apply ResL.cons; first | exact .tmp _ _ rfl | (apply res_n ttok; (iterate 6 exact rfl)) | (apply res_1 ttok; (iterate 5 exact rfl))))); (iterate 4 exact rfl))
    all_goals rfl
   | true =>
    rw [hb] at hfin hc
    repeat' (first | rw [ei] | (apply AL_callPv (hc); exact rfl; kernel_rfl; (iterate 3 exact rfl)) | (apply AL_move; exact rfl; exact rfl) | (apply AL_assign; exact rfl; exact rfl) | (apply AL_bin; (iterate 5 exact rfl)) | (apply AL_loadn ttok; (iterate 7 exact rfl)) | (apply AL_store ttok; (iterate 8 exact rfl)) | (apply AL_not; exact rfl; exact rfl) | refine AL_nil ?_ | refine AW_region ?_ | refine AW_seq' ?_ | (apply AW_condA; exact rfl; (first | with_reducible assumption | decide +kernel)) | (apply AW_condB; exact rfl; (first | with_reducible assumption | decide +kernel)) | refine then_norm ?_ | refine AW_block ?_ | (apply AL_eloadn ttok; (iterate 6 exact rfl)) | (apply AL_alloc ttok; (iterate 4 exact rfl)) | refine AW_skip ?_ | (apply AL_idx ttok; (iterate 6 exact rfl); (first | with_reducible assumption | decide +kernel | exact Int.natCast_nonneg _ | (guard_target = (0:Int) <= (OfNat.ofNat _ : Int); decide) | rotate_left); (first | with_reducible assumption | decide +kernel | exact rfl); (first | exact uniB_ok rfl | with_reducible assumption | decide +kernel | rotate_left)))
    refine Lands.mk' (m := f - 1) (by omega) ⟨i + 1, by omega, hfin, rfl, rfl, rfl⟩ ?_ rfl rfl rfl rfl rfl rfl
    exact .cons rfl (.cons rfl (.cons rfl (.cons rfl (.cons rfl (.cons rfl (.cons rfl .nil))))))
  ·have hdl : decide ((i : Int) < ((itEs l).length : Int)) = false := decide_eq_false (by omega)
   rw [List.drop_eq_nil_of_le hge, List.drop_eq_nil_of_le (by omega)] at hfin
   have hfin : true = fin := hfin
   subst hfin
   repeat' (first | (apply AL_assign; exact rfl; exact rfl) | (apply AL_bin; (iterate 5 exact rfl)) | refine AL_nil ?_ | refine AW_region ?_ | refine AW_seq' ?_ | (apply AW_condB; exact rfl; (first | with_reducible assumption | decide +kernel)) | refine then_norm ?_ | refine AW_exit ?_ | refine AW_ret ?_)
   all_goals (apply endQ []; (repeat (first | exact ResL.nil | (apply ResL.cons; first | exact .tmp _ _ rfl | (apply res_n ttok; (iterate 6 exact rfl)) | (apply res_1 ttok; (iterate 5 exact rfl))))); (iterate 4 exact rfl))
   all_goals rfl
 ·have t1 : (((itEs l).length : Int) != ((itEs l').length : Int)) = true := by rw [e1, e2]; simp; omega
  rw [beqs_len hne]
  refine AP.ofA ?_
  refine AC_of Tryd.func60 rfl Tryd.ntmps60 rfl rfl ?_
  repeat' (first | (apply AL_move; exact rfl; exact rfl) | (apply AL_assign; exact rfl; exact rfl) | (apply AL_bin; (iterate 5 exact rfl)) | refine AL_nil ?_ | refine AW_region ?_ | refine AW_seq' ?_ | (apply AW_condA; exact rfl; (first | with_reducible assumption | decide +kernel)) | refine then_norm ?_ | refine AW_ret ?_ | refine then_ret ?_ | (apply AL_len ttok; (iterate 4 exact rfl)))
  all_goals (apply endQ []; (repeat (first | exact ResL.nil | (apply ResL.cons; first | exact .tmp _ _ rfl | (apply res_n ttok; (iterate 6 exact rfl)) | (apply res_1 ttok; (iterate 5 exact rfl))))); (iterate 4 exact rfl))
  all_goals rfl
theorem nn_eq (n m : Nat) : ((n : Int) == (m : Int)) = (n == m) := by
 rw [Bool.eq_iff_iff, beq_iff_eq, beq_iff_eq]; omega
theorem av_same [Known] : ∀ (x : It), wfI x -> ∀ y : It, wfI y -> AP Tryd.prog 27 [itD x, itD y] (.bool (It.beq x y)) [] := by
 refine It.ind fun k n b l ih hw y hw' => ?_
 obtain ⟨k', n', b', l'⟩ := y
 obtain ⟨_, _, hl, hws⟩ := hw
 obtain ⟨_, _, hl', hws'⟩ := hw'
 have hE := av_eqFunc l l' hl hl' fun y hy y' hy' => ih y hy (wfs_mem hws y hy) y' (wfs_mem hws' y' hy')
 have hB := av_bEq b b'
 have en := nn_eq n n'
 rw [It.beq]
 cases h1 : k == k' <;> cases h2 : n == n' <;> cases h3 : b == b'
 all_goals
  rw [h2] at en
  rw [h3] at hB
  refine AP.ofA ?_
  refine AC_of Tryd.func27 rfl Tryd.ntmps27 rfl rfl ?_
  repeat' (first | rw [en] | (apply AL_callPw (hB); kernel_rfl; (iterate 4 exact rfl)) | (apply AL_callPw (hE); kernel_rfl; (iterate 4 exact rfl)) | (apply AL_move; exact rfl; exact rfl) | (apply AL_assign; exact rfl; exact rfl) | (apply AL_bin; (iterate 5 exact rfl)) | (apply AL_load1 ttok; (iterate 6 exact rfl)) | (apply AL_fieldAddr ttok; (iterate 7 exact rfl)) | (apply AL_box; (iterate 5 exact rfl)) | refine AL_nil ?_ | (apply AL_guardT; (iterate 3 exact rfl); (first | with_reducible assumption | decide +kernel)) | (apply AL_guardFt; (iterate 3 exact rfl); (first | with_reducible assumption | decide +kernel)) | (apply AL_pickT; exact rfl; (first | with_reducible assumption | decide +kernel); exact rfl; exact rfl) | (apply AL_pickF; exact rfl; (first | with_reducible assumption | decide +kernel); exact rfl; exact rfl) | refine AW_region ?_ | refine AW_seq' ?_ | refine then_norm ?_ | refine AW_ret ?_)
  all_goals (apply endQ []; (repeat (first | exact ResL.nil | (apply ResL.cons; first | exact .tmp _ _ rfl | (apply res_n ttok; (iterate 6 exact rfl)) | (apply res_1 ttok; (iterate 5 exact rfl))))); (iterate 4 exact rfl))
  all_goals rfl
end Go.Proofs.YtihkbilhgbmbhaaDoor
end
section
open Go.RowKit Go.Pl Go.Av
namespace Go.Proofs.YtihkbilhgbmbhaaDoor
set_option maxHeartbeats 4000000
def w8N : List UInt8 -> Nat
 | c0 :: c1 :: c2 :: c3 :: c4 :: c5 :: c6 :: c7 :: _ => c0.toNat + 256 * c1.toNat + 65536 * c2.toNat + 16777216 * c3.toNat + 4294967296 * c4.toNat + 1099511627776 * c5.toNat + 281474976710656 * c6.toNat + 72057594037927936 * c7.toNat
 | _ => 0
theorem eight {l : List UInt8} (h : 8 <= l.length) : ∃ c0 c1 c2 c3 c4 c5 c6 c7 r, l = c0 :: c1 :: c2 :: c3 :: c4 :: c5 :: c6 :: c7 :: r := by
 match l, h with
 | c0 :: c1 :: c2 :: c3 :: c4 :: c5 :: c6 :: c7 :: r, _ => exact ⟨c0, c1, c2, c3, c4, c5, c6, c7, r, rfl⟩
abbrev hi8 : Nat := 9259542123273814144
theorem w8N_lt (l : List UInt8) : w8N l < 18446744073709551616 := by
 unfold w8N
 split
 ·rename_i c0 c1 c2 c3 c4 c5 c6 c7 r
  have := c0.toNat_lt; have := c1.toNat_lt; have := c2.toNat_lt; have := c3.toNat_lt
  have := c4.toNat_lt; have := c5.toNat_lt; have := c6.toNat_lt; have := c7.toNat_lt
  omega
 ·omega
theorem bit_and {w k : Nat} (h : w &&& hi8 = 0) (hk : hi8.testBit k = true) : w.testBit k = false := by
 have := congrArg (fun x => x.testBit k) h
 simp only [Nat.testBit_and, hk, Bool.and_true, Nat.zero_testBit] at this
 exact this
theorem w8N_asc {l : List UInt8} (hl : 8 <= l.length) (h : w8N l &&& hi8 = 0) : ∀ c ∈ l.take 8, c.toNat < 128 := by
 obtain ⟨c0, c1, c2, c3, c4, c5, c6, c7, r, rfl⟩ := eight hl
 have b0 := bit_and (k := 7) h (by decide)
 have b1 := bit_and (k := 15) h (by decide)
 have b2 := bit_and (k := 23) h (by decide)
 have b3 := bit_and (k := 31) h (by decide)
 have b4 := bit_and (k := 39) h (by decide)
 have b5 := bit_and (k := 47) h (by decide)
 have b6 := bit_and (k := 55) h (by decide)
 have b7 := bit_and (k := 63) h (by decide)
 have := c0.toNat_lt; have := c1.toNat_lt; have := c2.toNat_lt; have := c3.toNat_lt
 have := c4.toNat_lt; have := c5.toNat_lt; have := c6.toNat_lt; have := c7.toNat_lt
 simp only [Nat.testBit_eq_decide_div_mod_eq, decide_eq_false_iff_not, w8N] at b0 b1 b2 b3 b4 b5 b6 b7
 intro c hc
 simp only [List.take_succ_cons, List.take_zero, List.mem_cons, List.not_mem_nil, or_false] at hc
 rcases hc with rfl | rfl | rfl | rfl | rfl | rfl | rfl | rfl
 all_goals omega
theorem or_join (a x k : Nat) (ha : a < 2 ^ k) : a ||| x * 2 ^ k = a + x * 2 ^ k := by
 rw [Nat.or_comm, Nat.mul_comm, <- Nat.two_pow_add_eq_or_of_lt ha x]; omega
theorem sh_eq (c : UInt8) (k : Nat) (hk : k <= 56) : IntKind.u64.wrap (IntKind.u64.wrap (c.toNat : Int) * 2 ^ min (Int.toNat (k : Int)) IntKind.u64.bits) = ((c.toNat * 2 ^ k : Nat) : Int) := by
 have hc := c.toNat_lt
 rw [Int.toNat_natCast, show min k IntKind.u64.bits = k from Nat.min_eq_left (by show k <= 64; omega)]
 have e1 : IntKind.u64.wrap (c.toNat : Int) = (c.toNat : Int) := by rw [IntKind.wrap_u64]; omega
 have e2 : ((c.toNat : Int) * 2 ^ k) = ((c.toNat * 2 ^ k : Nat) : Int) := by simp
 rw [e1, e2, IntKind.wrap_u64]
 have : c.toNat * 2 ^ k < 18446744073709551616 := by
  have h1 : c.toNat * 2 ^ k < 256 * 2 ^ k := Nat.mul_lt_mul_of_pos_right hc (Nat.two_pow_pos k)
  have h2 : 256 * 2 ^ k <= 256 * 2 ^ 56 := Nat.mul_le_mul_left _ (Nat.pow_le_pow_right (by decide) hk)
  omega
 omega
theorem or_eq {a : Nat} (c : UInt8) (k : Nat) (ha : a < 2 ^ k) (hk : k <= 56) : bits .or .u64 (a : Int) (IntKind.u64.wrap (IntKind.u64.wrap (c.toNat : Int) * 2 ^ min (Int.toNat (k : Int)) IntKind.u64.bits)) = ((a + c.toNat * 2 ^ k : Nat) : Int) := by
 have hc := c.toNat_lt
 have h56 : 2 ^ k <= 2 ^ 56 := Nat.pow_le_pow_right (by decide) hk
 have h1 : c.toNat * 2 ^ k < 256 * 2 ^ k := Nat.mul_lt_mul_of_pos_right hc (Nat.two_pow_pos k)
 rw [sh_eq c k hk, u64_or_nat _ _ (by omega) (by omega), or_join _ _ _ ha]
theorem av_word [Known] (l : List UInt8) (hl : 8 <= l.length) : AP Tryd.prog 121 [byE l] (.int .u64 (w8N l : Int)) [] := by
 have hU := uniB1 l
 obtain ⟨c0, c1, c2, c3, c4, c5, c6, c7, r, rfl⟩ := eight hl
 refine AP.ofA ?_
 refine AC_of Tryd.func121 rfl Tryd.ntmps121 rfl rfl ?_
 repeat' (first | (apply AL_move; exact rfl; exact rfl) | (apply AL_assign; exact rfl; exact rfl) | (apply AL_bin; (iterate 5 exact rfl)) | (apply AL_convT ttok; (iterate 5 exact rfl)) | refine AL_nil ?_ | refine AW_region ?_ | refine AW_condCF ?_ | refine AW_seq' ?_ | refine then_norm ?_ | refine AW_ret ?_ | (apply AL_eload1 ttok; (iterate 6 exact rfl)) | (apply AW_drawM 45 hmix; (decide +kernel); (kernel_rfl); (kernel_rfl); exact rfl; exact rfl) | (apply AD_cons; (iterate 3 exact rfl)) | refine AD.nil _ | exact qp_ok rfl | refine AW_skip ?_ | (apply AL_idx ttok; (iterate 6 exact rfl); (first | with_reducible assumption | exact Int.natCast_nonneg _ | (guard_target = (0:Int) <= (OfNat.ofNat _ : Int); decide) | rotate_left); (first | with_reducible assumption | exact rfl); (first | exact uniB_ok rfl | with_reducible assumption | rotate_left)) | (apply AL_shl; exact rfl; exact rfl; (first | with_reducible assumption | exact Int.natCast_nonneg _ | (exact (by decide)) | rotate_left); exact rfl))
 all_goals (apply endQ []; (repeat (first | exact ResL.nil | (apply ResL.cons; first | exact .tmp _ _ rfl | (apply res_n ttok; (iterate 6 exact rfl)) | (apply res_1 ttok; (iterate 5 exact rfl))))); (iterate 4 exact rfl))
 all_goals first | rfl | skip
 have := c0.toNat_lt; have := c1.toNat_lt; have := c2.toNat_lt; have := c3.toNat_lt
 have := c4.toNat_lt; have := c5.toNat_lt; have := c6.toNat_lt; have := c7.toNat_lt
 congr 1
 have e0 : IntKind.u64.wrap (c0.toNat : Int) = ((c0.toNat : Nat) : Int) := by rw [IntKind.wrap_u64]; omega
 have q1 := or_eq (a := c0.toNat) c1 8 (by omega) (by omega)
 have q2 := or_eq (a := c0.toNat + c1.toNat * 2 ^ 8) c2 16 (by omega) (by omega)
 have q3 := or_eq (a := c0.toNat + c1.toNat * 2 ^ 8 + c2.toNat * 2 ^ 16) c3 24 (by omega) (by omega)
 have q4 := or_eq (a := c0.toNat + c1.toNat * 2 ^ 8 + c2.toNat * 2 ^ 16 + c3.toNat * 2 ^ 24) c4 32 (by omega) (by omega)
 have q5 := or_eq (a := c0.toNat + c1.toNat * 2 ^ 8 + c2.toNat * 2 ^ 16 + c3.toNat * 2 ^ 24 + c4.toNat * 2 ^ 32) c5 40 (by omega) (by omega)
 have q6 := or_eq (a := c0.toNat + c1.toNat * 2 ^ 8 + c2.toNat * 2 ^ 16 + c3.toNat * 2 ^ 24 + c4.toNat * 2 ^ 32 + c5.toNat * 2 ^ 40) c6 48 (by omega) (by omega)
 have q7 := or_eq (a := c0.toNat + c1.toNat * 2 ^ 8 + c2.toNat * 2 ^ 16 + c3.toNat * 2 ^ 24 + c4.toNat * 2 ^ 32 + c5.toNat * 2 ^ 40 + c6.toNat * 2 ^ 48) c7 56 (by omega) (by omega)
 rw [e0] at *
 have fin : (w8N (c0 :: c1 :: c2 :: c3 :: c4 :: c5 :: c6 :: c7 :: r) : Int) = ((c0.toNat + c1.toNat * 2 ^ 8 + c2.toNat * 2 ^ 16 + c3.toNat * 2 ^ 24 + c4.toNat * 2 ^ 32 + c5.toNat * 2 ^ 40 + c6.toNat * 2 ^ 48 + c7.toNat * 2 ^ 56 : Nat) : Int) := by
  simp only [w8N]; omega
 rw [fin, <- q7, <- q6, <- q5, <- q4, <- q3, <- q2, <- q1]
 rfl
theorem and_or0 {a b : Nat} (h : (a ||| b) &&& hi8 = 0) : a &&& hi8 = 0 /\ b &&& hi8 = 0 := by
 rw [Nat.and_or_distrib_right] at h
 exact Nat.or_eq_zero_iff.1 h
theorem validU_asc : ∀ (k : Nat) (l : List UInt8), k <= l.length -> (∀ c ∈ l.take k, c.toNat < 128) -> validU l = validU (l.drop k)
 | 0, l, _, _ => rfl
 | k + 1, [], h, _ => by simp at h
 | k + 1, c :: r, h, ha => by
  have hc : c.toNat < 128 := ha c (by simp)
  rw [validU_cons]
  have : pt (c :: r) = 1 := by simp [pt, ptN, hc]
  rw [this]
  simp only [List.drop_zero, List.drop_succ_cons]
  exact validU_asc k r (by simpa using h) fun c' h' => ha c' (by simp [h'])
def fT (c : Nat) : Nat := if c < 128 then 240 else if c < 194 then 241 else if c < 224 then 2 else if c < 225 then 19 else if c < 237 then 3 else if c < 238 then 35 else if c < 240 then 3 else if c < 241 then 52 else if c < 244 then 4 else if c < 245 then 68 else 241
theorem tab_first : (0, (List.range 256).map fun c => Value.int .u8 (fT c : Int)) ∈ tabs := by
 have e : (List.range 256).map (fun c => Value.int .u8 (fT c : Int)) = dcs Rows.laid_unicode_utf8_first := by kernel_rfl
 rw [e]
 unfold tabs
 simp
def aT (i : Nat) : List Value := if i = 0 then [.int .u8 128, .int .u8 191] else if i = 1 then [.int .u8 160, .int .u8 191] else if i = 2 then [.int .u8 128, .int .u8 159] else if i = 3 then [.int .u8 144, .int .u8 191] else if i = 4 then [.int .u8 128, .int .u8 143] else [.int .u8 0, .int .u8 0]
theorem tab_accept : (1, (List.range 16).flatMap aT) ∈ tabs := by
 have e : (List.range 16).flatMap aT = dcs Rows.laid_unicode_utf8_acceptRanges := by kernel_rfl
 rw [e]
 unfold tabs
 simp
theorem first_at (c : UInt8) : ((List.range 256).map fun c => Value.int .u8 (fT c : Int))[0 + ((c.toNat : Nat) : Int).toNat * 1]? = some (.int .u8 (fT c.toNat : Int)) := by
 have := c.toNat_lt
 rw [Int.toNat_natCast, Nat.zero_add, Nat.mul_one, List.getElem?_map, List.getElem?_range (by omega)]
 rfl
end Go.Proofs.YtihkbilhgbmbhaaDoor
end
