/- CanonBack: plain laws. -/
import Derived.Test.YtihkbilhgbmbhaaDoorG34
import Derived.Test.YtihkbilhgbmbhaaDoorG01
import Derived.Test.YtihkbilhgbmbhaaDoorG07
import Derived.Test.YtihkbilhgbmbhaaDoorProg
import Derived.Test.YtihkbilhgbmbhaaDoorG18
set_option linter.unusedVariables false
set_option linter.unusedSimpArgs false
section
open Go.RowKit Go.Pl Go.Av
namespace Go.Proofs.YtihkbilhgbmbhaaDoor
theorem beq_self (x : It) : It.beq x x = true := It.beq_iff.2 rfl
theorem typeV_app {l r : List It} {a : Int} (h : typeV l a ≥ 0) : typeV (l ++ r) a = typeV l a := by
 rcases typeV_cases l a with e | ⟨_, h0, h1⟩
 ·omega
 ·unfold typeV
  rw [List.getElem?_append_left (by omega)]
theorem seal_open {l : List It} {a : Int} {x : It} (h : sealV l a = (x, 0)) : openV x a = (l, 0) := by
 unfold sealV at h
 cases d0 : (decide (a < 0) || decide (a ≥ (l.length : Int))) with
 | true => rw [d0] at h; simp at h
 | false =>
 rw [d0] at h
 cases d1 : (l.all rightI && decide (typeV l a ≥ 0)) with
 | false => rw [d1] at h; simp at h
 | true =>
 rw [d1] at h
 rw [Bool.and_eq_true, decide_eq_true_eq] at d1
 obtain ⟨_, d1⟩ := d1
 rw [Bool.or_eq_false_iff, decide_eq_false_iff_not, decide_eq_false_iff_not] at d0
 dsimp only at h
 cases d2 : decide (typeV l a > 0) with
 | false =>
  rw [d2] at h
  dsimp only at h
  cases hr : rightI (.mk 4 0 [] l) with
  | false => rw [hr] at h; simp at h
  | true =>
   rw [hr] at h
   simp only [Prod.mk.injEq, and_true] at h
   subst h
   have e : typeV l a = 0 := by have := of_decide_eq_false d2; omega
   unfold openV
   dsimp only
   rw [hr, e]
   rfl
 | true =>
  rw [d2] at h
  dsimp only at h
  have hs : (typeV l a).toNat = 1 \/ (typeV l a).toNat = 2 := by
   rcases typeV_cases l a with e | ⟨e, _⟩
   ·omega
   ·have := of_decide_eq_true d2; omega
  cases hz : rightI (zeroL (typeV l a).toNat l) with
  | false => rw [hz] at h; simp at h
  | true =>
   rw [hz] at h
   dsimp only at h
   cases hr : rightI (outL (typeV l a).toNat l) with
   | false => rw [hr] at h; simp at h
   | true =>
    rw [hr] at h
    simp only [Prod.mk.injEq, and_true] at h
    subst h
    have hlen := sumB_len (typeV l a).toNat (putI (zeroL (typeV l a).toNat l)) hs
    unfold outL at hr ⊢
    unfold openV
    dsimp only
    rw [hr, typeV_app d1]
    have e1 : decide (typeV l a < 0) = false := decide_eq_false (by omega)
    have e2 : (typeV l a == 0) = false := by rw [beq_eq_false_iff_ne]; have := of_decide_eq_true d2; omega
    rw [e1, e2]
    have e3 : (l ++ [It.mk 2 0 (sumB (typeV l a).toNat (putI (zeroL (typeV l a).toNat l))) []]).length - 1 = l.length := by simp
    rw [e3]
    have e4 : (l ++ [It.mk 2 0 (sumB (typeV l a).toNat (putI (zeroL (typeV l a).toNat l))) []])[l.length]? = some (It.mk 2 0 (sumB (typeV l a).toNat (putI (zeroL (typeV l a).toNat l))) []) := by simp
    have e5 : (l ++ [It.mk 2 0 (sumB (typeV l a).toNat (putI (zeroL (typeV l a).toNat l))) []]).take l.length = l := by simp
    rw [e4, e5]
    dsimp only
    have e6 : decide (((l.length : Nat) : Int) <= a) = false := decide_eq_false (by omega)
    rw [e6, beq_self, hlen, hz]
    simp
theorem bk_write_read {b : BlkV} (hs : b.sum = IntKind.i64.wrap ((b.sum.toNat : Nat) : Int)) {x : It} (h : writeB b = (x, 0)) : readB x = (b, 0) := by
 have hr : bkRight b = true := by
  unfold writeB at h
  cases hr : bkRight b with
  | true => rfl
  | false => rw [hr] at h; simp at h
 have h2 := h
 unfold writeB at h2
 rw [hr] at h2
 have ho := seal_open h2
 unfold readB
 rw [ho]
 unfold readX listB
 dsimp only
 have e : (⟨b.ty, b.num, b.fl, IntKind.i64.wrap ((b.sum.toNat : Nat) : Int), b.data⟩ : BlkV) = b := by rw [<- hs]
 rw [e, h]
 simp [beq_self]
theorem bk_read_write {x : It} {b : BlkV} (h : readB x = (b, 0)) : writeB b = (x, 0) := by
 unfold readB readX at h
 cases d0 : ((openV x 3).2 != 0) with
 | true =>
  rw [d0] at h
  simp only [Prod.mk.injEq] at h
  rw [h.2] at d0
  cases d0
 | false =>
 rw [d0] at h
 dsimp only at h
 split at h
 ·split at h
  ·simp at h
  ·split at h
   ·simp at h
   ·rename_i d2
    split at h
    ·simp at h
    ·rename_i d3
     simp only [Prod.mk.injEq, and_true] at h
     subst h
     have e1 := It.beq_iff.1 d3
     have e2 := d2
     simp only [bne, Bool.not_eq_false', beq_iff_eq] at e2
     exact Prod.ext e1 e2
 ·simp at h
theorem bkSame_self (b : BlkV) : bkSame b b = true := by
 obtain ⟨ty, num, fl, sum, data⟩ := b
 simp [bkSame]
theorem of_data {kind number : Nat} {sum : Int} {x : It} {e : Int} {p : BlkV} (h : ofV kind number sum x e = (p, 0)) : e = 0 /\ rightI x = true /\ bkRight p = true /\ p = ⟨kind, number, 0, sum, putI x⟩ := by
 unfold ofV at h
 cases d0 : (e != 0) with
 | true => rw [d0] at h; simp at h
 | false =>
 rw [d0] at h
 dsimp only at h
 cases d1 : rightI x with
 | false => rw [d1] at h; simp at h
 | true =>
 rw [d1] at h
 dsimp only at h
 cases d2 : bkRight ⟨kind, number, 0, sum, putI x⟩ with
 | false => rw [d2] at h; simp at h
 | true =>
  rw [d2] at h
  simp only [Prod.mk.injEq, and_true] at h
  subst h
  exact ⟨by simpa [bne] using d0, rfl, d2, rfl⟩
theorem of_err {kind number : Nat} {sum : Int} {x : It} {e : Int} : (ofV kind number sum x e).2 = 0 \/ ofV kind number sum x e = (bk0, 3) := by
 unfold ofV
 repeat' split
 all_goals first | exact .inl rfl | exact .inr rfl
theorem num_wf {n : Nat} (h : n < 18446744073709551616) : wfI (.mk 0 n [] []) := ⟨h, by simp, by simp, trivial⟩
theorem num_right (n : Nat) : rightI (.mk 0 n [] []) = true := by simp [rightI, walkI, ownI, walks]
theorem hop_right (n m : Nat) : rightI (hopI n m) = true := by simp [rightI, walkI, ownI, walks]
theorem hop_wf {n m : Nat} (hn : n < 18446744073709551616) (hm : m < 18446744073709551616) : wfI (hopI n m) := ⟨by decide, by simp, by simp, num_wf hn, num_wf hm, trivial⟩
theorem put_small (k : Int) (n : Nat) (b : List UInt8) (l : List It) : (putI (.mk k n b l)).length <= 9 + (b.length + (puts l).length) := by
 rw [putI, List.length_append, List.length_append]
 split
 ·rename_i h
  have h1 := writeL_le h rfl
  have h2 : followN (It.mk k n b l).hn <= 8 := by
   unfold followN
   repeat' split
   all_goals omega
  dsimp only at h1
  omega
 ·simp
theorem num_len (n : Nat) : (putI (.mk 0 n [] [])).length <= 9 := by
 have := put_small 0 n [] []
 simpa [puts] using this
theorem hop_len (n m : Nat) : (putI (hopI n m)).length <= 27 := by
 have h0 := put_small 4 0 [] [.mk 0 n [] [], .mk 0 m [] []]
 have h1 := num_len n
 have h2 := num_len m
 simp only [puts, List.length_append, List.length_nil, Nat.add_zero, Nat.zero_add] at h0
 have e : hopI n m = .mk 4 0 [] [.mk 0 n [] [], .mk 0 m [] []] := rfl
 rw [e]
 omega
theorem age_ok {n : Nat} (hn : n < 18446744073709551616) : ((ofV 7 2 1 (.mk 0 n [] []) 0).2 == 0) = decide ((n : Int) <= 1099511627776) := by
 have hrd := read_put00 (num_wf hn) (num_right n)
 have hsh := short_put (num_wf hn) (num_right n)
 have hl := num_len n
 unfold ofV
 rw [num_right]
 have hB : bkRight ⟨7, 2, 0, 1, putI (.mk 0 n [] [])⟩ = decide ((n : Int) <= 1099511627776) := by
  unfold bkRight dataV dataK ageV
  dsimp only
  rw [hrd, hsh]
  dsimp only [It.n]
  rw [beq_self]
  have e1 : decide (((putI (.mk 0 n [] [])).length : Int) <= 200) = true := decide_eq_true (by omega)
  rw [e1]
  have e2 : (bits .andNot .u64 ((0 : Nat) : Int) 23 == 0) = true := by decide +kernel
  rw [e2]
  have e3 : (badN 7 || badN 2) = false := by decide
  rw [e3]
  simp [It.n]
  try exact decide_eq_decide.2 Iff.rfl
 rw [hB]
 cases decide ((n : Int) <= 1099511627776) <;> rfl
theorem age_of {n : Nat} (hn : n < 18446744073709551616) {p : BlkV} (h : ofV 7 2 1 (.mk 0 n [] []) 0 = (p, 0)) : askV p 7 = 0 /\ (ageV p.data).1 = n := by
 obtain ⟨_, _, hr, rfl⟩ := of_data h
 refine ⟨by unfold askV; rw [hr]; rfl, ?_⟩
 unfold ageV
 dsimp only
 rw [read_put00 (num_wf hn) (num_right n)]
 rfl
theorem hop_ok {n m : Nat} (hn : n < 18446744073709551616) (hm : m < 18446744073709551616) : ((ofV 10 2 2 (hopI n m) 0).2 == 0) = (decide ((n : Int) ≥ 1) && (decide ((n : Int) <= 255) && decide ((m : Int) <= (n : Int)))) := by
 have hrd := read_put00 (hop_wf hn hm) (hop_right n m)
 have hsh := short_put (hop_wf hn hm) (hop_right n m)
 have hl := hop_len n m
 unfold ofV
 rw [hop_right]
 have hB : bkRight ⟨10, 2, 0, 2, putI (hopI n m)⟩ = (decide ((n : Int) ≥ 1) && (decide ((n : Int) <= 255) && decide ((m : Int) <= (n : Int)))) := by
  unfold bkRight dataV dataK hopsV
  dsimp only
  rw [hrd, hsh]
  have e1 : decide (((putI (hopI n m)).length : Int) <= 200) = true := decide_eq_true (by omega)
  rw [e1]
  have e2 : (bits .andNot .u64 ((0 : Nat) : Int) 23 == 0) = true := by decide +kernel
  rw [e2]
  have e3 : (badN 10 || badN 2) = false := by decide
  rw [e3]
  simp [hopsX, beq_self]
 rw [hB]
 cases (decide ((n : Int) ≥ 1) && (decide ((n : Int) <= 255) && decide ((m : Int) <= (n : Int)))) <;> rfl
theorem hop_of {n m : Nat} (hn : n < 18446744073709551616) (hm : m < 18446744073709551616) {p : BlkV} (h : ofV 10 2 2 (hopI n m) 0 = (p, 0)) : askV p 10 = 0 /\ (hopsV p.data).1 = n /\ (hopsV p.data).2.1 = m := by
 obtain ⟨_, _, hr, rfl⟩ := of_data h
 refine ⟨by unfold askV; rw [hr]; rfl, ?_⟩
 unfold hopsV
 dsimp only
 rw [read_put00 (hop_wf hn hm) (hop_right n m), short_put (hop_wf hn hm) (hop_right n m)]
 exact ⟨rfl, rfl⟩
theorem prev_of {x : EidV} {p : BlkV} (h : ofV 6 2 0 (if eRight x then itemE x else .mk 0 0 [] []) (if eRight x then 0 else 3) = (p, 0)) : askV p 6 = 0 /\ (prevV p.data).1 = x := by
 obtain ⟨he, hr1, hr, rfl⟩ := of_data h
 have hx : eRight x = true := by
  cases hx : eRight x with
  | true => rfl
  | false => rw [hx] at he; simp at he
 refine ⟨by unfold askV; rw [hr]; rfl, ?_⟩
 rw [hx] at hr1 ⊢
 simp only [if_true] at hr1 ⊢
 unfold prevV
 dsimp only
 rw [read_put00 (wf_itemE hx) hr1]
 dsimp only
 rw [readV_itemE hx hr1]
theorem seal_cases {l : List It} {a : Int} {x : It} (h : sealV l a = (x, 0)) : x = .mk 4 0 [] l \/ ∃ s, (s = 1 \/ s = 2) /\ x = outL s l := by
 unfold sealV at h
 cases d0 : (decide (a < 0) || decide (a ≥ (l.length : Int))) with
 | true => rw [d0] at h; simp at h
 | false =>
 rw [d0] at h
 cases d1 : (l.all rightI && decide (typeV l a ≥ 0)) with
 | false => rw [d1] at h; simp at h
 | true =>
 rw [d1] at h
 dsimp only at h
 cases d2 : decide (typeV l a > 0) with
 | false =>
  rw [d2] at h
  dsimp only at h
  cases hr : rightI (.mk 4 0 [] l) with
  | false => rw [hr] at h; simp at h
  | true =>
   rw [hr] at h
   simp only [Prod.mk.injEq, and_true] at h
   exact .inl h.symm
 | true =>
  rw [d2] at h
  dsimp only at h
  have hs : (typeV l a).toNat = 1 \/ (typeV l a).toNat = 2 := by
   rcases typeV_cases l a with e | ⟨e, _⟩
   ·have := of_decide_eq_true d2; omega
   ·have := of_decide_eq_true d2; omega
  cases hz : rightI (zeroL (typeV l a).toNat l) with
  | false => rw [hz] at h; simp at h
  | true =>
   rw [hz] at h
   dsimp only at h
   cases hr : rightI (outL (typeV l a).toNat l) with
   | false => rw [hr] at h; simp at h
   | true =>
    rw [hr] at h
    simp only [Prod.mk.injEq, and_true] at h
    exact .inr ⟨_, hs, h.symm⟩
theorem right_of_write {b : BlkV} {x : It} (h : writeB b = (x, 0)) : bkRight b = true /\ sealV (listB b) 3 = (x, 0) := by
 unfold writeB at h
 cases hr : bkRight b with
 | true => rw [hr] at h; exact ⟨rfl, h⟩
 | false => rw [hr] at h; simp at h
theorem write_great {b : BlkV} {x : It} (h : writeB b = (x, 0)) (hfl : b.fl < 18446744073709551616) (hd : b.data.length <= 3000) : 0 <= greatI x 1 300 /\ nI x := by
 obtain ⟨hr, hs⟩ := right_of_write h
 obtain ⟨h1, h2, h3, h4, _⟩ := bk_facts hr
 have h9 : ¬ 3000 < b.data.length := by omega
 rcases seal_cases hs with rfl | ⟨s, hs1, rfl⟩
 ·refine ⟨?_, ?_⟩
  ·simp [listB, greatI, greats, h9]
  ·simp [listB, nI, nIs]; omega
 ·have hl := sumB_len s (putI (zeroL s (listB b))) hs1
  have h8 : ¬ 3000 < (sumB s (putI (zeroL s (listB b)))).length := by omega
  unfold outL
  generalize sumB s (putI (zeroL s (listB b))) = SB at *
  refine ⟨?_, ?_⟩
  ·simp [listB, greatI, greats, h9, h8]
  ·simp [listB, nI, nIs]; omega
end Go.Proofs.YtihkbilhgbmbhaaDoor
end
section
open Go.RowKit Go.Pl Go.Av
namespace Go.Proofs.YtihkbilhgbmbhaaDoor
set_option maxHeartbeats 4000000
theorem av_ofPrev [Known] [KnownU8] (number : Nat) (sum : Int) (x : EidV) : AP Tryd.prog 34 [.int .u64 (number : Int), .int .i64 sum, .agg (eC x)] (blkD (ofV 6 number sum (if eRight x then itemE x else .mk 0 0 [] []) (if eRight x then 0 else 3))) [] := by
 have hW := av_eWrite x
 have hwf : wfI (if eRight x then itemE x else .mk 0 0 [] []) := by
  cases h : eRight x with
  | true => exact wf_itemE h
  | false => exact wf_z0
 have hlen : (putI (if eRight x then itemE x else .mk 0 0 [] [])).length <= 100000 := by
  cases h : eRight x with
  | false =>
   show (putI (.mk 0 0 [] [])).length <= 100000
   decide +kernel
  | true =>
   show (putI (itemE x)).length <= 100000
   unfold itemE
   repeat' split
   ·exact Nat.le_trans (hop_len 1 0) (by decide)
   ·have h0 := put_small 4 0 [] [.mk 0 2 [] [], hopI x.n x.s]
    have h1 := num_len 2
    have h2 := hop_len x.n x.s
    simp only [puts, List.length_append, List.length_nil, Nat.add_zero, Nat.zero_add] at h0
    exact Nat.le_trans h0 (by omega)
   ·have h0 := put_small 4 0 [] [.mk 0 1 [] [], .mk 3 0 (pathE x) []]
    have h1 := num_len 1
    have h2 := put_small 3 0 (pathE x) []
    rename_i hz hi
    have h3 : (pathE x).length <= 100 := by
     have ht := eRight_txt h (by simpa using hz) (by simpa using hi)
     simp only [pathE, List.length_append, List.length_cons, List.length_nil]
     omega
    simp only [puts, List.length_append, List.length_nil, Nat.add_zero, Nat.zero_add] at h0 h2
    exact Nat.le_trans h0 (by omega)
 have hO := av_of 6 number sum (if eRight x then itemE x else .mk 0 0 [] []) (if eRight x then 0 else 3) hwf hlen
 generalize (if eRight x then itemE x else .mk 0 0 [] []) = I at *
 generalize (if eRight x then (0 : Int) else 3) = E0 at *
 clear hwf hlen
 generalize ofV 6 number sum I E0 = r at *
 obtain ⟨xi, xn, xs, xh, xd⟩ := x
 obtain ⟨k, n, b, l⟩ := I
 obtain ⟨⟨a, b2, c, d, f⟩, e⟩ := r
 refine AP.ofA ?_
 refine AC_of Tryd.func34 rfl Tryd.ntmps34 rfl rfl ?_
 repeat' (first | (apply AL_callPw (hW); kernel_rfl; (iterate 4 exact rfl)) | (apply AL_callPw (hO); kernel_rfl; (iterate 4 exact rfl)) | (apply AL_move; exact rfl; exact rfl) | (apply AL_assign; exact rfl; exact rfl) | (apply AL_loadn ttok; (iterate 7 exact rfl)) | (apply AL_boxZ; (iterate 5 exact rfl)) | (apply AL_store ttok; (iterate 8 exact rfl)) | (apply AL_extract; (iterate 3 exact rfl)) | refine AL_nil ?_ | refine AW_region ?_ | refine AW_seq' ?_ | refine then_norm ?_ | refine AW_ret ?_ | (apply AL_allocZ ttok; (iterate 4 exact rfl)))
 all_goals (apply endQ []; (repeat (first | exact ResL.nil | (apply ResL.cons; first | exact .tmp _ _ rfl | (apply res_n ttok; (iterate 6 exact rfl)) | (apply res_1 ttok; (iterate 5 exact rfl))))); (iterate 4 exact rfl))
 all_goals rfl
theorem av_prevOf [Known] [KnownU8] (b : BlkV) (hd : b.data.length <= 100000) : AP Tryd.prog 35 [.agg (bkC b)] (.tup [.agg (eC (match askV b 6 != 0 with | true => eidZ | false => (prevV b.data).1)), .int .i64 (askV b 6)]) [] := by
 have hA := av_ask b 6 hd
 have hG := av_previous b.data hd
 generalize askV b 6 = q at *
 generalize (prevV b.data).1 = a at *
 generalize (prevV b.data).2 = o at *
 obtain ⟨ty, num, fl, sum, data⟩ := b
 obtain ⟨zi, zn, zs, zh, zd⟩ := a
 cases t1 : (q != 0) with
 | true =>
  refine AP.ofA ?_
  refine AC_of Tryd.func35 rfl Tryd.ntmps35 rfl rfl ?_
  repeat' (first | (apply AL_callPw (hA); kernel_rfl; (iterate 4 exact rfl)) | (apply AL_move; exact rfl; exact rfl) | (apply AL_assign; exact rfl; exact rfl) | (apply AL_bin; (iterate 5 exact rfl)) | (apply AL_loadn ttok; (iterate 7 exact rfl)) | (apply AL_boxZ; (iterate 5 exact rfl)) | (apply AL_store ttok; (iterate 8 exact rfl)) | refine AL_nil ?_ | refine AW_region ?_ | refine AW_seq' ?_ | (apply AW_condA; exact rfl; (first | with_reducible assumption | decide +kernel)) | refine then_norm ?_ | refine AW_ret ?_ | refine then_ret ?_ | (apply AL_build ttok; (iterate 6 exact rfl)) | (apply AL_allocZ ttok; (iterate 4 exact rfl)))
  all_goals (apply endQ []; (repeat (first | exact ResL.nil | (apply ResL.cons; first | exact .tmp _ _ rfl | (apply res_n ttok; (iterate 6 exact rfl)) | (apply res_1 ttok; (iterate 5 exact rfl))))); (iterate 4 exact rfl))
  all_goals rfl
 | false =>
  have eq0 : q = 0 := by simpa [bne] using t1
  subst eq0
  refine AP.ofA ?_
  refine AC_of Tryd.func35 rfl Tryd.ntmps35 rfl rfl ?_
  repeat' (first | (apply AL_callPw (hA); kernel_rfl; (iterate 4 exact rfl)) | (apply AL_callPw (hG); kernel_rfl; (iterate 4 exact rfl)) | (apply AL_move; exact rfl; exact rfl) | (apply AL_assign; exact rfl; exact rfl) | (apply AL_bin; (iterate 5 exact rfl)) | (apply AL_load1 ttok; (iterate 6 exact rfl)) | (apply AL_loadn ttok; (iterate 7 exact rfl)) | (apply AL_fieldAddr ttok; (iterate 7 exact rfl)) | (apply AL_boxZ; (iterate 5 exact rfl)) | (apply AL_store ttok; (iterate 8 exact rfl)) | (apply AL_extract; (iterate 3 exact rfl)) | refine AL_nil ?_ | refine AW_region ?_ | refine AW_seq' ?_ | (apply AW_condB; exact rfl; (first | with_reducible assumption | decide +kernel)) | refine then_norm ?_ | refine AW_ret ?_ | (apply AL_allocZ ttok; (iterate 4 exact rfl)) | refine AW_skip ?_)
  all_goals (apply endQ []; (repeat (first | exact ResL.nil | (apply ResL.cons; first | exact .tmp _ _ rfl | (apply res_n ttok; (iterate 6 exact rfl)) | (apply res_1 ttok; (iterate 5 exact rfl))))); (iterate 4 exact rfl))
  all_goals rfl
theorem greats_b : ∀ (l : List It) (d : Nat) (m : Int), 0 <= greats l d m -> ∀ y ∈ l, y.b.length <= 3000
 | [], _, _, _, y, hy => by simp at hy
 | x :: l, d, m, h, y, hy => by
  rw [greats] at h
  split at h
  ·omega
  ·rename_i hm
   have h1 : 0 <= greatI x d m := by
    rcases Int.lt_or_le (greatI x d m) 0 with h2 | h2
    ·exfalso
     cases l with
     | nil => rw [greats] at h; omega
     | cons y l => rw [greats, if_pos h2] at h; omega
    ·exact h2
   rcases List.mem_cons.1 hy with rfl | hy
   ·obtain ⟨k, n, b, r⟩ := y
    rw [greatI] at h1
    split at h1
    ·omega
    ·split at h1
     ·omega
     ·simp only [It.b]; omega
   ·exact greats_b l d _ h y hy
theorem great_parts {x : It} (h : 0 <= greatI x 1 300) (hn : nI x) : wfI x /\ x.l.length <= 1000000 /\ (∀ y ∈ x.l, y.b.length <= 3000) /\ ∀ s m, s = 1 \/ s = 2 -> (putI (zeroL s (x.l.take m))).length <= 1000000000 := by
 have hw := (small_wf x 1 300 (by omega) h hn).1
 obtain ⟨k, n, b, l⟩ := x
 rw [greatI] at h
 split at h
 ·omega
 split at h
 ·omega
 have h2 : 0 <= greats l 2 299 := h
 have hs := smalls_wf l 2 299 (by omega) h2 hn.2
 have hlt : greats l 2 299 <= 299 := (greats_le l 2 299 (by omega)).1
 refine ⟨hw, ?_, greats_b l 2 299 h2, fun s m hsm => ?_⟩
 ·have := hs.2.2.1
  simp only [It.l]
  omega
 ·have h0 := put_small 4 0 [] (l.take m ++ [.mk 2 0 (List.replicate (2 * s) 0) []])
  have h3 := put_small 2 0 (List.replicate (2 * s) 0) []
  have h4 := puts_take_le l m
  have h5 : ∀ (a c : List It), puts (a ++ c) = puts a ++ puts c := fun a c => by
   induction a with
   | nil => rfl
   | cons y a ih => rw [List.cons_append, puts, puts, ih, List.append_assoc]
  rw [h5] at h0
  simp only [puts, List.length_append, List.length_nil, List.length_replicate, Nat.add_zero, Nat.zero_add] at h0 h3
  have h6 := hs.2.1
  show (putI (.mk 4 0 [] (l.take m ++ [.mk 2 0 (List.replicate (2 * s) 0) []]))).length <= 1000000000
  omega
end Go.Proofs.YtihkbilhgbmbhaaDoor
end
section
open Go.RowKit Go.Pl Go.Av
namespace Go.Proofs.YtihkbilhgbmbhaaDoor
set_option maxHeartbeats 4000000
def a0 : BlkV := ⟨7, 3, 0, 2, [25, 1, 244]⟩
def x1 : It := .mk 4 0 [] [.mk 0 7 [] [], .mk 0 3 [] [], .mk 0 0 [] [], .mk 0 2 [] [], .mk 2 0 [25, 1, 244] [], .mk 2 0 [94, 237, 141, 204] []]
def c0 : BlkV := ⟨10, 4, 0, 0, [130, 9, 2]⟩
theorem f1 : ofV 7 3 2 (.mk 0 500 [] []) 0 = (a0, 0) := by kernel_rfl
theorem f2 : writeB a0 = (x1, 0) := by kernel_rfl
theorem f3 : readB x1 = (a0, 0) := by kernel_rfl
theorem f4 : askV a0 7 = 0 := by kernel_rfl
theorem f4' : (ageV [25, 1, 244]).1 = 500 := by kernel_rfl
theorem f5 : askV a0 10 = 4 := by kernel_rfl
theorem f6 : ofV 10 4 0 (hopI 9 2) 0 = (c0, 0) := by kernel_rfl
theorem f7 : askV c0 10 = 0 := by kernel_rfl
theorem f7' : hopsV [130, 9, 2] = (9, 2, true) := by kernel_rfl
theorem f8 : ofV 10 4 0 (hopI 9 10) 0 = (bk0, 3) := by kernel_rfl
theorem f9 : bkSame a0 a0 = true := by kernel_rfl
theorem wf_x1 : wfI x1 := by simp [x1, wfI, wfs]
theorem lim_x1 (s m : Nat) (hs : s = 1 \/ s = 2) : (putI (zeroL s (x1.l.take m))).length <= 1000000000 := by
 have hw : ∀ y ∈ x1.l.take m, y ∈ x1.l := fun y h => List.mem_of_mem_take h
 have h6 : m = 0 \/ m = 1 \/ m = 2 \/ m = 3 \/ m = 4 \/ m = 5 \/ x1.l.take m = x1.l := by
  rcases Nat.lt_or_ge m 6 with h | h
  ·omega
  ·exact .inr (.inr (.inr (.inr (.inr (.inr (List.take_of_length_le h))))))
 rcases h6 with h | h | h | h | h | h | h
 all_goals
  first | rw [h] | skip
  rcases hs with rfl | rfl
  all_goals decide +kernel
abbrev a0C : D := .agg [.int .u64 7, .int .u64 3, .int .u64 0, .int .i64 2, byE [25, 1, 244]]
abbrev c0C : D := .agg [.int .u64 10, .int .u64 4, .int .u64 0, .int .i64 0, byE [130, 9, 2]]
abbrev z5C : D := .agg [.int .u64 0, .int .u64 0, .int .u64 0, .int .i64 0, .sl .ext []]
abbrev x1C : D := .agg [.int .i64 4, .int .u64 0, .sl .ext [], .sl .ext (itEs x1.l)]
theorem fx1 [Known] [KnownU8] : AP Tryd.prog 36 [.int .u64 3, .int .i64 2, .int .u64 500] (.tup [a0C, .int .i64 0]) [] := by
 have h := av_ofAge 3 2 500 (by decide)
 rw [f1] at h
 exact h
theorem fx2 [Known] [KnownU8] : AP Tryd.prog 31 [a0C] (.tup [x1C, .int .i64 0]) [] := by
 have h := av_bWrite a0 (by decide) (by decide)
 rw [f2] at h
 exact h
theorem fx3 [Known] [KnownU8] : AP Tryd.prog 32 [x1C] (.tup [a0C, .int .i64 0]) [] := by
 have h := av_bRead x1 wf_x1 (by decide) (fun s m hs => lim_x1 s m hs) (by decide)
 rw [f3] at h
 exact h
theorem fx4 [Known] [KnownU8] : AP Tryd.prog 37 [a0C] (.tup [.int .u64 500, .int .i64 0]) [] := by
 have h := av_ageOf a0 (by decide)
 rw [f4] at h
 replace h : AP Tryd.prog 37 [a0C] (.tup [.int .u64 (((ageV [25, 1, 244]).1 : Nat) : Int), .int .i64 0]) [] := h
 rw [f4'] at h
 exact h
theorem fx5 [Known] [KnownU8] : AP Tryd.prog 39 [a0C] (.tup [.int .u64 0, .int .u64 0, .int .i64 4]) [] := by
 have h := av_hopsOf a0 (by decide)
 rw [f5] at h
 exact h
theorem fx6 [Known] [KnownU8] : AP Tryd.prog 38 [.int .u64 4, .int .i64 0, .int .u64 9, .int .u64 2] (.tup [c0C, .int .i64 0]) [] := by
 have h := av_ofHops 4 0 9 2 (by decide) (by decide)
 rw [f6] at h
 exact h
theorem fx7 [Known] [KnownU8] : AP Tryd.prog 39 [c0C] (.tup [.int .u64 9, .int .u64 2, .int .i64 0]) [] := by
 have h := av_hopsOf c0 (by decide)
 rw [f7] at h
 replace h : AP Tryd.prog 39 [c0C] (.tup [.int .u64 (((hopsV [130, 9, 2]).1 : Nat) : Int), .int .u64 (((hopsV [130, 9, 2]).2.1 : Nat) : Int), .int .i64 0]) [] := h
 rw [f7'] at h
 exact h
theorem fx8 [Known] [KnownU8] : AP Tryd.prog 38 [.int .u64 4, .int .i64 0, .int .u64 9, .int .u64 10] (.tup [z5C, .int .i64 3]) [] := by
 have h := av_ofHops 4 0 9 10 (by decide) (by decide)
 rw [f8] at h
 exact h
theorem fx9 [Known] : AP Tryd.prog 33 [a0C, a0C] (.bool true) [] := by
 have h := av_bkSame a0 a0
 rw [f9] at h
 exact h
theorem av_alive7 [Known] [KnownU8] : AP Tryd.prog 30 [] (.bool true) [] := by
 have h1 := fx1
 have h2 := fx2
 have h3 := fx3
 have h4 := fx4
 have h5 := fx5
 have h6 := fx6
 have h7 := fx7
 have h8 := fx8
 have h9 := fx9
 generalize itEs x1.l = XL at *
 refine AP.ofA ?_
 refine AC_of Tryd.func30 rfl Tryd.ntmps30 rfl rfl ?_
 repeat' (first | (apply AL_callPw (h1); kernel_rfl; (iterate 4 exact rfl)) | (apply AL_callPw (h2); kernel_rfl; (iterate 4 exact rfl)) | (apply AL_callPw (h3); kernel_rfl; (iterate 4 exact rfl)) | (apply AL_callPw (h4); kernel_rfl; (iterate 4 exact rfl)) | (apply AL_callPw (h5); kernel_rfl; (iterate 4 exact rfl)) | (apply AL_callPw (h6); kernel_rfl; (iterate 4 exact rfl)) | (apply AL_callPw (h7); kernel_rfl; (iterate 4 exact rfl)) | (apply AL_callPw (h8); kernel_rfl; (iterate 4 exact rfl)) | (apply AL_callPw (h9); kernel_rfl; (iterate 4 exact rfl)) | (apply AL_b2s ttok; (iterate 9 exact rfl)) | (apply AL_move; exact rfl; exact rfl) | (apply AL_assign; exact rfl; exact rfl) | (apply AL_bin; (iterate 5 exact rfl)) | (apply AL_load1 ttok; (iterate 6 exact rfl)) | (apply AL_loadn ttok; (iterate 7 exact rfl)) | (apply AL_fieldAddr ttok; (iterate 7 exact rfl)) | (apply AL_store ttok; (iterate 8 exact rfl)) | (apply AL_extract; (iterate 3 exact rfl)) | refine AL_nil ?_ | (apply AL_guardT; (iterate 3 exact rfl); (first | with_reducible assumption | decide +kernel)) | (apply AL_pickT; exact rfl; (first | with_reducible assumption | decide +kernel); exact rfl; exact rfl) | refine AW_region ?_ | refine AW_seq' ?_ | refine then_norm ?_ | refine AW_ret ?_ | (apply AL_allocZ ttok; (iterate 4 exact rfl)) | (apply AL_str; (iterate 5 exact rfl)) | (apply AL_b2s ttok; (iterate 9 exact rfl)))
 all_goals (apply endQ []; (repeat (first | exact ResL.nil | (apply ResL.cons; first | exact .tmp _ _ rfl | (apply res_n ttok; (iterate 6 exact rfl)) | (apply res_1 ttok; (iterate 5 exact rfl))))); (iterate 4 exact rfl))
 all_goals rfl
end Go.Proofs.YtihkbilhgbmbhaaDoor
end
section
open Go.RowKit Go.Pl Go.Av
namespace Go.Proofs.YtihkbilhgbmbhaaDoor
set_option maxHeartbeats 4000000
theorem cq_e0 [Known] [KnownU8] (bty bnum bfl : Nat) (bsum : Int) (bdata : List UInt8) (zk : Int) (zn : Nat) (zb : List UInt8) (zl : List E) (xi : Bool) (xn xs : Nat) (xh xd : List UInt8) (n m : Nat) (g : Int) (hA : AP Tryd.prog 30 [] (.bool true) []) (t1 : decide (((bdata.map E.byte).length : Int) > 400) = true) :
  AP Tryd.prog 9 [.agg [.int .u64 (bty : Int), .int .u64 (bnum : Int), .int .u64 (bfl : Int), .int .i64 bsum, .sl .ext (bdata.map E.byte)], .agg [.int .i64 zk, .int .u64 (zn : Int), .sl .ext (zb.map E.byte), .sl .ext zl], .agg [.bool xi, .int .u64 (xn : Int), .int .u64 (xs : Int), .str xh, .str xd], .int .u64 (n : Int), .int .u64 (m : Int)] (.bool true) [] := by
 refine AP.ofA ?_
 refine AC_of Tryd.func9 rfl Tryd.ntmps9 rfl rfl ?_
 repeat' (first | (apply AL_callPw (hA); kernel_rfl; (iterate 4 exact rfl)) | (apply AL_move; exact rfl; exact rfl) | (apply AL_assign; exact rfl; exact rfl) | (apply AL_bin; (iterate 5 exact rfl)) | (apply AL_load1 ttok; (iterate 6 exact rfl)) | (apply AL_fieldAddr ttok; (iterate 7 exact rfl)) | (apply AL_boxZ; (iterate 5 exact rfl)) | refine AL_nil ?_ | (apply AL_guardFf; (iterate 3 exact rfl); (first | with_reducible assumption | decide +kernel)) | (apply AL_pickT; exact rfl; (first | with_reducible assumption | decide +kernel); exact rfl; exact rfl) | refine AW_region ?_ | refine AW_seq' ?_ | (apply AW_condA; exact rfl; (first | with_reducible assumption | decide +kernel)) | refine then_norm ?_ | refine AW_ret ?_ | refine then_ret ?_ | (apply AL_len ttok; (iterate 4 exact rfl)))
 all_goals (apply endQ []; (repeat (first | exact ResL.nil | (apply ResL.cons; first | exact .tmp _ _ rfl | (apply res_n ttok; (iterate 6 exact rfl)) | (apply res_1 ttok; (iterate 5 exact rfl))))); (iterate 4 exact rfl))
 all_goals rfl
theorem cq_e1 [Known] [KnownU8] (bty bnum bfl : Nat) (bsum : Int) (bdata : List UInt8) (zk : Int) (zn : Nat) (zb : List UInt8) (zl : List E) (xi : Bool) (xn xs : Nat) (xh xd : List UInt8) (n m : Nat) (g : Int) (hA : AP Tryd.prog 30 [] (.bool true) []) (t1 : decide (((bdata.map E.byte).length : Int) > 400) = false) (hG : AP Tryd.prog 15 [.agg [.int .i64 zk, .int .u64 (zn : Int), .sl .ext (zb.map E.byte), .sl .ext zl], .int .i64 1, .int .i64 300] (.int .i64 g) []) (t2 : decide (g < 0) = true) :
  AP Tryd.prog 9 [.agg [.int .u64 (bty : Int), .int .u64 (bnum : Int), .int .u64 (bfl : Int), .int .i64 bsum, .sl .ext (bdata.map E.byte)], .agg [.int .i64 zk, .int .u64 (zn : Int), .sl .ext (zb.map E.byte), .sl .ext zl], .agg [.bool xi, .int .u64 (xn : Int), .int .u64 (xs : Int), .str xh, .str xd], .int .u64 (n : Int), .int .u64 (m : Int)] (.bool true) [] := by
 refine AP.ofA ?_
 refine AC_of Tryd.func9 rfl Tryd.ntmps9 rfl rfl ?_
 repeat' (first | (apply AL_callPw (hA); kernel_rfl; (iterate 4 exact rfl)) | (apply AL_callPw (hG); kernel_rfl; (iterate 4 exact rfl)) | (apply AL_move; exact rfl; exact rfl) | (apply AL_assign; exact rfl; exact rfl) | (apply AL_bin; (iterate 5 exact rfl)) | (apply AL_load1 ttok; (iterate 6 exact rfl)) | (apply AL_loadn ttok; (iterate 7 exact rfl)) | (apply AL_fieldAddr ttok; (iterate 7 exact rfl)) | (apply AL_boxZ; (iterate 5 exact rfl)) | refine AL_nil ?_ | (apply AL_guardT; (iterate 3 exact rfl); (first | with_reducible assumption | decide +kernel)) | (apply AL_guardFf; (iterate 3 exact rfl); (first | with_reducible assumption | decide +kernel)) | (apply AL_pickT; exact rfl; (first | with_reducible assumption | decide +kernel); exact rfl; exact rfl) | (apply AL_pickF; exact rfl; (first | with_reducible assumption | decide +kernel); exact rfl; exact rfl) | refine AW_region ?_ | refine AW_seq' ?_ | (apply AW_condA; exact rfl; (first | with_reducible assumption | decide +kernel)) | refine then_norm ?_ | refine AW_ret ?_ | refine then_ret ?_ | (apply AL_len ttok; (iterate 4 exact rfl)))
 all_goals (apply endQ []; (repeat (first | exact ResL.nil | (apply ResL.cons; first | exact .tmp _ _ rfl | (apply res_n ttok; (iterate 6 exact rfl)) | (apply res_1 ttok; (iterate 5 exact rfl))))); (iterate 4 exact rfl))
 all_goals rfl
theorem cq_e2 [Known] [KnownU8] (bty bnum bfl : Nat) (bsum : Int) (bdata : List UInt8) (zk : Int) (zn : Nat) (zb : List UInt8) (zl : List E) (xi : Bool) (xn xs : Nat) (xh xd : List UInt8) (n m : Nat) (g : Int) (hA : AP Tryd.prog 30 [] (.bool true) []) (t1 : decide (((bdata.map E.byte).length : Int) > 400) = false) (hG : AP Tryd.prog 15 [.agg [.int .i64 zk, .int .u64 (zn : Int), .sl .ext (zb.map E.byte), .sl .ext zl], .int .i64 1, .int .i64 300] (.int .i64 g) []) (t2 : decide (g < 0) = false) (t3 : decide (IntKind.i64.wrap ((xh.length : Int) + (xd.length : Int)) > 300) = true) :
  AP Tryd.prog 9 [.agg [.int .u64 (bty : Int), .int .u64 (bnum : Int), .int .u64 (bfl : Int), .int .i64 bsum, .sl .ext (bdata.map E.byte)], .agg [.int .i64 zk, .int .u64 (zn : Int), .sl .ext (zb.map E.byte), .sl .ext zl], .agg [.bool xi, .int .u64 (xn : Int), .int .u64 (xs : Int), .str xh, .str xd], .int .u64 (n : Int), .int .u64 (m : Int)] (.bool true) [] := by
 refine AP.ofA ?_
 refine AC_of Tryd.func9 rfl Tryd.ntmps9 rfl rfl ?_
 repeat' (first | (apply AL_callPw (hA); kernel_rfl; (iterate 4 exact rfl)) | (apply AL_callPw (hG); kernel_rfl; (iterate 4 exact rfl)) | (apply AL_move; exact rfl; exact rfl) | (apply AL_assign; exact rfl; exact rfl) | (apply AL_bin; (iterate 5 exact rfl)) | (apply AL_load1 ttok; (iterate 6 exact rfl)) | (apply AL_loadn ttok; (iterate 7 exact rfl)) | (apply AL_fieldAddr ttok; (iterate 7 exact rfl)) | (apply AL_boxZ; (iterate 5 exact rfl)) | refine AL_nil ?_ | (apply AL_guardT; (iterate 3 exact rfl); (first | with_reducible assumption | decide +kernel)) | (apply AL_pickF; exact rfl; (first | with_reducible assumption | decide +kernel); exact rfl; exact rfl) | refine AW_region ?_ | refine AW_seq' ?_ | (apply AW_condA; exact rfl; (first | with_reducible assumption | decide +kernel)) | refine then_norm ?_ | refine AW_ret ?_ | refine then_ret ?_ | (apply AL_len ttok; (iterate 4 exact rfl)) | (apply AL_lens ttok; (iterate 4 exact rfl)))
 all_goals (apply endQ []; (repeat (first | exact ResL.nil | (apply ResL.cons; first | exact .tmp _ _ rfl | (apply res_n ttok; (iterate 6 exact rfl)) | (apply res_1 ttok; (iterate 5 exact rfl))))); (iterate 4 exact rfl))
 all_goals rfl
end Go.Proofs.YtihkbilhgbmbhaaDoor
end
section
open Go.RowKit Go.Pl
namespace Go.Pl
variable {P : Program} {t : TypeId}
theorem opens_prod5 {α β γ δ ε : Type} {R0 : Rep α} {R1 : Rep β} {R2 : Rep γ} {R3 : Rep δ} {R4 : Rep ε} {fs : Array Field} {f0 f1 f2 f3 f4 : Field} (hs : P.underlying t = some (.struct fs)) (hfs : fs = #[f0, f1, f2, f3, f4])
  (h00 : f0.offset = 0) (h01 : f1.offset = R0.n) (h02 : f2.offset = R0.n + R1.n) (h03 : f3.offset = R0.n + R1.n + R2.n) (h04 : f4.offset = R0.n + R1.n + R2.n + R3.n)
  (hc0 : P.cellsOf f0.type = R0.n) (hc1 : P.cellsOf f1.type = R1.n) (hc2 : P.cellsOf f2.type = R2.n) (hc3 : P.cellsOf f3.type = R3.n) (hc4 : P.cellsOf f4.type = R4.n) (hc : P.cellsOf t = R0.n + (R1.n + (R2.n + (R3.n + R4.n))))
  (h0 : Opens P f0.type R0) (h1 : Opens P f1.type R1) (h2 : Opens P f2.type R2) (h3 : Opens P f3.type R3) (h4 : Opens P f4.type R4) : Opens P t (R0.prod (R1.prod (R2.prod (R3.prod R4)))) := by
 intro H enc W spare held fuel cs y h
 obtain ⟨xs, n, _, _, hl, hxl, hg⟩ := DataW.trod_struct hs h
 subst hfs
 have e0 := hg 0 f0 rfl
 have e1 := hg 1 f1 rfl
 have e2 := hg 2 f2 rfl
 have e3 := hg 3 f3 rfl
 have e4 := hg 4 f4 rfl
 rw [h00, hc0, List.drop_zero] at e0
 rw [h01, hc1] at e1
 rw [h02, hc2] at e2
 rw [h03, hc3] at e3
 rw [h04, hc4] at e4
 have hn : xs.length = 5 := hxl
 have hx0 : xs[0]? = some (xs[0]'(by omega)) := List.getElem?_eq_getElem (by omega)
 have hx1 : xs[1]? = some (xs[1]'(by omega)) := List.getElem?_eq_getElem (by omega)
 have hx2 : xs[2]? = some (xs[2]'(by omega)) := List.getElem?_eq_getElem (by omega)
 have hx3 : xs[3]? = some (xs[3]'(by omega)) := List.getElem?_eq_getElem (by omega)
 have hx4 : xs[4]? = some (xs[4]'(by omega)) := List.getElem?_eq_getElem (by omega)
 obtain ⟨x0, k0⟩ := h0 H enc W spare held n _ _ (e0.trans hx0)
 obtain ⟨x1, k1⟩ := h1 H enc W spare held n _ _ (e1.trans hx1)
 obtain ⟨x2, k2⟩ := h2 H enc W spare held n _ _ (e2.trans hx2)
 obtain ⟨x3, k3⟩ := h3 H enc W spare held n _ _ (e3.trans hx3)
 obtain ⟨x4, k4⟩ := h4 H enc W spare held n _ _ (e4.trans hx4)
 refine ⟨(x0, x1, x2, x3, x4), cs.take R0.n, cs.drop R0.n, (List.take_append_drop _ _).symm, k0, (cs.drop R0.n).take R1.n, (cs.drop R0.n).drop R1.n, (List.take_append_drop _ _).symm, k1,
  ((cs.drop R0.n).drop R1.n).take R2.n, ((cs.drop R0.n).drop R1.n).drop R2.n, (List.take_append_drop _ _).symm, ?_, (((cs.drop R0.n).drop R1.n).drop R2.n).take R3.n, (((cs.drop R0.n).drop R1.n).drop R2.n).drop R3.n, (List.take_append_drop _ _).symm, ?_, ?_⟩
 ·rw [List.drop_drop]; exact k2
 ·rw [List.drop_drop, List.drop_drop, show R0.n + (R1.n + R2.n) = R0.n + R1.n + R2.n from by omega]; exact k3
 ·rw [List.drop_drop, List.drop_drop, List.drop_drop, show R0.n + (R1.n + (R2.n + R3.n)) = R0.n + R1.n + R2.n + R3.n from by omega]
  rw [List.take_of_length_le (i := R4.n) (by rw [List.length_drop]; omega)] at k4
  exact k4
abbrev RE : Rep (Bool × Nat × Nat × List UInt8 × List UInt8) := Rep.bool.prod (Rep.u64.prod (Rep.u64.prod (Rep.str.prod Rep.str)))
abbrev RI : Rep ((Bool × Nat × Nat × List UInt8 × List UInt8) × Nat × Nat) := RE.prod (Rep.u64.prod Rep.u64)
end Go.Pl
end
section
open Go.RowKit Go.Pl
namespace Go.Proofs.YtihkbilhgbmbhaaDoor
theorem openE : Opens Tryd.prog 51 RE :=
 opens_prod5 Tryd.underlying51 rfl rfl rfl rfl rfl rfl (by kernel_rfl) (by kernel_rfl) (by kernel_rfl) (by kernel_rfl) (by kernel_rfl) (by kernel_rfl) (opens_bool Tryd.underlying4) (opens_u64 Tryd.underlying22) (opens_u64 Tryd.underlying22) (opens_str Tryd.underlying9) (opens_str Tryd.underlying9)
end Go.Proofs.YtihkbilhgbmbhaaDoor
end
section
open Go.RowKit Go.Pl Go.Av
namespace Go.Proofs.YtihkbilhgbmbhaaDoor
set_option maxHeartbeats 4000000
abbrev eqE (a b : EidV) : Bool := a.i == b.i && ((a.n : Int) == (b.n : Int) && ((a.s : Int) == (b.s : Int) && (a.h == b.h && (a.d == b.d && true))))
theorem eqE_iff {a b : EidV} : eqE a b = true ↔ a = b := by
 obtain ⟨i, n, s, h, d⟩ := a
 obtain ⟨i', n', s', h', d'⟩ := b
 simp only [eqE, Bool.and_eq_true, beq_iff_eq, EidV.mk.injEq]
 constructor
 ·rintro ⟨h1, h2, h3, h4, h5, _⟩
  exact ⟨h1, by omega, by omega, h4, h5⟩
 ·rintro ⟨h1, h2, h3, h4, h5⟩
  exact ⟨h1, by omega, by omega, h4, h5, trivial⟩
theorem toE_eid : ToE RE (fun x => .agg [.bool x.1, .int .u64 (x.2.1 : Int), .int .u64 (x.2.2.1 : Int), .str x.2.2.2.1, .str x.2.2.2.2]) :=
 ToE.bool.prod (ToE.u64.prod (ToE.u64.prod (ToE.str.prod ToE.str)))
abbrev XE := Bool × Nat × Nat × List UInt8 × List UInt8
def XE.v (x : XE) : EidV := ⟨x.1, x.2.1, x.2.2.1, x.2.2.2.1, x.2.2.2.2⟩
theorem eid_V [Known] {W : World} {cs : List Value} {x : XE} (h : RE.ok W (· < W.heap.size) cs x) : V W (g0 W) [] (.agg (eC x.v)) (.agg cs.toArray) :=
 toE_eid.agg (l := [.bool x.1, .int .u64 (x.2.1 : Int), .int .u64 (x.2.2.1 : Int), .str x.2.2.2.1, .str x.2.2.2.2]) rfl h
end Go.Proofs.YtihkbilhgbmbhaaDoor
end
