/- Package primary: a first block, read. -/
import Derived.Test.YtfkmicjlaedlkaaDoorG22
import Derived.Test.YtfkmicjlaedlkaaDoorG21
import Derived.Test.YtfkmicjlaedlkaaDoorG18
import Derived.Laws.Bits128
set_option linter.unusedVariables false
set_option linter.unusedSimpArgs false
section
open Go.RowKit Go.Pl Go.Av
namespace Go.Proofs.YtfkmicjlaedlkaaDoor
set_option maxHeartbeats 4000000
def iReadV (z : It) : EidV × Nat × Nat × Bool := match z with
 | .mk k n b [y, .mk k2 n2 b2 [p, r]] => (match k == 4 && k2 == 4 with
  | false => (eidZ, 0, 0, false)
  | true => match readNm y p r (.mk k n b [y, .mk k2 n2 b2 [p, r]]) with
   | true => (readZ y, p.n, r.n, true)
   | false => (eidZ, 0, 0, false))
 | _ => (eidZ, 0, 0, false)
theorem av_iRead [Known] [KnownU8] (z : It) (hw : wfI z) : AP Tryd.prog 57 [itD z] (.tup [.agg (iC (iReadV z).1 (iReadV z).2.1 (iReadV z).2.2.1), .int .i64 (match (iReadV z).2.2.2 with | true => 0 | false => 3)]) [] := by
 cases h : noForm z with
 | true =>
  have e : iReadV z = (eidZ, 0, 0, false) := by
   unfold noForm at h
   unfold iReadV
   split at h
   ·rw [Bool.not_eq_true'] at h
    dsimp only
    rw [h]
   ·rename_i hno
    split
    ·exact absurd rfl (hno _ _ _ _ _ _ _ _ _)
    ·rfl
  rw [e]
  exact av_iReadNo z h
 | false =>
  obtain ⟨n, b, y, n2, b2, p, r, rfl⟩ : ∃ n b y n2 b2 p r, z = .mk 4 n b [y, .mk 4 n2 b2 [p, r]] := by
   unfold noForm at h
   split at h
   ·simp only [Bool.not_eq_false', Bool.and_eq_true, beq_iff_eq] at h
    obtain ⟨rfl, rfl⟩ := h
    exact ⟨_, _, _, _, _, _, _, rfl⟩
   ·cases h
  have hR := av_iReadYes n b y n2 b2 p r hw
  have e : iReadV (.mk 4 n b [y, .mk 4 n2 b2 [p, r]]) = (match readNm y p r (.mk 4 n b [y, .mk 4 n2 b2 [p, r]]) with
   | true => (readZ y, p.n, r.n, true)
   | false => (eidZ, 0, 0, false)) := rfl
  rw [e]
  unfold resN at hR
  cases hb : readNm y p r (.mk 4 n b [y, .mk 4 n2 b2 [p, r]]) with
  | false => rw [hb] at hR; exact hR
  | true => rw [hb] at hR; exact hR
theorem item_len {x : EidV} (h : eRight x = true) : (putI (itemE x)).length <= 200 := by
 unfold itemE
 repeat' split
 ·exact Nat.le_trans (hop_len 1 0) (by decide)
 ·have h0 := put_small 4 0 [] [.mk 0 2 [] [], hopI x.n x.s]
  have h1 := num_len 2
  have h2 := hop_len x.n x.s
  simp only [puts, List.length_append, List.length_nil, Nat.add_zero, Nat.zero_add] at h0
  exact Nat.le_trans h0 (by omega)
 ·have h0 := put_small 4 0 [] [.mk 0 1 [] [], .mk 3 0 (pathE x) []]
  have h1 := num_len 1
  have h2 := put_small 3 0 (pathE x) []
  rename_i hz hi
  have h3 : (pathE x).length <= 100 := by
   have ht := eRight_txt h (by simpa using hz) (by simpa using hi)
   simp only [pathE, List.length_append, List.length_cons, List.length_nil]
   omega
  simp only [puts, List.length_append, List.length_nil, Nat.add_zero, Nat.zero_add] at h0 h2
  exact Nat.le_trans h0 (by omega)
theorem puts_appP (a c : List It) : puts (a ++ c) = puts a ++ puts c := by
 induction a with
 | nil => rfl
 | cons y a ih => rw [List.cons_append, puts, puts, ih, List.append_assoc]
theorem lim_P {p : PriV} (h : rightP p = true) (s : Nat) (hs : s = 1 \/ s = 2) : (putI (zeroL s (listP p))).length <= 1000000000 := by
 obtain ⟨h1, h2, h3, h4, h5, h6⟩ := pr_facts h
 obtain ⟨i1, _, _⟩ := iRight_iff.1 h5
 have h0 := put_small 4 0 [] (listP p ++ [.mk 2 0 (List.replicate (2 * s) 0) []])
 have hb := put_small 2 0 (List.replicate (2 * s) 0) []
 have n1 := num_len 7
 have n2 := num_len p.fl
 have n3 := num_len p.sum.toNat
 have n4 := item_len h3
 have n5 := item_len i1
 have n6 := item_len h4
 have n7 := hop_len p.t p.q
 have n8 := num_len p.life
 have e7 : hopI p.t p.q = .mk 4 0 [] [.mk 0 p.t [] [], .mk 0 p.q [] []] := rfl
 rw [e7] at n7
 rw [puts_appP] at h0
 simp only [listP, puts, List.length_append, List.length_nil, List.length_replicate, Nat.add_zero, Nat.zero_add] at h0 hb
 show (putI (.mk 4 0 [] (listP p ++ [.mk 2 0 (List.replicate (2 * s) 0) []]))).length <= 1000000000
 exact Nat.le_trans h0 (by omega)
theorem av_pWriteR [Known] [KnownU8] (p : PriV) (hfl : p.fl < 18446744073709551616) : AP Tryd.prog 25 [.agg (prC p)] (sealD (writeP p)) [] := by
 cases h : rightP p with
 | true => exact av_pWrite p hfl (lim_P h)
 | false =>
  have hR := av_pRight p
  unfold writeP
  rw [h] at hR ⊢
  obtain ⟨fl, sum, ⟨di, dn, ds, dh, dd⟩, ⟨ri, rn, rs, rh, rd⟩, ⟨xi, xn, xs, xh, xd⟩, t, q, life⟩ := p
  dsimp only [z0] at *
  refine AP.ofA ?_
  refine AC_of Tryd.func25 rfl Tryd.ntmps25 rfl rfl ?_
  repeat' (first | (apply AL_callPw (hR); kernel_rfl; (iterate 4 exact rfl)) | (apply AL_go ttok; exact rfl) | (apply AW_go ttok; exact rfl) | (apply K_go ttok; exact rfl) | (apply AW_condA; exact rfl; (first | with_reducible assumption | decide +kernel)))
  all_goals (apply endQ []; (apply resG_ok ttok; exact rfl); (iterate 4 exact rfl))
  all_goals rfl
theorem wf_writeP {p : PriV} (hfl : p.fl < 18446744073709551616) : wfI (writeP p).1 := by
 unfold writeP
 cases h : rightP p with
 | false => exact wf_z0
 | true => exact wf_seal 2 (wfs_P h hfl) (by simp [listP])
def pr0 : PriV := ⟨0, 0, eidZ, eidZ, eidZ, 0, 0, 0⟩
abbrev prD (r : PriV × Int) : D := .tup [.agg (prC r.1), .int .i64 r.2]
def eZ (y : It) : EidV := match (readV y).2 with | true => (readV y).1 | false => eidZ
def priOf (m1 m2 m3 m4 m5 m6 m7 : It) : PriV := ⟨m1.n, IntKind.i64.wrap (m2.n : Int), eZ m3, eZ m5, (iReadV (.mk 4 0 [] [m4, m6])).1, (iReadV (.mk 4 0 [] [m4, m6])).2.1, (iReadV (.mk 4 0 [] [m4, m6])).2.2.1, m7.n⟩
def readQ (x : It) (o : List It × Int) : PriV × Int := match o.2 != 0 with
 | true => (pr0, o.2)
 | false => match o.1 with
  | [_, m1, m2, m3, m4, m5, m6, m7] => (match (readV m3).2 && ((readV m5).2 && (iReadV (.mk 4 0 [] [m4, m6])).2.2.2) with
   | false => (pr0, 3)
   | true => match (writeP (priOf m1 m2 m3 m4 m5 m6 m7)).2 != 0 with
    | true => (pr0, 3)
    | false => match It.beq (writeP (priOf m1 m2 m3 m4 m5 m6 m7)).1 x with
     | false => (pr0, 3)
     | true => (priOf m1 m2 m3 m4 m5 m6 m7, 0))
  | _ => (pr0, 3)
def readP (x : It) : PriV × Int := readQ x (openV x 2)
theorem av_pRead [Known] [KnownU8] (x : It) (hw : wfI x) (hxl : x.l.length <= 1000000) (hlim : ∀ s m, s = 1 \/ s = 2 -> (putI (zeroL s (x.l.take m))).length <= 1000000000) : AP Tryd.prog 26 [itD x] (prD (readP x)) [] := by
 have hO := av_open x 2 hw hxl hlim
 have hsub := open_sub x 2
 have hws : wfs x.l := by obtain ⟨k, n, b, l⟩ := x; exact hw.2.2.2
 unfold readP
 generalize openV x 2 = o at *
 obtain ⟨ol, oe⟩ := o
 have hlen := itEs_len ol
 have hUo := uniI ol
 dsimp only at hsub
 have hSame := fun (B : PriV) (h1 : B.fl < 18446744073709551616) => av_same (writeP B).1 (wf_writeP h1) x hw
 obtain ⟨k, n, b, l⟩ := x
 dsimp only [It.l] at *
 unfold readQ
 dsimp only
 replace hO : AP Tryd.prog 20 [.agg [.int .i64 k, .int .u64 (n : Int), byE b, .sl .ext (itEs l)], .int .i64 2] (.tup [.sl .ext (itEs ol), .int .i64 oe]) [] := hO
 cases t1 : (oe != 0) with
 | true => exact pr_e k n b _ _ oe hO t1
 | false =>
 have hno : ol.length ≠ 8 -> AP Tryd.prog 26 [itD (.mk k n b l)] (prD (pr0, 3)) [] := fun h => pr_l k n b _ _ oe hO t1 (by rw [hlen]; simp; omega)
 match ol, hO, hsub, hlen, hUo, hno with
 | [], _, _, _, _, h => exact h (by simp)
 | [_], _, _, _, _, h => exact h (by simp)
 | [_, _], _, _, _, _, h => exact h (by simp)
 | [_, _, _], _, _, _, _, h => exact h (by simp)
 | [_, _, _, _], _, _, _, _, h => exact h (by simp)
 | [_, _, _, _, _], _, _, _, _, h => exact h (by simp)
 | [_, _, _, _, _, _], _, _, _, _, h => exact h (by simp)
 | [_, _, _, _, _, _, _], _, _, _, _, h => exact h (by simp)
 | _ :: _ :: _ :: _ :: _ :: _ :: _ :: _ :: _ :: _, _, _, _, _, h => exact h (by simp)
 | [.mk k0 n0 b0 l0, .mk k1 n1 b1 l1, .mk k2 n2 b2 l2, .mk k3 n3 b3 l3, .mk k4 n4 b4 l4, .mk k5 n5 b5 l5, .mk k6 n6 b6 l6, .mk k7 n7 b7 l7], hO, hsub, hlen, hUo, _ =>
 have hwm : ∀ y ∈ [It.mk k0 n0 b0 l0, .mk k1 n1 b1 l1, .mk k2 n2 b2 l2, .mk k3 n3 b3 l3, .mk k4 n4 b4 l4, .mk k5 n5 b5 l5, .mk k6 n6 b6 l6, .mk k7 n7 b7 l7], wfI y := fun y hy => wfs_mem hws y (hsub y hy)
 clear hsub
 have t2 : (((itEs [It.mk k0 n0 b0 l0, .mk k1 n1 b1 l1, .mk k2 n2 b2 l2, .mk k3 n3 b3 l3, .mk k4 n4 b4 l4, .mk k5 n5 b5 l5, .mk k6 n6 b6 l6, .mk k7 n7 b7 l7]).length : Int) != 8) = false := by rw [hlen]; rfl
 dsimp only
 have w1 : n1 < 18446744073709551616 := (hwm (.mk k1 n1 b1 l1) (by simp)).1
 have w3 := hwm (.mk k3 n3 b3 l3) (by simp)
 have w4 := hwm (.mk k4 n4 b4 l4) (by simp)
 have w5 := hwm (.mk k5 n5 b5 l5) (by simp)
 have w6 := hwm (.mk k6 n6 b6 l6) (by simp)
 have w46 : wfI (.mk 4 0 [] [.mk k4 n4 b4 l4, .mk k6 n6 b6 l6]) := ⟨by decide, by simp, by simp, w4, w6, trivial⟩
 have hD : AP Tryd.prog 56 [itD (.mk k3 n3 b3 l3)] (.tup [.agg (eC (eZ (.mk k3 n3 b3 l3))), .int .i64 (match (readV (.mk k3 n3 b3 l3)).2 with | true => 0 | false => 3)]) [] := av_eRead _ w3
 have hR : AP Tryd.prog 56 [itD (.mk k5 n5 b5 l5)] (.tup [.agg (eC (eZ (.mk k5 n5 b5 l5))), .int .i64 (match (readV (.mk k5 n5 b5 l5)).2 with | true => 0 | false => 3)]) [] := av_eRead _ w5
 have hI := av_iRead _ w46
 have hL := av_list [.mk k4 n4 b4 l4, .mk k6 n6 b6 l6] (by simp) ⟨w4, w6, trivial⟩
 have hW := av_pWriteR (priOf (.mk k1 n1 b1 l1) (.mk k2 n2 b2 l2) (.mk k3 n3 b3 l3) (.mk k4 n4 b4 l4) (.mk k5 n5 b5 l5) (.mk k6 n6 b6 l6) (.mk k7 n7 b7 l7)) w1
 have hS := hSame (priOf (.mk k1 n1 b1 l1) (.mk k2 n2 b2 l2) (.mk k3 n3 b3 l3) (.mk k4 n4 b4 l4) (.mk k5 n5 b5 l5) (.mk k6 n6 b6 l6) (.mk k7 n7 b7 l7)) w1
 clear hSame hwm w3 w4 w5 w6 w46 w1 hws hlim hw
 unfold priOf at *
 dsimp only [It.n] at *
 generalize eZ (.mk k3 n3 b3 l3) = dz at *
 generalize eZ (.mk k5 n5 b5 l5) = rz at *
 generalize (readV (.mk k3 n3 b3 l3)).2 = d2 at *
 generalize (readV (.mk k5 n5 b5 l5)).2 = r2 at *
 generalize iReadV (.mk 4 0 [] [.mk k4 n4 b4 l4, .mk k6 n6 b6 l6]) = u at *
 obtain ⟨u, ut, uq, u2⟩ := u
 try dsimp only at *
 generalize writeP ⟨n1, IntKind.i64.wrap (n2 : Int), dz, rz, u, ut, uq, n7⟩ = wr at *
 obtain ⟨⟨wk, wn, wb, wl⟩, we⟩ := wr
 try dsimp only at *
 cases d2 with
 | false => exact (pr_md_all k n b _ _ oe k0 n0 b0 l0 k1 n1 b1 l1 k2 n2 b2 l2 k3 n3 b3 l3 k4 n4 b4 l4 k5 n5 b5 l5 k6 n6 b6 l6 k7 n7 b7 l7 dz.i dz.n dz.s dz.h dz.d rz.i rz.n rz.s rz.h rz.d u.i u.n u.s u.h u.d ut uq _ _ _ we wk wn wb _ _ hO t1 t2 hUo rfl rfl rfl rfl rfl rfl rfl hD hR hL hI hW hS).1 rfl
 | true =>
 cases r2 with
 | false => exact (pr_md_all k n b _ _ oe k0 n0 b0 l0 k1 n1 b1 l1 k2 n2 b2 l2 k3 n3 b3 l3 k4 n4 b4 l4 k5 n5 b5 l5 k6 n6 b6 l6 k7 n7 b7 l7 dz.i dz.n dz.s dz.h dz.d rz.i rz.n rz.s rz.h rz.d u.i u.n u.s u.h u.d ut uq _ _ _ we wk wn wb _ _ hO t1 t2 hUo rfl rfl rfl rfl rfl rfl rfl hD hR hL hI hW hS).2.1 rfl rfl
 | true =>
 cases u2 with
 | false => exact (pr_md_all k n b _ _ oe k0 n0 b0 l0 k1 n1 b1 l1 k2 n2 b2 l2 k3 n3 b3 l3 k4 n4 b4 l4 k5 n5 b5 l5 k6 n6 b6 l6 k7 n7 b7 l7 dz.i dz.n dz.s dz.h dz.d rz.i rz.n rz.s rz.h rz.d u.i u.n u.s u.h u.d ut uq _ _ _ we wk wn wb _ _ hO t1 t2 hUo rfl rfl rfl rfl rfl rfl rfl hD hR hL hI hW hS).2.2 rfl rfl rfl
 | true =>
 try dsimp only [Bool.and_self]
 cases t4 : (we != 0) with
 | true => exact (pr_mw_all k n b _ _ oe k0 n0 b0 l0 k1 n1 b1 l1 k2 n2 b2 l2 k3 n3 b3 l3 k4 n4 b4 l4 k5 n5 b5 l5 k6 n6 b6 l6 k7 n7 b7 l7 dz.i dz.n dz.s dz.h dz.d rz.i rz.n rz.s rz.h rz.d u.i u.n u.s u.h u.d ut uq _ _ _ we wk wn wb _ _ hO t1 t2 hUo rfl rfl rfl rfl rfl rfl rfl hD hR hL hI hW hS rfl rfl rfl).1 t4
 | false =>
 try dsimp only
 cases t5 : It.beq (.mk wk wn wb wl) (.mk k n b l) with
 | false =>
  rw [t5] at hS
  exact (pr_mw_all k n b _ _ oe k0 n0 b0 l0 k1 n1 b1 l1 k2 n2 b2 l2 k3 n3 b3 l3 k4 n4 b4 l4 k5 n5 b5 l5 k6 n6 b6 l6 k7 n7 b7 l7 dz.i dz.n dz.s dz.h dz.d rz.i rz.n rz.s rz.h rz.d u.i u.n u.s u.h u.d ut uq _ _ _ we wk wn wb _ _ hO t1 t2 hUo rfl rfl rfl rfl rfl rfl rfl hD hR hL hI hW hS rfl rfl rfl).2.1 t4 hS
 | true =>
  rw [t5] at hS
  exact (pr_mw_all k n b _ _ oe k0 n0 b0 l0 k1 n1 b1 l1 k2 n2 b2 l2 k3 n3 b3 l3 k4 n4 b4 l4 k5 n5 b5 l5 k6 n6 b6 l6 k7 n7 b7 l7 dz.i dz.n dz.s dz.h dz.d rz.i rz.n rz.s rz.h rz.d u.i u.n u.s u.h u.d ut uq _ _ _ we wk wn wb _ _ hO t1 t2 hUo rfl rfl rfl rfl rfl rfl rfl hD hR hL hI hW hS rfl rfl rfl).2.2 t4 hS
end Go.Proofs.YtfkmicjlaedlkaaDoor
end
section
open Go.RowKit Go.Pl Go.Av
namespace Go.Proofs.YtfkmicjlaedlkaaDoor
end Go.Proofs.YtfkmicjlaedlkaaDoor
end
section
open Go.RowKit Go.Pl Go.Av
namespace Go.Proofs.YtfkmicjlaedlkaaDoor
set_option maxHeartbeats 4000000
theorem puts_listP {p : PriV} (h : rightP p = true) : (puts (listP p)).length <= 1000000 := by
 obtain ⟨h1, h2, h3, h4, h5, h6⟩ := pr_facts h
 obtain ⟨i1, _, _⟩ := iRight_iff.1 h5
 have n1 := num_len 7
 have n2 := num_len p.fl
 have n3 := num_len p.sum.toNat
 have n4 := item_len h3
 have n5 := item_len i1
 have n6 := item_len h4
 have n7 := hop_len p.t p.q
 have n8 := num_len p.life
 have e7 : hopI p.t p.q = .mk 4 0 [] [.mk 0 p.t [] [], .mk 0 p.q [] []] := rfl
 rw [e7] at n7
 simp only [listP, puts, List.length_append, List.length_nil, Nat.add_zero]
 omega
end Go.Proofs.YtfkmicjlaedlkaaDoor
end
section
open Go.RowKit Go.Pl Go.Av
namespace Go.Proofs.YtfkmicjlaedlkaaDoor
def swp (m : Nat) : Nat := (m >>> 24 % 256) ^^^ ((m >>> 16 % 256) <<< 8) ^^^ ((m >>> 8 % 256) <<< 16) ^^^ ((m % 256) <<< 24)
theorem x4 (a b c d a' b' c' d' : Nat) : ((a ^^^ a') ^^^ (b ^^^ b') ^^^ (c ^^^ c') ^^^ (d ^^^ d')) = (a ^^^ b ^^^ c ^^^ d) ^^^ (a' ^^^ b' ^^^ c' ^^^ d') := by
 apply Nat.eq_of_testBit_eq
 intro i
 simp only [Nat.testBit_xor]
 cases a.testBit i <;> cases b.testBit i <;> cases c.testBit i <;> cases d.testBit i <;> cases a'.testBit i <;> cases b'.testBit i <;> cases c'.testBit i <;> cases d'.testBit i <;> rfl
theorem m256 (x y : Nat) : (x ^^^ y) % 256 = (x % 256) ^^^ (y % 256) := Nat.xor_mod_two_pow (n := 8)
theorem swp_xor (x y : Nat) : swp (x ^^^ y) = swp x ^^^ swp y := by
 unfold swp
 rw [Nat.shiftRight_xor_distrib, Nat.shiftRight_xor_distrib, Nat.shiftRight_xor_distrib, m256, m256, m256, m256, Nat.shiftLeft_xor_distrib, Nat.shiftLeft_xor_distrib, Nat.shiftLeft_xor_distrib]
 exact x4 ..
def posN (k : Nat) : Nat := 8 * (3 - k / 8) + k % 8
theorem swp_pos : ∀ k, k < 31 -> swp (1 <<< posN k) = 1 <<< k := by decide +kernel
theorem pos_lt : ∀ k, k < 31 -> posN k < 32 := by decide
def trN (by_ a : Nat) : Nat -> Nat -> Nat
 | 0, n => n
 | i + 1, n => if by_.testBit i then trN by_ a i n ^^^ (1 <<< posN (a + i)) else trN by_ a i n
theorem mod_bit (x i : Nat) : x % 2 ^ (i + 1) = (x % 2 ^ i) ^^^ (if x.testBit i then 2 ^ i else 0) := by
 apply Nat.eq_of_testBit_eq
 intro j
 rw [Nat.testBit_xor, Nat.testBit_mod_two_pow, Nat.testBit_mod_two_pow]
 rcases Nat.lt_trichotomy j i with h | h | h
 ·have h1 : decide (j < i + 1) = true := decide_eq_true (by omega)
  have h2 : decide (j < i) = true := decide_eq_true h
  rw [h1, h2]
  have h3 : (if x.testBit i = true then 2 ^ i else 0).testBit j = false := by
   split
   ·rw [Nat.testBit_two_pow]; exact decide_eq_false (by omega)
   ·simp
  rw [h3]; simp
 ·subst h
  have h1 : decide (j < j + 1) = true := decide_eq_true (by omega)
  have h2 : decide (j < j) = false := decide_eq_false (by omega)
  rw [h1, h2]
  cases hb : x.testBit j with
  | true => simp [Nat.testBit_two_pow]
  | false => simp
 ·have h1 : decide (j < i + 1) = false := decide_eq_false (by omega)
  have h2 : decide (j < i) = false := decide_eq_false (by omega)
  rw [h1, h2]
  have h3 : (if x.testBit i = true then 2 ^ i else 0).testBit j = false := by
   split
   ·rw [Nat.testBit_two_pow]; exact decide_eq_false (by omega)
   ·simp
  rw [h3]; simp
theorem tr_swp {by_ a n : Nat} (ha : a <= 15) : ∀ i, i <= 16 -> swp (trN by_ a i n) = swp n ^^^ ((by_ % 2 ^ i) <<< a)
 | 0, _ => by rw [trN, show by_ % 2 ^ 0 = 0 from Nat.mod_one _, Nat.zero_shiftLeft, Nat.xor_zero]
 | i + 1, hi => by
  have ih := tr_swp (by_ := by_) (n := n) ha i (by omega)
  rw [trN, mod_bit]
  cases hb : by_.testBit i with
  | true =>
   rw [if_pos rfl, if_pos rfl, swp_xor, ih, swp_pos _ (by omega), Nat.shiftLeft_xor_distrib, Nat.xor_assoc]
   congr 2
   rw [<- Nat.one_shiftLeft, <- Nat.shiftLeft_add, Nat.add_comm]
  | false =>
   rw [if_neg (by simp), if_neg (by simp), ih, Nat.xor_zero]
theorem tr_lt {by_ a n : Nat} (ha : a <= 15) (hn : n < 4294967296) : ∀ i, i <= 16 -> trN by_ a i n < 4294967296
 | 0, _ => hn
 | i + 1, hi => by
  rw [trN]
  split
  ·refine Nat.xor_lt_two_pow (n := 32) (tr_lt ha hn i (by omega)) ?_
   rw [Nat.one_shiftLeft]
   exact Nat.pow_lt_pow_right (by omega) (pos_lt _ (by omega))
  ·exact tr_lt ha hn i (by omega)
theorem num4 {n : Nat} (h1 : 65536 <= n) (h2 : n < 4294967296) : putI (.mk 0 n [] []) = [26, UInt8.ofNat (n / 256 ^ 3), UInt8.ofNat (n / 256 ^ 2), UInt8.ofNat (n / 256 ^ 1), UInt8.ofNat (n / 256 ^ 0)] := by
 have hr : rightB (0, n, false) = true := by unfold rightB; simp
 have hf : followN n = 4 := by unfold followN; rw [if_neg (by omega), if_neg (by omega), if_neg (by omega), if_pos h2]
 have hi : infoN n = 26 := by unfold infoN; rw [if_neg (by omega), if_neg (by omega), if_neg (by omega), if_pos h2]
 show (if rightB (0, n, false) = true then writeL (0, n, false) else []) ++ ([] ++ []) = _
 rw [if_pos hr]
 unfold writeL
 rw [if_neg (by simp)]
 show (firstB 0 (infoN n) :: beN n (followN n)) ++ ([] ++ []) = _
 rw [hf, hi]
 rfl
theorem b_toNat (n k : Nat) : (UInt8.ofNat (n / 256 ^ k)).toNat = n >>> (8 * k) % 256 := by
 rw [UInt8.toNat_ofNat', Nat.shiftRight_eq_div_pow, Nat.pow_mul]
def listT (p : PriV) (n : Nat) : List It := [.mk 0 7 [] [], .mk 0 p.fl [] [], .mk 0 p.sum.toNat [] [], itemE p.dest, itemE p.src, itemE p.rep, .mk 4 0 [] [.mk 0 p.t [] [], .mk 0 p.q [] []], .mk 0 n [] []]
theorem put_T (p : PriV) (s n : Nat) : putI (zeroL s (listT p n)) = (putI (zeroL s (listT p n))).take 1 ++ (puts [.mk 0 7 [] [], .mk 0 p.fl [] [], .mk 0 p.sum.toNat [] [], itemE p.dest, itemE p.src, itemE p.rep, .mk 4 0 [] [.mk 0 p.t [] [], .mk 0 p.q [] []]] ++ (putI (.mk 0 n [] []) ++ putI (.mk 2 0 (List.replicate (2 * s) 0) []))) /\ (putI (zeroL s (listT p n))).take 1 = [137] := by
 have h : putI (zeroL s (listT p n)) = [137] ++ puts (listT p n ++ [.mk 2 0 (List.replicate (2 * s) 0) []]) := rfl
 have h2 : puts (listT p n ++ [.mk 2 0 (List.replicate (2 * s) 0) []]) = puts [.mk 0 7 [] [], .mk 0 p.fl [] [], .mk 0 p.sum.toNat [] [], itemE p.dest, itemE p.src, itemE p.rep, .mk 4 0 [] [.mk 0 p.t [] [], .mk 0 p.q [] []]] ++ (putI (.mk 0 n [] []) ++ putI (.mk 2 0 (List.replicate (2 * s) 0) [])) := by
  simp only [listT, List.cons_append, List.nil_append, puts, List.append_assoc, List.append_nil]
 rw [h, h2]
 exact ⟨rfl, rfl⟩
theorem sum_turned {p : PriV} {s life n by_ a : Nat} (hs : s = 1 \/ s = 2) (h1 : 65536 <= life) (h2 : life < 4294967296) (h3 : 65536 <= n) (h4 : n < 4294967296) (ha : a <= 15) (hb : by_ ≠ 0) (hb2 : by_ < 65536) (hd : swp life ^^^ swp n = by_ <<< a) :
  sumB s (putI (zeroL s (listT p life))) ≠ sumB s (putI (zeroL s (listT p n))) := by
 obtain ⟨e1, t1⟩ := put_T p s life
 obtain ⟨e2, t2⟩ := put_T p s n
 rw [t1] at e1
 rw [t2] at e2
 rw [e1, e2, num4 h1 h2, num4 h3 h4]
 generalize puts [.mk 0 7 [] [], .mk 0 p.fl [] [], .mk 0 p.sum.toNat [] [], itemE p.dest, itemE p.src, itemE p.rep, .mk 4 0 [] [.mk 0 p.t [] [], .mk 0 p.q [] []]] = pre
 generalize putI (.mk 2 0 (List.replicate (2 * s) 0) []) = post
 have hcond : ((life >>> 24 % 256) ^^^ (n >>> 24 % 256)) ^^^ (((life >>> 16 % 256) ^^^ (n >>> 16 % 256)) <<< 8) ^^^ (((life >>> 8 % 256) ^^^ (n >>> 8 % 256)) <<< 16) ^^^ (((life % 256) ^^^ (n % 256)) <<< 24) = by_ <<< a := by
  rw [Nat.shiftLeft_xor_distrib, Nat.shiftLeft_xor_distrib, Nat.shiftLeft_xor_distrib, x4]
  exact hd
 have hm : ∀ m : Nat, ([137] ++ (pre ++ ([26, UInt8.ofNat (m / 256 ^ 3), UInt8.ofNat (m / 256 ^ 2), UInt8.ofNat (m / 256 ^ 1), UInt8.ofNat (m / 256 ^ 0)] ++ post))).map UInt8.toNat = ([137] ++ pre.map UInt8.toNat ++ [26]) ++ ([m >>> 24 % 256, m >>> 16 % 256, m >>> 8 % 256, m % 256] ++ post.map UInt8.toNat) := fun m => by
  simp only [List.map_append, List.map_cons, List.map_nil, b_toNat, List.append_assoc, List.cons_append, List.nil_append]
  rfl
 rcases hs with rfl | rfl
 ·refine sum_ne1 ?_
  rw [hm, hm]
  exact ru_differ (W := 15) (by decide) (by decide) (by decide) ha hb hb2 hcond
 ·refine sum_ne2 ?_
  rw [hm, hm]
  exact ru_differ (W := 31) (by decide) (by decide) (by decide) ha hb hb2 hcond
end Go.Proofs.YtfkmicjlaedlkaaDoor
end
section
open Go.RowKit Go.Pl Go.Av
namespace Go.Proofs.YtfkmicjlaedlkaaDoor
theorem right_fineT {x : It} (h : rightI x = true) : fineI x = true := by
 rw [right_iff] at h
 simp only [Bool.and_eq_true] at h
 exact h.2.2
theorem eid_fewT (x : EidV) : deepI (itemE x) 5 = true /\ sizeI (itemE x) <= 5 := by
 unfold itemE
 repeat' split
 all_goals simp [deepI, deeps, sizeI, sizes]
theorem right_T {p : PriV} (h : rightP p = true) (n : Nat) (B : List UInt8) : rightI (.mk 4 0 [] (listT p n ++ [.mk 2 0 B []])) = true := by
 obtain ⟨h1, h2, d1, d2, d3, h6⟩ := pr_facts h
 obtain ⟨i1, _, _⟩ := iRight_iff.1 d3
 obtain ⟨a1, a2⟩ := eid_fewT p.dest
 obtain ⟨b1, b2⟩ := eid_fewT p.src
 obtain ⟨c1, c2⟩ := eid_fewT p.rep
 have f1 := right_fineT (right_itemE d1)
 have f2 := right_fineT (right_itemE i1)
 have f3 := right_fineT (right_itemE d2)
 rw [right_iff]
 simp only [Bool.and_eq_true, decide_eq_true_eq]
 refine ⟨?_, ?_, ?_⟩
 ·simp [listT, deepI, deeps, a1, b1, c1]
 ·simp [listT, sizeI, sizes]; omega
 ·simp [listT, fineI, fines, ownI, f1, f2, f3]
theorem all_T {p : PriV} (h : rightP p = true) (n : Nat) : (listT p n).all rightI = true := by
 obtain ⟨h1, h2, d1, d2, d3, h6⟩ := pr_facts h
 obtain ⟨i1, _, _⟩ := iRight_iff.1 d3
 have e1 := right_itemE d1
 have e2 := right_itemE i1
 have e3 := right_itemE d2
 simp only [listT, List.all_cons, List.all_nil, e1, e2, e3, num_right, Bool.true_and, Bool.and_true]
 exact hop_right p.t p.q
theorem turned_read {p : PriV} (h : rightP p = true) {s n : Nat} (hs : s = 1 \/ s = 2) (hps : p.sum = (s : Int)) {B : List UInt8} (hB : B.length = 2 * s) (hne : B ≠ sumB s (putI (zeroL s (listT p n)))) : readP (.mk 4 0 [] (listT p n ++ [.mk 2 0 B []])) = (pr0, 10) := by
 have ho : openV (.mk 4 0 [] (listT p n ++ [.mk 2 0 B []])) 2 = ([], 10) := by
  have e : p.sum.toNat = s := by omega
  have ht : typeV (listT p n ++ [.mk 2 0 B []]) 2 = (s : Int) := by
   unfold listT typeV
   rcases hs with rfl | rfl <;> rw [e] <;> rfl
  have hl : (listT p n ++ [It.mk 2 0 B []]).length - 1 = 8 := by simp [listT]
  have hi : (listT p n ++ [It.mk 2 0 B []])[8]? = some (.mk 2 0 B []) := rfl
  have hk : (listT p n ++ [It.mk 2 0 B []]).take 8 = listT p n := rfl
  have hr := right_T h n B
  have hz : rightI (zeroL s (listT p n)) = true := right_T h n (List.replicate (2 * s) 0)
  unfold openV
  dsimp only
  rw [hr, ht, hl, hi, hk]
  have t1 : decide ((s : Int) < 0) = false := decide_eq_false (by omega)
  have t2 : ((s : Int) == 0) = false := by rw [beq_eq_false_iff_ne]; omega
  have t3 : (decide (((8 : Nat) : Int) <= 2) || (!(It.beq (.mk 2 0 B []) (.mk 2 0 B [])) || ((B.length : Int) != ((2 * s : Nat) : Int)))) = false := by
   rw [show It.beq (.mk 2 0 B []) (.mk 2 0 B []) = true from It.beq_iff.2 rfl, hB]
   simp
  have t4 : (sumB s (putI (zeroL s (listT p n))) == B) = false := by
   rw [beq_eq_false_iff_ne]
   exact fun e => hne e.symm
  rw [show ((4 : Int) == 4) = true from rfl, Bool.and_self]
  dsimp only
  rw [t1]
  dsimp only
  rw [t2]
  dsimp only
  rw [Int.toNat_natCast, t3]
  dsimp only
  rw [hz]
  dsimp only
  rw [t4]
 unfold readP
 rw [ho]
 rfl
end Go.Proofs.YtfkmicjlaedlkaaDoor
end
section
open Go.RowKit Go.Pl Go.Av
namespace Go.Proofs.YtfkmicjlaedlkaaDoor
theorem and1_i64 (n : Int) : bits .and .i64 n 1 = n % 2 := by
 have h1 : (BitVec.ofInt 64 1).toNat = 2 ^ 1 - 1 := by decide
 have key : (BitVec.ofInt 64 n &&& BitVec.ofInt 64 1).toNat = (n % ((2 ^ 64 : Nat) : Int)).toNat % 2 ^ 1 := by
  rw [BitVec.toNat_and, BitVec.toNat_ofInt, h1, Nat.and_two_pow_sub_one_eq_mod]
 show IntKind.i64.wrap ((BitVec.ofInt 64 n &&& BitVec.ofInt 64 1).toNat : Nat) = n % 2
 rw [key, IntKind.wrap_i64]
 omega
theorem sum_of (z : Int) : ∃ s : Nat, (s = 1 \/ s = 2) /\ IntKind.i64.wrap (1 + bits .and .i64 z 1) = (s : Int) := by
 rw [and1_i64]
 refine ⟨(1 + z % 2).toNat, by omega, ?_⟩
 rw [IntWalk.i64_in _ (by omega)]
 omega
theorem and31u (n : Nat) : bits .and .u64 (n : Int) 2147483647 = ((n % 2147483648 : Nat) : Int) := by
 have h1 : (BitVec.ofInt 64 2147483647).toNat = 2 ^ 31 - 1 := by decide
 have key : (BitVec.ofInt 64 (n : Int) &&& BitVec.ofInt 64 2147483647).toNat = ((n : Int) % ((2 ^ 64 : Nat) : Int)).toNat % 2 ^ 31 := by
  rw [BitVec.toNat_and, BitVec.toNat_ofInt, h1, Nat.and_two_pow_sub_one_eq_mod]
 show IntKind.u64.wrap ((BitVec.ofInt 64 (n : Int) &&& BitVec.ofInt 64 2147483647).toNat : Nat) = _
 rw [key, IntKind.wrap_u64]
 omega
theorem life_of (n : Nat) : ∃ L : Nat, 2147483648 <= L /\ L < 4294967296 /\ bits .or .u64 2147483648 (bits .and .u64 (n : Int) 2147483647) = (L : Int) := by
 rw [and31u]
 have h := u64_or_nat 2147483648 (n % 2147483648) (by omega) (by omega)
 have h2 := Nat.two_pow_add_eq_or_of_lt (i := 31) (b := n % 2147483648) (by omega) 1
 rw [Nat.mul_one] at h2
 have h3 : (2147483648 : Nat) ||| n % 2147483648 = 2147483648 + n % 2147483648 := h2.symm
 rw [h3] at h
 exact ⟨_, by omega, by omega, h⟩
theorem bit16 {b i : Nat} (hb : b < 65536) (hi : i < 16) : (bits .and .u16 ((b : Int).fdiv (2 ^ (min (i : Int).toNat IntKind.u16.bits))) 1 == 1) = b.testBit i := by
 have e : min (i : Int).toNat IntKind.u16.bits = i := by
  rw [Int.toNat_natCast]
  exact Nat.min_eq_left (by show i <= 16; omega)
 have h2 : b / 2 ^ i <= b := Nat.div_le_self ..
 have e2 : (b : Int).fdiv (2 ^ i) = ((b / 2 ^ i : Nat) : Int) := by
  rw [Int.fdiv_eq_ediv_of_nonneg _ (by have : (0 : Int) < 2 ^ i := Int.pow_pos (by decide); omega)]
  push_cast
  rfl
 rw [e, e2, show (1 : Int) = ((1 : Nat) : Int) from rfl, u16_and_nat _ 1 (by omega) (by decide), Nat.testBit_eq_decide_div_mod_eq, Nat.and_one_is_mod]
 rcases Nat.mod_two_eq_zero_or_one (b / 2 ^ i) with h | h <;> rw [h] <;> rfl
theorem at15 (a : UInt8) : ∃ k : Nat, k <= 15 /\ bits .and .u8 (a.toNat : Int) 15 = (k : Int) := by
 have h := u8_and_nat a.toNat 15 a.toNat_lt (by decide)
 exact ⟨_, Nat.and_le_right, h⟩
theorem pos_i (k : Nat) (h : k < 31) : IntKind.i64.wrap (IntKind.i64.wrap (8 * IntKind.i64.wrap (3 - IntKind.i64.wrap (((k : Nat) : Int).tdiv 8))) + ((k : Nat) : Int).tmod 8) = ((posN k : Nat) : Int) := by
 have h1 : ((k : Nat) : Int).tdiv 8 = ((k / 8 : Nat) : Int) := rfl
 have h2 : ((k : Nat) : Int).tmod 8 = ((k % 8 : Nat) : Int) := rfl
 rw [h1, h2]
 unfold posN
 rw [IntWalk.i64_in ((k / 8 : Nat) : Int) (by omega), IntWalk.i64_in (3 - ((k / 8 : Nat) : Int)) (by omega), IntWalk.i64_in (8 * (3 - ((k / 8 : Nat) : Int))) (by omega), IntWalk.i64_in _ (by omega)]
 omega
theorem shl_lt (k : Nat) (h : k < 31) : 1 <<< posN k < 18446744073709551616 := by
 rw [Nat.one_shiftLeft]
 exact Nat.lt_of_lt_of_le (Nat.pow_lt_pow_right (by omega) (pos_lt _ h)) (by decide)
theorem one_shl (k : Nat) (h : k < 31) : IntKind.u64.wrap (1 * 2 ^ min ((posN k : Nat) : Int).toNat IntKind.u64.bits) = ((1 <<< posN k : Nat) : Int) := by
 have hl := shl_lt k h
 have hp := pos_lt k h
 rw [Int.toNat_natCast, Nat.min_eq_left (by show posN k <= 64; omega), Int.one_mul]
 rw [Nat.one_shiftLeft] at hl ⊢
 have e : ((2 : Int) ^ posN k) = ((2 ^ posN k : Nat) : Int) := by push_cast; rfl
 rw [e]
 generalize 2 ^ posN k = z at *
 rw [IntWalk.u64_in _ (by omega)]
end Go.Proofs.YtfkmicjlaedlkaaDoor
end
