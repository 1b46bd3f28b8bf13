/- Package canon: which blocks may be. -/
import Derived.Test.YtpodhnaofhfinaaGreatDoorG27
import Derived.Test.YtpodhnaofhfinaaGreatDoorG19
import Derived.Test.YtpodhnaofhfinaaGreatDoorG13
set_option linter.unusedVariables false
set_option linter.unusedSimpArgs false
section
open Go.RowKit Go.Pl Go.Av
namespace Go.Proofs.YtpodhnaofhfinaaGreatDoor
set_option maxHeartbeats 4000000
def dataK (kind : Nat) (d : List UInt8) : Bool := match ((kind : Int) == 6) with
 | true => (prevV d).2
 | false => match ((kind : Int) == 7) with
  | true => (ageV d).2
  | false => match ((kind : Int) == 10) with
   | true => (hopsV d).2.2
   | false => true
def dataV (kind : Nat) (d : List UInt8) : Bool := dataK kind d && decide ((d.length : Int) <= 200)
theorem av_isData [Known] [KnownU8] (kind : Nat) (d : List UInt8) (hd : d.length <= 100000) : AP Tryz.prog 74 [.int .u64 (kind : Int), byE d] (.bool (dataV kind d)) [] := by
 have hP := av_previous d hd
 have hA := av_age d hd
 have hH := av_hops d hd
 have hdl : (d.map E.byte).length = d.length := List.length_map ..
 unfold dataV dataK
 rw [<- hdl]
 generalize (prevV d).1 = pz at *
 obtain ⟨zi, zn, zs, zh, zd⟩ := pz
 generalize (prevV d).2 = p1 at *
 generalize (ageV d).1 = a0 at *
 generalize (ageV d).2 = a1 at *
 generalize (hopsV d).1 = h0 at *
 generalize (hopsV d).2.1 = h1 at *
 generalize (hopsV d).2.2 = h2 at *
 cases t1 : ((kind : Int) == 6) with
 | true =>
  cases p1
  all_goals
   refine AP.ofA ?_
   refine AC_of Tryz.func74 rfl Tryz.ntmps74 rfl rfl ?_
   repeat' (first | (apply AL_callPw (hP); kernel_rfl; (iterate 4 exact rfl)) | (apply AL_go ttok; exact rfl) | (apply AW_go ttok; exact rfl) | (apply AL_guardT; (iterate 3 exact rfl); (first | with_reducible assumption | decide +kernel)) | (apply AL_guardFt; (iterate 3 exact rfl); (first | with_reducible assumption | decide +kernel)) | (apply AL_pickT; exact rfl; (first | with_reducible assumption | decide +kernel); exact rfl; exact rfl) | (apply AL_pickF; exact rfl; (first | with_reducible assumption | decide +kernel); exact rfl; exact rfl) | (apply AW_condA; exact rfl; (first | with_reducible assumption | decide +kernel)) | (apply AL_len ttok; (iterate 4 exact rfl)))
   all_goals (apply endQ []; (apply resG_ok ttok; exact rfl); (iterate 4 exact rfl))
   all_goals rfl
 | false =>
 cases t2 : ((kind : Int) == 7) with
 | true =>
  cases a1
  all_goals
   refine AP.ofA ?_
   refine AC_of Tryz.func74 rfl Tryz.ntmps74 rfl rfl ?_
   repeat' (first | (apply AL_callPw (hA); kernel_rfl; (iterate 4 exact rfl)) | (apply AL_go ttok; exact rfl) | (apply AW_go ttok; exact rfl) | (apply AL_guardT; (iterate 3 exact rfl); (first | with_reducible assumption | decide +kernel)) | (apply AL_guardFt; (iterate 3 exact rfl); (first | with_reducible assumption | decide +kernel)) | (apply AL_pickT; exact rfl; (first | with_reducible assumption | decide +kernel); exact rfl; exact rfl) | (apply AL_pickF; exact rfl; (first | with_reducible assumption | decide +kernel); exact rfl; exact rfl) | (apply AW_condA; exact rfl; (first | with_reducible assumption | decide +kernel)) | (apply AW_condB; exact rfl; (first | with_reducible assumption | decide +kernel)) | (apply AL_len ttok; (iterate 4 exact rfl)))
   all_goals (apply endQ []; (apply resG_ok ttok; exact rfl); (iterate 4 exact rfl))
   all_goals rfl
 | false =>
 cases t3 : ((kind : Int) == 10) with
 | true =>
  cases h2
  all_goals
   refine AP.ofA ?_
   refine AC_of Tryz.func74 rfl Tryz.ntmps74 rfl rfl ?_
   repeat' (first | (apply AL_callPw (hH); kernel_rfl; (iterate 4 exact rfl)) | (apply AL_go ttok; exact rfl) | (apply AW_go ttok; exact rfl) | (apply AL_guardT; (iterate 3 exact rfl); (first | with_reducible assumption | decide +kernel)) | (apply AL_guardFt; (iterate 3 exact rfl); (first | with_reducible assumption | decide +kernel)) | (apply AL_pickT; exact rfl; (first | with_reducible assumption | decide +kernel); exact rfl; exact rfl) | (apply AL_pickF; exact rfl; (first | with_reducible assumption | decide +kernel); exact rfl; exact rfl) | (apply AW_condA; exact rfl; (first | with_reducible assumption | decide +kernel)) | (apply AW_condB; exact rfl; (first | with_reducible assumption | decide +kernel)) | (apply AL_len ttok; (iterate 4 exact rfl)))
   all_goals (apply endQ []; (apply resG_ok ttok; exact rfl); (iterate 4 exact rfl))
   all_goals rfl
 | false =>
  refine AP.ofA ?_
  refine AC_of Tryz.func74 rfl Tryz.ntmps74 rfl rfl ?_
  repeat' (first | (apply AL_go ttok; exact rfl) | (apply AW_go ttok; exact rfl) | (apply AL_guardT; (iterate 3 exact rfl); (first | with_reducible assumption | decide +kernel)) | (apply AL_pickT; exact rfl; (first | with_reducible assumption | decide +kernel); exact rfl; exact rfl) | (apply AW_condB; exact rfl; (first | with_reducible assumption | decide +kernel)) | (apply AL_len ttok; (iterate 4 exact rfl)))
  all_goals (apply endQ []; (apply resG_ok ttok; exact rfl); (iterate 4 exact rfl))
  all_goals rfl
def bkRight (b : BlkV) : Bool := !(badN b.ty || badN b.num) && ((bits .andNot .u64 (b.fl : Int) 23 == 0) && (decide (b.sum ≥ 0) && (decide (b.sum <= 2) && dataV b.ty b.data)))
theorem av_bRight [Known] [KnownU8] (b : BlkV) (hd : b.data.length <= 100000) : AP Tryz.prog 52 [.agg (bkC b)] (.bool (bkRight b)) [] := by
 have hW := av_within2 b.ty b.num
 have hD := av_isData b.ty b.data hd
 obtain ⟨ty, num, fl, sum, data⟩ := b
 unfold bkRight
 dsimp only at hW hD ⊢
 generalize dataV ty data = dv at *
 cases hb1 : (badN ty || badN num) with
 | true =>
  rw [hb1] at hW
  replace hW : AP Tryz.prog _ _ (.bool false) [] := hW
  refine AP.ofA ?_
  refine AC_of Tryz.func52 rfl Tryz.ntmps52 rfl rfl ?_
  repeat' (first | (apply AL_callPw (hW); kernel_rfl; (iterate 4 exact rfl)) | (apply AL_go ttok; exact rfl) | (apply AW_go ttok; exact rfl) | (apply AL_guardFt; (iterate 3 exact rfl); (first | with_reducible assumption | decide +kernel)) | (apply AL_pickF; exact rfl; (first | with_reducible assumption | decide +kernel); exact rfl; exact rfl) | (apply AL_bsZ ttok; (iterate 12 exact rfl)))
  all_goals (apply endQ []; (apply resG_ok ttok; exact rfl); (iterate 4 exact rfl))
  all_goals rfl
 | false =>
 rw [hb1] at hW
 replace hW : AP Tryz.prog _ _ (.bool true) [] := hW
 cases t1 : (bits .andNot .u64 (fl : Int) 23 == 0) with
 | false =>
  refine AP.ofA ?_
  refine AC_of Tryz.func52 rfl Tryz.ntmps52 rfl rfl ?_
  repeat' (first | (apply AL_callPw (hW); kernel_rfl; (iterate 4 exact rfl)) | (apply AL_go ttok; exact rfl) | (apply AW_go ttok; exact rfl) | (apply AL_guardT; (iterate 3 exact rfl); (first | with_reducible assumption | decide +kernel)) | (apply AL_guardFt; (iterate 3 exact rfl); (first | with_reducible assumption | decide +kernel)) | (apply AL_pickT; exact rfl; (first | with_reducible assumption | decide +kernel); exact rfl; exact rfl) | (apply AL_pickF; exact rfl; (first | with_reducible assumption | decide +kernel); exact rfl; exact rfl) | (apply AL_bsZ ttok; (iterate 12 exact rfl)))
  all_goals (apply endQ []; (apply resG_ok ttok; exact rfl); (iterate 4 exact rfl))
  all_goals rfl
 | true =>
 cases t2 : decide (sum ≥ 0) with
 | false =>
  refine AP.ofA ?_
  refine AC_of Tryz.func52 rfl Tryz.ntmps52 rfl rfl ?_
  repeat' (first | (apply AL_callPw (hW); kernel_rfl; (iterate 4 exact rfl)) | (apply AL_go ttok; exact rfl) | (apply AW_go ttok; exact rfl) | (apply AL_guardT; (iterate 3 exact rfl); (first | with_reducible assumption | decide +kernel)) | (apply AL_guardFt; (iterate 3 exact rfl); (first | with_reducible assumption | decide +kernel)) | (apply AL_pickT; exact rfl; (first | with_reducible assumption | decide +kernel); exact rfl; exact rfl) | (apply AL_pickF; exact rfl; (first | with_reducible assumption | decide +kernel); exact rfl; exact rfl) | (apply AL_bsZ ttok; (iterate 12 exact rfl)))
  all_goals (apply endQ []; (apply resG_ok ttok; exact rfl); (iterate 4 exact rfl))
  all_goals rfl
 | true =>
 cases t3 : decide (sum <= 2) with
 | false =>
  refine AP.ofA ?_
  refine AC_of Tryz.func52 rfl Tryz.ntmps52 rfl rfl ?_
  repeat' (first | (apply AL_callPw (hW); kernel_rfl; (iterate 4 exact rfl)) | (apply AL_go ttok; exact rfl) | (apply AW_go ttok; exact rfl) | (apply AL_guardT; (iterate 3 exact rfl); (first | with_reducible assumption | decide +kernel)) | (apply AL_guardFt; (iterate 3 exact rfl); (first | with_reducible assumption | decide +kernel)) | (apply AL_pickT; exact rfl; (first | with_reducible assumption | decide +kernel); exact rfl; exact rfl) | (apply AL_pickF; exact rfl; (first | with_reducible assumption | decide +kernel); exact rfl; exact rfl) | (apply AL_bsZ ttok; (iterate 12 exact rfl)))
  all_goals (apply endQ []; (apply resG_ok ttok; exact rfl); (iterate 4 exact rfl))
  all_goals rfl
 | true =>
  refine AP.ofA ?_
  refine AC_of Tryz.func52 rfl Tryz.ntmps52 rfl rfl ?_
  repeat' (first | (apply AL_callPw (hW); kernel_rfl; (iterate 4 exact rfl)) | (apply AL_callPw (hD); kernel_rfl; (iterate 4 exact rfl)) | (apply AL_go ttok; exact rfl) | (apply AW_go ttok; exact rfl) | (apply AL_guardT; (iterate 3 exact rfl); (first | with_reducible assumption | decide +kernel)) | (apply AL_pickT; exact rfl; (first | with_reducible assumption | decide +kernel); exact rfl; exact rfl) | (apply AL_bsZ ttok; (iterate 12 exact rfl)))
  all_goals (apply endQ []; (apply resG_ok ttok; exact rfl); (iterate 4 exact rfl))
  all_goals rfl

end Go.Proofs.YtpodhnaofhfinaaGreatDoor
end
section
open Go.RowKit Go.Pl Go.Av
namespace Go.Proofs.YtpodhnaofhfinaaGreatDoor
set_option maxHeartbeats 4000000
def listB (b : BlkV) : List It := [.mk 0 b.ty [] [], .mk 0 b.num [] [], .mk 0 b.fl [] [], .mk 0 b.sum.toNat [] [], .mk 2 0 b.data []]
def writeB (b : BlkV) : It × Int := match bkRight b with
 | true => sealV (listB b) 3
 | false => (z0, 3)
theorem bk_facts {b : BlkV} (h : bkRight b = true) : b.ty <= 255 /\ b.num <= 255 /\ 0 <= b.sum /\ b.sum <= 2 /\ dataV b.ty b.data = true := by
 unfold bkRight badN at h
 simp only [Bool.and_eq_true, Bool.not_eq_true', Bool.or_eq_false_iff, decide_eq_true_eq, decide_eq_false_iff_not] at h
 obtain ⟨⟨⟨h1, h2⟩, h3, h4⟩, _, h5, h6, h7⟩ := h
 exact ⟨by omega, by omega, h5, h6, h7⟩
theorem wfs_B {b : BlkV} (h : bkRight b = true) (hfl : b.fl < 18446744073709551616) (hd : b.data.length <= 3000) : wfs (listB b) := by
 obtain ⟨h1, h2, h3, h4, _⟩ := bk_facts h
 simp [listB, wfs, wfI]
 omega
theorem lim_B {b : BlkV} (h : bkRight b = true) (hfl : b.fl < 18446744073709551616) (hd : b.data.length <= 3000) (s : Nat) (hs : s = 1 \/ s = 2) : (putI (zeroL s (listB b))).length <= 1000000000 := by
 obtain ⟨h1, h2, h3, h4, _⟩ := bk_facts h
 have h9 : ¬ 3000 < b.data.length := by omega
 have hg : greatI (zeroL s (listB b)) 1 300 = 293 := by
  rcases hs with rfl | rfl <;> simp [zeroL, listB, greatI, greats, h9]
 have hn : nI (zeroL s (listB b)) := by
  simp [zeroL, listB, nI, nIs]
  omega
 have := (small_wf _ 1 300 (by omega) (by omega) hn).2.1
 omega
theorem av_bWrite [Known] [KnownU8] (b : BlkV) (hfl : b.fl < 18446744073709551616) (hd : b.data.length <= 3000) : AP Tryz.prog 65 [.agg (bkC b)] (sealD (writeB b)) [] := by
 have hR := av_bRight b (by omega)
 unfold writeB
 cases hr : bkRight b with
 | false =>
  rw [hr] at hR
  obtain ⟨ty, num, fl, sum, data⟩ := b
  dsimp only [z0] at *
  refine AP.ofA ?_
  refine AC_of Tryz.func65 rfl Tryz.ntmps65 rfl rfl ?_
  repeat' (first | (apply AL_callPw (hR); kernel_rfl; (iterate 4 exact rfl)) | (apply AL_go ttok; exact rfl) | (apply AW_go ttok; exact rfl) | (apply K_go ttok; exact rfl) | (apply AW_condA; exact rfl; (first | with_reducible assumption | decide +kernel)))
  all_goals (apply endQ []; (apply resG_ok ttok; exact rfl); (iterate 4 exact rfl))
  all_goals rfl
 | true =>
  rw [hr] at hR
  obtain ⟨h1, h2, h3, h4, _⟩ := bk_facts hr
  have hS := av_seal (listB b) 3 (wfs_B hr hfl hd) (by simp [listB]) (lim_B hr hfl hd)
  dsimp only
  generalize sealV (listB b) 3 = r at *
  obtain ⟨ty, num, fl, sum, data⟩ := b
  obtain ⟨⟨k, n, bb, l⟩, e⟩ := r
  dsimp only at h1 h2 h3 h4 hd hfl
  have hN := av_numbers4 ty num fl sum.toNat
  have hB := av_bytes data (by omega)
  have es : IntKind.u64.wrap sum = ((sum.toNat : Nat) : Int) := by rw [IntWalk.u64_in _ (by omega)]; omega
  replace hS : AP Tryz.prog 81 [.sl .ext [nmE ty, nmE num, nmE fl, nmE sum.toNat, .agg [.int .i64 2, .int .u64 0, .sl (data.map E.byte), .sl []]], .int .i64 3] (sealD (.mk k n bb l, e)) [] := hS
  have hu4 : Uni 4 [nmE ty, nmE num, nmE fl, nmE sum.toNat] := Uni.map (f := nmE) (fun _ => rfl) [ty, num, fl, sum.toNat]
  refine AP.ofA ?_
  refine AC_of Tryz.func65 rfl Tryz.ntmps65 rfl rfl ?_
  repeat' (first | (apply AL_callPw (hR); kernel_rfl; (iterate 4 exact rfl)) | rw [es] | (apply AL_callT [] [] (hN); kernel_rfl; (iterate 10 exact rfl)) | (apply AL_callPw (hB); kernel_rfl; (iterate 4 exact rfl)) | (apply AL_callPw (hS); kernel_rfl; (iterate 4 exact rfl)) | (apply AL_appendZ ttok; (iterate 11 exact rfl); exact uniB_ok rfl; exact uniB_ok rfl; exact List.cons_ne_nil _ _; decide +kernel; decide +kernel; exact rfl; exact rfl) | (apply AL_go ttok; exact rfl) | (apply AW_go ttok; exact rfl) | (apply K_go ttok; exact rfl) | (apply AW_condB; exact rfl; (first | with_reducible assumption | decide +kernel)) | (apply AL_bsZ ttok; (iterate 12 exact rfl)))
  all_goals (apply endQ []; (apply resG_ok ttok; exact rfl); (iterate 4 exact rfl))
  all_goals rfl
end Go.Proofs.YtpodhnaofhfinaaGreatDoor
end
section
open Go.RowKit Go.Pl Go.Av
namespace Go.Proofs.YtpodhnaofhfinaaGreatDoor
set_option maxHeartbeats 4000000
def bk0 : BlkV := ⟨0, 0, 0, 0, []⟩
abbrev blkD (r : BlkV × Int) : D := .tup [.agg (bkC r.1), .int .i64 r.2]
abbrev hopI (n m : Nat) : It := .mk 4 0 [] [.mk 0 n [] [], .mk 0 m [] []]
end Go.Proofs.YtpodhnaofhfinaaGreatDoor
end
section
open Go.RowKit Go.Pl Go.Av
namespace Go.Proofs.YtpodhnaofhfinaaGreatDoor
set_option maxHeartbeats 4000000
def readX (x : It) (o : List It × Int) : BlkV × Int := match o.2 != 0 with
 | true => (bk0, o.2)
 | false => match o.1 with
  | [.mk k0 n0 b0 l0, .mk k1 n1 b1 l1, .mk k2 n2 b2 l2, .mk k3 n3 b3 l3, .mk k4 n4 b4 l4] => (match k4 != 2 with
   | true => (bk0, 3)
   | false => match (writeB ⟨n0, n1, n2, IntKind.i64.wrap (n3 : Int), b4⟩).2 != 0 with
    | true => (bk0, 3)
    | false => match It.beq (writeB ⟨n0, n1, n2, IntKind.i64.wrap (n3 : Int), b4⟩).1 x with
     | false => (bk0, 3)
     | true => (⟨n0, n1, n2, IntKind.i64.wrap (n3 : Int), b4⟩, 0))
  | _ => (bk0, 3)
def readB (x : It) : BlkV × Int := readX x (openV x 3)
theorem open_sub (x : It) (a : Int) : ∀ y ∈ (openV x a).1, y ∈ x.l := by
 obtain ⟨k, n, b, l⟩ := x
 unfold openV
 dsimp only [It.l]
 have hs : ∀ (m : Nat) (y : It), y ∈ l.take m -> y ∈ l := fun m y h => List.mem_of_mem_take h
 repeat' split
 all_goals first | exact hs _ | (intro y h; exact h) | (intro y h; exact absurd h (by simp))
theorem wf_z0 : wfI z0 := ⟨by decide, by simp, by simp, trivial⟩
theorem wf_outA (s : Nat) {l : List It} (hws : wfs l) (hl : l.length <= 1000000) : wfI (outL s l) := by
 refine ⟨by decide, by simp, by simp; omega, wfs_app hws ⟨⟨by decide, ?_, by simp, trivial⟩, trivial⟩⟩
 have : (sumB s (putI (zeroL s l))).length <= 4 := by
  unfold sumB
  split <;> simp
 omega
theorem wf_seal {l : List It} (a : Int) (hws : wfs l) (hl : l.length <= 1000000) : wfI (sealV l a).1 := by
 unfold sealV
 have h0 : wfI (.mk 4 0 [] l) := ⟨by decide, by simp, by omega, hws⟩
 repeat' split
 all_goals first | exact wf_z0 | exact h0 | exact wf_outA _ hws hl
theorem wf_write {b : BlkV} (hfl : b.fl < 18446744073709551616) (hd : b.data.length <= 3000) : wfI (writeB b).1 := by
 unfold writeB
 cases h : bkRight b with
 | false => exact wf_z0
 | true => exact wf_seal 3 (wfs_B h hfl hd) (by simp [listB])
theorem br_e [Known] [KnownU8] (k : Int) (n : Nat) (b : List UInt8) (xl : List E) (L : List E) (e : Int)
  (hO : AP Tryz.prog 68 [.agg [.int .i64 k, .int .u64 (n : Int), byE b, .sl .ext xl], .int .i64 3] (.tup [.sl .ext L, .int .i64 e]) []) (t1 : (e != 0) = true) :
  AP Tryz.prog 40 [.agg [.int .i64 k, .int .u64 (n : Int), byE b, .sl .ext xl]] (.tup [.agg [.int .u64 0, .int .u64 0, .int .u64 0, .int .i64 0, .sl .ext []], .int .i64 e]) [] := by
 refine AP.ofA ?_
 refine AC_of Tryz.func40 rfl Tryz.ntmps40 rfl rfl ?_
 repeat' (first | (apply AL_callPw (hO); kernel_rfl; (iterate 4 exact rfl)) | (apply AL_go ttok; exact rfl) | (apply AW_go ttok; exact rfl) | (apply K_go ttok; exact rfl) | (apply AW_condA; exact rfl; (first | with_reducible assumption | decide +kernel)))
 all_goals (apply endQ []; (apply resG_ok ttok; exact rfl); (iterate 4 exact rfl))
 all_goals rfl
theorem br_l [Known] [KnownU8] (k : Int) (n : Nat) (b : List UInt8) (xl : List E) (L : List E) (e : Int)
  (hO : AP Tryz.prog 68 [.agg [.int .i64 k, .int .u64 (n : Int), byE b, .sl .ext xl], .int .i64 3] (.tup [.sl .ext L, .int .i64 e]) []) (t1 : (e != 0) = false) (t2 : ((L.length : Int) != 5) = true) :
  AP Tryz.prog 40 [.agg [.int .i64 k, .int .u64 (n : Int), byE b, .sl .ext xl]] (.tup [.agg [.int .u64 0, .int .u64 0, .int .u64 0, .int .i64 0, .sl .ext []], .int .i64 3]) [] := by
 refine AP.ofA ?_
 refine AC_of Tryz.func40 rfl Tryz.ntmps40 rfl rfl ?_
 repeat' (first | (apply AL_callPw (hO); kernel_rfl; (iterate 4 exact rfl)) | (apply AL_go ttok; exact rfl) | (apply AW_go ttok; exact rfl) | (apply K_go ttok; exact rfl) | (apply AL_guardFf; (iterate 3 exact rfl); (first | with_reducible assumption | decide +kernel)) | (apply AL_pickT; exact rfl; (first | with_reducible assumption | decide +kernel); exact rfl; exact rfl) | (apply AW_condA; exact rfl; (first | with_reducible assumption | decide +kernel)) | (apply AW_condB; exact rfl; (first | with_reducible assumption | decide +kernel)) | (apply AL_len ttok; (iterate 4 exact rfl)))
 all_goals (apply endQ []; (apply resG_ok ttok; exact rfl); (iterate 4 exact rfl))
 all_goals rfl
theorem br_k [Known] [KnownU8] (k : Int) (n : Nat) (b : List UInt8) (xl : List E) (L : List E) (e : Int) (k4 : Int) (n4 : Nat) (b4 : List UInt8) (l4 : List It)
  (hO : AP Tryz.prog 68 [.agg [.int .i64 k, .int .u64 (n : Int), byE b, .sl .ext xl], .int .i64 3] (.tup [.sl .ext L, .int .i64 e]) []) (t1 : (e != 0) = false) (t2 : ((L.length : Int) != 5) = false) (hU : Uni 4 L) (hv4 : L[(4 : Int).toNat]? = some (.agg [.int .i64 k4, .int .u64 (n4 : Int), .sl (b4.map E.byte), .sl (itEs l4)])) (t3 : (k4 != 2) = true) :
  AP Tryz.prog 40 [.agg [.int .i64 k, .int .u64 (n : Int), byE b, .sl .ext xl]] (.tup [.agg [.int .u64 0, .int .u64 0, .int .u64 0, .int .i64 0, .sl .ext []], .int .i64 3]) [] := by
 refine AP.ofA ?_
 refine AC_of Tryz.func40 rfl Tryz.ntmps40 rfl rfl ?_
 repeat' (first | (apply AL_callPw (hO); kernel_rfl; (iterate 4 exact rfl)) | (apply AL_go ttok; exact rfl) | (apply AW_go ttok; exact rfl) | (apply K_go ttok; exact rfl) | (apply AL_guardT; (iterate 3 exact rfl); (first | with_reducible assumption | decide +kernel)) | (apply AL_pickF; exact rfl; (first | with_reducible assumption | decide +kernel); exact rfl; exact rfl) | (apply AW_condA; exact rfl; (first | with_reducible assumption | decide +kernel)) | (apply AW_condB; exact rfl; (first | with_reducible assumption | decide +kernel)) | (apply AL_len ttok; (iterate 4 exact rfl)) | (apply AL_idx ttok; (iterate 6 exact rfl); (first | with_reducible assumption | decide +kernel | exact Int.natCast_nonneg _ | (guard_target = (0:Int) <= (OfNat.ofNat _ : Int); decide) | rotate_left); (first | with_reducible assumption | decide +kernel | exact rfl); (first | exact uniB_ok rfl | with_reducible assumption | decide +kernel | rotate_left)))
 all_goals (apply endQ []; (apply resG_ok ttok; exact rfl); (iterate 4 exact rfl))
 all_goals rfl
end Go.Proofs.YtpodhnaofhfinaaGreatDoor
end
section
open Go.RowKit Go.Pl Go.Av
namespace Go.Proofs.YtpodhnaofhfinaaGreatDoor
set_option maxHeartbeats 4000000
theorem br_w [Known] [KnownU8] (k : Int) (n : Nat) (b : List UInt8) (xl : List E) (L : List E) (e : Int) (k0 : Int) (n0 : Nat) (b0 : List UInt8) (l0 : List It) (k1 : Int) (n1 : Nat) (b1 : List UInt8) (l1 : List It) (k2 : Int) (n2 : Nat) (b2 : List UInt8) (l2 : List It) (k3 : Int) (n3 : Nat) (b3 : List UInt8) (l3 : List It) (k4 : Int) (n4 : Nat) (b4 : List UInt8) (l4 : List It) (wk : Int) (wn : Nat) (wb : List UInt8) (wl : List E) (we : Int)
  (hO : AP Tryz.prog 68 [.agg [.int .i64 k, .int .u64 (n : Int), byE b, .sl .ext xl], .int .i64 3] (.tup [.sl .ext L, .int .i64 e]) []) (t1 : (e != 0) = false) (t2 : ((L.length : Int) != 5) = false) (hU : Uni 4 L) (hv0 : L[(0 : Int).toNat]? = some (.agg [.int .i64 k0, .int .u64 (n0 : Int), .sl (b0.map E.byte), .sl (itEs l0)])) (hv1 : L[(1 : Int).toNat]? = some (.agg [.int .i64 k1, .int .u64 (n1 : Int), .sl (b1.map E.byte), .sl (itEs l1)])) (hv2 : L[(2 : Int).toNat]? = some (.agg [.int .i64 k2, .int .u64 (n2 : Int), .sl (b2.map E.byte), .sl (itEs l2)])) (hv3 : L[(3 : Int).toNat]? = some (.agg [.int .i64 k3, .int .u64 (n3 : Int), .sl (b3.map E.byte), .sl (itEs l3)])) (hv4 : L[(4 : Int).toNat]? = some (.agg [.int .i64 k4, .int .u64 (n4 : Int), .sl (b4.map E.byte), .sl (itEs l4)])) (t3 : (k4 != 2) = false)
  (hC : AP Tryz.prog 25 [.sl .ext (b4.map E.byte)] (.sl .ext (b4.map E.byte)) []) (hW : AP Tryz.prog 65 [.agg [.int .u64 (n0 : Int), .int .u64 (n1 : Int), .int .u64 (n2 : Int), .int .i64 (IntKind.i64.wrap (n3 : Int)), .sl .ext (b4.map E.byte)]] (.tup [.agg [.int .i64 wk, .int .u64 (wn : Int), byE wb, .sl .ext wl], .int .i64 we]) []) (t4 : (we != 0) = true) :
  AP Tryz.prog 40 [.agg [.int .i64 k, .int .u64 (n : Int), byE b, .sl .ext xl]] (.tup [.agg [.int .u64 0, .int .u64 0, .int .u64 0, .int .i64 0, .sl .ext []], .int .i64 3]) [] := by
 refine AP.ofA ?_
 refine AC_of Tryz.func40 rfl Tryz.ntmps40 rfl rfl ?_
 repeat' (first | (apply AL_callPw (hO); kernel_rfl; (iterate 4 exact rfl)) | (apply AL_callPw (hC); kernel_rfl; (iterate 4 exact rfl)) | (apply AL_callPw (hW); kernel_rfl; (iterate 4 exact rfl)) | (apply AL_go ttok; exact rfl) | (apply AW_go ttok; exact rfl) | (apply K_go ttok; exact rfl) | (apply AL_guardT; (iterate 3 exact rfl); (first | with_reducible assumption | decide +kernel)) | (apply AL_guardFf; (iterate 3 exact rfl); (first | with_reducible assumption | decide +kernel)) | (apply AL_pickT; exact rfl; (first | with_reducible assumption | decide +kernel); exact rfl; exact rfl) | (apply AL_pickF; exact rfl; (first | with_reducible assumption | decide +kernel); exact rfl; exact rfl) | (apply AW_condA; exact rfl; (first | with_reducible assumption | decide +kernel)) | (apply AW_condB; exact rfl; (first | with_reducible assumption | decide +kernel)) | (apply AL_len ttok; (iterate 4 exact rfl)) | (apply AW_drawE 24 hmix; (decide +kernel); (kernel_rfl); (kernel_rfl); (kernel_rfl); exact rfl; exact rfl) | (apply AE_consZ; (iterate 4 exact rfl)) | exact AE.nil _ _ _ _ | (apply AEk_puT; exact rfl) | (apply AEk_efT; exact rfl) | (apply AOt_mk; exact rfl; exact rfl; (decide +kernel); exact rfl) | (apply AO_puT; exact rfl) | (apply AO_efT; exact rfl) | exact AO.nil _ _ _ | (apply AOs_skip; (decide +kernel)) | (apply AOs_goZ; (iterate 3 exact rfl)) | exact AOs.nil | exact qY_ok rfl rfl | exact qY_ef rfl rfl | (apply AL_idx ttok; (iterate 6 exact rfl); (first | with_reducible assumption | decide +kernel | exact Int.natCast_nonneg _ | (guard_target = (0:Int) <= (OfNat.ofNat _ : Int); decide) | rotate_left); (first | with_reducible assumption | decide +kernel | exact rfl); (first | exact uniB_ok rfl | with_reducible assumption | decide +kernel | rotate_left)))
 all_goals (apply endQ []; (apply resG_ok ttok; exact rfl); (iterate 4 exact rfl))
 all_goals rfl
theorem br_s [Known] [KnownU8] (k : Int) (n : Nat) (b : List UInt8) (xl : List E) (L : List E) (e : Int) (k0 : Int) (n0 : Nat) (b0 : List UInt8) (l0 : List It) (k1 : Int) (n1 : Nat) (b1 : List UInt8) (l1 : List It) (k2 : Int) (n2 : Nat) (b2 : List UInt8) (l2 : List It) (k3 : Int) (n3 : Nat) (b3 : List UInt8) (l3 : List It) (k4 : Int) (n4 : Nat) (b4 : List UInt8) (l4 : List It) (wk : Int) (wn : Nat) (wb : List UInt8) (wl : List E) (we : Int)
  (hO : AP Tryz.prog 68 [.agg [.int .i64 k, .int .u64 (n : Int), byE b, .sl .ext xl], .int .i64 3] (.tup [.sl .ext L, .int .i64 e]) []) (t1 : (e != 0) = false) (t2 : ((L.length : Int) != 5) = false) (hU : Uni 4 L) (hv0 : L[(0 : Int).toNat]? = some (.agg [.int .i64 k0, .int .u64 (n0 : Int), .sl (b0.map E.byte), .sl (itEs l0)])) (hv1 : L[(1 : Int).toNat]? = some (.agg [.int .i64 k1, .int .u64 (n1 : Int), .sl (b1.map E.byte), .sl (itEs l1)])) (hv2 : L[(2 : Int).toNat]? = some (.agg [.int .i64 k2, .int .u64 (n2 : Int), .sl (b2.map E.byte), .sl (itEs l2)])) (hv3 : L[(3 : Int).toNat]? = some (.agg [.int .i64 k3, .int .u64 (n3 : Int), .sl (b3.map E.byte), .sl (itEs l3)])) (hv4 : L[(4 : Int).toNat]? = some (.agg [.int .i64 k4, .int .u64 (n4 : Int), .sl (b4.map E.byte), .sl (itEs l4)])) (t3 : (k4 != 2) = false)
  (hC : AP Tryz.prog 25 [.sl .ext (b4.map E.byte)] (.sl .ext (b4.map E.byte)) []) (hW : AP Tryz.prog 65 [.agg [.int .u64 (n0 : Int), .int .u64 (n1 : Int), .int .u64 (n2 : Int), .int .i64 (IntKind.i64.wrap (n3 : Int)), .sl .ext (b4.map E.byte)]] (.tup [.agg [.int .i64 wk, .int .u64 (wn : Int), byE wb, .sl .ext wl], .int .i64 we]) []) (hS : AP Tryz.prog 54 [.agg [.int .i64 wk, .int .u64 (wn : Int), byE wb, .sl .ext wl], .agg [.int .i64 k, .int .u64 (n : Int), byE b, .sl .ext xl]] (.bool false) []) (t4 : (we != 0) = false) :
  AP Tryz.prog 40 [.agg [.int .i64 k, .int .u64 (n : Int), byE b, .sl .ext xl]] (.tup [.agg [.int .u64 0, .int .u64 0, .int .u64 0, .int .i64 0, .sl .ext []], .int .i64 3]) [] := by
 refine AP.ofA ?_
 refine AC_of Tryz.func40 rfl Tryz.ntmps40 rfl rfl ?_
 repeat' (first | (apply AL_callPw (hO); kernel_rfl; (iterate 4 exact rfl)) | (apply AL_callPw (hC); kernel_rfl; (iterate 4 exact rfl)) | (apply AL_callPw (hW); kernel_rfl; (iterate 4 exact rfl)) | (apply AL_callPw (hS); kernel_rfl; (iterate 4 exact rfl)) | (apply AL_go ttok; exact rfl) | (apply AW_go ttok; exact rfl) | (apply K_go ttok; exact rfl) | (apply AL_guardT; (iterate 3 exact rfl); (first | with_reducible assumption | decide +kernel)) | (apply AL_pickF; exact rfl; (first | with_reducible assumption | decide +kernel); exact rfl; exact rfl) | (apply AW_condA; exact rfl; (first | with_reducible assumption | decide +kernel)) | (apply AW_condB; exact rfl; (first | with_reducible assumption | decide +kernel)) | (apply AL_len ttok; (iterate 4 exact rfl)) | (apply AW_drawE 24 hmix; (decide +kernel); (kernel_rfl); (kernel_rfl); (kernel_rfl); exact rfl; exact rfl) | (apply AE_consZ; (iterate 4 exact rfl)) | exact AE.nil _ _ _ _ | (apply AEk_puT; exact rfl) | (apply AEk_efT; exact rfl) | (apply AOt_mk; exact rfl; exact rfl; (decide +kernel); exact rfl) | (apply AO_puT; exact rfl) | (apply AO_efT; exact rfl) | exact AO.nil _ _ _ | (apply AOs_skip; (decide +kernel)) | (apply AOs_goZ; (iterate 3 exact rfl)) | exact AOs.nil | exact qY_ok rfl rfl | exact qY_ef rfl rfl | (apply AL_idx ttok; (iterate 6 exact rfl); (first | with_reducible assumption | decide +kernel | exact Int.natCast_nonneg _ | (guard_target = (0:Int) <= (OfNat.ofNat _ : Int); decide) | rotate_left); (first | with_reducible assumption | decide +kernel | exact rfl); (first | exact uniB_ok rfl | with_reducible assumption | decide +kernel | rotate_left)))
 all_goals (apply endQ []; (apply resG_ok ttok; exact rfl); (iterate 4 exact rfl))
 all_goals rfl
end Go.Proofs.YtpodhnaofhfinaaGreatDoor
end
section
open Go.RowKit Go.Pl Go.Av
namespace Go.Proofs.YtpodhnaofhfinaaGreatDoor
set_option maxHeartbeats 4000000
theorem br_y [Known] [KnownU8] (k : Int) (n : Nat) (b : List UInt8) (xl : List E) (L : List E) (e : Int) (k0 : Int) (n0 : Nat) (b0 : List UInt8) (l0 : List It) (k1 : Int) (n1 : Nat) (b1 : List UInt8) (l1 : List It) (k2 : Int) (n2 : Nat) (b2 : List UInt8) (l2 : List It) (k3 : Int) (n3 : Nat) (b3 : List UInt8) (l3 : List It) (k4 : Int) (n4 : Nat) (b4 : List UInt8) (l4 : List It) (wk : Int) (wn : Nat) (wb : List UInt8) (wl : List E) (we : Int)
  (hO : AP Tryz.prog 68 [.agg [.int .i64 k, .int .u64 (n : Int), byE b, .sl .ext xl], .int .i64 3] (.tup [.sl .ext L, .int .i64 e]) []) (t1 : (e != 0) = false) (t2 : ((L.length : Int) != 5) = false) (hU : Uni 4 L) (hv0 : L[(0 : Int).toNat]? = some (.agg [.int .i64 k0, .int .u64 (n0 : Int), .sl (b0.map E.byte), .sl (itEs l0)])) (hv1 : L[(1 : Int).toNat]? = some (.agg [.int .i64 k1, .int .u64 (n1 : Int), .sl (b1.map E.byte), .sl (itEs l1)])) (hv2 : L[(2 : Int).toNat]? = some (.agg [.int .i64 k2, .int .u64 (n2 : Int), .sl (b2.map E.byte), .sl (itEs l2)])) (hv3 : L[(3 : Int).toNat]? = some (.agg [.int .i64 k3, .int .u64 (n3 : Int), .sl (b3.map E.byte), .sl (itEs l3)])) (hv4 : L[(4 : Int).toNat]? = some (.agg [.int .i64 k4, .int .u64 (n4 : Int), .sl (b4.map E.byte), .sl (itEs l4)])) (t3 : (k4 != 2) = false)
  (hC : AP Tryz.prog 25 [.sl .ext (b4.map E.byte)] (.sl .ext (b4.map E.byte)) []) (hW : AP Tryz.prog 65 [.agg [.int .u64 (n0 : Int), .int .u64 (n1 : Int), .int .u64 (n2 : Int), .int .i64 (IntKind.i64.wrap (n3 : Int)), .sl .ext (b4.map E.byte)]] (.tup [.agg [.int .i64 wk, .int .u64 (wn : Int), byE wb, .sl .ext wl], .int .i64 we]) []) (hS : AP Tryz.prog 54 [.agg [.int .i64 wk, .int .u64 (wn : Int), byE wb, .sl .ext wl], .agg [.int .i64 k, .int .u64 (n : Int), byE b, .sl .ext xl]] (.bool true) []) (t4 : (we != 0) = false) :
  AP Tryz.prog 40 [.agg [.int .i64 k, .int .u64 (n : Int), byE b, .sl .ext xl]] (.tup [.agg [.int .u64 (n0 : Int), .int .u64 (n1 : Int), .int .u64 (n2 : Int), .int .i64 (IntKind.i64.wrap (n3 : Int)), .sl .ext (b4.map E.byte)], .int .i64 0]) [] := by
 refine AP.ofA ?_
 refine AC_of Tryz.func40 rfl Tryz.ntmps40 rfl rfl ?_
 repeat' (first | (apply AL_callPw (hO); kernel_rfl; (iterate 4 exact rfl)) | (apply AL_callPw (hC); kernel_rfl; (iterate 4 exact rfl)) | (apply AL_callPw (hW); kernel_rfl; (iterate 4 exact rfl)) | (apply AL_callPw (hS); kernel_rfl; (iterate 4 exact rfl)) | (apply AL_go ttok; exact rfl) | (apply AW_go ttok; exact rfl) | (apply K_go ttok; exact rfl) | (apply AL_guardT; (iterate 3 exact rfl); (first | with_reducible assumption | decide +kernel)) | (apply AL_pickF; exact rfl; (first | with_reducible assumption | decide +kernel); exact rfl; exact rfl) | (apply AW_condB; exact rfl; (first | with_reducible assumption | decide +kernel)) | (apply AL_len ttok; (iterate 4 exact rfl)) | (apply AW_drawE 24 hmix; (decide +kernel); (kernel_rfl); (kernel_rfl); (kernel_rfl); exact rfl; exact rfl) | (apply AE_consZ; (iterate 4 exact rfl)) | exact AE.nil _ _ _ _ | (apply AEk_puT; exact rfl) | (apply AEk_efT; exact rfl) | (apply AOt_mk; exact rfl; exact rfl; (decide +kernel); exact rfl) | (apply AO_puT; exact rfl) | (apply AO_efT; exact rfl) | exact AO.nil _ _ _ | (apply AOs_skip; (decide +kernel)) | (apply AOs_goZ; (iterate 3 exact rfl)) | exact AOs.nil | exact qY_ok rfl rfl | exact qY_ef rfl rfl | (apply AL_idx ttok; (iterate 6 exact rfl); (first | with_reducible assumption | decide +kernel | exact Int.natCast_nonneg _ | (guard_target = (0:Int) <= (OfNat.ofNat _ : Int); decide) | rotate_left); (first | with_reducible assumption | decide +kernel | exact rfl); (first | exact uniB_ok rfl | with_reducible assumption | decide +kernel | rotate_left)))
 all_goals (apply endQ []; (apply resG_ok ttok; exact rfl); (iterate 4 exact rfl))
 all_goals rfl
end Go.Proofs.YtpodhnaofhfinaaGreatDoor
end
section
open Go.RowKit Go.Pl Go.Av
namespace Go.Proofs.YtpodhnaofhfinaaGreatDoor
set_option maxHeartbeats 4000000
theorem av_bRead [Known] [KnownU8] (x : It) (hw : wfI x) (hxl : x.l.length <= 1000000) (hlim : ∀ s m, s = 1 \/ s = 2 -> (putI (zeroL s (x.l.take m))).length <= 1000000000) (hb : ∀ y ∈ x.l, y.b.length <= 3000) : AP Tryz.prog 40 [itD x] (blkD (readB x)) [] := by
 have hO := av_open x 3 hw hxl hlim
 have hsub := open_sub x 3
 have hws : wfs x.l := by obtain ⟨k, n, b, l⟩ := x; exact hw.2.2.2
 unfold readB
 generalize openV x 3 = o at *
 obtain ⟨ol, oe⟩ := o
 have hlen := itEs_len ol
 have hUo := uniI ol
 dsimp only at hsub
 have hSame := fun (B : BlkV) (h1 : B.fl < 18446744073709551616) (h2 : B.data.length <= 3000) => av_same (writeB B).1 (wf_write h1 h2) x hw
 obtain ⟨k, n, b, l⟩ := x
 dsimp only [It.l] at *
 unfold readX
 dsimp only
 replace hO : AP Tryz.prog 68 [.agg [.int .i64 k, .int .u64 (n : Int), byE b, .sl .ext (itEs l)], .int .i64 3] (.tup [.sl .ext (itEs ol), .int .i64 oe]) [] := hO
 cases t1 : (oe != 0) with
 | true => exact br_e k n b _ _ oe hO t1
 | false =>
 have hno : ol.length ≠ 5 -> AP Tryz.prog 40 [itD (.mk k n b l)] (blkD (bk0, 3)) [] := fun h => br_l k n b _ _ oe hO t1 (by rw [hlen]; simp; omega)
 match ol, hO, hsub, hlen, hUo, hno with
 | [], _, _, _, _, h => exact h (by simp)
 | [.mk _ _ _ _], _, _, _, _, h => exact h (by simp)
 | [.mk _ _ _ _, .mk _ _ _ _], _, _, _, _, h => exact h (by simp)
 | [.mk _ _ _ _, .mk _ _ _ _, .mk _ _ _ _], _, _, _, _, h => exact h (by simp)
 | [.mk _ _ _ _, .mk _ _ _ _, .mk _ _ _ _, .mk _ _ _ _], _, _, _, _, h => exact h (by simp)
 | .mk _ _ _ _ :: .mk _ _ _ _ :: .mk _ _ _ _ :: .mk _ _ _ _ :: .mk _ _ _ _ :: _ :: _, _, _, _, _, h => exact h (by simp)
 | [.mk k0 n0 b0 l0, .mk k1 n1 b1 l1, .mk k2 n2 b2 l2, .mk k3 n3 b3 l3, .mk k4 n4 b4 l4], hO, hsub, hlen, hUo, _ =>
 have t2 : (((itEs [It.mk k0 n0 b0 l0, .mk k1 n1 b1 l1, .mk k2 n2 b2 l2, .mk k3 n3 b3 l3, .mk k4 n4 b4 l4]).length : Int) != 5) = false := by rw [hlen]; rfl
 dsimp only
 cases t3 : (k4 != 2) with
 | true => exact br_k k n b _ _ oe k4 n4 b4 l4 hO t1 t2 hUo rfl t3
 | false =>
 have hw2 : n2 < 18446744073709551616 := (wfs_mem hws (.mk k2 n2 b2 l2) (hsub _ (by simp))).1
 have hb4 : b4.length <= 3000 := hb (.mk k4 n4 b4 l4) (hsub _ (by simp))
 have hC := av_cloneB b4 (by omega)
 have hW := av_bWrite ⟨n0, n1, n2, IntKind.i64.wrap (n3 : Int), b4⟩ hw2 hb4
 have hS := hSame ⟨n0, n1, n2, IntKind.i64.wrap (n3 : Int), b4⟩ hw2 hb4
 clear hSame
 dsimp only
 generalize writeB ⟨n0, n1, n2, IntKind.i64.wrap (n3 : Int), b4⟩ = r at *
 obtain ⟨⟨wk, wn, wb, wl⟩, we⟩ := r
 dsimp only at *
 cases t4 : (we != 0) with
 | true => exact br_w k n b _ _ oe k0 n0 b0 l0 k1 n1 b1 l1 k2 n2 b2 l2 k3 n3 b3 l3 k4 n4 b4 l4 wk wn wb _ we hO t1 t2 hUo rfl rfl rfl rfl rfl t3 hC hW t4
 | false =>
 dsimp only
 cases t5 : It.beq (.mk wk wn wb wl) (.mk k n b l) with
 | false =>
  rw [t5] at hS
  exact br_s k n b _ _ oe k0 n0 b0 l0 k1 n1 b1 l1 k2 n2 b2 l2 k3 n3 b3 l3 k4 n4 b4 l4 wk wn wb _ we hO t1 t2 hUo rfl rfl rfl rfl rfl t3 hC hW hS t4
 | true =>
  rw [t5] at hS
  exact br_y k n b _ _ oe k0 n0 b0 l0 k1 n1 b1 l1 k2 n2 b2 l2 k3 n3 b3 l3 k4 n4 b4 l4 wk wn wb _ we hO t1 t2 hUo rfl rfl rfl rfl rfl t3 hC hW hS t4
end Go.Proofs.YtpodhnaofhfinaaGreatDoor
end
section
open Go.RowKit Go.Pl Go.Av
namespace Go.Proofs.YtpodhnaofhfinaaGreatDoor
set_option maxHeartbeats 4000000
end Go.Proofs.YtpodhnaofhfinaaGreatDoor
end
section
open Go.RowKit Go.Pl Go.Av
namespace Go.Proofs.YtpodhnaofhfinaaGreatDoor
end Go.Proofs.YtpodhnaofhfinaaGreatDoor
end
section
open Go.RowKit Go.Pl Go.Av
namespace Go.Proofs.YtpodhnaofhfinaaGreatDoor
theorem beq_self (x : It) : It.beq x x = true := It.beq_iff.2 rfl
theorem typeV_app {l r : List It} {a : Int} (h : typeV l a ≥ 0) : typeV (l ++ r) a = typeV l a := by
 rcases typeV_cases l a with e | ⟨_, h0, h1⟩
 ·omega
 ·unfold typeV
  rw [List.getElem?_append_left (by omega)]
theorem seal_open {l : List It} {a : Int} {x : It} (h : sealV l a = (x, 0)) : openV x a = (l, 0) := by
 unfold sealV at h
 cases d0 : (decide (a < 0) || decide (a ≥ (l.length : Int))) with
 | true => rw [d0] at h; simp at h
 | false =>
 rw [d0] at h
 cases d1 : (l.all rightI && decide (typeV l a ≥ 0)) with
 | false => rw [d1] at h; simp at h
 | true =>
 rw [d1] at h
 rw [Bool.and_eq_true, decide_eq_true_eq] at d1
 obtain ⟨_, d1⟩ := d1
 rw [Bool.or_eq_false_iff, decide_eq_false_iff_not, decide_eq_false_iff_not] at d0
 dsimp only at h
 cases d2 : decide (typeV l a > 0) with
 | false =>
  rw [d2] at h
  dsimp only at h
  cases hr : rightI (.mk 4 0 [] l) with
  | false => rw [hr] at h; simp at h
  | true =>
   rw [hr] at h
   simp only [Prod.mk.injEq, and_true] at h
   subst h
   have e : typeV l a = 0 := by have := of_decide_eq_false d2; omega
   unfold openV
   dsimp only
   rw [hr, e]
   rfl
 | true =>
  rw [d2] at h
  dsimp only at h
  have hs : (typeV l a).toNat = 1 \/ (typeV l a).toNat = 2 := by
   rcases typeV_cases l a with e | ⟨e, _⟩
   ·omega
   ·have := of_decide_eq_true d2; omega
  cases hz : rightI (zeroL (typeV l a).toNat l) with
  | false => rw [hz] at h; simp at h
  | true =>
   rw [hz] at h
   dsimp only at h
   cases hr : rightI (outL (typeV l a).toNat l) with
   | false => rw [hr] at h; simp at h
   | true =>
    rw [hr] at h
    simp only [Prod.mk.injEq, and_true] at h
    subst h
    have hlen := sumB_len (typeV l a).toNat (putI (zeroL (typeV l a).toNat l)) hs
    unfold outL at hr ⊢
    unfold openV
    dsimp only
    rw [hr, typeV_app d1]
    have e1 : decide (typeV l a < 0) = false := decide_eq_false (by omega)
    have e2 : (typeV l a == 0) = false := by rw [beq_eq_false_iff_ne]; have := of_decide_eq_true d2; omega
    rw [e1, e2]
    have e3 : (l ++ [It.mk 2 0 (sumB (typeV l a).toNat (putI (zeroL (typeV l a).toNat l))) []]).length - 1 = l.length := by simp
    rw [e3]
    have e4 : (l ++ [It.mk 2 0 (sumB (typeV l a).toNat (putI (zeroL (typeV l a).toNat l))) []])[l.length]? = some (It.mk 2 0 (sumB (typeV l a).toNat (putI (zeroL (typeV l a).toNat l))) []) := by simp
    have e5 : (l ++ [It.mk 2 0 (sumB (typeV l a).toNat (putI (zeroL (typeV l a).toNat l))) []]).take l.length = l := by simp
    rw [e4, e5]
    dsimp only
    have e6 : decide (((l.length : Nat) : Int) <= a) = false := decide_eq_false (by omega)
    rw [e6, beq_self, hlen, hz]
    simp
theorem bk_write_read {b : BlkV} (hs : b.sum = IntKind.i64.wrap ((b.sum.toNat : Nat) : Int)) {x : It} (h : writeB b = (x, 0)) : readB x = (b, 0) := by
 have hr : bkRight b = true := by
  unfold writeB at h
  cases hr : bkRight b with
  | true => rfl
  | false => rw [hr] at h; simp at h
 have h2 := h
 unfold writeB at h2
 rw [hr] at h2
 have ho := seal_open h2
 unfold readB
 rw [ho]
 unfold readX listB
 dsimp only
 have e : (⟨b.ty, b.num, b.fl, IntKind.i64.wrap ((b.sum.toNat : Nat) : Int), b.data⟩ : BlkV) = b := by rw [<- hs]
 rw [e, h]
 simp [beq_self]
theorem num_right (n : Nat) : rightI (.mk 0 n [] []) = true := by simp [rightI, walkI, ownI, walks]
theorem hop_right (n m : Nat) : rightI (hopI n m) = true := by simp [rightI, walkI, ownI, walks]
theorem put_small (k : Int) (n : Nat) (b : List UInt8) (l : List It) : (putI (.mk k n b l)).length <= 9 + (b.length + (puts l).length) := by
 rw [putI, List.length_append, List.length_append]
 split
 ·rename_i h
  have h1 := writeL_le h rfl
  have h2 : followN (It.mk k n b l).hn <= 8 := by
   unfold followN
   repeat' split
   all_goals omega
  dsimp only at h1
  omega
 ·simp
theorem num_len (n : Nat) : (putI (.mk 0 n [] [])).length <= 9 := by
 have := put_small 0 n [] []
 simpa [puts] using this
theorem hop_len (n m : Nat) : (putI (hopI n m)).length <= 27 := by
 have h0 := put_small 4 0 [] [.mk 0 n [] [], .mk 0 m [] []]
 have h1 := num_len n
 have h2 := num_len m
 simp only [puts, List.length_append, List.length_nil, Nat.add_zero, Nat.zero_add] at h0
 have e : hopI n m = .mk 4 0 [] [.mk 0 n [] [], .mk 0 m [] []] := rfl
 rw [e]
 omega
theorem seal_cases {l : List It} {a : Int} {x : It} (h : sealV l a = (x, 0)) : x = .mk 4 0 [] l \/ ∃ s, (s = 1 \/ s = 2) /\ x = outL s l := by
 unfold sealV at h
 cases d0 : (decide (a < 0) || decide (a ≥ (l.length : Int))) with
 | true => rw [d0] at h; simp at h
 | false =>
 rw [d0] at h
 cases d1 : (l.all rightI && decide (typeV l a ≥ 0)) with
 | false => rw [d1] at h; simp at h
 | true =>
 rw [d1] at h
 dsimp only at h
 cases d2 : decide (typeV l a > 0) with
 | false =>
  rw [d2] at h
  dsimp only at h
  cases hr : rightI (.mk 4 0 [] l) with
  | false => rw [hr] at h; simp at h
  | true =>
   rw [hr] at h
   simp only [Prod.mk.injEq, and_true] at h
   exact .inl h.symm
 | true =>
  rw [d2] at h
  dsimp only at h
  have hs : (typeV l a).toNat = 1 \/ (typeV l a).toNat = 2 := by
   rcases typeV_cases l a with e | ⟨e, _⟩
   ·have := of_decide_eq_true d2; omega
   ·have := of_decide_eq_true d2; omega
  cases hz : rightI (zeroL (typeV l a).toNat l) with
  | false => rw [hz] at h; simp at h
  | true =>
   rw [hz] at h
   dsimp only at h
   cases hr : rightI (outL (typeV l a).toNat l) with
   | false => rw [hr] at h; simp at h
   | true =>
    rw [hr] at h
    simp only [Prod.mk.injEq, and_true] at h
    exact .inr ⟨_, hs, h.symm⟩
theorem right_of_write {b : BlkV} {x : It} (h : writeB b = (x, 0)) : bkRight b = true /\ sealV (listB b) 3 = (x, 0) := by
 unfold writeB at h
 cases hr : bkRight b with
 | true => rw [hr] at h; exact ⟨rfl, h⟩
 | false => rw [hr] at h; simp at h
end Go.Proofs.YtpodhnaofhfinaaGreatDoor
end
section
open Go.RowKit Go.Pl Go.Av
namespace Go.Proofs.YtpodhnaofhfinaaGreatDoor
set_option maxHeartbeats 4000000
abbrev readZ (y : It) : EidV := match (readV y).2 with | true => (readV y).1 | false => eidZ
def readNm (y p r x : It) : Bool := match (readV y).2, iRight (readZ y) p.n r.n with
 | true, true => It.beq (itemN (readZ y) p.n r.n) x
 | _, _ => false
abbrev resN (x : EidV) (t q : Nat) (b : Bool) : D := .tup [.agg (iC (match b with | true => x | false => eidZ) (match b with | true => t | false => 0) (match b with | true => q | false => 0)), .int .i64 (match b with | true => 0 | false => 3)]
def noForm : It -> Bool
 | .mk k _ _ [_, .mk k2 _ _ [_, _]] => !(k == 4 && k2 == 4)
 | _ => true
theorem av_iReadNo [Known] [KnownU8] (x : It) (h : noForm x = true) : AP Tryz.prog 43 [itD x] (resN eidZ 0 0 false) [] := by
 show AP Tryz.prog _ _ (.tup [.agg [.bool false, .int .u64 0, .int .u64 0, .str [], .str [], .int .u64 0, .int .u64 0], .int .i64 3]) []
 obtain ⟨k, n, b, l⟩ := x
 by_cases hk : k = 4
 ·have t1 : (k != 4) = false := by simpa using hk
  by_cases hl : l.length = 2
  ·obtain ⟨y, z, rfl⟩ : ∃ y z, l = [y, z] := by
    match l, hl with
    | [y, z], _ => exact ⟨y, z, rfl⟩
   have t2 : (((itEs [y, z]).length : Int) != 2) = false := rfl
   have hU := uniI [y, z]
   obtain ⟨ky, ny, bY, ly⟩ := y
   obtain ⟨kz, nz, bz, lz⟩ := z
   by_cases hk2 : kz = 4
   ·have t3 : (kz != 4) = false := by simpa using hk2
    have hl2 : lz.length ≠ 2 := by
     intro e
     match lz, e with
     | [p, r], _ => simp [noForm, hk, hk2] at h
    have t4 : (((itEs lz).length : Int) != 2) = true := by rw [itEs_len]; simp; omega
    refine AP.ofA ?_
    refine AC_of Tryz.func43 rfl Tryz.ntmps43 rfl rfl ?_
    repeat' (first | (apply AL_go ttok; exact rfl) | (apply AW_go ttok; exact rfl) | (apply K_go ttok; exact rfl) | (apply AL_guardT; (iterate 3 exact rfl); (first | with_reducible assumption | decide +kernel)) | (apply AL_pickF; exact rfl; (first | with_reducible assumption | decide +kernel); exact rfl; exact rfl) | (apply AW_condA; exact rfl; (first | with_reducible assumption | decide +kernel)) | (apply AL_len ttok; (iterate 4 exact rfl)) | (apply AL_idx ttok; (iterate 6 exact rfl); (first | with_reducible assumption | decide +kernel | exact Int.natCast_nonneg _ | (guard_target = (0:Int) <= (OfNat.ofNat _ : Int); decide) | rotate_left); (first | with_reducible assumption | decide +kernel | exact rfl); (first | exact uniB_ok rfl | with_reducible assumption | decide +kernel | rotate_left)))
    all_goals (apply endQ []; (apply resG_ok ttok; exact rfl); (iterate 4 exact rfl))
    all_goals rfl
   ·have t3 : (kz != 4) = true := by simpa using hk2
    refine AP.ofA ?_
    refine AC_of Tryz.func43 rfl Tryz.ntmps43 rfl rfl ?_
    repeat' (first | (apply AL_go ttok; exact rfl) | (apply AW_go ttok; exact rfl) | (apply K_go ttok; exact rfl) | (apply AL_guardT; (iterate 3 exact rfl); (first | with_reducible assumption | decide +kernel)) | (apply AL_guardFf; (iterate 3 exact rfl); (first | with_reducible assumption | decide +kernel)) | (apply AL_pickT; exact rfl; (first | with_reducible assumption | decide +kernel); exact rfl; exact rfl) | (apply AL_pickF; exact rfl; (first | with_reducible assumption | decide +kernel); exact rfl; exact rfl) | (apply AW_condA; exact rfl; (first | with_reducible assumption | decide +kernel)) | (apply AL_len ttok; (iterate 4 exact rfl)) | (apply AL_idx ttok; (iterate 6 exact rfl); (first | with_reducible assumption | decide +kernel | exact Int.natCast_nonneg _ | (guard_target = (0:Int) <= (OfNat.ofNat _ : Int); decide) | rotate_left); (first | with_reducible assumption | decide +kernel | exact rfl); (first | exact uniB_ok rfl | with_reducible assumption | decide +kernel | rotate_left)))
    all_goals (apply endQ []; (apply resG_ok ttok; exact rfl); (iterate 4 exact rfl))
    all_goals rfl
  ·have t2 : (((itEs l).length : Int) != 2) = true := by rw [itEs_len]; simp; omega
   refine AP.ofA ?_
   refine AC_of Tryz.func43 rfl Tryz.ntmps43 rfl rfl ?_
   repeat' (first | (apply AL_go ttok; exact rfl) | (apply AW_go ttok; exact rfl) | (apply K_go ttok; exact rfl) | (apply AL_guardT; (iterate 3 exact rfl); (first | with_reducible assumption | decide +kernel)) | (apply AL_guardFf; (iterate 3 exact rfl); (first | with_reducible assumption | decide +kernel)) | (apply AL_pickT; exact rfl; (first | with_reducible assumption | decide +kernel); exact rfl; exact rfl) | (apply AL_pickF; exact rfl; (first | with_reducible assumption | decide +kernel); exact rfl; exact rfl) | (apply AW_condA; exact rfl; (first | with_reducible assumption | decide +kernel)) | (apply AL_len ttok; (iterate 4 exact rfl)))
   all_goals (apply endQ []; (apply resG_ok ttok; exact rfl); (iterate 4 exact rfl))
   all_goals rfl
 ·have t1 : (k != 4) = true := by simpa using hk
  refine AP.ofA ?_
  refine AC_of Tryz.func43 rfl Tryz.ntmps43 rfl rfl ?_
  repeat' (first | (apply AL_go ttok; exact rfl) | (apply AW_go ttok; exact rfl) | (apply K_go ttok; exact rfl) | (apply AL_guardFf; (iterate 3 exact rfl); (first | with_reducible assumption | decide +kernel)) | (apply AL_pickT; exact rfl; (first | with_reducible assumption | decide +kernel); exact rfl; exact rfl) | (apply AW_condA; exact rfl; (first | with_reducible assumption | decide +kernel)))
  all_goals (apply endQ []; (apply resG_ok ttok; exact rfl); (iterate 4 exact rfl))
  all_goals rfl
end Go.Proofs.YtpodhnaofhfinaaGreatDoor
end
