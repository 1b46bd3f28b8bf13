/- Package canon: which blocks may be. -/
import Derived.Test.YtihkbilhgbmbhaaDoorG32
import Derived.Test.YtihkbilhgbmbhaaDoorG23
set_option linter.unusedVariables false
set_option linter.unusedSimpArgs false
section
open Go.RowKit Go.Pl Go.Av
namespace Go.Proofs.YtihkbilhgbmbhaaDoor
set_option maxHeartbeats 4000000
def dataK (kind : Nat) (d : List UInt8) : Bool := match ((kind : Int) == 6) with
 | true => (prevV d).2
 | false => match ((kind : Int) == 7) with
  | true => (ageV d).2
  | false => match ((kind : Int) == 10) with
   | true => (hopsV d).2.2
   | false => true
def dataV (kind : Nat) (d : List UInt8) : Bool := dataK kind d && decide ((d.length : Int) <= 200)
theorem av_isData [Known] [KnownU8] (kind : Nat) (d : List UInt8) (hd : d.length <= 100000) : AP Tryd.prog 64 [.int .u64 (kind : Int), byE d] (.bool (dataV kind d)) [] := by
 have hP := av_previous d hd
 have hA := av_age d hd
 have hH := av_hops d hd
 have hdl : (d.map E.byte).length = d.length := List.length_map ..
 unfold dataV dataK
 rw [<- hdl]
 generalize (prevV d).1 = pz at *
 obtain ⟨zi, zn, zs, zh, zd⟩ := pz
 generalize (prevV d).2 = p1 at *
 generalize (ageV d).1 = a0 at *
 generalize (ageV d).2 = a1 at *
 generalize (hopsV d).1 = h0 at *
 generalize (hopsV d).2.1 = h1 at *
 generalize (hopsV d).2.2 = h2 at *
 cases t1 : ((kind : Int) == 6) with
 | true =>
  cases p1
  all_goals
   refine AP.ofA ?_
   refine AC_of Tryd.func64 rfl Tryd.ntmps64 rfl rfl ?_
   repeat' (first | (apply AL_callPw (hP); kernel_rfl; (iterate 4 exact rfl)) | (apply AL_move; exact rfl; exact rfl) | (apply AL_assign; exact rfl; exact rfl) | (apply AL_bin; (iterate 5 exact rfl)) | (apply AL_extract; (iterate 3 exact rfl)) | refine AL_nil ?_ | (apply AL_guardT; (iterate 3 exact rfl); (first | with_reducible assumption | decide +kernel)) | (apply AL_guardFt; (iterate 3 exact rfl); (first | with_reducible assumption | decide +kernel)) | (apply AL_pickT; exact rfl; (first | with_reducible assumption | decide +kernel); exact rfl; exact rfl) | (apply AL_pickF; exact rfl; (first | with_reducible assumption | decide +kernel); exact rfl; exact rfl) | refine AW_region ?_ | refine AW_seq' ?_ | (apply AW_condA; exact rfl; (first | with_reducible assumption | decide +kernel)) | refine then_norm ?_ | refine AW_block ?_ | refine AW_ret ?_ | (apply AL_len ttok; (iterate 4 exact rfl)))
   all_goals (apply endQ []; (repeat (first | exact ResL.nil | (apply ResL.cons; first | exact .tmp _ _ rfl | (apply res_n ttok; (iterate 6 exact rfl)) | (apply res_1 ttok; (iterate 5 exact rfl))))); (iterate 4 exact rfl))
   all_goals rfl
 | false =>
 cases t2 : ((kind : Int) == 7) with
 | true =>
  cases a1
  all_goals
   refine AP.ofA ?_
   refine AC_of Tryd.func64 rfl Tryd.ntmps64 rfl rfl ?_
   repeat' (first | (apply AL_callPw (hA); kernel_rfl; (iterate 4 exact rfl)) | (apply AL_move; exact rfl; exact rfl) | (apply AL_assign; exact rfl; exact rfl) | (apply AL_bin; (iterate 5 exact rfl)) | (apply AL_extract; (iterate 3 exact rfl)) | refine AL_nil ?_ | (apply AL_guardT; (iterate 3 exact rfl); (first | with_reducible assumption | decide +kernel)) | (apply AL_guardFt; (iterate 3 exact rfl); (first | with_reducible assumption | decide +kernel)) | (apply AL_pickT; exact rfl; (first | with_reducible assumption | decide +kernel); exact rfl; exact rfl) | (apply AL_pickF; exact rfl; (first | with_reducible assumption | decide +kernel); exact rfl; exact rfl) | refine AW_region ?_ | refine AW_seq' ?_ | (apply AW_condA; exact rfl; (first | with_reducible assumption | decide +kernel)) | (apply AW_condB; exact rfl; (first | with_reducible assumption | decide +kernel)) | refine then_norm ?_ | refine AW_block ?_ | refine AW_ret ?_ | (apply AL_len ttok; (iterate 4 exact rfl)))
   all_goals (apply endQ []; (repeat (first | exact ResL.nil | (apply ResL.cons; first | exact .tmp _ _ rfl | (apply res_n ttok; (iterate 6 exact rfl)) | (apply res_1 ttok; (iterate 5 exact rfl))))); (iterate 4 exact rfl))
   all_goals rfl
 | false =>
 cases t3 : ((kind : Int) == 10) with
 | true =>
  cases h2
  all_goals
   refine AP.ofA ?_
   refine AC_of Tryd.func64 rfl Tryd.ntmps64 rfl rfl ?_
   repeat' (first | (apply AL_callPw (hH); kernel_rfl; (iterate 4 exact rfl)) | (apply AL_move; exact rfl; exact rfl) | (apply AL_assign; exact rfl; exact rfl) | (apply AL_bin; (iterate 5 exact rfl)) | (apply AL_extract; (iterate 3 exact rfl)) | refine AL_nil ?_ | (apply AL_guardT; (iterate 3 exact rfl); (first | with_reducible assumption | decide +kernel)) | (apply AL_guardFt; (iterate 3 exact rfl); (first | with_reducible assumption | decide +kernel)) | (apply AL_pickT; exact rfl; (first | with_reducible assumption | decide +kernel); exact rfl; exact rfl) | (apply AL_pickF; exact rfl; (first | with_reducible assumption | decide +kernel); exact rfl; exact rfl) | refine AW_region ?_ | refine AW_seq' ?_ | (apply AW_condA; exact rfl; (first | with_reducible assumption | decide +kernel)) | (apply AW_condB; exact rfl; (first | with_reducible assumption | decide +kernel)) | refine then_norm ?_ | refine AW_block ?_ | refine AW_ret ?_ | (apply AL_len ttok; (iterate 4 exact rfl)))
   all_goals (apply endQ []; (repeat (first | exact ResL.nil | (apply ResL.cons; first | exact .tmp _ _ rfl | (apply res_n ttok; (iterate 6 exact rfl)) | (apply res_1 ttok; (iterate 5 exact rfl))))); (iterate 4 exact rfl))
   all_goals rfl
 | false =>
  refine AP.ofA ?_
  refine AC_of Tryd.func64 rfl Tryd.ntmps64 rfl rfl ?_
  repeat' (first | (apply AL_move; exact rfl; exact rfl) | (apply AL_assign; exact rfl; exact rfl) | (apply AL_bin; (iterate 5 exact rfl)) | refine AL_nil ?_ | (apply AL_guardT; (iterate 3 exact rfl); (first | with_reducible assumption | decide +kernel)) | (apply AL_pickT; exact rfl; (first | with_reducible assumption | decide +kernel); exact rfl; exact rfl) | refine AW_region ?_ | refine AW_seq' ?_ | (apply AW_condB; exact rfl; (first | with_reducible assumption | decide +kernel)) | refine then_norm ?_ | refine AW_block ?_ | refine AW_ret ?_ | (apply AL_len ttok; (iterate 4 exact rfl)) | refine AW_skip ?_)
  all_goals (apply endQ []; (repeat (first | exact ResL.nil | (apply ResL.cons; first | exact .tmp _ _ rfl | (apply res_n ttok; (iterate 6 exact rfl)) | (apply res_1 ttok; (iterate 5 exact rfl))))); (iterate 4 exact rfl))
  all_goals rfl
def bkRight (b : BlkV) : Bool := !(badN b.ty || badN b.num) && ((bits .andNot .u64 (b.fl : Int) 23 == 0) && (decide (b.sum ≥ 0) && (decide (b.sum <= 2) && dataV b.ty b.data)))
theorem av_bRight [Known] [KnownU8] (b : BlkV) (hd : b.data.length <= 100000) : AP Tryd.prog 29 [.agg (bkC b)] (.bool (bkRight b)) [] := by
 have hW := av_within2 b.ty b.num
 have hD := av_isData b.ty b.data hd
 obtain ⟨ty, num, fl, sum, data⟩ := b
 unfold bkRight
 dsimp only at hW hD ⊢
 generalize dataV ty data = dv at *
 cases hb1 : (badN ty || badN num) with
 | true =>
  rw [hb1] at hW
  replace hW : AP Tryd.prog _ _ (.bool false) [] := hW
  refine AP.ofA ?_
  refine AC_of Tryd.func29 rfl Tryd.ntmps29 rfl rfl ?_
  repeat' (first | (apply AL_callPw (hW); kernel_rfl; (iterate 4 exact rfl)) | (apply AL_move; exact rfl; exact rfl) | (apply AL_assign; exact rfl; exact rfl) | (apply AL_load1 ttok; (iterate 6 exact rfl)) | (apply AL_fieldAddr ttok; (iterate 7 exact rfl)) | (apply AL_boxZ; (iterate 5 exact rfl)) | refine AL_nil ?_ | (apply AL_guardFt; (iterate 3 exact rfl); (first | with_reducible assumption | decide +kernel)) | (apply AL_pickF; exact rfl; (first | with_reducible assumption | decide +kernel); exact rfl; exact rfl) | refine AW_region ?_ | refine AW_seq' ?_ | refine then_norm ?_ | refine AW_ret ?_ | (apply AL_bsZ ttok; (iterate 12 exact rfl)))
  all_goals (apply endQ []; (repeat (first | exact ResL.nil | (apply ResL.cons; first | exact .tmp _ _ rfl | (apply res_n ttok; (iterate 6 exact rfl)) | (apply res_1 ttok; (iterate 5 exact rfl))))); (iterate 4 exact rfl))
  all_goals rfl
 | false =>
 rw [hb1] at hW
 replace hW : AP Tryd.prog _ _ (.bool true) [] := hW
 cases t1 : (bits .andNot .u64 (fl : Int) 23 == 0) with
 | false =>
  refine AP.ofA ?_
  refine AC_of Tryd.func29 rfl Tryd.ntmps29 rfl rfl ?_
  repeat' (first | (apply AL_callPw (hW); kernel_rfl; (iterate 4 exact rfl)) | (apply AL_move; exact rfl; exact rfl) | (apply AL_assign; exact rfl; exact rfl) | (apply AL_bin; (iterate 5 exact rfl)) | (apply AL_load1 ttok; (iterate 6 exact rfl)) | (apply AL_fieldAddr ttok; (iterate 7 exact rfl)) | (apply AL_boxZ; (iterate 5 exact rfl)) | refine AL_nil ?_ | (apply AL_guardT; (iterate 3 exact rfl); (first | with_reducible assumption | decide +kernel)) | (apply AL_guardFt; (iterate 3 exact rfl); (first | with_reducible assumption | decide +kernel)) | (apply AL_pickT; exact rfl; (first | with_reducible assumption | decide +kernel); exact rfl; exact rfl) | (apply AL_pickF; exact rfl; (first | with_reducible assumption | decide +kernel); exact rfl; exact rfl) | refine AW_region ?_ | refine AW_seq' ?_ | refine then_norm ?_ | refine AW_ret ?_ | (apply AL_bsZ ttok; (iterate 12 exact rfl)))
  all_goals (apply endQ []; (repeat (first | exact ResL.nil | (apply ResL.cons; first | exact .tmp _ _ rfl | (apply res_n ttok; (iterate 6 exact rfl)) | (apply res_1 ttok; (iterate 5 exact rfl))))); (iterate 4 exact rfl))
  all_goals rfl
 | true =>
 cases t2 : decide (sum ≥ 0) with
 | false =>
  refine AP.ofA ?_
  refine AC_of Tryd.func29 rfl Tryd.ntmps29 rfl rfl ?_
  repeat' (first | (apply AL_callPw (hW); kernel_rfl; (iterate 4 exact rfl)) | (apply AL_move; exact rfl; exact rfl) | (apply AL_assign; exact rfl; exact rfl) | (apply AL_bin; (iterate 5 exact rfl)) | (apply AL_load1 ttok; (iterate 6 exact rfl)) | (apply AL_fieldAddr ttok; (iterate 7 exact rfl)) | (apply AL_boxZ; (iterate 5 exact rfl)) | refine AL_nil ?_ | (apply AL_guardT; (iterate 3 exact rfl); (first | with_reducible assumption | decide +kernel)) | (apply AL_guardFt; (iterate 3 exact rfl); (first | with_reducible assumption | decide +kernel)) | (apply AL_pickT; exact rfl; (first | with_reducible assumption | decide +kernel); exact rfl; exact rfl) | (apply AL_pickF; exact rfl; (first | with_reducible assumption | decide +kernel); exact rfl; exact rfl) | refine AW_region ?_ | refine AW_seq' ?_ | refine then_norm ?_ | refine AW_ret ?_ | (apply AL_bsZ ttok; (iterate 12 exact rfl)))
  all_goals (apply endQ []; (repeat (first | exact ResL.nil | (apply ResL.cons; first | exact .tmp _ _ rfl | (apply res_n ttok; (iterate 6 exact rfl)) | (apply res_1 ttok; (iterate 5 exact rfl))))); (iterate 4 exact rfl))
  all_goals rfl
 | true =>
 cases t3 : decide (sum <= 2) with
 | false =>
  refine AP.ofA ?_
  refine AC_of Tryd.func29 rfl Tryd.ntmps29 rfl rfl ?_
  repeat' (first | (apply AL_callPw (hW); kernel_rfl; (iterate 4 exact rfl)) | (apply AL_move; exact rfl; exact rfl) | (apply AL_assign; exact rfl; exact rfl) | (apply AL_bin; (iterate 5 exact rfl)) | (apply AL_load1 ttok; (iterate 6 exact rfl)) | (apply AL_fieldAddr ttok; (iterate 7 exact rfl)) | (apply AL_boxZ; (iterate 5 exact rfl)) | refine AL_nil ?_ | (apply AL_guardT; (iterate 3 exact rfl); (first | with_reducible assumption | decide +kernel)) | (apply AL_guardFt; (iterate 3 exact rfl); (first | with_reducible assumption | decide +kernel)) | (apply AL_pickT; exact rfl; (first | with_reducible assumption | decide +kernel); exact rfl; exact rfl) | (apply AL_pickF; exact rfl; (first | with_reducible assumption | decide +kernel); exact rfl; exact rfl) | refine AW_region ?_ | refine AW_seq' ?_ | refine then_norm ?_ | refine AW_ret ?_ | (apply AL_bsZ ttok; (iterate 12 exact rfl)))
  all_goals (apply endQ []; (repeat (first | exact ResL.nil | (apply ResL.cons; first | exact .tmp _ _ rfl | (apply res_n ttok; (iterate 6 exact rfl)) | (apply res_1 ttok; (iterate 5 exact rfl))))); (iterate 4 exact rfl))
  all_goals rfl
 | true =>
  refine AP.ofA ?_
  refine AC_of Tryd.func29 rfl Tryd.ntmps29 rfl rfl ?_
  repeat' (first | (apply AL_callPw (hW); kernel_rfl; (iterate 4 exact rfl)) | (apply AL_callPw (hD); kernel_rfl; (iterate 4 exact rfl)) | (apply AL_move; exact rfl; exact rfl) | (apply AL_assign; exact rfl; exact rfl) | (apply AL_bin; (iterate 5 exact rfl)) | (apply AL_load1 ttok; (iterate 6 exact rfl)) | (apply AL_fieldAddr ttok; (iterate 7 exact rfl)) | (apply AL_boxZ; (iterate 5 exact rfl)) | refine AL_nil ?_ | (apply AL_guardT; (iterate 3 exact rfl); (first | with_reducible assumption | decide +kernel)) | (apply AL_pickT; exact rfl; (first | with_reducible assumption | decide +kernel); exact rfl; exact rfl) | refine AW_region ?_ | refine AW_seq' ?_ | refine then_norm ?_ | refine AW_ret ?_ | (apply AL_bsZ ttok; (iterate 12 exact rfl)))
  all_goals (apply endQ []; (repeat (first | exact ResL.nil | (apply ResL.cons; first | exact .tmp _ _ rfl | (apply res_n ttok; (iterate 6 exact rfl)) | (apply res_1 ttok; (iterate 5 exact rfl))))); (iterate 4 exact rfl))
  all_goals rfl

end Go.Proofs.YtihkbilhgbmbhaaDoor
end
section
open Go.RowKit Go.Pl Go.Av
namespace Go.Proofs.YtihkbilhgbmbhaaDoor
set_option maxHeartbeats 4000000
def listB (b : BlkV) : List It := [.mk 0 b.ty [] [], .mk 0 b.num [] [], .mk 0 b.fl [] [], .mk 0 b.sum.toNat [] [], .mk 2 0 b.data []]
def writeB (b : BlkV) : It × Int := match bkRight b with
 | true => sealV (listB b) 3
 | false => (z0, 3)
theorem bk_facts {b : BlkV} (h : bkRight b = true) : b.ty <= 255 /\ b.num <= 255 /\ 0 <= b.sum /\ b.sum <= 2 /\ dataV b.ty b.data = true := by
 unfold bkRight badN at h
 simp only [Bool.and_eq_true, Bool.not_eq_true', Bool.or_eq_false_iff, decide_eq_true_eq, decide_eq_false_iff_not] at h
 obtain ⟨⟨⟨h1, h2⟩, h3, h4⟩, _, h5, h6, h7⟩ := h
 exact ⟨by omega, by omega, h5, h6, h7⟩
theorem wfs_B {b : BlkV} (h : bkRight b = true) (hfl : b.fl < 18446744073709551616) (hd : b.data.length <= 3000) : wfs (listB b) := by
 obtain ⟨h1, h2, h3, h4, _⟩ := bk_facts h
 simp [listB, wfs, wfI]
 omega
theorem lim_B {b : BlkV} (h : bkRight b = true) (hfl : b.fl < 18446744073709551616) (hd : b.data.length <= 3000) (s : Nat) (hs : s = 1 \/ s = 2) : (putI (zeroL s (listB b))).length <= 1000000000 := by
 obtain ⟨h1, h2, h3, h4, _⟩ := bk_facts h
 have h9 : ¬ 3000 < b.data.length := by omega
 have hg : greatI (zeroL s (listB b)) 1 300 = 293 := by
  rcases hs with rfl | rfl <;> simp [zeroL, listB, greatI, greats, h9]
 have hn : nI (zeroL s (listB b)) := by
  simp [zeroL, listB, nI, nIs]
  omega
 have := (small_wf _ 1 300 (by omega) (by omega) hn).2.1
 omega
theorem av_bWrite [Known] [KnownU8] (b : BlkV) (hfl : b.fl < 18446744073709551616) (hd : b.data.length <= 3000) : AP Tryd.prog 31 [.agg (bkC b)] (sealD (writeB b)) [] := by
 have hR := av_bRight b (by omega)
 unfold writeB
 cases hr : bkRight b with
 | false =>
  rw [hr] at hR
  obtain ⟨ty, num, fl, sum, data⟩ := b
  dsimp only [z0] at *
  refine AP.ofA ?_
  refine AC_of Tryd.func31 rfl Tryd.ntmps31 rfl rfl ?_
  repeat' (first | (apply AL_callPw (hR); kernel_rfl; (iterate 4 exact rfl)) | (apply AL_assign; exact rfl; exact rfl) | (apply AL_loadn ttok; (iterate 7 exact rfl)) | (apply AL_boxZ; (iterate 5 exact rfl)) | (apply AL_store ttok; (iterate 8 exact rfl)) | (apply AL_not; exact rfl; exact rfl) | refine AL_nil ?_ | refine AW_region ?_ | refine AW_seq' ?_ | (apply AW_condA; exact rfl; (first | with_reducible assumption | decide +kernel)) | refine then_norm ?_ | refine AW_ret ?_ | refine then_ret ?_ | (apply AL_build ttok; (iterate 6 exact rfl)) | (apply AL_allocZ ttok; (iterate 4 exact rfl)))
  all_goals (apply endQ []; (repeat (first | exact ResL.nil | (apply ResL.cons; first | exact .tmp _ _ rfl | (apply res_n ttok; (iterate 6 exact rfl)) | (apply res_1 ttok; (iterate 5 exact rfl))))); (iterate 4 exact rfl))
  all_goals rfl
 | true =>
  rw [hr] at hR
  obtain ⟨h1, h2, h3, h4, _⟩ := bk_facts hr
  have hS := av_seal (listB b) 3 (wfs_B hr hfl hd) (by simp [listB]) (lim_B hr hfl hd)
  dsimp only
  generalize sealV (listB b) 3 = r at *
  obtain ⟨ty, num, fl, sum, data⟩ := b
  obtain ⟨⟨k, n, bb, l⟩, e⟩ := r
  dsimp only at h1 h2 h3 h4 hd hfl
  have hN := av_numbers4 ty num fl sum.toNat
  have hB := av_bytes data (by omega)
  have es : IntKind.u64.wrap sum = ((sum.toNat : Nat) : Int) := by rw [IntWalk.u64_in _ (by omega)]; omega
  replace hS : AP Tryd.prog 17 [.sl .ext [nmE ty, nmE num, nmE fl, nmE sum.toNat, .agg [.int .i64 2, .int .u64 0, .sl (data.map E.byte), .sl []]], .int .i64 3] (sealD (.mk k n bb l, e)) [] := hS
  have hu4 : Uni 4 [nmE ty, nmE num, nmE fl, nmE sum.toNat] := Uni.map (f := nmE) (fun _ => rfl) [ty, num, fl, sum.toNat]
  refine AP.ofA ?_
  refine AC_of Tryd.func31 rfl Tryd.ntmps31 rfl rfl ?_
  repeat' (first | (apply AL_callPw (hR); kernel_rfl; (iterate 4 exact rfl)) | rw [es] | (apply AL_callT [] [] (hN); kernel_rfl; (iterate 10 exact rfl)) | (apply AL_callPw (hB); kernel_rfl; (iterate 4 exact rfl)) | (apply AL_callPw (hS); kernel_rfl; (iterate 4 exact rfl)) | (apply AL_appendZ ttok; (iterate 11 exact rfl); exact uniB_ok rfl; exact uniB_ok rfl; exact List.cons_ne_nil _ _; decide +kernel; decide +kernel; exact rfl; exact rfl) | (apply AL_move; exact rfl; exact rfl) | (apply AL_assign; exact rfl; exact rfl) | (apply AL_load1 ttok; (iterate 6 exact rfl)) | (apply AL_loadn ttok; (iterate 7 exact rfl)) | (apply AL_fieldAddr ttok; (iterate 7 exact rfl)) | (apply AL_boxZ; (iterate 5 exact rfl)) | (apply AL_store ttok; (iterate 8 exact rfl)) | (apply AL_not; exact rfl; exact rfl) | (apply AL_convT ttok; (iterate 5 exact rfl)) | (apply AL_extract; (iterate 3 exact rfl)) | refine AL_nil ?_ | refine AW_region ?_ | refine AW_seq' ?_ | (apply AW_condB; exact rfl; (first | with_reducible assumption | decide +kernel)) | refine then_norm ?_ | refine AW_ret ?_ | (apply AL_field1 ttok; (iterate 9 exact rfl)) | (apply AL_allocZ ttok; (iterate 4 exact rfl)) | (apply AL_bsZ ttok; (iterate 12 exact rfl)) | refine AW_skip ?_)
  all_goals (apply endQ []; (repeat (first | exact ResL.nil | (apply ResL.cons; first | exact .tmp _ _ rfl | (apply res_n ttok; (iterate 6 exact rfl)) | (apply res_1 ttok; (iterate 5 exact rfl))))); (iterate 4 exact rfl))
  all_goals rfl
end Go.Proofs.YtihkbilhgbmbhaaDoor
end
section
open Go.RowKit Go.Pl Go.Av
namespace Go.Proofs.YtihkbilhgbmbhaaDoor
set_option maxHeartbeats 4000000
def bk0 : BlkV := ⟨0, 0, 0, 0, []⟩
abbrev blkD (r : BlkV × Int) : D := .tup [.agg (bkC r.1), .int .i64 r.2]
def ofV (kind number : Nat) (sum : Int) (x : It) (e : Int) : BlkV × Int := match e != 0 with
 | true => (bk0, 3)
 | false => match rightI x with
  | false => (bk0, 3)
  | true => match bkRight ⟨kind, number, 0, sum, putI x⟩ with
   | true => (⟨kind, number, 0, sum, putI x⟩, 0)
   | false => (bk0, 3)
theorem av_of [Known] [KnownU8] (kind number : Nat) (sum : Int) (x : It) (e : Int) (hw : wfI x) (hx : (putI x).length <= 100000) : AP Tryd.prog 66 [.int .u64 (kind : Int), .int .u64 (number : Int), .int .i64 sum, itD x, .int .i64 e] (blkD (ofV kind number sum x e)) [] := by
 have hW := av_writeI x hw (by omega) (av_rightI x hw)
 have hR := av_bRight ⟨kind, number, 0, sum, putI x⟩ hx
 have hR0 := av_bRight ⟨kind, number, 0, sum, []⟩ (by simp)
 unfold ofV
 cases te : (e != 0) with
 | true =>
  dsimp only [bk0]
  cases hr : rightI x <;> rw [hr] at hW
  all_goals
   obtain ⟨k, n, b, l⟩ := x
   refine AP.ofA ?_
   refine AC_of Tryd.func66 rfl Tryd.ntmps66 rfl rfl ?_
   repeat' (first | (apply AL_callPw (hW); kernel_rfl; (iterate 4 exact rfl)) | (apply AL_move; exact rfl; exact rfl) | (apply AL_assign; exact rfl; exact rfl) | (apply AL_bin; (iterate 5 exact rfl)) | (apply AL_loadn ttok; (iterate 7 exact rfl)) | (apply AL_boxZ; (iterate 5 exact rfl)) | (apply AL_store ttok; (iterate 8 exact rfl)) | (apply AL_extract; (iterate 3 exact rfl)) | refine AL_nil ?_ | (apply AL_guardFf; (iterate 3 exact rfl); (first | with_reducible assumption | decide +kernel)) | (apply AL_pickT; exact rfl; (first | with_reducible assumption | decide +kernel); exact rfl; exact rfl) | refine AW_region ?_ | refine AW_seq' ?_ | (apply AW_condA; exact rfl; (first | with_reducible assumption | decide +kernel)) | refine then_norm ?_ | refine AW_ret ?_ | refine then_ret ?_ | (apply AL_build ttok; (iterate 6 exact rfl)) | (apply AL_allocZ ttok; (iterate 4 exact rfl)))
   all_goals (apply endQ []; (repeat (first | exact ResL.nil | (apply ResL.cons; first | exact .tmp _ _ rfl | (apply res_n ttok; (iterate 6 exact rfl)) | (apply res_1 ttok; (iterate 5 exact rfl))))); (iterate 4 exact rfl))
   all_goals rfl
 | false =>
 cases hr : rightI x with
 | false =>
  rw [hr] at hW
  replace hW : AP Tryd.prog 40 [itD x] (.tup [.sl .ext [], .int .i64 3]) [] := hW
  obtain ⟨k, n, b, l⟩ := x
  dsimp only [bk0]
  refine AP.ofA ?_
  refine AC_of Tryd.func66 rfl Tryd.ntmps66 rfl rfl ?_
  repeat' (first | (apply AL_callPw (hW); kernel_rfl; (iterate 4 exact rfl)) | (apply AL_move; exact rfl; exact rfl) | (apply AL_assign; exact rfl; exact rfl) | (apply AL_bin; (iterate 5 exact rfl)) | (apply AL_loadn ttok; (iterate 7 exact rfl)) | (apply AL_boxZ; (iterate 5 exact rfl)) | (apply AL_store ttok; (iterate 8 exact rfl)) | (apply AL_extract; (iterate 3 exact rfl)) | refine AL_nil ?_ | (apply AL_guardT; (iterate 3 exact rfl); (first | with_reducible assumption | decide +kernel)) | (apply AL_guardFf; (iterate 3 exact rfl); (first | with_reducible assumption | decide +kernel)) | (apply AL_pickT; exact rfl; (first | with_reducible assumption | decide +kernel); exact rfl; exact rfl) | (apply AL_pickF; exact rfl; (first | with_reducible assumption | decide +kernel); exact rfl; exact rfl) | refine AW_region ?_ | refine AW_seq' ?_ | (apply AW_condA; exact rfl; (first | with_reducible assumption | decide +kernel)) | refine then_norm ?_ | refine AW_ret ?_ | refine then_ret ?_ | (apply AL_build ttok; (iterate 6 exact rfl)) | (apply AL_allocZ ttok; (iterate 4 exact rfl)))
  all_goals (apply endQ []; (repeat (first | exact ResL.nil | (apply ResL.cons; first | exact .tmp _ _ rfl | (apply res_n ttok; (iterate 6 exact rfl)) | (apply res_1 ttok; (iterate 5 exact rfl))))); (iterate 4 exact rfl))
  all_goals rfl
 | true =>
  rw [hr] at hW
  replace hW : AP Tryd.prog 40 [itD x] (.tup [byE (putI x), .int .i64 0]) [] := hW
  generalize putI x = P at *
  obtain ⟨k, n, b, l⟩ := x
  dsimp only
  cases hb1 : bkRight ⟨kind, number, 0, sum, P⟩
  all_goals
   rw [hb1] at hR
   dsimp only [bk0]
   refine AP.ofA ?_
   refine AC_of Tryd.func66 rfl Tryd.ntmps66 rfl rfl ?_
   repeat' (first | (apply AL_callPw (hW); kernel_rfl; (iterate 4 exact rfl)) | (apply AL_callPw (hR); kernel_rfl; (iterate 4 exact rfl)) | (apply AL_move; exact rfl; exact rfl) | (apply AL_assign; exact rfl; exact rfl) | (apply AL_bin; (iterate 5 exact rfl)) | (apply AL_loadn ttok; (iterate 7 exact rfl)) | (apply AL_boxZ; (iterate 5 exact rfl)) | (apply AL_store ttok; (iterate 8 exact rfl)) | (apply AL_not; exact rfl; exact rfl) | (apply AL_extract; (iterate 3 exact rfl)) | refine AL_nil ?_ | (apply AL_guardT; (iterate 3 exact rfl); (first | with_reducible assumption | decide +kernel)) | (apply AL_pickF; exact rfl; (first | with_reducible assumption | decide +kernel); exact rfl; exact rfl) | refine AW_region ?_ | refine AW_seq' ?_ | (apply AW_condA; exact rfl; (first | with_reducible assumption | decide +kernel)) | (apply AW_condB; exact rfl; (first | with_reducible assumption | decide +kernel)) | refine then_norm ?_ | refine AW_ret ?_ | refine then_ret ?_ | (apply AL_build ttok; (iterate 6 exact rfl)) | (apply AL_allocZ ttok; (iterate 4 exact rfl)) | refine AW_skip ?_)
   all_goals (apply endQ []; (repeat (first | exact ResL.nil | (apply ResL.cons; first | exact .tmp _ _ rfl | (apply res_n ttok; (iterate 6 exact rfl)) | (apply res_1 ttok; (iterate 5 exact rfl))))); (iterate 4 exact rfl))
   all_goals rfl
theorem av_ofAge [Known] [KnownU8] (number : Nat) (sum : Int) (age : Nat) (ha : age < 18446744073709551616) : AP Tryd.prog 36 [.int .u64 (number : Int), .int .i64 sum, .int .u64 (age : Int)] (blkD (ofV 7 number sum (.mk 0 age [] []) 0)) [] := by
 have hw : wfI (.mk 0 age [] []) := ⟨ha, by simp, by simp, trivial⟩
 have hl := (small_wf (.mk 0 age [] []) 1 300 (by omega) (by simp [greatI, greats]) ⟨ha, trivial⟩).2.1
 have hg : greatI (.mk 0 age [] []) 1 300 = 299 := by simp [greatI, greats]
 have hO := av_of 7 number sum (.mk 0 age [] []) 0 hw (by omega)
 have hN := av_num age
 clear hl hg
 generalize ofV 7 number sum (.mk 0 age [] []) 0 = r at *
 obtain ⟨⟨a, b, c, d, f⟩, e⟩ := r
 refine AP.ofA ?_
 refine AC_of Tryd.func36 rfl Tryd.ntmps36 rfl rfl ?_
 repeat' (first | (apply AL_callPw (hN); kernel_rfl; (iterate 4 exact rfl)) | (apply AL_callPw (hO); kernel_rfl; (iterate 4 exact rfl)) | (apply AL_move; exact rfl; exact rfl) | (apply AL_assign; exact rfl; exact rfl) | (apply AL_store ttok; (iterate 8 exact rfl)) | (apply AL_extract; (iterate 3 exact rfl)) | refine AL_nil ?_ | refine AW_region ?_ | refine AW_seq' ?_ | refine then_norm ?_ | refine AW_ret ?_ | (apply AL_allocZ ttok; (iterate 4 exact rfl)))
 all_goals (apply endQ []; (repeat (first | exact ResL.nil | (apply ResL.cons; first | exact .tmp _ _ rfl | (apply res_n ttok; (iterate 6 exact rfl)) | (apply res_1 ttok; (iterate 5 exact rfl))))); (iterate 4 exact rfl))
 all_goals rfl
abbrev hopI (n m : Nat) : It := .mk 4 0 [] [.mk 0 n [] [], .mk 0 m [] []]
theorem av_ofHops [Known] [KnownU8] (number : Nat) (sum : Int) (n m : Nat) (hn : n < 18446744073709551616) (hm : m < 18446744073709551616) : AP Tryd.prog 38 [.int .u64 (number : Int), .int .i64 sum, .int .u64 (n : Int), .int .u64 (m : Int)] (blkD (ofV 10 number sum (hopI n m) 0)) [] := by
 have hw : wfI (hopI n m) := ⟨by decide, by simp, by simp, ⟨hn, by simp, by simp, trivial⟩, ⟨hm, by simp, by simp, trivial⟩, trivial⟩
 have hg : greatI (hopI n m) 1 300 = 297 := by simp [greatI, greats]
 have hl := (small_wf (hopI n m) 1 300 (by omega) (by omega) ⟨by decide, ⟨hn, trivial⟩, ⟨hm, trivial⟩, trivial⟩).2.1
 have hO := av_of 10 number sum (hopI n m) 0 hw (by omega)
 have hN := av_numbers2 n m
 clear hl hg
 replace hO : AP Tryd.prog 66 [.int .u64 10, .int .u64 (number : Int), .int .i64 sum, .agg [.int .i64 4, .int .u64 0, .sl .ext [], .sl .ext [nmE n, nmE m]], .int .i64 0] (blkD (ofV 10 number sum (hopI n m) 0)) [] := hO
 generalize ofV 10 number sum (hopI n m) 0 = r at *
 obtain ⟨⟨a, b, c, d, f⟩, e⟩ := r
 refine AP.ofA ?_
 refine AC_of Tryd.func38 rfl Tryd.ntmps38 rfl rfl ?_
 repeat' (first | (apply AL_callPw (hN); kernel_rfl; (iterate 4 exact rfl)) | (apply AL_callPw (hO); kernel_rfl; (iterate 4 exact rfl)) | (apply AL_move; exact rfl; exact rfl) | (apply AL_assign; exact rfl; exact rfl) | (apply AL_store ttok; (iterate 8 exact rfl)) | (apply AL_extract; (iterate 3 exact rfl)) | refine AL_nil ?_ | refine AW_region ?_ | refine AW_seq' ?_ | refine then_norm ?_ | refine AW_ret ?_ | (apply AL_allocZ ttok; (iterate 4 exact rfl)) | (apply AL_bsZ ttok; (iterate 12 exact rfl)))
 all_goals (apply endQ []; (repeat (first | exact ResL.nil | (apply ResL.cons; first | exact .tmp _ _ rfl | (apply res_n ttok; (iterate 6 exact rfl)) | (apply res_1 ttok; (iterate 5 exact rfl))))); (iterate 4 exact rfl))
 all_goals rfl
def askV (b : BlkV) (kind : Nat) : Int := match ((b.ty : Int) != (kind : Int)) with
 | true => 4
 | false => match bkRight b with
  | false => 3
  | true => 0
theorem av_ask [Known] [KnownU8] (b : BlkV) (kind : Nat) (hd : b.data.length <= 100000) : AP Tryd.prog 67 [.agg (bkC b), .int .u64 (kind : Int)] (.int .i64 (askV b kind)) [] := by
 have hR := av_bRight b hd
 unfold askV
 cases t1 : ((b.ty : Int) != (kind : Int)) with
 | true =>
  obtain ⟨ty, num, fl, sum, data⟩ := b
  dsimp only at t1
  refine AP.ofA ?_
  refine AC_of Tryd.func67 rfl Tryd.ntmps67 rfl rfl ?_
  repeat' (first | (apply AL_move; exact rfl; exact rfl) | (apply AL_assign; exact rfl; exact rfl) | (apply AL_bin; (iterate 5 exact rfl)) | (apply AL_load1 ttok; (iterate 6 exact rfl)) | (apply AL_fieldAddr ttok; (iterate 7 exact rfl)) | (apply AL_boxZ; (iterate 5 exact rfl)) | refine AL_nil ?_ | refine AW_region ?_ | refine AW_seq' ?_ | (apply AW_condA; exact rfl; (first | with_reducible assumption | decide +kernel)) | refine then_norm ?_ | refine AW_block ?_ | refine AW_ret ?_ | refine then_ret ?_ | refine blk_ret ?_)
  all_goals (apply endQ []; (repeat (first | exact ResL.nil | (apply ResL.cons; first | exact .tmp _ _ rfl | (apply res_n ttok; (iterate 6 exact rfl)) | (apply res_1 ttok; (iterate 5 exact rfl))))); (iterate 4 exact rfl))
  all_goals rfl
 | false =>
  cases hr : bkRight b <;> rw [hr] at hR
  all_goals
   obtain ⟨ty, num, fl, sum, data⟩ := b
   dsimp only at t1
   refine AP.ofA ?_
   refine AC_of Tryd.func67 rfl Tryd.ntmps67 rfl rfl ?_
   repeat' (first | (apply AL_callPw (hR); kernel_rfl; (iterate 4 exact rfl)) | (apply AL_move; exact rfl; exact rfl) | (apply AL_assign; exact rfl; exact rfl) | (apply AL_bin; (iterate 5 exact rfl)) | (apply AL_load1 ttok; (iterate 6 exact rfl)) | (apply AL_loadn ttok; (iterate 7 exact rfl)) | (apply AL_fieldAddr ttok; (iterate 7 exact rfl)) | (apply AL_boxZ; (iterate 5 exact rfl)) | (apply AL_not; exact rfl; exact rfl) | refine AL_nil ?_ | refine AW_region ?_ | refine AW_seq' ?_ | (apply AW_condA; exact rfl; (first | with_reducible assumption | decide +kernel)) | (apply AW_condB; exact rfl; (first | with_reducible assumption | decide +kernel)) | refine then_norm ?_ | refine AW_block ?_ | refine AW_ret ?_ | refine then_ret ?_ | refine blk_ret ?_ | refine AW_skip ?_)
   all_goals (apply endQ []; (repeat (first | exact ResL.nil | (apply ResL.cons; first | exact .tmp _ _ rfl | (apply res_n ttok; (iterate 6 exact rfl)) | (apply res_1 ttok; (iterate 5 exact rfl))))); (iterate 4 exact rfl))
   all_goals rfl
theorem av_ageOf [Known] [KnownU8] (b : BlkV) (hd : b.data.length <= 100000) : AP Tryd.prog 37 [.agg (bkC b)] (.tup [.int .u64 ((match askV b 7 != 0 with | true => 0 | false => (ageV b.data).1 : Nat) : Int), .int .i64 (askV b 7)]) [] := by
 have hA := av_ask b 7 hd
 have hG := av_age b.data hd
 generalize askV b 7 = q at *
 generalize (ageV b.data).1 = a at *
 generalize (ageV b.data).2 = o at *
 obtain ⟨ty, num, fl, sum, data⟩ := b
 cases t1 : (q != 0) with
 | true =>
  refine AP.ofA ?_
  refine AC_of Tryd.func37 rfl Tryd.ntmps37 rfl rfl ?_
  repeat' (first | (apply AL_callPw (hA); kernel_rfl; (iterate 4 exact rfl)) | (apply AL_move; exact rfl; exact rfl) | (apply AL_assign; exact rfl; exact rfl) | (apply AL_bin; (iterate 5 exact rfl)) | (apply AL_loadn ttok; (iterate 7 exact rfl)) | (apply AL_boxZ; (iterate 5 exact rfl)) | refine AL_nil ?_ | refine AW_region ?_ | refine AW_seq' ?_ | (apply AW_condA; exact rfl; (first | with_reducible assumption | decide +kernel)) | refine then_norm ?_ | refine AW_ret ?_ | refine then_ret ?_)
  all_goals (apply endQ []; (repeat (first | exact ResL.nil | (apply ResL.cons; first | exact .tmp _ _ rfl | (apply res_n ttok; (iterate 6 exact rfl)) | (apply res_1 ttok; (iterate 5 exact rfl))))); (iterate 4 exact rfl))
  all_goals rfl
 | false =>
  have eq0 : q = 0 := by simpa [bne] using t1
  subst eq0
  refine AP.ofA ?_
  refine AC_of Tryd.func37 rfl Tryd.ntmps37 rfl rfl ?_
  repeat' (first | (apply AL_callPw (hA); kernel_rfl; (iterate 4 exact rfl)) | (apply AL_callPw (hG); kernel_rfl; (iterate 4 exact rfl)) | (apply AL_move; exact rfl; exact rfl) | (apply AL_assign; exact rfl; exact rfl) | (apply AL_bin; (iterate 5 exact rfl)) | (apply AL_load1 ttok; (iterate 6 exact rfl)) | (apply AL_loadn ttok; (iterate 7 exact rfl)) | (apply AL_fieldAddr ttok; (iterate 7 exact rfl)) | (apply AL_boxZ; (iterate 5 exact rfl)) | (apply AL_extract; (iterate 3 exact rfl)) | refine AL_nil ?_ | refine AW_region ?_ | refine AW_seq' ?_ | (apply AW_condB; exact rfl; (first | with_reducible assumption | decide +kernel)) | refine then_norm ?_ | refine AW_ret ?_ | refine AW_skip ?_)
  all_goals (apply endQ []; (repeat (first | exact ResL.nil | (apply ResL.cons; first | exact .tmp _ _ rfl | (apply res_n ttok; (iterate 6 exact rfl)) | (apply res_1 ttok; (iterate 5 exact rfl))))); (iterate 4 exact rfl))
  all_goals rfl
theorem av_hopsOf [Known] [KnownU8] (b : BlkV) (hd : b.data.length <= 100000) : AP Tryd.prog 39 [.agg (bkC b)] (.tup [.int .u64 ((match askV b 10 != 0 with | true => 0 | false => (hopsV b.data).1 : Nat) : Int), .int .u64 ((match askV b 10 != 0 with | true => 0 | false => (hopsV b.data).2.1 : Nat) : Int), .int .i64 (askV b 10)]) [] := by
 have hA := av_ask b 10 hd
 have hG := av_hops b.data hd
 generalize askV b 10 = q at *
 generalize (hopsV b.data).1 = a at *
 generalize (hopsV b.data).2.1 = c at *
 generalize (hopsV b.data).2.2 = o at *
 obtain ⟨ty, num, fl, sum, data⟩ := b
 cases t1 : (q != 0) with
 | true =>
  refine AP.ofA ?_
  refine AC_of Tryd.func39 rfl Tryd.ntmps39 rfl rfl ?_
  repeat' (first | (apply AL_callPw (hA); kernel_rfl; (iterate 4 exact rfl)) | (apply AL_move; exact rfl; exact rfl) | (apply AL_assign; exact rfl; exact rfl) | (apply AL_bin; (iterate 5 exact rfl)) | (apply AL_loadn ttok; (iterate 7 exact rfl)) | (apply AL_boxZ; (iterate 5 exact rfl)) | refine AL_nil ?_ | refine AW_region ?_ | refine AW_seq' ?_ | (apply AW_condA; exact rfl; (first | with_reducible assumption | decide +kernel)) | refine then_norm ?_ | refine AW_ret ?_ | refine then_ret ?_)
  all_goals (apply endQ []; (repeat (first | exact ResL.nil | (apply ResL.cons; first | exact .tmp _ _ rfl | (apply res_n ttok; (iterate 6 exact rfl)) | (apply res_1 ttok; (iterate 5 exact rfl))))); (iterate 4 exact rfl))
  all_goals rfl
 | false =>
  have eq0 : q = 0 := by simpa [bne] using t1
  subst eq0
  refine AP.ofA ?_
  refine AC_of Tryd.func39 rfl Tryd.ntmps39 rfl rfl ?_
  repeat' (first | (apply AL_callPw (hA); kernel_rfl; (iterate 4 exact rfl)) | (apply AL_callPw (hG); kernel_rfl; (iterate 4 exact rfl)) | (apply AL_move; exact rfl; exact rfl) | (apply AL_assign; exact rfl; exact rfl) | (apply AL_bin; (iterate 5 exact rfl)) | (apply AL_load1 ttok; (iterate 6 exact rfl)) | (apply AL_loadn ttok; (iterate 7 exact rfl)) | (apply AL_fieldAddr ttok; (iterate 7 exact rfl)) | (apply AL_boxZ; (iterate 5 exact rfl)) | (apply AL_extract; (iterate 3 exact rfl)) | refine AL_nil ?_ | refine AW_region ?_ | refine AW_seq' ?_ | (apply AW_condB; exact rfl; (first | with_reducible assumption | decide +kernel)) | refine then_norm ?_ | refine AW_ret ?_ | refine AW_skip ?_)
  all_goals (apply endQ []; (repeat (first | exact ResL.nil | (apply ResL.cons; first | exact .tmp _ _ rfl | (apply res_n ttok; (iterate 6 exact rfl)) | (apply res_1 ttok; (iterate 5 exact rfl))))); (iterate 4 exact rfl))
  all_goals rfl
end Go.Proofs.YtihkbilhgbmbhaaDoor
end
