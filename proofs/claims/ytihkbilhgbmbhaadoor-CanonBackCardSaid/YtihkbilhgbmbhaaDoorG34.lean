/- Package canon: a block, read, by cases. -/
import Derived.Test.YtihkbilhgbmbhaaDoorG33
import Derived.Test.YtihkbilhgbmbhaaDoorG18
import Derived.Test.YtihkbilhgbmbhaaDoorG09
import Derived.Test.YtihkbilhgbmbhaaDoorG12
import Derived.Test.YtihkbilhgbmbhaaDoorG31
import Derived.Test.YtihkbilhgbmbhaaDoorG28
import Derived.Test.YtihkbilhgbmbhaaDoorG13
set_option linter.unusedVariables false
set_option linter.unusedSimpArgs false
section
open Go.RowKit Go.Pl Go.Av
namespace Go.Proofs.YtihkbilhgbmbhaaDoor
set_option maxHeartbeats 4000000
def readX (x : It) (o : List It × Int) : BlkV × Int := match o.2 != 0 with
 | true => (bk0, o.2)
 | false => match o.1 with
  | [.mk k0 n0 b0 l0, .mk k1 n1 b1 l1, .mk k2 n2 b2 l2, .mk k3 n3 b3 l3, .mk k4 n4 b4 l4] => (match k4 != 2 with
   | true => (bk0, 3)
   | false => match (writeB ⟨n0, n1, n2, IntKind.i64.wrap (n3 : Int), b4⟩).2 != 0 with
    | true => (bk0, 3)
    | false => match It.beq (writeB ⟨n0, n1, n2, IntKind.i64.wrap (n3 : Int), b4⟩).1 x with
     | false => (bk0, 3)
     | true => (⟨n0, n1, n2, IntKind.i64.wrap (n3 : Int), b4⟩, 0))
  | _ => (bk0, 3)
def readB (x : It) : BlkV × Int := readX x (openV x 3)
theorem open_sub (x : It) (a : Int) : ∀ y ∈ (openV x a).1, y ∈ x.l := by
 obtain ⟨k, n, b, l⟩ := x
 unfold openV
 dsimp only [It.l]
 have hs : ∀ (m : Nat) (y : It), y ∈ l.take m -> y ∈ l := fun m y h => List.mem_of_mem_take h
 repeat' split
 all_goals first | exact hs _ | (intro y h; exact h) | (intro y h; exact absurd h (by simp))
theorem wf_z0 : wfI z0 := ⟨by decide, by simp, by simp, trivial⟩
theorem wf_outA (s : Nat) {l : List It} (hws : wfs l) (hl : l.length <= 1000000) : wfI (outL s l) := by
 refine ⟨by decide, by simp, by simp; omega, wfs_app hws ⟨⟨by decide, ?_, by simp, trivial⟩, trivial⟩⟩
 have : (sumB s (putI (zeroL s l))).length <= 4 := by
  unfold sumB
  split <;> simp
 omega
theorem wf_seal {l : List It} (a : Int) (hws : wfs l) (hl : l.length <= 1000000) : wfI (sealV l a).1 := by
 unfold sealV
 have h0 : wfI (.mk 4 0 [] l) := ⟨by decide, by simp, by omega, hws⟩
 repeat' split
 all_goals first | exact wf_z0 | exact h0 | exact wf_outA _ hws hl
theorem wf_write {b : BlkV} (hfl : b.fl < 18446744073709551616) (hd : b.data.length <= 3000) : wfI (writeB b).1 := by
 unfold writeB
 cases h : bkRight b with
 | false => exact wf_z0
 | true => exact wf_seal 3 (wfs_B h hfl hd) (by simp [listB])
theorem br_e [Known] [KnownU8] (k : Int) (n : Nat) (b : List UInt8) (xl : List E) (L : List E) (e : Int)
  (hO : AP Tryd.prog 20 [.agg [.int .i64 k, .int .u64 (n : Int), byE b, .sl .ext xl], .int .i64 3] (.tup [.sl .ext L, .int .i64 e]) []) (t1 : (e != 0) = true) :
  AP Tryd.prog 32 [.agg [.int .i64 k, .int .u64 (n : Int), byE b, .sl .ext xl]] (.tup [.agg [.int .u64 0, .int .u64 0, .int .u64 0, .int .i64 0, .sl .ext []], .int .i64 e]) [] := by
 refine AP.ofA ?_
 refine AC_of Tryd.func32 rfl Tryd.ntmps32 rfl rfl ?_
 repeat' (first | (apply AL_callPw (hO); kernel_rfl; (iterate 4 exact rfl)) | (apply AL_move; exact rfl; exact rfl) | (apply AL_assign; exact rfl; exact rfl) | (apply AL_bin; (iterate 5 exact rfl)) | (apply AL_loadn ttok; (iterate 7 exact rfl)) | (apply AL_boxZ; (iterate 5 exact rfl)) | (apply AL_store ttok; (iterate 8 exact rfl)) | (apply AL_extract; (iterate 3 exact rfl)) | refine AL_nil ?_ | refine AW_region ?_ | refine AW_seq' ?_ | (apply AW_condA; exact rfl; (first | with_reducible assumption | decide +kernel)) | refine then_norm ?_ | refine AW_block ?_ | refine AW_ret ?_ | refine then_ret ?_ | refine blk_ret ?_ | (apply AL_build ttok; (iterate 6 exact rfl)) | (apply AL_allocZ ttok; (iterate 4 exact rfl)))
 all_goals (apply endQ []; (repeat (first | exact ResL.nil | (apply ResL.cons; first | exact .tmp _ _ rfl | (apply res_n ttok; (iterate 6 exact rfl)) | (apply res_1 ttok; (iterate 5 exact rfl))))); (iterate 4 exact rfl))
 all_goals rfl
theorem br_l [Known] [KnownU8] (k : Int) (n : Nat) (b : List UInt8) (xl : List E) (L : List E) (e : Int)
  (hO : AP Tryd.prog 20 [.agg [.int .i64 k, .int .u64 (n : Int), byE b, .sl .ext xl], .int .i64 3] (.tup [.sl .ext L, .int .i64 e]) []) (t1 : (e != 0) = false) (t2 : ((L.length : Int) != 5) = true) :
  AP Tryd.prog 32 [.agg [.int .i64 k, .int .u64 (n : Int), byE b, .sl .ext xl]] (.tup [.agg [.int .u64 0, .int .u64 0, .int .u64 0, .int .i64 0, .sl .ext []], .int .i64 3]) [] := by
 refine AP.ofA ?_
 refine AC_of Tryd.func32 rfl Tryd.ntmps32 rfl rfl ?_
 repeat' (first | (apply AL_callPw (hO); kernel_rfl; (iterate 4 exact rfl)) | (apply AL_move; exact rfl; exact rfl) | (apply AL_assign; exact rfl; exact rfl) | (apply AL_bin; (iterate 5 exact rfl)) | (apply AL_loadn ttok; (iterate 7 exact rfl)) | (apply AL_boxZ; (iterate 5 exact rfl)) | (apply AL_store ttok; (iterate 8 exact rfl)) | (apply AL_extract; (iterate 3 exact rfl)) | refine AL_nil ?_ | (apply AL_guardFf; (iterate 3 exact rfl); (first | with_reducible assumption | decide +kernel)) | (apply AL_pickT; exact rfl; (first | with_reducible assumption | decide +kernel); exact rfl; exact rfl) | refine AW_region ?_ | refine AW_seq' ?_ | (apply AW_condA; exact rfl; (first | with_reducible assumption | decide +kernel)) | (apply AW_condB; exact rfl; (first | with_reducible assumption | decide +kernel)) | refine then_norm ?_ | refine AW_block ?_ | refine AW_ret ?_ | refine then_ret ?_ | refine blk_ret ?_ | (apply AL_len ttok; (iterate 4 exact rfl)) | (apply AL_build ttok; (iterate 6 exact rfl)) | (apply AL_allocZ ttok; (iterate 4 exact rfl)))
 all_goals (apply endQ []; (repeat (first | exact ResL.nil | (apply ResL.cons; first | exact .tmp _ _ rfl | (apply res_n ttok; (iterate 6 exact rfl)) | (apply res_1 ttok; (iterate 5 exact rfl))))); (iterate 4 exact rfl))
 all_goals rfl
theorem br_k [Known] [KnownU8] (k : Int) (n : Nat) (b : List UInt8) (xl : List E) (L : List E) (e : Int) (k4 : Int) (n4 : Nat) (b4 : List UInt8) (l4 : List It)
  (hO : AP Tryd.prog 20 [.agg [.int .i64 k, .int .u64 (n : Int), byE b, .sl .ext xl], .int .i64 3] (.tup [.sl .ext L, .int .i64 e]) []) (t1 : (e != 0) = false) (t2 : ((L.length : Int) != 5) = false) (hU : Uni 4 L) (hv4 : L[(4 : Int).toNat]? = some (.agg [.int .i64 k4, .int .u64 (n4 : Int), .sl (b4.map E.byte), .sl (itEs l4)])) (t3 : (k4 != 2) = true) :
  AP Tryd.prog 32 [.agg [.int .i64 k, .int .u64 (n : Int), byE b, .sl .ext xl]] (.tup [.agg [.int .u64 0, .int .u64 0, .int .u64 0, .int .i64 0, .sl .ext []], .int .i64 3]) [] := by
 refine AP.ofA ?_
 refine AC_of Tryd.func32 rfl Tryd.ntmps32 rfl rfl ?_
 repeat' (first | (apply AL_callPw (hO); kernel_rfl; (iterate 4 exact rfl)) | (apply AL_move; exact rfl; exact rfl) | (apply AL_assign; exact rfl; exact rfl) | (apply AL_bin; (iterate 5 exact rfl)) | (apply AL_loadn ttok; (iterate 7 exact rfl)) | (apply AL_boxZ; (iterate 5 exact rfl)) | (apply AL_store ttok; (iterate 8 exact rfl)) | (apply AL_extract; (iterate 3 exact rfl)) | refine AL_nil ?_ | (apply AL_guardT; (iterate 3 exact rfl); (first | with_reducible assumption | decide +kernel)) | (apply AL_pickF; exact rfl; (first | with_reducible assumption | decide +kernel); exact rfl; exact rfl) | refine AW_region ?_ | refine AW_seq' ?_ | (apply AW_condA; exact rfl; (first | with_reducible assumption | decide +kernel)) | (apply AW_condB; exact rfl; (first | with_reducible assumption | decide +kernel)) | refine then_norm ?_ | refine AW_block ?_ | refine AW_ret ?_ | refine then_ret ?_ | refine blk_ret ?_ | (apply AL_len ttok; (iterate 4 exact rfl)) | (apply AL_eload1 ttok; (iterate 6 exact rfl)) | (apply AL_efieldAddr ttok; (iterate 7 exact rfl)) | (apply AL_build ttok; (iterate 6 exact rfl)) | (apply AL_allocZ ttok; (iterate 4 exact rfl)) | (apply AL_idx ttok; (iterate 6 exact rfl); (first | with_reducible assumption | decide +kernel | exact Int.natCast_nonneg _ | (guard_target = (0:Int) <= (OfNat.ofNat _ : Int); decide) | rotate_left); (first | with_reducible assumption | decide +kernel | exact rfl); (first | exact uniB_ok rfl | with_reducible assumption | decide +kernel | rotate_left)))
 all_goals (apply endQ []; (repeat (first | exact ResL.nil | (apply ResL.cons; first | exact .tmp _ _ rfl | (apply res_n ttok; (iterate 6 exact rfl)) | (apply res_1 ttok; (iterate 5 exact rfl))))); (iterate 4 exact rfl))
 all_goals rfl
end Go.Proofs.YtihkbilhgbmbhaaDoor
end
section
open Go.RowKit Go.Pl Go.Av
namespace Go.Proofs.YtihkbilhgbmbhaaDoor
set_option maxHeartbeats 4000000
theorem br_w [Known] [KnownU8] (k : Int) (n : Nat) (b : List UInt8) (xl : List E) (L : List E) (e : Int) (k0 : Int) (n0 : Nat) (b0 : List UInt8) (l0 : List It) (k1 : Int) (n1 : Nat) (b1 : List UInt8) (l1 : List It) (k2 : Int) (n2 : Nat) (b2 : List UInt8) (l2 : List It) (k3 : Int) (n3 : Nat) (b3 : List UInt8) (l3 : List It) (k4 : Int) (n4 : Nat) (b4 : List UInt8) (l4 : List It) (wk : Int) (wn : Nat) (wb : List UInt8) (wl : List E) (we : Int)
  (hO : AP Tryd.prog 20 [.agg [.int .i64 k, .int .u64 (n : Int), byE b, .sl .ext xl], .int .i64 3] (.tup [.sl .ext L, .int .i64 e]) []) (t1 : (e != 0) = false) (t2 : ((L.length : Int) != 5) = false) (hU : Uni 4 L) (hv0 : L[(0 : Int).toNat]? = some (.agg [.int .i64 k0, .int .u64 (n0 : Int), .sl (b0.map E.byte), .sl (itEs l0)])) (hv1 : L[(1 : Int).toNat]? = some (.agg [.int .i64 k1, .int .u64 (n1 : Int), .sl (b1.map E.byte), .sl (itEs l1)])) (hv2 : L[(2 : Int).toNat]? = some (.agg [.int .i64 k2, .int .u64 (n2 : Int), .sl (b2.map E.byte), .sl (itEs l2)])) (hv3 : L[(3 : Int).toNat]? = some (.agg [.int .i64 k3, .int .u64 (n3 : Int), .sl (b3.map E.byte), .sl (itEs l3)])) (hv4 : L[(4 : Int).toNat]? = some (.agg [.int .i64 k4, .int .u64 (n4 : Int), .sl (b4.map E.byte), .sl (itEs l4)])) (t3 : (k4 != 2) = false)
  (hC : AP Tryd.prog 43 [.sl .ext (b4.map E.byte)] (.sl .ext (b4.map E.byte)) []) (hW : AP Tryd.prog 31 [.agg [.int .u64 (n0 : Int), .int .u64 (n1 : Int), .int .u64 (n2 : Int), .int .i64 (IntKind.i64.wrap (n3 : Int)), .sl .ext (b4.map E.byte)]] (.tup [.agg [.int .i64 wk, .int .u64 (wn : Int), byE wb, .sl .ext wl], .int .i64 we]) []) (t4 : (we != 0) = true) :
  AP Tryd.prog 32 [.agg [.int .i64 k, .int .u64 (n : Int), byE b, .sl .ext xl]] (.tup [.agg [.int .u64 0, .int .u64 0, .int .u64 0, .int .i64 0, .sl .ext []], .int .i64 3]) [] := by
 refine AP.ofA ?_
 refine AC_of Tryd.func32 rfl Tryd.ntmps32 rfl rfl ?_
 repeat' (first | (apply AL_callPw (hO); kernel_rfl; (iterate 4 exact rfl)) | (apply AL_callPw (hC); kernel_rfl; (iterate 4 exact rfl)) | (apply AL_callPw (hW); kernel_rfl; (iterate 4 exact rfl)) | (apply AL_move; exact rfl; exact rfl) | (apply AL_assign; exact rfl; exact rfl) | (apply AL_bin; (iterate 5 exact rfl)) | (apply AL_loadn ttok; (iterate 7 exact rfl)) | (apply AL_boxZ; (iterate 5 exact rfl)) | (apply AL_store ttok; (iterate 8 exact rfl)) | (apply AL_convT ttok; (iterate 5 exact rfl)) | (apply AL_extract; (iterate 3 exact rfl)) | refine AL_nil ?_ | (apply AL_guardT; (iterate 3 exact rfl); (first | with_reducible assumption | decide +kernel)) | (apply AL_guardFf; (iterate 3 exact rfl); (first | with_reducible assumption | decide +kernel)) | (apply AL_pickT; exact rfl; (first | with_reducible assumption | decide +kernel); exact rfl; exact rfl) | (apply AL_pickF; exact rfl; (first | with_reducible assumption | decide +kernel); exact rfl; exact rfl) | refine AW_region ?_ | refine AW_seq' ?_ | (apply AW_condA; exact rfl; (first | with_reducible assumption | decide +kernel)) | (apply AW_condB; exact rfl; (first | with_reducible assumption | decide +kernel)) | refine then_norm ?_ | refine AW_block ?_ | refine AW_ret ?_ | refine then_ret ?_ | (apply AL_len ttok; (iterate 4 exact rfl)) | (apply AL_eload1 ttok; (iterate 6 exact rfl)) | (apply AL_efieldAddr ttok; (iterate 7 exact rfl)) | (apply AL_build ttok; (iterate 6 exact rfl)) | (apply AL_allocZ ttok; (iterate 4 exact rfl)) | (apply AW_drawE 24 hmix; (decide +kernel); (kernel_rfl); (kernel_rfl); (kernel_rfl); exact rfl; exact rfl) | (apply AE_consZ; (iterate 4 exact rfl)) | exact AE.nil _ _ _ _ | (apply AEk_puT; exact rfl) | (apply AEk_efT; exact rfl) | (apply AOt_mk; exact rfl; exact rfl; (decide +kernel); exact rfl) | (apply AO_puT; exact rfl) | (apply AO_efT; exact rfl) | exact AO.nil _ _ _ | (apply AOs_skip; (decide +kernel)) | (apply AOs_goZ; (iterate 3 exact rfl)) | exact AOs.nil | exact qY_ok rfl rfl | exact qY_ef rfl rfl | refine AW_skip ?_ | (apply AL_idx ttok; (iterate 6 exact rfl); (first | with_reducible assumption | decide +kernel | exact Int.natCast_nonneg _ | (guard_target = (0:Int) <= (OfNat.ofNat _ : Int); decide) | rotate_left); (first | with_reducible assumption | decide +kernel | exact rfl); (first | exact uniB_ok rfl | with_reducible assumption | decide +kernel | rotate_left)))
 all_goals (apply endQ []; (repeat (first | exact ResL.nil | (apply ResL.cons; first | exact .tmp _ _ rfl | (apply res_n ttok; (iterate 6 exact rfl)) | (apply res_1 ttok; (iterate 5 exact rfl))))); (iterate 4 exact rfl))
 all_goals rfl
theorem br_s [Known] [KnownU8] (k : Int) (n : Nat) (b : List UInt8) (xl : List E) (L : List E) (e : Int) (k0 : Int) (n0 : Nat) (b0 : List UInt8) (l0 : List It) (k1 : Int) (n1 : Nat) (b1 : List UInt8) (l1 : List It) (k2 : Int) (n2 : Nat) (b2 : List UInt8) (l2 : List It) (k3 : Int) (n3 : Nat) (b3 : List UInt8) (l3 : List It) (k4 : Int) (n4 : Nat) (b4 : List UInt8) (l4 : List It) (wk : Int) (wn : Nat) (wb : List UInt8) (wl : List E) (we : Int)
  (hO : AP Tryd.prog 20 [.agg [.int .i64 k, .int .u64 (n : Int), byE b, .sl .ext xl], .int .i64 3] (.tup [.sl .ext L, .int .i64 e]) []) (t1 : (e != 0) = false) (t2 : ((L.length : Int) != 5) = false) (hU : Uni 4 L) (hv0 : L[(0 : Int).toNat]? = some (.agg [.int .i64 k0, .int .u64 (n0 : Int), .sl (b0.map E.byte), .sl (itEs l0)])) (hv1 : L[(1 : Int).toNat]? = some (.agg [.int .i64 k1, .int .u64 (n1 : Int), .sl (b1.map E.byte), .sl (itEs l1)])) (hv2 : L[(2 : Int).toNat]? = some (.agg [.int .i64 k2, .int .u64 (n2 : Int), .sl (b2.map E.byte), .sl (itEs l2)])) (hv3 : L[(3 : Int).toNat]? = some (.agg [.int .i64 k3, .int .u64 (n3 : Int), .sl (b3.map E.byte), .sl (itEs l3)])) (hv4 : L[(4 : Int).toNat]? = some (.agg [.int .i64 k4, .int .u64 (n4 : Int), .sl (b4.map E.byte), .sl (itEs l4)])) (t3 : (k4 != 2) = false)
  (hC : AP Tryd.prog 43 [.sl .ext (b4.map E.byte)] (.sl .ext (b4.map E.byte)) []) (hW : AP Tryd.prog 31 [.agg [.int .u64 (n0 : Int), .int .u64 (n1 : Int), .int .u64 (n2 : Int), .int .i64 (IntKind.i64.wrap (n3 : Int)), .sl .ext (b4.map E.byte)]] (.tup [.agg [.int .i64 wk, .int .u64 (wn : Int), byE wb, .sl .ext wl], .int .i64 we]) []) (hS : AP Tryd.prog 27 [.agg [.int .i64 wk, .int .u64 (wn : Int), byE wb, .sl .ext wl], .agg [.int .i64 k, .int .u64 (n : Int), byE b, .sl .ext xl]] (.bool false) []) (t4 : (we != 0) = false) :
  AP Tryd.prog 32 [.agg [.int .i64 k, .int .u64 (n : Int), byE b, .sl .ext xl]] (.tup [.agg [.int .u64 0, .int .u64 0, .int .u64 0, .int .i64 0, .sl .ext []], .int .i64 3]) [] := by
 refine AP.ofA ?_
 refine AC_of Tryd.func32 rfl Tryd.ntmps32 rfl rfl ?_
 repeat' (first | (apply AL_callPw (hO); kernel_rfl; (iterate 4 exact rfl)) | (apply AL_callPw (hC); kernel_rfl; (iterate 4 exact rfl)) | (apply AL_callPw (hW); kernel_rfl; (iterate 4 exact rfl)) | (apply AL_callPw (hS); kernel_rfl; (iterate 4 exact rfl)) | (apply AL_move; exact rfl; exact rfl) | (apply AL_assign; exact rfl; exact rfl) | (apply AL_bin; (iterate 5 exact rfl)) | (apply AL_loadn ttok; (iterate 7 exact rfl)) | (apply AL_boxZ; (iterate 5 exact rfl)) | (apply AL_store ttok; (iterate 8 exact rfl)) | (apply AL_not; exact rfl; exact rfl) | (apply AL_convT ttok; (iterate 5 exact rfl)) | (apply AL_extract; (iterate 3 exact rfl)) | refine AL_nil ?_ | (apply AL_guardT; (iterate 3 exact rfl); (first | with_reducible assumption | decide +kernel)) | (apply AL_pickF; exact rfl; (first | with_reducible assumption | decide +kernel); exact rfl; exact rfl) | refine AW_region ?_ | refine AW_seq' ?_ | (apply AW_condA; exact rfl; (first | with_reducible assumption | decide +kernel)) | (apply AW_condB; exact rfl; (first | with_reducible assumption | decide +kernel)) | refine then_norm ?_ | refine AW_block ?_ | refine AW_ret ?_ | refine then_ret ?_ | (apply AL_len ttok; (iterate 4 exact rfl)) | (apply AL_eload1 ttok; (iterate 6 exact rfl)) | (apply AL_efieldAddr ttok; (iterate 7 exact rfl)) | (apply AL_build ttok; (iterate 6 exact rfl)) | (apply AL_allocZ ttok; (iterate 4 exact rfl)) | (apply AW_drawE 24 hmix; (decide +kernel); (kernel_rfl); (kernel_rfl); (kernel_rfl); exact rfl; exact rfl) | (apply AE_consZ; (iterate 4 exact rfl)) | exact AE.nil _ _ _ _ | (apply AEk_puT; exact rfl) | (apply AEk_efT; exact rfl) | (apply AOt_mk; exact rfl; exact rfl; (decide +kernel); exact rfl) | (apply AO_puT; exact rfl) | (apply AO_efT; exact rfl) | exact AO.nil _ _ _ | (apply AOs_skip; (decide +kernel)) | (apply AOs_goZ; (iterate 3 exact rfl)) | exact AOs.nil | exact qY_ok rfl rfl | exact qY_ef rfl rfl | refine AW_skip ?_ | (apply AL_idx ttok; (iterate 6 exact rfl); (first | with_reducible assumption | decide +kernel | exact Int.natCast_nonneg _ | (guard_target = (0:Int) <= (OfNat.ofNat _ : Int); decide) | rotate_left); (first | with_reducible assumption | decide +kernel | exact rfl); (first | exact uniB_ok rfl | with_reducible assumption | decide +kernel | rotate_left)))
 all_goals (apply endQ []; (repeat (first | exact ResL.nil | (apply ResL.cons; first | exact .tmp _ _ rfl | (apply res_n ttok; (iterate 6 exact rfl)) | (apply res_1 ttok; (iterate 5 exact rfl))))); (iterate 4 exact rfl))
 all_goals rfl
end Go.Proofs.YtihkbilhgbmbhaaDoor
end
section
open Go.RowKit Go.Pl Go.Av
namespace Go.Proofs.YtihkbilhgbmbhaaDoor
set_option maxHeartbeats 4000000
theorem br_y [Known] [KnownU8] (k : Int) (n : Nat) (b : List UInt8) (xl : List E) (L : List E) (e : Int) (k0 : Int) (n0 : Nat) (b0 : List UInt8) (l0 : List It) (k1 : Int) (n1 : Nat) (b1 : List UInt8) (l1 : List It) (k2 : Int) (n2 : Nat) (b2 : List UInt8) (l2 : List It) (k3 : Int) (n3 : Nat) (b3 : List UInt8) (l3 : List It) (k4 : Int) (n4 : Nat) (b4 : List UInt8) (l4 : List It) (wk : Int) (wn : Nat) (wb : List UInt8) (wl : List E) (we : Int)
  (hO : AP Tryd.prog 20 [.agg [.int .i64 k, .int .u64 (n : Int), byE b, .sl .ext xl], .int .i64 3] (.tup [.sl .ext L, .int .i64 e]) []) (t1 : (e != 0) = false) (t2 : ((L.length : Int) != 5) = false) (hU : Uni 4 L) (hv0 : L[(0 : Int).toNat]? = some (.agg [.int .i64 k0, .int .u64 (n0 : Int), .sl (b0.map E.byte), .sl (itEs l0)])) (hv1 : L[(1 : Int).toNat]? = some (.agg [.int .i64 k1, .int .u64 (n1 : Int), .sl (b1.map E.byte), .sl (itEs l1)])) (hv2 : L[(2 : Int).toNat]? = some (.agg [.int .i64 k2, .int .u64 (n2 : Int), .sl (b2.map E.byte), .sl (itEs l2)])) (hv3 : L[(3 : Int).toNat]? = some (.agg [.int .i64 k3, .int .u64 (n3 : Int), .sl (b3.map E.byte), .sl (itEs l3)])) (hv4 : L[(4 : Int).toNat]? = some (.agg [.int .i64 k4, .int .u64 (n4 : Int), .sl (b4.map E.byte), .sl (itEs l4)])) (t3 : (k4 != 2) = false)
  (hC : AP Tryd.prog 43 [.sl .ext (b4.map E.byte)] (.sl .ext (b4.map E.byte)) []) (hW : AP Tryd.prog 31 [.agg [.int .u64 (n0 : Int), .int .u64 (n1 : Int), .int .u64 (n2 : Int), .int .i64 (IntKind.i64.wrap (n3 : Int)), .sl .ext (b4.map E.byte)]] (.tup [.agg [.int .i64 wk, .int .u64 (wn : Int), byE wb, .sl .ext wl], .int .i64 we]) []) (hS : AP Tryd.prog 27 [.agg [.int .i64 wk, .int .u64 (wn : Int), byE wb, .sl .ext wl], .agg [.int .i64 k, .int .u64 (n : Int), byE b, .sl .ext xl]] (.bool true) []) (t4 : (we != 0) = false) :
  AP Tryd.prog 32 [.agg [.int .i64 k, .int .u64 (n : Int), byE b, .sl .ext xl]] (.tup [.agg [.int .u64 (n0 : Int), .int .u64 (n1 : Int), .int .u64 (n2 : Int), .int .i64 (IntKind.i64.wrap (n3 : Int)), .sl .ext (b4.map E.byte)], .int .i64 0]) [] := by
 refine AP.ofA ?_
 refine AC_of Tryd.func32 rfl Tryd.ntmps32 rfl rfl ?_
 repeat' (first | (apply AL_callPw (hO); kernel_rfl; (iterate 4 exact rfl)) | (apply AL_callPw (hC); kernel_rfl; (iterate 4 exact rfl)) | (apply AL_callPw (hW); kernel_rfl; (iterate 4 exact rfl)) | (apply AL_callPw (hS); kernel_rfl; (iterate 4 exact rfl)) | (apply AL_move; exact rfl; exact rfl) | (apply AL_assign; exact rfl; exact rfl) | (apply AL_bin; (iterate 5 exact rfl)) | (apply AL_loadn ttok; (iterate 7 exact rfl)) | (apply AL_boxZ; (iterate 5 exact rfl)) | (apply AL_store ttok; (iterate 8 exact rfl)) | (apply AL_not; exact rfl; exact rfl) | (apply AL_convT ttok; (iterate 5 exact rfl)) | (apply AL_extract; (iterate 3 exact rfl)) | refine AL_nil ?_ | (apply AL_guardT; (iterate 3 exact rfl); (first | with_reducible assumption | decide +kernel)) | (apply AL_pickF; exact rfl; (first | with_reducible assumption | decide +kernel); exact rfl; exact rfl) | refine AW_region ?_ | refine AW_seq' ?_ | (apply AW_condB; exact rfl; (first | with_reducible assumption | decide +kernel)) | refine then_norm ?_ | refine AW_block ?_ | refine AW_ret ?_ | (apply AL_len ttok; (iterate 4 exact rfl)) | (apply AL_eload1 ttok; (iterate 6 exact rfl)) | (apply AL_efieldAddr ttok; (iterate 7 exact rfl)) | (apply AL_build ttok; (iterate 6 exact rfl)) | (apply AL_allocZ ttok; (iterate 4 exact rfl)) | (apply AW_drawE 24 hmix; (decide +kernel); (kernel_rfl); (kernel_rfl); (kernel_rfl); exact rfl; exact rfl) | (apply AE_consZ; (iterate 4 exact rfl)) | exact AE.nil _ _ _ _ | (apply AEk_puT; exact rfl) | (apply AEk_efT; exact rfl) | (apply AOt_mk; exact rfl; exact rfl; (decide +kernel); exact rfl) | (apply AO_puT; exact rfl) | (apply AO_efT; exact rfl) | exact AO.nil _ _ _ | (apply AOs_skip; (decide +kernel)) | (apply AOs_goZ; (iterate 3 exact rfl)) | exact AOs.nil | exact qY_ok rfl rfl | exact qY_ef rfl rfl | refine AW_skip ?_ | (apply AL_idx ttok; (iterate 6 exact rfl); (first | with_reducible assumption | decide +kernel | exact Int.natCast_nonneg _ | (guard_target = (0:Int) <= (OfNat.ofNat _ : Int); decide) | rotate_left); (first | with_reducible assumption | decide +kernel | exact rfl); (first | exact uniB_ok rfl | with_reducible assumption | decide +kernel | rotate_left)))
 all_goals (apply endQ []; (repeat (first | exact ResL.nil | (apply ResL.cons; first | exact .tmp _ _ rfl | (apply res_n ttok; (iterate 6 exact rfl)) | (apply res_1 ttok; (iterate 5 exact rfl))))); (iterate 4 exact rfl))
 all_goals rfl
end Go.Proofs.YtihkbilhgbmbhaaDoor
end
section
open Go.RowKit Go.Pl Go.Av
namespace Go.Proofs.YtihkbilhgbmbhaaDoor
set_option maxHeartbeats 4000000
theorem av_bRead [Known] [KnownU8] (x : It) (hw : wfI x) (hxl : x.l.length <= 1000000) (hlim : ∀ s m, s = 1 \/ s = 2 -> (putI (zeroL s (x.l.take m))).length <= 1000000000) (hb : ∀ y ∈ x.l, y.b.length <= 3000) : AP Tryd.prog 32 [itD x] (blkD (readB x)) [] := by
 have hO := av_open x 3 hw hxl hlim
 have hsub := open_sub x 3
 have hws : wfs x.l := by obtain ⟨k, n, b, l⟩ := x; exact hw.2.2.2
 unfold readB
 generalize openV x 3 = o at *
 obtain ⟨ol, oe⟩ := o
 have hlen := itEs_len ol
 have hUo := uniI ol
 dsimp only at hsub
 have hSame := fun (B : BlkV) (h1 : B.fl < 18446744073709551616) (h2 : B.data.length <= 3000) => av_same (writeB B).1 (wf_write h1 h2) x hw
 obtain ⟨k, n, b, l⟩ := x
 dsimp only [It.l] at *
 unfold readX
 dsimp only
 replace hO : AP Tryd.prog 20 [.agg [.int .i64 k, .int .u64 (n : Int), byE b, .sl .ext (itEs l)], .int .i64 3] (.tup [.sl .ext (itEs ol), .int .i64 oe]) [] := hO
 cases t1 : (oe != 0) with
 | true => exact br_e k n b _ _ oe hO t1
 | false =>
 have hno : ol.length ≠ 5 -> AP Tryd.prog 32 [itD (.mk k n b l)] (blkD (bk0, 3)) [] := fun h => br_l k n b _ _ oe hO t1 (by rw [hlen]; simp; omega)
 match ol, hO, hsub, hlen, hUo, hno with
 | [], _, _, _, _, h => exact h (by simp)
 | [.mk _ _ _ _], _, _, _, _, h => exact h (by simp)
 | [.mk _ _ _ _, .mk _ _ _ _], _, _, _, _, h => exact h (by simp)
 | [.mk _ _ _ _, .mk _ _ _ _, .mk _ _ _ _], _, _, _, _, h => exact h (by simp)
 | [.mk _ _ _ _, .mk _ _ _ _, .mk _ _ _ _, .mk _ _ _ _], _, _, _, _, h => exact h (by simp)
 | .mk _ _ _ _ :: .mk _ _ _ _ :: .mk _ _ _ _ :: .mk _ _ _ _ :: .mk _ _ _ _ :: _ :: _, _, _, _, _, h => exact h (by simp)
 | [.mk k0 n0 b0 l0, .mk k1 n1 b1 l1, .mk k2 n2 b2 l2, .mk k3 n3 b3 l3, .mk k4 n4 b4 l4], hO, hsub, hlen, hUo, _ =>
 have t2 : (((itEs [It.mk k0 n0 b0 l0, .mk k1 n1 b1 l1, .mk k2 n2 b2 l2, .mk k3 n3 b3 l3, .mk k4 n4 b4 l4]).length : Int) != 5) = false := by rw [hlen]; rfl
 dsimp only
 cases t3 : (k4 != 2) with
 | true => exact br_k k n b _ _ oe k4 n4 b4 l4 hO t1 t2 hUo rfl t3
 | false =>
 have hw2 : n2 < 18446744073709551616 := (wfs_mem hws (.mk k2 n2 b2 l2) (hsub _ (by simp))).1
 have hb4 : b4.length <= 3000 := hb (.mk k4 n4 b4 l4) (hsub _ (by simp))
 have hC := av_cloneB b4 (by omega)
 have hW := av_bWrite ⟨n0, n1, n2, IntKind.i64.wrap (n3 : Int), b4⟩ hw2 hb4
 have hS := hSame ⟨n0, n1, n2, IntKind.i64.wrap (n3 : Int), b4⟩ hw2 hb4
 clear hSame
 dsimp only
 generalize writeB ⟨n0, n1, n2, IntKind.i64.wrap (n3 : Int), b4⟩ = r at *
 obtain ⟨⟨wk, wn, wb, wl⟩, we⟩ := r
 dsimp only at *
 cases t4 : (we != 0) with
 | true => exact br_w k n b _ _ oe k0 n0 b0 l0 k1 n1 b1 l1 k2 n2 b2 l2 k3 n3 b3 l3 k4 n4 b4 l4 wk wn wb _ we hO t1 t2 hUo rfl rfl rfl rfl rfl t3 hC hW t4
 | false =>
 dsimp only
 cases t5 : It.beq (.mk wk wn wb wl) (.mk k n b l) with
 | false =>
  rw [t5] at hS
  exact br_s k n b _ _ oe k0 n0 b0 l0 k1 n1 b1 l1 k2 n2 b2 l2 k3 n3 b3 l3 k4 n4 b4 l4 wk wn wb _ we hO t1 t2 hUo rfl rfl rfl rfl rfl t3 hC hW hS t4
 | true =>
  rw [t5] at hS
  exact br_y k n b _ _ oe k0 n0 b0 l0 k1 n1 b1 l1 k2 n2 b2 l2 k3 n3 b3 l3 k4 n4 b4 l4 wk wn wb _ we hO t1 t2 hUo rfl rfl rfl rfl rfl t3 hC hW hS t4
end Go.Proofs.YtihkbilhgbmbhaaDoor
end
section
open Go.RowKit Go.Pl Go.Av
namespace Go.Proofs.YtihkbilhgbmbhaaDoor
set_option maxHeartbeats 4000000
def bkSame (a b : BlkV) : Bool := ((a.ty : Int) == (b.ty : Int)) && (((a.num : Int) == (b.num : Int)) && (((a.fl : Int) == (b.fl : Int)) && ((a.sum == b.sum) && (a.data == b.data))))
theorem av_bkSame [Known] (a b : BlkV) : AP Tryd.prog 33 [.agg (bkC a), .agg (bkC b)] (.bool (bkSame a b)) [] := by
 have hE := av_bEq a.data b.data
 obtain ⟨ty, num, fl, sum, data⟩ := a
 obtain ⟨ty2, num2, fl2, sum2, data2⟩ := b
 unfold bkSame
 dsimp only at hE ⊢
 refine AP.ofA ?_
 refine AC_of Tryd.func33 rfl Tryd.ntmps33 rfl rfl ?_
 repeat' (first | (apply AL_callPw (hE); kernel_rfl; (iterate 4 exact rfl)) | (apply AL_move; exact rfl; exact rfl) | (apply AL_assign; exact rfl; exact rfl) | (apply AL_bin; (iterate 5 exact rfl)) | (apply AL_load1 ttok; (iterate 6 exact rfl)) | (apply AL_fieldAddr ttok; (iterate 7 exact rfl)) | (apply AL_boxZ; (iterate 5 exact rfl)) | refine AL_nil ?_ | (apply AL_guardT; (iterate 3 exact rfl); (first | with_reducible assumption | decide +kernel)) | (apply AL_guardFt; (iterate 3 exact rfl); (first | with_reducible assumption | decide +kernel)) | (apply AL_guardS; exact rfl; exact rfl; all_goals intro hb) | (apply AL_pickT; exact rfl; (first | with_reducible assumption | decide +kernel); exact rfl; exact rfl) | (apply AL_pickF; exact rfl; (first | with_reducible assumption | decide +kernel); exact rfl; exact rfl) | refine AW_region ?_ | refine AW_seq' ?_ | refine then_norm ?_ | refine AW_ret ?_)
 all_goals (apply endQ []; (repeat (first | exact ResL.nil | (apply ResL.cons; first | exact .tmp _ _ rfl | (apply res_n ttok; (iterate 6 exact rfl)) | (apply res_1 ttok; (iterate 5 exact rfl))))); (iterate 4 exact rfl))
 all_goals first | rfl | (simp only [*]; done) | (simp only [*]; rfl) | (simp [*]; done)
end Go.Proofs.YtihkbilhgbmbhaaDoor
end
section
open Go.RowKit Go.Pl Go.Av
namespace Go.Proofs.YtihkbilhgbmbhaaDoor
end Go.Proofs.YtihkbilhgbmbhaaDoor
end
section
open Go.RowKit Go.Pl Go.Av
namespace Go.Proofs.YtihkbilhgbmbhaaDoor
set_option maxHeartbeats 4000000
def pathE (x : EidV) : List UInt8 := [47, 47] ++ x.h ++ [47] ++ x.d
theorem eRight_num {x : EidV} (h : eRight x = true) (hz : isZ x = false) (hi : x.i = true) : x.n <= 4294967295 /\ x.s <= 4294967295 /\ x.h = [] /\ x.d = [] /\ 1 <= x.n := by
 rw [eRight_I hz hi] at h
 simp only [Bool.and_eq_true, decide_eq_true_eq, beq_iff_eq] at h
 obtain ⟨⟨⟨⟨_, _, _, h1, h2, _⟩, h3⟩, h4⟩, h5⟩ := h
 exact ⟨by omega, by omega, h1, h2, by omega⟩
theorem eRight_txt {x : EidV} (h : eRight x = true) (hz : isZ x = false) (hi : x.i = false) : x.n = 0 /\ x.s = 0 /\ 1 <= x.h.length /\ x.h.length <= 16 /\ x.d.length <= 24 /\ x.h.all (okB 45) = true /\ x.d.all (okB 47) = true := by
 rw [eRight_T hz hi] at h
 simp only [Bool.and_eq_true, decide_eq_true_eq, beq_iff_eq] at h
 obtain ⟨⟨⟨⟨⟨⟨_, h1, h2, _⟩, h3⟩, h4⟩, h5⟩, h6⟩, h7⟩ := h
 exact ⟨by omega, by omega, by omega, by omega, by omega, h6, h7⟩
theorem av_path [Known] (x : EidV) (h1 : x.h.length <= 16) (h2 : x.d.length <= 24) : AP Tryd.prog 87 [.agg (eC x)] (.str (pathE x)) [] := by
 have l1 : [(47 : UInt8), 47].length + x.h.length <= maxLen := by simp; unfold maxLen; omega
 have l2 : ([(47 : UInt8), 47] ++ x.h).length + [(47 : UInt8)].length <= maxLen := by simp; unfold maxLen; omega
 have l3 : ([(47 : UInt8), 47] ++ x.h ++ [47]).length + x.d.length <= maxLen := by simp; unfold maxLen; omega
 refine AP.ofA ?_
 refine AC_of Tryd.func87 rfl Tryd.ntmps87 rfl rfl ?_
 repeat' (first | (apply AL_cat; exact rfl; exact rfl; (first | exact l1 | exact l2 | exact l3); exact rfl) | (apply AL_assign; exact rfl; exact rfl) | (apply AL_load1 ttok; (iterate 6 exact rfl)) | (apply AL_fieldAddr ttok; (iterate 7 exact rfl)) | (apply AL_boxZ; (iterate 5 exact rfl)) | refine AL_nil ?_ | refine AW_region ?_ | refine AW_seq' ?_ | refine then_norm ?_ | refine AW_ret ?_)
 all_goals (apply endQ []; (repeat (first | exact ResL.nil | (apply ResL.cons; first | exact .tmp _ _ rfl | (apply res_n ttok; (iterate 6 exact rfl)) | (apply res_1 ttok; (iterate 5 exact rfl))))); (iterate 4 exact rfl))
 all_goals rfl
end Go.Proofs.YtihkbilhgbmbhaaDoor
end
section
open Go.RowKit Go.Pl Go.Av
namespace Go.Proofs.YtihkbilhgbmbhaaDoor
set_option maxHeartbeats 4000000
def itemE (x : EidV) : It :=
 if isZ x then .mk 4 0 [] [.mk 0 1 [] [], .mk 0 0 [] []]
 else if x.i then .mk 4 0 [] [.mk 0 2 [] [], .mk 4 0 [] [.mk 0 x.n [] [], .mk 0 x.s [] []]]
 else .mk 4 0 [] [.mk 0 1 [] [], .mk 3 0 (pathE x) []]
theorem av_eWrite [Known] (x : EidV) : AP Tryd.prog 56 [.agg (eC x)] (.tup [itD (if eRight x then itemE x else .mk 0 0 [] []), .int .i64 (if eRight x then 0 else 3)]) [] := by
 have hR := av_eRight x
 cases hr : eRight x with
 | false =>
  rw [hr] at hR
  refine AP.ofA ?_
  refine AC_of Tryd.func56 rfl Tryd.ntmps56 rfl rfl ?_
  repeat' (first | (apply AL_callPw (hR); kernel_rfl; (iterate 4 exact rfl)) | (apply AL_assign; exact rfl; exact rfl) | (apply AL_loadn ttok; (iterate 7 exact rfl)) | (apply AL_boxZ; (iterate 5 exact rfl)) | (apply AL_store ttok; (iterate 8 exact rfl)) | (apply AL_not; exact rfl; exact rfl) | refine AL_nil ?_ | refine AW_region ?_ | refine AW_seq' ?_ | (apply AW_condA; exact rfl; (first | with_reducible assumption | decide +kernel)) | refine then_norm ?_ | refine AW_block ?_ | refine AW_ret ?_ | refine then_ret ?_ | refine blk_ret ?_ | (apply AL_build ttok; (iterate 6 exact rfl)) | (apply AL_allocZ ttok; (iterate 4 exact rfl)))
  all_goals (apply endQ []; (repeat (first | exact ResL.nil | (apply ResL.cons; first | exact .tmp _ _ rfl | (apply res_n ttok; (iterate 6 exact rfl)) | (apply res_1 ttok; (iterate 5 exact rfl))))); (iterate 4 exact rfl))
  all_goals rfl
 | true =>
  rw [hr] at hR
  rw [if_pos rfl, if_pos rfl]
  unfold itemE
  cases hz : isZ x with
  | true =>
   rw [if_pos rfl]
   have n1 := av_num 1
   have n0 := av_num 0
   have hL := av_list [.mk 0 1 [] [], .mk 0 0 [] []] (by decide) (by simp [wfI, wfs])
   replace n1 : AP Tryd.prog _ [.int .u64 1] (.agg [.int .i64 0, .int .u64 1, .sl .ext [], .sl .ext []]) [] := n1
   replace n0 : AP Tryd.prog _ [.int .u64 0] (.agg [.int .i64 0, .int .u64 0, .sl .ext [], .sl .ext []]) [] := n0
   unfold isZ at hz
   refine AP.ofA ?_
   refine AC_of Tryd.func56 rfl Tryd.ntmps56 rfl rfl ?_
   repeat' (first | (apply AL_callPw (hR); kernel_rfl; (iterate 4 exact rfl)) | (apply AL_callPw (n1); kernel_rfl; (iterate 4 exact rfl)) | (apply AL_callPw (n0); kernel_rfl; (iterate 4 exact rfl)) | (apply AL_callPw (hL); kernel_rfl; (iterate 4 exact rfl)) | (apply AL_assign; exact rfl; exact rfl) | (apply AL_loadn ttok; (iterate 7 exact rfl)) | (apply AL_boxZ; (iterate 5 exact rfl)) | (apply AL_store ttok; (iterate 8 exact rfl)) | (apply AL_not; exact rfl; exact rfl) | refine AL_nil ?_ | refine AW_region ?_ | refine AW_seq' ?_ | (apply AW_condA; exact rfl; (first | with_reducible assumption | decide +kernel)) | (apply AW_condB; exact rfl; (first | with_reducible assumption | decide +kernel)) | refine then_norm ?_ | refine AW_block ?_ | refine AW_ret ?_ | refine then_ret ?_ | refine blk_ret ?_ | (apply AL_build ttok; (iterate 6 exact rfl)) | (apply AL_allocZ ttok; (iterate 4 exact rfl)) | (apply AL_bsZ ttok; (iterate 12 exact rfl)) | (apply AL_eqS ttok; (iterate 4 exact rfl); (kernel_rfl); (kernel_rfl); (iterate 3 exact rfl)))
   all_goals (apply endQ []; (repeat (first | exact ResL.nil | (apply ResL.cons; first | exact .tmp _ _ rfl | (apply res_n ttok; (iterate 6 exact rfl)) | (apply res_1 ttok; (iterate 5 exact rfl))))); (iterate 4 exact rfl))
   all_goals rfl
  | false =>
   rw [if_neg (by simp)]
   cases hi : x.i with
   | true =>
    obtain ⟨b1, b2, _⟩ := eRight_num hr hz hi
    rw [if_pos rfl]
    have n2 := av_num 2
    have nn := av_num x.n
    have ns := av_num x.s
    have hL1 := av_list [.mk 0 x.n [] [], .mk 0 x.s [] []] (by simp) (by simp [wfI, wfs]; omega)
    have hL := av_list [.mk 0 2 [] [], .mk 4 0 [] [.mk 0 x.n [] [], .mk 0 x.s [] []]] (by simp) (by simp [wfI, wfs]; omega)
    replace n2 : AP Tryd.prog _ [.int .u64 2] (.agg [.int .i64 0, .int .u64 2, .sl .ext [], .sl .ext []]) [] := n2
    replace nn : AP Tryd.prog _ [.int .u64 (x.n : Int)] (.agg [.int .i64 0, .int .u64 (x.n : Int), .sl .ext [], .sl .ext []]) [] := nn
    replace ns : AP Tryd.prog _ [.int .u64 (x.s : Int)] (.agg [.int .i64 0, .int .u64 (x.s : Int), .sl .ext [], .sl .ext []]) [] := ns
    replace hL1 : AP Tryd.prog _ _ (.agg [.int .i64 4, .int .u64 0, .sl .ext [], .sl .ext [.agg [.int .i64 0, .int .u64 (x.n : Int), .sl [], .sl []], .agg [.int .i64 0, .int .u64 (x.s : Int), .sl [], .sl []]]]) [] := hL1
    unfold isZ at hz
    refine AP.ofA ?_
    refine AC_of Tryd.func56 rfl Tryd.ntmps56 rfl rfl ?_
    repeat' (first | (apply AL_callPw (hR); kernel_rfl; (iterate 4 exact rfl)) | (apply AL_callPw (n2); kernel_rfl; (iterate 4 exact rfl)) | (apply AL_callPw (nn); kernel_rfl; (iterate 4 exact rfl)) | (apply AL_callPw (ns); kernel_rfl; (iterate 4 exact rfl)) | (apply AL_callPw (hL1); kernel_rfl; (iterate 4 exact rfl)) | (apply AL_callPw (hL); kernel_rfl; (iterate 4 exact rfl)) | (apply AL_assign; exact rfl; exact rfl) | (apply AL_load1 ttok; (iterate 6 exact rfl)) | (apply AL_loadn ttok; (iterate 7 exact rfl)) | (apply AL_fieldAddr ttok; (iterate 7 exact rfl)) | (apply AL_boxZ; (iterate 5 exact rfl)) | (apply AL_store ttok; (iterate 8 exact rfl)) | (apply AL_not; exact rfl; exact rfl) | refine AL_nil ?_ | refine AW_region ?_ | refine AW_seq' ?_ | (apply AW_condA; exact rfl; (first | with_reducible assumption | decide +kernel)) | (apply AW_condB; exact rfl; (first | with_reducible assumption | decide +kernel)) | refine then_norm ?_ | refine AW_block ?_ | refine AW_ret ?_ | refine then_ret ?_ | refine blk_ret ?_ | (apply AL_build ttok; (iterate 6 exact rfl)) | (apply AL_allocZ ttok; (iterate 4 exact rfl)) | (apply AL_bsZ ttok; (iterate 12 exact rfl)) | (apply AL_eqS ttok; (iterate 4 exact rfl); (kernel_rfl); (kernel_rfl); (iterate 3 exact rfl)) | (apply AW_drawE 6 hmix; (decide +kernel); (kernel_rfl); (kernel_rfl); (kernel_rfl); exact rfl; exact rfl) | (apply AE_consZ; (iterate 4 exact rfl)) | exact AE.nil _ _ _ _ | (apply AEk_puT; exact rfl) | (apply AOt_mk; exact rfl; exact rfl; (decide +kernel); exact rfl) | (apply AO_puT; exact rfl) | exact AO.nil _ _ _ | (apply AOs_skip; (decide +kernel)) | exact AOs.nil | exact qY_ok rfl rfl)
    all_goals (apply endQ []; (repeat (first | exact ResL.nil | (apply ResL.cons; first | exact .tmp _ _ rfl | (apply res_n ttok; (iterate 6 exact rfl)) | (apply res_1 ttok; (iterate 5 exact rfl))))); (iterate 4 exact rfl))
    all_goals rfl
   | false =>
    obtain ⟨_, _, _, b1, b2, _⟩ := eRight_txt hr hz hi
    rw [if_neg (by simp)]
    have n1 := av_num 1
    have hP := av_path x b1 b2
    have hT := av_text (pathE x)
    have hpl : (pathE x).length <= 1099511627776 := by unfold pathE; simp; omega
    generalize pathE x = p at *
    have hL := av_list [.mk 0 1 [] [], .mk 3 0 p []] (by simp) (by simp [wfI, wfs]; omega)
    replace n1 : AP Tryd.prog _ [.int .u64 1] (.agg [.int .i64 0, .int .u64 1, .sl .ext [], .sl .ext []]) [] := n1
    replace hT : AP Tryd.prog _ [.str p] (.agg [.int .i64 3, .int .u64 0, byE p, .sl .ext []]) [] := hT
    unfold isZ at hz
    refine AP.ofA ?_
    refine AC_of Tryd.func56 rfl Tryd.ntmps56 rfl rfl ?_
    repeat' (first | (apply AL_callPw (hR); kernel_rfl; (iterate 4 exact rfl)) | (apply AL_callPw (n1); kernel_rfl; (iterate 4 exact rfl)) | (apply AL_callPw (hP); kernel_rfl; (iterate 4 exact rfl)) | (apply AL_callPw (hT); kernel_rfl; (iterate 4 exact rfl)) | (apply AL_callPw (hL); kernel_rfl; (iterate 4 exact rfl)) | (apply AL_assign; exact rfl; exact rfl) | (apply AL_load1 ttok; (iterate 6 exact rfl)) | (apply AL_loadn ttok; (iterate 7 exact rfl)) | (apply AL_fieldAddr ttok; (iterate 7 exact rfl)) | (apply AL_boxZ; (iterate 5 exact rfl)) | (apply AL_store ttok; (iterate 8 exact rfl)) | (apply AL_not; exact rfl; exact rfl) | refine AL_nil ?_ | refine AW_region ?_ | refine AW_seq' ?_ | (apply AW_condB; exact rfl; (first | with_reducible assumption | decide +kernel)) | refine then_norm ?_ | refine AW_block ?_ | refine AW_ret ?_ | (apply AL_build ttok; (iterate 6 exact rfl)) | (apply AL_allocZ ttok; (iterate 4 exact rfl)) | (apply AL_bsZ ttok; (iterate 12 exact rfl)) | (apply AL_eqS ttok; (iterate 4 exact rfl); (kernel_rfl); (kernel_rfl); (iterate 3 exact rfl)) | (apply AW_drawE 2 hmix; (decide +kernel); (kernel_rfl); (kernel_rfl); (kernel_rfl); exact rfl; exact rfl) | (apply AE_consZ; (iterate 4 exact rfl)) | exact AE.nil _ _ _ _ | (apply AEk_puT; exact rfl) | (apply AOt_mk; exact rfl; exact rfl; (decide +kernel); exact rfl) | (apply AO_puT; exact rfl) | exact AO.nil _ _ _ | (apply AOs_skip; (decide +kernel)) | exact AOs.nil | exact qY_ok rfl rfl | refine AW_skip ?_)
    all_goals (apply endQ []; (repeat (first | exact ResL.nil | (apply ResL.cons; first | exact .tmp _ _ rfl | (apply res_n ttok; (iterate 6 exact rfl)) | (apply res_1 ttok; (iterate 5 exact rfl))))); (iterate 4 exact rfl))
    all_goals rfl
end Go.Proofs.YtihkbilhgbmbhaaDoor
end
section
open Go.RowKit Go.Pl Go.Av
namespace Go.Proofs.YtihkbilhgbmbhaaDoor
theorem ppV_path {x : EidV} (h : eRight x = true) (hz : isZ x = false) (hi : x.i = false) : ppV (pathE x) = (x, true) := by
 obtain ⟨b1, b2, b3, b4, b5, b6, b7⟩ := eRight_txt h hz hi
 have e1 : pathE x = [47, 47] ++ (x.h ++ 47 :: x.d) := by simp [pathE]
 rw [e1]
 unfold ppV
 rw [preV_app]
 dsimp only
 rw [cutV_yes (not_mem_ok b6 (by decide))]
 dsimp only
 have ex : (⟨false, 0, 0, x.h, x.d⟩ : EidV) = x := by
  obtain ⟨i, n, s, hh, d⟩ := x
  simp only at hi b1 b2
  rw [hi, b1, b2]
 rw [ex, h]
 have : (x.h != []) = true := by
  rw [bne_iff_ne]
  intro e
  rw [e] at b3
  simp at b3
 rw [this]
 rfl
theorem wf_itemE {x : EidV} (h : eRight x = true) : wfI (itemE x) := by
 unfold itemE
 cases hz : isZ x with
 | true => rw [if_pos rfl]; simp [wfI, wfs]
 | false =>
  rw [if_neg (by simp)]
  cases hi : x.i with
  | true =>
   obtain ⟨b1, b2, b3, b4, b5⟩ := eRight_num h hz hi
   rw [if_pos rfl]
   simp [wfI, wfs]
   omega
  | false =>
   obtain ⟨b1, b2, b3, b4, b5, b6, b7⟩ := eRight_txt h hz hi
   rw [if_neg (by simp)]
   simp [wfI, wfs, pathE]
   omega
theorem readV_itemE {x : EidV} (h : eRight x = true) (hr : rightI (itemE x) = true) : readV (itemE x) = (x, true) := by
 unfold readV
 rw [hr]
 unfold itemE
 cases hz : isZ x with
 | true =>
  rw [if_pos rfl, isZ_iff.1 hz]
  rfl
 | false =>
  rw [if_neg (by simp)]
  cases hi : x.i with
  | true =>
   obtain ⟨b1, b2, b3, b4, b5⟩ := eRight_num h hz hi
   rw [if_pos rfl]
   dsimp only
   rw [if_pos rfl]
   have ex : (⟨true, x.n, x.s, [], []⟩ : EidV) = x := by
    obtain ⟨i, n, s, hh, d⟩ := x
    simp only at hi b3 b4
    rw [hi, b3, b4]
   have e1 : isNum 1 (.mk 0 2 [] []) = false := rfl
   have e2 : isNum 2 (.mk 0 2 [] []) = true := rfl
   have e3 : ∀ n, isNum n (.mk 0 n [] []) = true := fun n => It.beq_iff.2 rfl
   have e4 : numsV (.mk 4 0 [] [.mk 0 x.n [] [], .mk 0 x.s [] []]) = some (x.n, x.s) := by
    unfold numsV
    dsimp only
    rw [if_pos rfl]
    simp only [It.n, e3, Bool.and_self]
   unfold readV2
   rw [e1, e2, e4]
   dsimp only
   rw [ex, h]
  | false =>
   rw [if_neg (by simp)]
   dsimp only
   rw [if_pos rfl]
   have e1 : isNum 1 (.mk 0 1 [] []) = true := rfl
   have e2 : isNum 0 (.mk 3 0 (pathE x) []) = false := rfl
   unfold readV2
   rw [e1, e2]
   exact ppV_path h hz hi
end Go.Proofs.YtihkbilhgbmbhaaDoor
end
