/- Package canon: a block, read, by cases. -/
import Derived.Test.YtihkbilhgbmbhaaDoorG34
section
open Go.RowKit Go.Pl Go.Av
namespace Go.Proofs.YtihkbilhgbmbhaaDoor
set_option linter.unusedVariables false
set_option linter.unusedSimpArgs false
set_option maxHeartbeats 4000000
/-- the block of an item -/
def readX (x : It) (o : List It × Int) : BlkV × Int := match o.2 != 0 with
  | true => (bk0, o.2)
  | false => match o.1 with
    | [.mk k0 n0 b0 l0, .mk k1 n1 b1 l1, .mk k2 n2 b2 l2, .mk k3 n3 b3 l3, .mk k4 n4 b4 l4] => (match k4 != 2 with
      | true => (bk0, 3)
      | false => match (writeB ⟨n0, n1, n2, IntKind.i64.wrap (n3 : Int), b4⟩).2 != 0 with
        | true => (bk0, 3)
        | false => match It.beq (writeB ⟨n0, n1, n2, IntKind.i64.wrap (n3 : Int), b4⟩).1 x with
          | false => (bk0, 3)
          | true => (⟨n0, n1, n2, IntKind.i64.wrap (n3 : Int), b4⟩, 0))
    | _ => (bk0, 3)
def readB (x : It) : BlkV × Int := readX x (openV x 3)
theorem open_sub (x : It) (a : Int) : ∀ y ∈ (openV x a).1, y ∈ x.l := by
  obtain ⟨k, n, b, l⟩ := x
  unfold openV
  dsimp only [It.l]
  have hs : ∀ (m : Nat) (y : It), y ∈ l.take m → y ∈ l := fun m y h => List.mem_of_mem_take h
  repeat' split
  all_goals first | exact hs _ | (intro y h; exact h) | (intro y h; exact absurd h (by simp))
theorem wf_z0 : wfI z0 := ⟨by decide, by simp, by simp, trivial⟩
theorem wf_outA (s : Nat) {l : List It} (hws : wfs l) (hl : l.length ≤ 1000000) : wfI (outL s l) := by
  refine ⟨by decide, by simp, by simp; omega, wfs_app hws ⟨⟨by decide, ?_, by simp, trivial⟩, trivial⟩⟩
  have : (sumB s (putI (zeroL s l))).length ≤ 4 := by
    unfold sumB
    split <;> simp
  omega
theorem wf_seal {l : List It} (a : Int) (hws : wfs l) (hl : l.length ≤ 1000000) : wfI (sealV l a).1 := by
  unfold sealV
  have h0 : wfI (.mk 4 0 [] l) := ⟨by decide, by simp, by omega, hws⟩
  repeat' split
  all_goals first | exact wf_z0 | exact h0 | exact wf_outA _ hws hl
theorem wf_write {b : BlkV} (hfl : b.fl < 18446744073709551616) (hd : b.data.length ≤ 3000) : wfI (writeB b).1 := by
  unfold writeB
  cases h : bkRight b with
  | false => exact wf_z0
  | true => exact wf_seal 3 (wfs_B h hfl hd) (by simp [listB])
theorem br_e [Known] [KnownU8] (k : Int) (n : Nat) (b : List UInt8) (xl : List E) (L : List E) (e : Int)
    (hO : AP Tryd.prog 20 [.agg [.int .i64 k, .int .u64 (n : Int), byE b, .sl .ext xl], .int .i64 3] (.tup [.sl .ext L, .int .i64 e]) []) (t1 : (e != 0) = true) :
    AP Tryd.prog 32 [.agg [.int .i64 k, .int .u64 (n : Int), byE b, .sl .ext xl]] (.tup [.agg [.int .u64 0, .int .u64 0, .int .u64 0, .int .i64 0, .sl .ext []], .int .i64 e]) [] := by
  refine AP.ofA ?_
  refine AC_of Tryd.func32 rfl Tryd.ntmps32 rfl rfl ?_
  repeat' (first | (apply AL_callPw (hO); kernel_rfl; (iterate 4 exact rfl)) | (apply AL_move; exact rfl; exact rfl) | (apply AL_assign; exact rfl; exact rfl) | (apply AL_bin; (iterate 5 exact rfl)) | (apply AL_loadn ttok; (iterate 7 exact rfl)) | (apply AL_boxZ; (iterate 5 exact rfl)) | (apply AL_store ttok; (iterate 8 exact rfl)) | (apply AL_extract; (iterate 3 exact rfl)) | refine AL_nil ?_ | refine AW_region ?_ | refine AW_seq' ?_ | (apply AW_condA; exact rfl; (first | with_reducible assumption | decide +kernel)) | refine then_norm ?_ | refine AW_block ?_ | refine AW_ret ?_ | refine then_ret ?_ | refine blk_ret ?_ | (apply AL_build ttok; (iterate 6 exact rfl)) | (apply AL_allocZ ttok; (iterate 4 exact rfl)))
  all_goals (apply endQ []; (repeat (first | exact ResL.nil | (apply ResL.cons; first | exact .tmp _ _ rfl | (apply res_n ttok; (iterate 6 exact rfl)) | (apply res_1 ttok; (iterate 5 exact rfl))))); (iterate 4 exact rfl))
  all_goals rfl
theorem br_l [Known] [KnownU8] (k : Int) (n : Nat) (b : List UInt8) (xl : List E) (L : List E) (e : Int)
    (hO : AP Tryd.prog 20 [.agg [.int .i64 k, .int .u64 (n : Int), byE b, .sl .ext xl], .int .i64 3] (.tup [.sl .ext L, .int .i64 e]) []) (t1 : (e != 0) = false) (t2 : ((L.length : Int) != 5) = true) :
    AP Tryd.prog 32 [.agg [.int .i64 k, .int .u64 (n : Int), byE b, .sl .ext xl]] (.tup [.agg [.int .u64 0, .int .u64 0, .int .u64 0, .int .i64 0, .sl .ext []], .int .i64 3]) [] := by
  refine AP.ofA ?_
  refine AC_of Tryd.func32 rfl Tryd.ntmps32 rfl rfl ?_
  repeat' (first | (apply AL_callPw (hO); kernel_rfl; (iterate 4 exact rfl)) | (apply AL_move; exact rfl; exact rfl) | (apply AL_assign; exact rfl; exact rfl) | (apply AL_bin; (iterate 5 exact rfl)) | (apply AL_loadn ttok; (iterate 7 exact rfl)) | (apply AL_boxZ; (iterate 5 exact rfl)) | (apply AL_store ttok; (iterate 8 exact rfl)) | (apply AL_extract; (iterate 3 exact rfl)) | refine AL_nil ?_ | (apply AL_guardFf; (iterate 3 exact rfl); (first | with_reducible assumption | decide +kernel)) | (apply AL_pickT; exact rfl; (first | with_reducible assumption | decide +kernel); exact rfl; exact rfl) | refine AW_region ?_ | refine AW_seq' ?_ | (apply AW_condA; exact rfl; (first | with_reducible assumption | decide +kernel)) | (apply AW_condB; exact rfl; (first | with_reducible assumption | decide +kernel)) | refine then_norm ?_ | refine AW_block ?_ | refine AW_ret ?_ | refine then_ret ?_ | refine blk_ret ?_ | (apply AL_len ttok; (iterate 4 exact rfl)) | (apply AL_build ttok; (iterate 6 exact rfl)) | (apply AL_allocZ ttok; (iterate 4 exact rfl)))
  all_goals (apply endQ []; (repeat (first | exact ResL.nil | (apply ResL.cons; first | exact .tmp _ _ rfl | (apply res_n ttok; (iterate 6 exact rfl)) | (apply res_1 ttok; (iterate 5 exact rfl))))); (iterate 4 exact rfl))
  all_goals rfl
theorem br_k [Known] [KnownU8] (k : Int) (n : Nat) (b : List UInt8) (xl : List E) (L : List E) (e : Int) (k4 : Int) (n4 : Nat) (b4 : List UInt8) (l4 : List It)
    (hO : AP Tryd.prog 20 [.agg [.int .i64 k, .int .u64 (n : Int), byE b, .sl .ext xl], .int .i64 3] (.tup [.sl .ext L, .int .i64 e]) []) (t1 : (e != 0) = false) (t2 : ((L.length : Int) != 5) = false) (hU : Uni 4 L) (hv4 : L[(4 : Int).toNat]? = some (.agg [.int .i64 k4, .int .u64 (n4 : Int), .sl (b4.map E.byte), .sl (itEs l4)])) (t3 : (k4 != 2) = true) :
    AP Tryd.prog 32 [.agg [.int .i64 k, .int .u64 (n : Int), byE b, .sl .ext xl]] (.tup [.agg [.int .u64 0, .int .u64 0, .int .u64 0, .int .i64 0, .sl .ext []], .int .i64 3]) [] := by
  refine AP.ofA ?_
  refine AC_of Tryd.func32 rfl Tryd.ntmps32 rfl rfl ?_
  repeat' (first | (apply AL_callPw (hO); kernel_rfl; (iterate 4 exact rfl)) | (apply AL_move; exact rfl; exact rfl) | (apply AL_assign; exact rfl; exact rfl) | (apply AL_bin; (iterate 5 exact rfl)) | (apply AL_loadn ttok; (iterate 7 exact rfl)) | (apply AL_boxZ; (iterate 5 exact rfl)) | (apply AL_store ttok; (iterate 8 exact rfl)) | (apply AL_extract; (iterate 3 exact rfl)) | refine AL_nil ?_ | (apply AL_guardT; (iterate 3 exact rfl); (first | with_reducible assumption | decide +kernel)) | (apply AL_pickF; exact rfl; (first | with_reducible assumption | decide +kernel); exact rfl; exact rfl) | refine AW_region ?_ | refine AW_seq' ?_ | (apply AW_condA; exact rfl; (first | with_reducible assumption | decide +kernel)) | (apply AW_condB; exact rfl; (first | with_reducible assumption | decide +kernel)) | refine then_norm ?_ | refine AW_block ?_ | refine AW_ret ?_ | refine then_ret ?_ | refine blk_ret ?_ | (apply AL_len ttok; (iterate 4 exact rfl)) | (apply AL_eload1 ttok; (iterate 6 exact rfl)) | (apply AL_efieldAddr ttok; (iterate 7 exact rfl)) | (apply AL_build ttok; (iterate 6 exact rfl)) | (apply AL_allocZ ttok; (iterate 4 exact rfl)) | (apply AL_idx ttok; (iterate 6 exact rfl); (first | with_reducible assumption | decide +kernel | exact Int.natCast_nonneg _ | (guard_target = (0:Int) ≤ (OfNat.ofNat _ : Int); decide) | rotate_left); (first | with_reducible assumption | decide +kernel | exact rfl); (first | exact uniB_ok rfl | with_reducible assumption | decide +kernel | rotate_left)))
  all_goals (apply endQ []; (repeat (first | exact ResL.nil | (apply ResL.cons; first | exact .tmp _ _ rfl | (apply res_n ttok; (iterate 6 exact rfl)) | (apply res_1 ttok; (iterate 5 exact rfl))))); (iterate 4 exact rfl))
  all_goals rfl
end Go.Proofs.YtihkbilhgbmbhaaDoor
end
/- Package canon: a block, read, by cases. -/
section
open Go.RowKit Go.Pl Go.Av
namespace Go.Proofs.YtihkbilhgbmbhaaDoor
set_option linter.unusedVariables false
set_option linter.unusedSimpArgs false
set_option maxHeartbeats 4000000
theorem br_w [Known] [KnownU8] (k : Int) (n : Nat) (b : List UInt8) (xl : List E) (L : List E) (e : Int) (k0 : Int) (n0 : Nat) (b0 : List UInt8) (l0 : List It) (k1 : Int) (n1 : Nat) (b1 : List UInt8) (l1 : List It) (k2 : Int) (n2 : Nat) (b2 : List UInt8) (l2 : List It) (k3 : Int) (n3 : Nat) (b3 : List UInt8) (l3 : List It) (k4 : Int) (n4 : Nat) (b4 : List UInt8) (l4 : List It) (wk : Int) (wn : Nat) (wb : List UInt8) (wl : List E) (we : Int)
    (hO : AP Tryd.prog 20 [.agg [.int .i64 k, .int .u64 (n : Int), byE b, .sl .ext xl], .int .i64 3] (.tup [.sl .ext L, .int .i64 e]) []) (t1 : (e != 0) = false) (t2 : ((L.length : Int) != 5) = false) (hU : Uni 4 L) (hv0 : L[(0 : Int).toNat]? = some (.agg [.int .i64 k0, .int .u64 (n0 : Int), .sl (b0.map E.byte), .sl (itEs l0)])) (hv1 : L[(1 : Int).toNat]? = some (.agg [.int .i64 k1, .int .u64 (n1 : Int), .sl (b1.map E.byte), .sl (itEs l1)])) (hv2 : L[(2 : Int).toNat]? = some (.agg [.int .i64 k2, .int .u64 (n2 : Int), .sl (b2.map E.byte), .sl (itEs l2)])) (hv3 : L[(3 : Int).toNat]? = some (.agg [.int .i64 k3, .int .u64 (n3 : Int), .sl (b3.map E.byte), .sl (itEs l3)])) (hv4 : L[(4 : Int).toNat]? = some (.agg [.int .i64 k4, .int .u64 (n4 : Int), .sl (b4.map E.byte), .sl (itEs l4)])) (t3 : (k4 != 2) = false)
    (hC : AP Tryd.prog 43 [.sl .ext (b4.map E.byte)] (.sl .ext (b4.map E.byte)) []) (hW : AP Tryd.prog 31 [.agg [.int .u64 (n0 : Int), .int .u64 (n1 : Int), .int .u64 (n2 : Int), .int .i64 (IntKind.i64.wrap (n3 : Int)), .sl .ext (b4.map E.byte)]] (.tup [.agg [.int .i64 wk, .int .u64 (wn : Int), byE wb, .sl .ext wl], .int .i64 we]) []) (t4 : (we != 0) = true) :
    AP Tryd.prog 32 [.agg [.int .i64 k, .int .u64 (n : Int), byE b, .sl .ext xl]] (.tup [.agg [.int .u64 0, .int .u64 0, .int .u64 0, .int .i64 0, .sl .ext []], .int .i64 3]) [] := by
  refine AP.ofA ?_
  refine AC_of Tryd.func32 rfl Tryd.ntmps32 rfl rfl ?_
  repeat' (first | (apply AL_callPw (hO); kernel_rfl; (iterate 4 exact rfl)) | (apply AL_callPw (hC); kernel_rfl; (iterate 4 exact rfl)) | (apply AL_callPw (hW); kernel_rfl; (iterate 4 exact rfl)) | (apply AL_move; exact rfl; exact rfl) | (apply AL_assign; exact rfl; exact rfl) | (apply AL_bin; (iterate 5 exact rfl)) | (apply AL_loadn ttok; (iterate 7 exact rfl)) | (apply AL_boxZ; (iterate 5 exact rfl)) | (apply AL_store ttok; (iterate 8 exact rfl)) | (apply AL_convT ttok; (iterate 5 exact rfl)) | (apply AL_extract; (iterate 3 exact rfl)) | refine AL_nil ?_ | (apply AL_guardT; (iterate 3 exact rfl); (first | with_reducible assumption | decide +kernel)) | (apply AL_guardFf; (iterate 3 exact rfl); (first | with_reducible assumption | decide +kernel)) | (apply AL_pickT; exact rfl; (first | with_reducible assumption | decide +kernel); exact rfl; exact rfl) | (apply AL_pickF; exact rfl; (first | with_reducible assumption | decide +kernel); exact rfl; exact rfl) | refine AW_region ?_ | refine AW_seq' ?_ | (apply AW_condA; exact rfl; (first | with_reducible assumption | decide +kernel)) | (apply AW_condB; exact rfl; (first | with_reducible assumption | decide +kernel)) | refine then_norm ?_ | refine AW_block ?_ | refine AW_ret ?_ | refine then_ret ?_ | (apply AL_len ttok; (iterate 4 exact rfl)) | (apply AL_eload1 ttok; (iterate 6 exact rfl)) | (apply AL_efieldAddr ttok; (iterate 7 exact rfl)) | (apply AL_build ttok; (iterate 6 exact rfl)) | (apply AL_allocZ ttok; (iterate 4 exact rfl)) | (apply AW_drawE 24 hmix; (decide +kernel); (kernel_rfl); (kernel_rfl); (kernel_rfl); exact rfl; exact rfl) | (apply AE_consZ; (iterate 4 exact rfl)) | exact AE.nil _ _ _ _ | (apply AEk_puT; exact rfl) | (apply AEk_efT; exact rfl) | (apply AOt_mk; exact rfl; exact rfl; (decide +kernel); exact rfl) | (apply AO_puT; exact rfl) | (apply AO_efT; exact rfl) | exact AO.nil _ _ _ | (apply AOs_skip; (decide +kernel)) | (apply AOs_goZ; (iterate 3 exact rfl)) | exact AOs.nil | exact qY_ok rfl rfl | exact qY_ef rfl rfl | refine AW_skip ?_ | (apply AL_idx ttok; (iterate 6 exact rfl); (first | with_reducible assumption | decide +kernel | exact Int.natCast_nonneg _ | (guard_target = (0:Int) ≤ (OfNat.ofNat _ : Int); decide) | rotate_left); (first | with_reducible assumption | decide +kernel | exact rfl); (first | exact uniB_ok rfl | with_reducible assumption | decide +kernel | rotate_left)))
  all_goals (apply endQ []; (repeat (first | exact ResL.nil | (apply ResL.cons; first | exact .tmp _ _ rfl | (apply res_n ttok; (iterate 6 exact rfl)) | (apply res_1 ttok; (iterate 5 exact rfl))))); (iterate 4 exact rfl))
  all_goals rfl
theorem br_s [Known] [KnownU8] (k : Int) (n : Nat) (b : List UInt8) (xl : List E) (L : List E) (e : Int) (k0 : Int) (n0 : Nat) (b0 : List UInt8) (l0 : List It) (k1 : Int) (n1 : Nat) (b1 : List UInt8) (l1 : List It) (k2 : Int) (n2 : Nat) (b2 : List UInt8) (l2 : List It) (k3 : Int) (n3 : Nat) (b3 : List UInt8) (l3 : List It) (k4 : Int) (n4 : Nat) (b4 : List UInt8) (l4 : List It) (wk : Int) (wn : Nat) (wb : List UInt8) (wl : List E) (we : Int)
    (hO : AP Tryd.prog 20 [.agg [.int .i64 k, .int .u64 (n : Int), byE b, .sl .ext xl], .int .i64 3] (.tup [.sl .ext L, .int .i64 e]) []) (t1 : (e != 0) = false) (t2 : ((L.length : Int) != 5) = false) (hU : Uni 4 L) (hv0 : L[(0 : Int).toNat]? = some (.agg [.int .i64 k0, .int .u64 (n0 : Int), .sl (b0.map E.byte), .sl (itEs l0)])) (hv1 : L[(1 : Int).toNat]? = some (.agg [.int .i64 k1, .int .u64 (n1 : Int), .sl (b1.map E.byte), .sl (itEs l1)])) (hv2 : L[(2 : Int).toNat]? = some (.agg [.int .i64 k2, .int .u64 (n2 : Int), .sl (b2.map E.byte), .sl (itEs l2)])) (hv3 : L[(3 : Int).toNat]? = some (.agg [.int .i64 k3, .int .u64 (n3 : Int), .sl (b3.map E.byte), .sl (itEs l3)])) (hv4 : L[(4 : Int).toNat]? = some (.agg [.int .i64 k4, .int .u64 (n4 : Int), .sl (b4.map E.byte), .sl (itEs l4)])) (t3 : (k4 != 2) = false)
    (hC : AP Tryd.prog 43 [.sl .ext (b4.map E.byte)] (.sl .ext (b4.map E.byte)) []) (hW : AP Tryd.prog 31 [.agg [.int .u64 (n0 : Int), .int .u64 (n1 : Int), .int .u64 (n2 : Int), .int .i64 (IntKind.i64.wrap (n3 : Int)), .sl .ext (b4.map E.byte)]] (.tup [.agg [.int .i64 wk, .int .u64 (wn : Int), byE wb, .sl .ext wl], .int .i64 we]) []) (hS : AP Tryd.prog 27 [.agg [.int .i64 wk, .int .u64 (wn : Int), byE wb, .sl .ext wl], .agg [.int .i64 k, .int .u64 (n : Int), byE b, .sl .ext xl]] (.bool false) []) (t4 : (we != 0) = false) :
    AP Tryd.prog 32 [.agg [.int .i64 k, .int .u64 (n : Int), byE b, .sl .ext xl]] (.tup [.agg [.int .u64 0, .int .u64 0, .int .u64 0, .int .i64 0, .sl .ext []], .int .i64 3]) [] := by
  refine AP.ofA ?_
  refine AC_of Tryd.func32 rfl Tryd.ntmps32 rfl rfl ?_
  repeat' (first | (apply AL_callPw (hO); kernel_rfl; (iterate 4 exact rfl)) | (apply AL_callPw (hC); kernel_rfl; (iterate 4 exact rfl)) | (apply AL_callPw (hW); kernel_rfl; (iterate 4 exact rfl)) | (apply AL_callPw (hS); kernel_rfl; (iterate 4 exact rfl)) | (apply AL_move; exact rfl; exact rfl) | (apply AL_assign; exact rfl; exact rfl) | (apply AL_bin; (iterate 5 exact rfl)) | (apply AL_loadn ttok; (iterate 7 exact rfl)) | (apply AL_boxZ; (iterate 5 exact rfl)) | (apply AL_store ttok; (iterate 8 exact rfl)) | (apply AL_not; exact rfl; exact rfl) | (apply AL_convT ttok; (iterate 5 exact rfl)) | (apply AL_extract; (iterate 3 exact rfl)) | refine AL_nil ?_ | (apply AL_guardT; (iterate 3 exact rfl); (first | with_reducible assumption | decide +kernel)) | (apply AL_pickF; exact rfl; (first | with_reducible assumption | decide +kernel); exact rfl; exact rfl) | refine AW_region ?_ | refine AW_seq' ?_ | (apply AW_condA; exact rfl; (first | with_reducible assumption | decide +kernel)) | (apply AW_condB; exact rfl; (first | with_reducible assumption | decide +kernel)) | refine then_norm ?_ | refine AW_block ?_ | refine AW_ret ?_ | refine then_ret ?_ | (apply AL_len ttok; (iterate 4 exact rfl)) | (apply AL_eload1 ttok; (iterate 6 exact rfl)) | (apply AL_efieldAddr ttok; (iterate 7 exact rfl)) | (apply AL_build ttok; (iterate 6 exact rfl)) | (apply AL_allocZ ttok; (iterate 4 exact rfl)) | (apply AW_drawE 24 hmix; (decide +kernel); (kernel_rfl); (kernel_rfl); (kernel_rfl); exact rfl; exact rfl) | (apply AE_consZ; (iterate 4 exact rfl)) | exact AE.nil _ _ _ _ | (apply AEk_puT; exact rfl) | (apply AEk_efT; exact rfl) | (apply AOt_mk; exact rfl; exact rfl; (decide +kernel); exact rfl) | (apply AO_puT; exact rfl) | (apply AO_efT; exact rfl) | exact AO.nil _ _ _ | (apply AOs_skip; (decide +kernel)) | (apply AOs_goZ; (iterate 3 exact rfl)) | exact AOs.nil | exact qY_ok rfl rfl | exact qY_ef rfl rfl | refine AW_skip ?_ | (apply AL_idx ttok; (iterate 6 exact rfl); (first | with_reducible assumption | decide +kernel | exact Int.natCast_nonneg _ | (guard_target = (0:Int) ≤ (OfNat.ofNat _ : Int); decide) | rotate_left); (first | with_reducible assumption | decide +kernel | exact rfl); (first | exact uniB_ok rfl | with_reducible assumption | decide +kernel | rotate_left)))
  all_goals (apply endQ []; (repeat (first | exact ResL.nil | (apply ResL.cons; first | exact .tmp _ _ rfl | (apply res_n ttok; (iterate 6 exact rfl)) | (apply res_1 ttok; (iterate 5 exact rfl))))); (iterate 4 exact rfl))
  all_goals rfl
end Go.Proofs.YtihkbilhgbmbhaaDoor
end
/- Package canon: a block, read, by cases. -/
section
open Go.RowKit Go.Pl Go.Av
namespace Go.Proofs.YtihkbilhgbmbhaaDoor
set_option linter.unusedVariables false
set_option linter.unusedSimpArgs false
set_option maxHeartbeats 4000000
theorem br_y [Known] [KnownU8] (k : Int) (n : Nat) (b : List UInt8) (xl : List E) (L : List E) (e : Int) (k0 : Int) (n0 : Nat) (b0 : List UInt8) (l0 : List It) (k1 : Int) (n1 : Nat) (b1 : List UInt8) (l1 : List It) (k2 : Int) (n2 : Nat) (b2 : List UInt8) (l2 : List It) (k3 : Int) (n3 : Nat) (b3 : List UInt8) (l3 : List It) (k4 : Int) (n4 : Nat) (b4 : List UInt8) (l4 : List It) (wk : Int) (wn : Nat) (wb : List UInt8) (wl : List E) (we : Int)
    (hO : AP Tryd.prog 20 [.agg [.int .i64 k, .int .u64 (n : Int), byE b, .sl .ext xl], .int .i64 3] (.tup [.sl .ext L, .int .i64 e]) []) (t1 : (e != 0) = false) (t2 : ((L.length : Int) != 5) = false) (hU : Uni 4 L) (hv0 : L[(0 : Int).toNat]? = some (.agg [.int .i64 k0, .int .u64 (n0 : Int), .sl (b0.map E.byte), .sl (itEs l0)])) (hv1 : L[(1 : Int).toNat]? = some (.agg [.int .i64 k1, .int .u64 (n1 : Int), .sl (b1.map E.byte), .sl (itEs l1)])) (hv2 : L[(2 : Int).toNat]? = some (.agg [.int .i64 k2, .int .u64 (n2 : Int), .sl (b2.map E.byte), .sl (itEs l2)])) (hv3 : L[(3 : Int).toNat]? = some (.agg [.int .i64 k3, .int .u64 (n3 : Int), .sl (b3.map E.byte), .sl (itEs l3)])) (hv4 : L[(4 : Int).toNat]? = some (.agg [.int .i64 k4, .int .u64 (n4 : Int), .sl (b4.map E.byte), .sl (itEs l4)])) (t3 : (k4 != 2) = false)
    (hC : AP Tryd.prog 43 [.sl .ext (b4.map E.byte)] (.sl .ext (b4.map E.byte)) []) (hW : AP Tryd.prog 31 [.agg [.int .u64 (n0 : Int), .int .u64 (n1 : Int), .int .u64 (n2 : Int), .int .i64 (IntKind.i64.wrap (n3 : Int)), .sl .ext (b4.map E.byte)]] (.tup [.agg [.int .i64 wk, .int .u64 (wn : Int), byE wb, .sl .ext wl], .int .i64 we]) []) (hS : AP Tryd.prog 27 [.agg [.int .i64 wk, .int .u64 (wn : Int), byE wb, .sl .ext wl], .agg [.int .i64 k, .int .u64 (n : Int), byE b, .sl .ext xl]] (.bool true) []) (t4 : (we != 0) = false) :
    AP Tryd.prog 32 [.agg [.int .i64 k, .int .u64 (n : Int), byE b, .sl .ext xl]] (.tup [.agg [.int .u64 (n0 : Int), .int .u64 (n1 : Int), .int .u64 (n2 : Int), .int .i64 (IntKind.i64.wrap (n3 : Int)), .sl .ext (b4.map E.byte)], .int .i64 0]) [] := by
  refine AP.ofA ?_
  refine AC_of Tryd.func32 rfl Tryd.ntmps32 rfl rfl ?_
  repeat' (first | (apply AL_callPw (hO); kernel_rfl; (iterate 4 exact rfl)) | (apply AL_callPw (hC); kernel_rfl; (iterate 4 exact rfl)) | (apply AL_callPw (hW); kernel_rfl; (iterate 4 exact rfl)) | (apply AL_callPw (hS); kernel_rfl; (iterate 4 exact rfl)) | (apply AL_move; exact rfl; exact rfl) | (apply AL_assign; exact rfl; exact rfl) | (apply AL_bin; (iterate 5 exact rfl)) | (apply AL_loadn ttok; (iterate 7 exact rfl)) | (apply AL_boxZ; (iterate 5 exact rfl)) | (apply AL_store ttok; (iterate 8 exact rfl)) | (apply AL_not; exact rfl; exact rfl) | (apply AL_convT ttok; (iterate 5 exact rfl)) | (apply AL_extract; (iterate 3 exact rfl)) | refine AL_nil ?_ | (apply AL_guardT; (iterate 3 exact rfl); (first | with_reducible assumption | decide +kernel)) | (apply AL_pickF; exact rfl; (first | with_reducible assumption | decide +kernel); exact rfl; exact rfl) | refine AW_region ?_ | refine AW_seq' ?_ | (apply AW_condB; exact rfl; (first | with_reducible assumption | decide +kernel)) | refine then_norm ?_ | refine AW_block ?_ | refine AW_ret ?_ | (apply AL_len ttok; (iterate 4 exact rfl)) | (apply AL_eload1 ttok; (iterate 6 exact rfl)) | (apply AL_efieldAddr ttok; (iterate 7 exact rfl)) | (apply AL_build ttok; (iterate 6 exact rfl)) | (apply AL_allocZ ttok; (iterate 4 exact rfl)) | (apply AW_drawE 24 hmix; (decide +kernel); (kernel_rfl); (kernel_rfl); (kernel_rfl); exact rfl; exact rfl) | (apply AE_consZ; (iterate 4 exact rfl)) | exact AE.nil _ _ _ _ | (apply AEk_puT; exact rfl) | (apply AEk_efT; exact rfl) | (apply AOt_mk; exact rfl; exact rfl; (decide +kernel); exact rfl) | (apply AO_puT; exact rfl) | (apply AO_efT; exact rfl) | exact AO.nil _ _ _ | (apply AOs_skip; (decide +kernel)) | (apply AOs_goZ; (iterate 3 exact rfl)) | exact AOs.nil | exact qY_ok rfl rfl | exact qY_ef rfl rfl | refine AW_skip ?_ | (apply AL_idx ttok; (iterate 6 exact rfl); (first | with_reducible assumption | decide +kernel | exact Int.natCast_nonneg _ | (guard_target = (0:Int) ≤ (OfNat.ofNat _ : Int); decide) | rotate_left); (first | with_reducible assumption | decide +kernel | exact rfl); (first | exact uniB_ok rfl | with_reducible assumption | decide +kernel | rotate_left)))
  all_goals (apply endQ []; (repeat (first | exact ResL.nil | (apply ResL.cons; first | exact .tmp _ _ rfl | (apply res_n ttok; (iterate 6 exact rfl)) | (apply res_1 ttok; (iterate 5 exact rfl))))); (iterate 4 exact rfl))
  all_goals rfl
end Go.Proofs.YtihkbilhgbmbhaaDoor
end
/- Package canon: a block, read. -/
section
open Go.RowKit Go.Pl Go.Av
namespace Go.Proofs.YtihkbilhgbmbhaaDoor
set_option linter.unusedVariables false
set_option linter.unusedSimpArgs false
set_option maxHeartbeats 4000000
theorem av_bRead [Known] [KnownU8] (x : It) (hw : wfI x) (hxl : x.l.length ≤ 1000000) (hlim : ∀ s m, s = 1 ∨ s = 2 → (putI (zeroL s (x.l.take m))).length ≤ 1000000000) (hb : ∀ y ∈ x.l, y.b.length ≤ 3000) : AP Tryd.prog 32 [itD x] (blkD (readB x)) [] := by
  have hO := av_open x 3 hw hxl hlim
  have hsub := open_sub x 3
  have hws : wfs x.l := by obtain ⟨k, n, b, l⟩ := x; exact hw.2.2.2
  unfold readB
  generalize openV x 3 = o at *
  obtain ⟨ol, oe⟩ := o
  have hlen := itEs_len ol
  have hUo := uniI ol
  dsimp only at hsub
  have hSame := fun (B : BlkV) (h1 : B.fl < 18446744073709551616) (h2 : B.data.length ≤ 3000) => av_same (writeB B).1 (wf_write h1 h2) x hw
  obtain ⟨k, n, b, l⟩ := x
  dsimp only [It.l] at *
  unfold readX
  dsimp only
  replace hO : AP Tryd.prog 20 [.agg [.int .i64 k, .int .u64 (n : Int), byE b, .sl .ext (itEs l)], .int .i64 3] (.tup [.sl .ext (itEs ol), .int .i64 oe]) [] := hO
  cases t1 : (oe != 0) with
  | true => exact br_e k n b _ _ oe hO t1
  | false =>
  have hno : ol.length ≠ 5 → AP Tryd.prog 32 [itD (.mk k n b l)] (blkD (bk0, 3)) [] := fun h => br_l k n b _ _ oe hO t1 (by rw [hlen]; simp; omega)
  match ol, hO, hsub, hlen, hUo, hno with
  | [], _, _, _, _, h => exact h (by simp)
  | [.mk _ _ _ _], _, _, _, _, h => exact h (by simp)
  | [.mk _ _ _ _, .mk _ _ _ _], _, _, _, _, h => exact h (by simp)
  | [.mk _ _ _ _, .mk _ _ _ _, .mk _ _ _ _], _, _, _, _, h => exact h (by simp)
  | [.mk _ _ _ _, .mk _ _ _ _, .mk _ _ _ _, .mk _ _ _ _], _, _, _, _, h => exact h (by simp)
  | .mk _ _ _ _ :: .mk _ _ _ _ :: .mk _ _ _ _ :: .mk _ _ _ _ :: .mk _ _ _ _ :: _ :: _, _, _, _, _, h => exact h (by simp)
  | [.mk k0 n0 b0 l0, .mk k1 n1 b1 l1, .mk k2 n2 b2 l2, .mk k3 n3 b3 l3, .mk k4 n4 b4 l4], hO, hsub, hlen, hUo, _ =>
  have t2 : (((itEs [It.mk k0 n0 b0 l0, .mk k1 n1 b1 l1, .mk k2 n2 b2 l2, .mk k3 n3 b3 l3, .mk k4 n4 b4 l4]).length : Int) != 5) = false := by rw [hlen]; rfl
  dsimp only
  cases t3 : (k4 != 2) with
  | true => exact br_k k n b _ _ oe k4 n4 b4 l4 hO t1 t2 hUo rfl t3
  | false =>
  have hw2 : n2 < 18446744073709551616 := (wfs_mem hws (.mk k2 n2 b2 l2) (hsub _ (by simp))).1
  have hb4 : b4.length ≤ 3000 := hb (.mk k4 n4 b4 l4) (hsub _ (by simp))
  have hC := av_cloneB b4 (by omega)
  have hW := av_bWrite ⟨n0, n1, n2, IntKind.i64.wrap (n3 : Int), b4⟩ hw2 hb4
  have hS := hSame ⟨n0, n1, n2, IntKind.i64.wrap (n3 : Int), b4⟩ hw2 hb4
  clear hSame
  dsimp only
  generalize writeB ⟨n0, n1, n2, IntKind.i64.wrap (n3 : Int), b4⟩ = r at *
  obtain ⟨⟨wk, wn, wb, wl⟩, we⟩ := r
  dsimp only at *
  cases t4 : (we != 0) with
  | true => exact br_w k n b _ _ oe k0 n0 b0 l0 k1 n1 b1 l1 k2 n2 b2 l2 k3 n3 b3 l3 k4 n4 b4 l4 wk wn wb _ we hO t1 t2 hUo rfl rfl rfl rfl rfl t3 hC hW t4
  | false =>
  dsimp only
  cases t5 : It.beq (.mk wk wn wb wl) (.mk k n b l) with
  | false =>
    rw [t5] at hS
    exact br_s k n b _ _ oe k0 n0 b0 l0 k1 n1 b1 l1 k2 n2 b2 l2 k3 n3 b3 l3 k4 n4 b4 l4 wk wn wb _ we hO t1 t2 hUo rfl rfl rfl rfl rfl t3 hC hW hS t4
  | true =>
    rw [t5] at hS
    exact br_y k n b _ _ oe k0 n0 b0 l0 k1 n1 b1 l1 k2 n2 b2 l2 k3 n3 b3 l3 k4 n4 b4 l4 wk wn wb _ we hO t1 t2 hUo rfl rfl rfl rfl rfl t3 hC hW hS t4
end Go.Proofs.YtihkbilhgbmbhaaDoor
end
/- Package canon: equal blocks. -/
section
open Go.RowKit Go.Pl Go.Av
namespace Go.Proofs.YtihkbilhgbmbhaaDoor
set_option linter.unusedVariables false
set_option linter.unusedSimpArgs false
set_option maxHeartbeats 4000000
def bkSame (a b : BlkV) : Bool := ((a.ty : Int) == (b.ty : Int)) && (((a.num : Int) == (b.num : Int)) && (((a.fl : Int) == (b.fl : Int)) && ((a.sum == b.sum) && (a.data == b.data))))
theorem av_bkSame [Known] (a b : BlkV) : AP Tryd.prog 33 [.agg (bkC a), .agg (bkC b)] (.bool (bkSame a b)) [] := by
  have hE := av_bEq a.data b.data
  obtain ⟨ty, num, fl, sum, data⟩ := a
  obtain ⟨ty2, num2, fl2, sum2, data2⟩ := b
  unfold bkSame
  dsimp only at hE ⊢
  refine AP.ofA ?_
  refine AC_of Tryd.func33 rfl Tryd.ntmps33 rfl rfl ?_
  repeat' (first | (apply AL_callPw (hE); kernel_rfl; (iterate 4 exact rfl)) | (apply AL_move; exact rfl; exact rfl) | (apply AL_assign; exact rfl; exact rfl) | (apply AL_bin; (iterate 5 exact rfl)) | (apply AL_load1 ttok; (iterate 6 exact rfl)) | (apply AL_fieldAddr ttok; (iterate 7 exact rfl)) | (apply AL_boxZ; (iterate 5 exact rfl)) | refine AL_nil ?_ | (apply AL_guardT; (iterate 3 exact rfl); (first | with_reducible assumption | decide +kernel)) | (apply AL_guardFt; (iterate 3 exact rfl); (first | with_reducible assumption | decide +kernel)) | (apply AL_guardS; exact rfl; exact rfl; all_goals intro hb) | (apply AL_pickT; exact rfl; (first | with_reducible assumption | decide +kernel); exact rfl; exact rfl) | (apply AL_pickF; exact rfl; (first | with_reducible assumption | decide +kernel); exact rfl; exact rfl) | refine AW_region ?_ | refine AW_seq' ?_ | refine then_norm ?_ | refine AW_ret ?_)
  all_goals (apply endQ []; (repeat (first | exact ResL.nil | (apply ResL.cons; first | exact .tmp _ _ rfl | (apply res_n ttok; (iterate 6 exact rfl)) | (apply res_1 ttok; (iterate 5 exact rfl))))); (iterate 4 exact rfl))
  all_goals first | rfl | (simp only [*]; done) | (simp only [*]; rfl) | (simp [*]; done)
end Go.Proofs.YtihkbilhgbmbhaaDoor
end
/- Package canon: the law's fixed calls. -/
section
open Go.RowKit Go.Pl Go.Av
namespace Go.Proofs.YtihkbilhgbmbhaaDoor
set_option linter.unusedVariables false
set_option linter.unusedSimpArgs false
set_option maxHeartbeats 4000000
def a0 : BlkV := ⟨7, 3, 0, 2, [25, 1, 244]⟩
def x1 : It := .mk 4 0 [] [.mk 0 7 [] [], .mk 0 3 [] [], .mk 0 0 [] [], .mk 0 2 [] [], .mk 2 0 [25, 1, 244] [], .mk 2 0 [94, 237, 141, 204] []]
def c0 : BlkV := ⟨10, 4, 0, 0, [130, 9, 2]⟩
theorem f1 : ofV 7 3 2 (.mk 0 500 [] []) 0 = (a0, 0) := by kernel_rfl
theorem f2 : writeB a0 = (x1, 0) := by kernel_rfl
theorem f3 : readB x1 = (a0, 0) := by kernel_rfl
theorem f4 : askV a0 7 = 0 := by kernel_rfl
theorem f4' : (ageV [25, 1, 244]).1 = 500 := by kernel_rfl
theorem f5 : askV a0 10 = 4 := by kernel_rfl
theorem f6 : ofV 10 4 0 (hopI 9 2) 0 = (c0, 0) := by kernel_rfl
theorem f7 : askV c0 10 = 0 := by kernel_rfl
theorem f7' : hopsV [130, 9, 2] = (9, 2, true) := by kernel_rfl
theorem f8 : ofV 10 4 0 (hopI 9 10) 0 = (bk0, 3) := by kernel_rfl
theorem f9 : bkSame a0 a0 = true := by kernel_rfl
theorem wf_x1 : wfI x1 := by simp [x1, wfI, wfs]
theorem lim_x1 (s m : Nat) (hs : s = 1 ∨ s = 2) : (putI (zeroL s (x1.l.take m))).length ≤ 1000000000 := by
  have hw : ∀ y ∈ x1.l.take m, y ∈ x1.l := fun y h => List.mem_of_mem_take h
  have h6 : m = 0 ∨ m = 1 ∨ m = 2 ∨ m = 3 ∨ m = 4 ∨ m = 5 ∨ x1.l.take m = x1.l := by
    rcases Nat.lt_or_ge m 6 with h | h
    · omega
    · exact .inr (.inr (.inr (.inr (.inr (.inr (List.take_of_length_le h))))))
  rcases h6 with h | h | h | h | h | h | h
  all_goals
    first | rw [h] | skip
    rcases hs with rfl | rfl
    all_goals decide +kernel
abbrev a0C : D := .agg [.int .u64 7, .int .u64 3, .int .u64 0, .int .i64 2, byE [25, 1, 244]]
abbrev c0C : D := .agg [.int .u64 10, .int .u64 4, .int .u64 0, .int .i64 0, byE [130, 9, 2]]
abbrev z5C : D := .agg [.int .u64 0, .int .u64 0, .int .u64 0, .int .i64 0, .sl .ext []]
abbrev x1C : D := .agg [.int .i64 4, .int .u64 0, .sl .ext [], .sl .ext (itEs x1.l)]
theorem fx1 [Known] [KnownU8] : AP Tryd.prog 36 [.int .u64 3, .int .i64 2, .int .u64 500] (.tup [a0C, .int .i64 0]) [] := by
  have h := av_ofAge 3 2 500 (by decide)
  rw [f1] at h
  exact h
theorem fx2 [Known] [KnownU8] : AP Tryd.prog 31 [a0C] (.tup [x1C, .int .i64 0]) [] := by
  have h := av_bWrite a0 (by decide) (by decide)
  rw [f2] at h
  exact h
theorem fx3 [Known] [KnownU8] : AP Tryd.prog 32 [x1C] (.tup [a0C, .int .i64 0]) [] := by
  have h := av_bRead x1 wf_x1 (by decide) (fun s m hs => lim_x1 s m hs) (by decide)
  rw [f3] at h
  exact h
theorem fx4 [Known] [KnownU8] : AP Tryd.prog 37 [a0C] (.tup [.int .u64 500, .int .i64 0]) [] := by
  have h := av_ageOf a0 (by decide)
  rw [f4] at h
  replace h : AP Tryd.prog 37 [a0C] (.tup [.int .u64 (((ageV [25, 1, 244]).1 : Nat) : Int), .int .i64 0]) [] := h
  rw [f4'] at h
  exact h
theorem fx5 [Known] [KnownU8] : AP Tryd.prog 39 [a0C] (.tup [.int .u64 0, .int .u64 0, .int .i64 4]) [] := by
  have h := av_hopsOf a0 (by decide)
  rw [f5] at h
  exact h
theorem fx6 [Known] [KnownU8] : AP Tryd.prog 38 [.int .u64 4, .int .i64 0, .int .u64 9, .int .u64 2] (.tup [c0C, .int .i64 0]) [] := by
  have h := av_ofHops 4 0 9 2 (by decide) (by decide)
  rw [f6] at h
  exact h
theorem fx7 [Known] [KnownU8] : AP Tryd.prog 39 [c0C] (.tup [.int .u64 9, .int .u64 2, .int .i64 0]) [] := by
  have h := av_hopsOf c0 (by decide)
  rw [f7] at h
  replace h : AP Tryd.prog 39 [c0C] (.tup [.int .u64 (((hopsV [130, 9, 2]).1 : Nat) : Int), .int .u64 (((hopsV [130, 9, 2]).2.1 : Nat) : Int), .int .i64 0]) [] := h
  rw [f7'] at h
  exact h
theorem fx8 [Known] [KnownU8] : AP Tryd.prog 38 [.int .u64 4, .int .i64 0, .int .u64 9, .int .u64 10] (.tup [z5C, .int .i64 3]) [] := by
  have h := av_ofHops 4 0 9 10 (by decide) (by decide)
  rw [f8] at h
  exact h
theorem fx9 [Known] : AP Tryd.prog 33 [a0C, a0C] (.bool true) [] := by
  have h := av_bkSame a0 a0
  rw [f9] at h
  exact h
theorem av_alive7 [Known] [KnownU8] : AP Tryd.prog 30 [] (.bool true) [] := by
  have h1 := fx1
  have h2 := fx2
  have h3 := fx3
  have h4 := fx4
  have h5 := fx5
  have h6 := fx6
  have h7 := fx7
  have h8 := fx8
  have h9 := fx9
  generalize itEs x1.l = XL at *
  refine AP.ofA ?_
  refine AC_of Tryd.func30 rfl Tryd.ntmps30 rfl rfl ?_
  repeat' (first | (apply AL_callPw (h1); kernel_rfl; (iterate 4 exact rfl)) | (apply AL_callPw (h2); kernel_rfl; (iterate 4 exact rfl)) | (apply AL_callPw (h3); kernel_rfl; (iterate 4 exact rfl)) | (apply AL_callPw (h4); kernel_rfl; (iterate 4 exact rfl)) | (apply AL_callPw (h5); kernel_rfl; (iterate 4 exact rfl)) | (apply AL_callPw (h6); kernel_rfl; (iterate 4 exact rfl)) | (apply AL_callPw (h7); kernel_rfl; (iterate 4 exact rfl)) | (apply AL_callPw (h8); kernel_rfl; (iterate 4 exact rfl)) | (apply AL_callPw (h9); kernel_rfl; (iterate 4 exact rfl)) | (apply AL_b2s ttok; (iterate 9 exact rfl)) | (apply AL_move; exact rfl; exact rfl) | (apply AL_assign; exact rfl; exact rfl) | (apply AL_bin; (iterate 5 exact rfl)) | (apply AL_load1 ttok; (iterate 6 exact rfl)) | (apply AL_loadn ttok; (iterate 7 exact rfl)) | (apply AL_fieldAddr ttok; (iterate 7 exact rfl)) | (apply AL_store ttok; (iterate 8 exact rfl)) | (apply AL_extract; (iterate 3 exact rfl)) | refine AL_nil ?_ | (apply AL_guardT; (iterate 3 exact rfl); (first | with_reducible assumption | decide +kernel)) | (apply AL_pickT; exact rfl; (first | with_reducible assumption | decide +kernel); exact rfl; exact rfl) | refine AW_region ?_ | refine AW_seq' ?_ | refine then_norm ?_ | refine AW_ret ?_ | (apply AL_allocZ ttok; (iterate 4 exact rfl)) | (apply AL_str; (iterate 5 exact rfl)) | (apply AL_b2s ttok; (iterate 9 exact rfl)))
  all_goals (apply endQ []; (repeat (first | exact ResL.nil | (apply ResL.cons; first | exact .tmp _ _ rfl | (apply res_n ttok; (iterate 6 exact rfl)) | (apply res_1 ttok; (iterate 5 exact rfl))))); (iterate 4 exact rfl))
  all_goals rfl
end Go.Proofs.YtihkbilhgbmbhaaDoor
end
