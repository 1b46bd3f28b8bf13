/- Package report: read, by cases (rpgen.py). -/
import Derived.Test.YtpodhnaofhfinaaGreatDoorG29
import Derived.Test.YtpodhnaofhfinaaGreatDoorG22
import Derived.Test.YtpodhnaofhfinaaGreatDoorG12
import Derived.Test.YtpodhnaofhfinaaGreatDoorG27
import Derived.Test.YtpodhnaofhfinaaGreatDoorG28
import Derived.Test.YtpodhnaofhfinaaGreatDoorG19
set_option linter.unusedVariables false
set_option linter.unusedSimpArgs false
section
open Go.RowKit Go.Pl Go.Av
namespace Go.Proofs.YtpodhnaofhfinaaGreatDoor
set_option maxHeartbeats 4000000
theorem rr_e [Known] (x : List UInt8) (m e : Int) (kx : Int) (nx : Nat) (bx lx : List E)
  (hR : AP Tryz.prog 38 [byE x, .int .i64 0] (.tup [.agg [.int .i64 kx, .int .u64 (nx : Int), .sl .ext bx, .sl .ext lx], .int .i64 m, .int .i64 e]) [])
  (te : (e != 0) = true) :
  AP Tryz.prog 22 [byE x] (.tup [.agg [.bool false, .bool false, .bool false, .int .u64 0, .int .u64 0, .bool false, .int .u64 0, .int .u64 0, .str [], .str [], .int .u64 0, .int .u64 0], .int .i64 3]) [] := by
 refine AP.ofA ?_
 refine AC_of Tryz.func22 rfl Tryz.ntmps22 rfl rfl ?_
 repeat' (first | (apply AL_callPw (hR); kernel_rfl; (iterate 4 exact rfl)) | (apply AL_go ttok; exact rfl) | (apply AW_go ttok; exact rfl) | (apply K_go ttok; exact rfl) | (apply AL_guardFf; (iterate 3 exact rfl); (first | with_reducible assumption | decide +kernel | (solve | simp only [bn]))) | (apply AL_pickT; exact rfl; (first | with_reducible assumption | decide +kernel | (solve | simp only [bn])); exact rfl; exact rfl) | (apply AW_condA; exact rfl; (first | with_reducible assumption | decide +kernel | (solve | simp only [bn]))))
 all_goals (apply endQ []; (apply resG_ok ttok; exact rfl); (iterate 4 exact rfl))
 all_goals rfl
theorem rr_2 [Known] (x : List UInt8) (m e : Int) (kx : Int) (nx : Nat) (bx lx : List E)
  (hR : AP Tryz.prog 38 [byE x, .int .i64 0] (.tup [.agg [.int .i64 kx, .int .u64 (nx : Int), .sl .ext bx, .sl .ext lx], .int .i64 m, .int .i64 e]) [])
  (te : (e != 0) = false)
  (t2 : ((lx.length : Int) != 2) = true) :
  AP Tryz.prog 22 [byE x] (.tup [.agg [.bool false, .bool false, .bool false, .int .u64 0, .int .u64 0, .bool false, .int .u64 0, .int .u64 0, .str [], .str [], .int .u64 0, .int .u64 0], .int .i64 3]) [] := by
 refine AP.ofA ?_
 refine AC_of Tryz.func22 rfl Tryz.ntmps22 rfl rfl ?_
 repeat' (first | (apply AL_callPw (hR); kernel_rfl; (iterate 4 exact rfl)) | (apply AL_go ttok; exact rfl) | (apply AW_go ttok; exact rfl) | (apply K_go ttok; exact rfl) | (apply AL_guardT; (iterate 3 exact rfl); (first | with_reducible assumption | decide +kernel | (solve | simp only [bn]))) | (apply AL_guardFf; (iterate 3 exact rfl); (first | with_reducible assumption | decide +kernel | (solve | simp only [bn]))) | (apply AL_pickT; exact rfl; (first | with_reducible assumption | decide +kernel | (solve | simp only [bn])); exact rfl; exact rfl) | (apply AL_pickF; exact rfl; (first | with_reducible assumption | decide +kernel | (solve | simp only [bn])); exact rfl; exact rfl) | (apply AW_condA; exact rfl; (first | with_reducible assumption | decide +kernel | (solve | simp only [bn]))) | (apply AL_len ttok; (iterate 4 exact rfl)))
 all_goals (apply endQ []; (apply resG_ok ttok; exact rfl); (iterate 4 exact rfl))
 all_goals rfl
theorem rr_4 [Known] (x : List UInt8) (m e : Int) (kx k1 : Int) (nx n1 : Nat) (bx lx b1 l1 : List E)
  (hR : AP Tryz.prog 38 [byE x, .int .i64 0] (.tup [.agg [.int .i64 kx, .int .u64 (nx : Int), .sl .ext bx, .sl .ext lx], .int .i64 m, .int .i64 e]) [])
  (te : (e != 0) = false)
  (hU : Uni 4 lx)
  (t2 : ((lx.length : Int) != 2) = false)
  (hv1 : lx[(1 : Int).toNat]? = some (.agg [.int .i64 k1, .int .u64 (n1 : Int), .sl b1, .sl l1]))
  (t4 : ((l1.length : Int) != 4) = true) :
  AP Tryz.prog 22 [byE x] (.tup [.agg [.bool false, .bool false, .bool false, .int .u64 0, .int .u64 0, .bool false, .int .u64 0, .int .u64 0, .str [], .str [], .int .u64 0, .int .u64 0], .int .i64 3]) [] := by
 refine AP.ofA ?_
 refine AC_of Tryz.func22 rfl Tryz.ntmps22 rfl rfl ?_
 repeat' (first | (apply AL_callPw (hR); kernel_rfl; (iterate 4 exact rfl)) | (apply AL_go ttok; exact rfl) | (apply AW_go ttok; exact rfl) | (apply K_go ttok; exact rfl) | (apply AL_guardT; (iterate 3 exact rfl); (first | with_reducible assumption | decide +kernel | (solve | simp only [bn]))) | (apply AL_guardFf; (iterate 3 exact rfl); (first | with_reducible assumption | decide +kernel | (solve | simp only [bn]))) | (apply AL_pickT; exact rfl; (first | with_reducible assumption | decide +kernel | (solve | simp only [bn])); exact rfl; exact rfl) | (apply AL_pickF; exact rfl; (first | with_reducible assumption | decide +kernel | (solve | simp only [bn])); exact rfl; exact rfl) | (apply AW_condA; exact rfl; (first | with_reducible assumption | decide +kernel | (solve | simp only [bn]))) | (apply AL_len ttok; (iterate 4 exact rfl)) | (apply AL_idx ttok; (iterate 6 exact rfl); (first | with_reducible assumption | decide +kernel | exact Int.natCast_nonneg _ | (guard_target = (0:Int) <= (OfNat.ofNat _ : Int); decide) | rotate_left); (first | with_reducible assumption | decide +kernel | exact rfl); (first | exact uniB_ok rfl | with_reducible assumption | decide +kernel | rotate_left)))
 all_goals (apply endQ []; (apply resG_ok ttok; exact rfl); (iterate 4 exact rfl))
 all_goals rfl
theorem rr_3 [Known] (x : List UInt8) (m e : Int) (kx k1 k2 : Int) (nx n1 n2 : Nat) (bx lx b1 l1 b2 l2 : List E)
  (hR : AP Tryz.prog 38 [byE x, .int .i64 0] (.tup [.agg [.int .i64 kx, .int .u64 (nx : Int), .sl .ext bx, .sl .ext lx], .int .i64 m, .int .i64 e]) [])
  (te : (e != 0) = false)
  (hU : Uni 4 lx)
  (t2 : ((lx.length : Int) != 2) = false)
  (hv1 : lx[(1 : Int).toNat]? = some (.agg [.int .i64 k1, .int .u64 (n1 : Int), .sl b1, .sl l1]))
  (hU1 : Uni 4 l1)
  (t4 : ((l1.length : Int) != 4) = false)
  (hv2 : l1[(0 : Int).toNat]? = some (.agg [.int .i64 k2, .int .u64 (n2 : Int), .sl b2, .sl l2]))
  (t3 : ((l2.length : Int) != 3) = true) :
  AP Tryz.prog 22 [byE x] (.tup [.agg [.bool false, .bool false, .bool false, .int .u64 0, .int .u64 0, .bool false, .int .u64 0, .int .u64 0, .str [], .str [], .int .u64 0, .int .u64 0], .int .i64 3]) [] := by
 refine AP.ofA ?_
 refine AC_of Tryz.func22 rfl Tryz.ntmps22 rfl rfl ?_
 repeat' (first | (apply AL_callPw (hR); kernel_rfl; (iterate 4 exact rfl)) | (apply AL_go ttok; exact rfl) | (apply AW_go ttok; exact rfl) | (apply K_go ttok; exact rfl) | (apply AL_guardT; (iterate 3 exact rfl); (first | with_reducible assumption | decide +kernel | (solve | simp only [bn]))) | (apply AL_pickF; exact rfl; (first | with_reducible assumption | decide +kernel | (solve | simp only [bn])); exact rfl; exact rfl) | (apply AW_condA; exact rfl; (first | with_reducible assumption | decide +kernel | (solve | simp only [bn]))) | (apply AL_len ttok; (iterate 4 exact rfl)) | (apply AL_idx ttok; (iterate 6 exact rfl); (first | with_reducible assumption | decide +kernel | exact Int.natCast_nonneg _ | (guard_target = (0:Int) <= (OfNat.ofNat _ : Int); decide) | rotate_left); (first | with_reducible assumption | decide +kernel | exact rfl); (first | exact uniB_ok rfl | with_reducible assumption | decide +kernel | rotate_left)))
 all_goals (apply endQ []; (apply resG_ok ttok; exact rfl); (iterate 4 exact rfl))
 all_goals rfl
theorem rr_i [Known] (x : List UInt8) (m e : Int) (kx k1 k2 k3 : Int) (nx n1 n2 n3 : Nat) (bx lx b1 l1 b2 l2 b3 l3 : List E) (ii : Bool) (jn js jt jq : Nat) (jh jd : List UInt8) (ie : Int)
  (hR : AP Tryz.prog 38 [byE x, .int .i64 0] (.tup [.agg [.int .i64 kx, .int .u64 (nx : Int), .sl .ext bx, .sl .ext lx], .int .i64 m, .int .i64 e]) [])
  (te : (e != 0) = false)
  (hU : Uni 4 lx)
  (t2 : ((lx.length : Int) != 2) = false)
  (hv1 : lx[(1 : Int).toNat]? = some (.agg [.int .i64 k1, .int .u64 (n1 : Int), .sl b1, .sl l1]))
  (hU1 : Uni 4 l1)
  (t4 : ((l1.length : Int) != 4) = false)
  (hv2 : l1[(0 : Int).toNat]? = some (.agg [.int .i64 k2, .int .u64 (n2 : Int), .sl b2, .sl l2]))
  (hU2 : Uni 4 l2)
  (t3 : ((l2.length : Int) != 3) = false)
  (hv3 : l1[(3 : Int).toNat]? = some (.agg [.int .i64 k3, .int .u64 (n3 : Int), .sl b3, .sl l3]))
  (hI : AP Tryz.prog 43 [.agg [.int .i64 k3, .int .u64 (n3 : Int), .sl .ext b3, .sl .ext l3]] (.tup [.agg [.bool ii, .int .u64 (jn : Int), .int .u64 (js : Int), .str jh, .str jd, .int .u64 (jt : Int), .int .u64 (jq : Int)], .int .i64 ie]) [])
  (ti : (ie != 0) = true) :
  AP Tryz.prog 22 [byE x] (.tup [.agg [.bool false, .bool false, .bool false, .int .u64 0, .int .u64 0, .bool false, .int .u64 0, .int .u64 0, .str [], .str [], .int .u64 0, .int .u64 0], .int .i64 3]) [] := by
 refine AP.ofA ?_
 refine AC_of Tryz.func22 rfl Tryz.ntmps22 rfl rfl ?_
 repeat' (first | (apply AL_callPw (hR); kernel_rfl; (iterate 4 exact rfl)) | (apply AL_callPw (hI); kernel_rfl; (iterate 4 exact rfl)) | (apply AL_go ttok; exact rfl) | (apply AW_go ttok; exact rfl) | (apply K_go ttok; exact rfl) | (apply AL_guardT; (iterate 3 exact rfl); (first | with_reducible assumption | decide +kernel | (solve | simp only [bn]))) | (apply AL_pickF; exact rfl; (first | with_reducible assumption | decide +kernel | (solve | simp only [bn])); exact rfl; exact rfl) | (apply AW_condA; exact rfl; (first | with_reducible assumption | decide +kernel | (solve | simp only [bn]))) | (apply AW_condB; exact rfl; (first | with_reducible assumption | decide +kernel | (solve | simp only [bn]))) | (apply AL_len ttok; (iterate 4 exact rfl)) | (apply AL_idx ttok; (iterate 6 exact rfl); (first | with_reducible assumption | decide +kernel | exact Int.natCast_nonneg _ | (guard_target = (0:Int) <= (OfNat.ofNat _ : Int); decide) | rotate_left); (first | with_reducible assumption | decide +kernel | exact rfl); (first | exact uniB_ok rfl | with_reducible assumption | decide +kernel | rotate_left)))
 all_goals (apply endQ []; (apply resG_ok ttok; exact rfl); (iterate 4 exact rfl))
 all_goals rfl
theorem rr_w [Known] (x : List UInt8) (m e : Int) (kx k1 k2 k3 k5 k6 k7 k8 k9 : Int) (nx n1 n2 n3 n5 n6 n7 n8 n9 : Nat) (bx lx b1 l1 b2 l2 b3 l3 b5 l5 b6 l6 b7 l7 b8 l8 b9 l9 : List E) (ii : Bool) (jn js jt jq : Nat) (jh jd : List UInt8) (ie : Int) (wb : List UInt8) (we : Int)
  (hR : AP Tryz.prog 38 [byE x, .int .i64 0] (.tup [.agg [.int .i64 kx, .int .u64 (nx : Int), .sl .ext bx, .sl .ext lx], .int .i64 m, .int .i64 e]) [])
  (te : (e != 0) = false)
  (hU : Uni 4 lx)
  (t2 : ((lx.length : Int) != 2) = false)
  (hv1 : lx[(1 : Int).toNat]? = some (.agg [.int .i64 k1, .int .u64 (n1 : Int), .sl b1, .sl l1]))
  (hU1 : Uni 4 l1)
  (t4 : ((l1.length : Int) != 4) = false)
  (hv2 : l1[(0 : Int).toNat]? = some (.agg [.int .i64 k2, .int .u64 (n2 : Int), .sl b2, .sl l2]))
  (hU2 : Uni 4 l2)
  (t3 : ((l2.length : Int) != 3) = false)
  (hv3 : l1[(3 : Int).toNat]? = some (.agg [.int .i64 k3, .int .u64 (n3 : Int), .sl b3, .sl l3]))
  (hI : AP Tryz.prog 43 [.agg [.int .i64 k3, .int .u64 (n3 : Int), .sl .ext b3, .sl .ext l3]] (.tup [.agg [.bool ii, .int .u64 (jn : Int), .int .u64 (js : Int), .str jh, .str jd, .int .u64 (jt : Int), .int .u64 (jq : Int)], .int .i64 ie]) [])
  (ti : (ie != 0) = false)
  (hv5 : l2[(0 : Int).toNat]? = some (.agg [.int .i64 k5, .int .u64 (n5 : Int), .sl b5, .sl l5]))
  (hv6 : l2[(1 : Int).toNat]? = some (.agg [.int .i64 k6, .int .u64 (n6 : Int), .sl b6, .sl l6]))
  (hv7 : l2[(2 : Int).toNat]? = some (.agg [.int .i64 k7, .int .u64 (n7 : Int), .sl b7, .sl l7]))
  (hv8 : l1[(1 : Int).toNat]? = some (.agg [.int .i64 k8, .int .u64 (n8 : Int), .sl b8, .sl l8]))
  (hv9 : l1[(2 : Int).toNat]? = some (.agg [.int .i64 k9, .int .u64 (n9 : Int), .sl b9, .sl l9]))
  (hW : AP Tryz.prog 23 [.agg [.bool ((n5 : Int) == 1), .bool ((n6 : Int) == 1), .bool ((n7 : Int) == 1), .int .u64 (n8 : Int), .int .u64 (n9 : Int), .bool ii, .int .u64 (jn : Int), .int .u64 (js : Int), .str jh, .str jd, .int .u64 (jt : Int), .int .u64 (jq : Int)]] (.tup [byE wb, .int .i64 we]) [])
  (hE : AP Tryz.prog 44 [byE wb, byE x] (.bool (wb == x)) [])
  (tw : (we != 0) = true) :
  AP Tryz.prog 22 [byE x] (.tup [.agg [.bool false, .bool false, .bool false, .int .u64 0, .int .u64 0, .bool false, .int .u64 0, .int .u64 0, .str [], .str [], .int .u64 0, .int .u64 0], .int .i64 3]) [] := by
 refine AP.ofA ?_
 refine AC_of Tryz.func22 rfl Tryz.ntmps22 rfl rfl ?_
 repeat' (first | (apply AL_callPw (hR); kernel_rfl; (iterate 4 exact rfl)) | (apply AL_callPw (hI); kernel_rfl; (iterate 4 exact rfl)) | (apply AL_callPw (hW); kernel_rfl; (iterate 4 exact rfl)) | (apply AL_go ttok; exact rfl) | (apply AW_go ttok; exact rfl) | (apply K_go ttok; exact rfl) | (apply AL_guardT; (iterate 3 exact rfl); (first | with_reducible assumption | decide +kernel | (solve | simp only [bn]))) | (apply AL_guardFf; (iterate 3 exact rfl); (first | with_reducible assumption | decide +kernel | (solve | simp only [bn]))) | (apply AL_pickT; exact rfl; (first | with_reducible assumption | decide +kernel | (solve | simp only [bn])); exact rfl; exact rfl) | (apply AL_pickF; exact rfl; (first | with_reducible assumption | decide +kernel | (solve | simp only [bn])); exact rfl; exact rfl) | (apply AW_condA; exact rfl; (first | with_reducible assumption | decide +kernel | (solve | simp only [bn]))) | (apply AW_condB; exact rfl; (first | with_reducible assumption | decide +kernel | (solve | simp only [bn]))) | (apply AL_len ttok; (iterate 4 exact rfl)) | (apply AW_drawE 35 hmix; (decide +kernel); (kernel_rfl); (kernel_rfl); (kernel_rfl); exact rfl; exact rfl) | (apply AE_consZ; (iterate 4 exact rfl)) | exact AE.nil _ _ _ _ | (apply AEk_puT; exact rfl) | (apply AEk_efT; exact rfl) | (apply AOt_mk; exact rfl; exact rfl; (decide +kernel); exact rfl) | (apply AO_puT; exact rfl) | (apply AO_efT; exact rfl) | exact AO.nil _ _ _ | (apply AOs_skip; (decide +kernel)) | (apply AOs_goZ; (iterate 3 exact rfl)) | exact AOs.nil | exact qY_ok rfl rfl | exact qY_ef rfl rfl | (apply AL_idx ttok; (iterate 6 exact rfl); (first | with_reducible assumption | decide +kernel | exact Int.natCast_nonneg _ | (guard_target = (0:Int) <= (OfNat.ofNat _ : Int); decide) | rotate_left); (first | with_reducible assumption | decide +kernel | exact rfl); (first | exact uniB_ok rfl | with_reducible assumption | decide +kernel | rotate_left)))
 all_goals (apply endQ []; (apply resG_ok ttok; exact rfl); (iterate 4 exact rfl))
 all_goals rfl
theorem rr_n [Known] (x : List UInt8) (m e : Int) (kx k1 k2 k3 k5 k6 k7 k8 k9 : Int) (nx n1 n2 n3 n5 n6 n7 n8 n9 : Nat) (bx lx b1 l1 b2 l2 b3 l3 b5 l5 b6 l6 b7 l7 b8 l8 b9 l9 : List E) (ii : Bool) (jn js jt jq : Nat) (jh jd : List UInt8) (ie : Int) (wb : List UInt8) (we : Int)
  (hR : AP Tryz.prog 38 [byE x, .int .i64 0] (.tup [.agg [.int .i64 kx, .int .u64 (nx : Int), .sl .ext bx, .sl .ext lx], .int .i64 m, .int .i64 e]) [])
  (te : (e != 0) = false)
  (hU : Uni 4 lx)
  (t2 : ((lx.length : Int) != 2) = false)
  (hv1 : lx[(1 : Int).toNat]? = some (.agg [.int .i64 k1, .int .u64 (n1 : Int), .sl b1, .sl l1]))
  (hU1 : Uni 4 l1)
  (t4 : ((l1.length : Int) != 4) = false)
  (hv2 : l1[(0 : Int).toNat]? = some (.agg [.int .i64 k2, .int .u64 (n2 : Int), .sl b2, .sl l2]))
  (hU2 : Uni 4 l2)
  (t3 : ((l2.length : Int) != 3) = false)
  (hv3 : l1[(3 : Int).toNat]? = some (.agg [.int .i64 k3, .int .u64 (n3 : Int), .sl b3, .sl l3]))
  (hI : AP Tryz.prog 43 [.agg [.int .i64 k3, .int .u64 (n3 : Int), .sl .ext b3, .sl .ext l3]] (.tup [.agg [.bool ii, .int .u64 (jn : Int), .int .u64 (js : Int), .str jh, .str jd, .int .u64 (jt : Int), .int .u64 (jq : Int)], .int .i64 ie]) [])
  (ti : (ie != 0) = false)
  (hv5 : l2[(0 : Int).toNat]? = some (.agg [.int .i64 k5, .int .u64 (n5 : Int), .sl b5, .sl l5]))
  (hv6 : l2[(1 : Int).toNat]? = some (.agg [.int .i64 k6, .int .u64 (n6 : Int), .sl b6, .sl l6]))
  (hv7 : l2[(2 : Int).toNat]? = some (.agg [.int .i64 k7, .int .u64 (n7 : Int), .sl b7, .sl l7]))
  (hv8 : l1[(1 : Int).toNat]? = some (.agg [.int .i64 k8, .int .u64 (n8 : Int), .sl b8, .sl l8]))
  (hv9 : l1[(2 : Int).toNat]? = some (.agg [.int .i64 k9, .int .u64 (n9 : Int), .sl b9, .sl l9]))
  (hW : AP Tryz.prog 23 [.agg [.bool ((n5 : Int) == 1), .bool ((n6 : Int) == 1), .bool ((n7 : Int) == 1), .int .u64 (n8 : Int), .int .u64 (n9 : Int), .bool ii, .int .u64 (jn : Int), .int .u64 (js : Int), .str jh, .str jd, .int .u64 (jt : Int), .int .u64 (jq : Int)]] (.tup [byE wb, .int .i64 we]) [])
  (hE : AP Tryz.prog 44 [byE wb, byE x] (.bool (wb == x)) [])
  (tw : (we != 0) = false)
  (hb : (wb == x) = false) :
  AP Tryz.prog 22 [byE x] (.tup [.agg [.bool false, .bool false, .bool false, .int .u64 0, .int .u64 0, .bool false, .int .u64 0, .int .u64 0, .str [], .str [], .int .u64 0, .int .u64 0], .int .i64 3]) [] := by
 rw [hb] at hE
 refine AP.ofA ?_
 refine AC_of Tryz.func22 rfl Tryz.ntmps22 rfl rfl ?_
 repeat' (first | (apply AL_callPw (hR); kernel_rfl; (iterate 4 exact rfl)) | (apply AL_callPw (hI); kernel_rfl; (iterate 4 exact rfl)) | (apply AL_callPw (hW); kernel_rfl; (iterate 4 exact rfl)) | (apply AL_callPw (hE); kernel_rfl; (iterate 4 exact rfl)) | (apply AL_go ttok; exact rfl) | (apply AW_go ttok; exact rfl) | (apply K_go ttok; exact rfl) | (apply AL_guardT; (iterate 3 exact rfl); (first | with_reducible assumption | decide +kernel | (solve | simp only [bn]))) | (apply AL_pickF; exact rfl; (first | with_reducible assumption | decide +kernel | (solve | simp only [bn])); exact rfl; exact rfl) | (apply AW_condA; exact rfl; (first | with_reducible assumption | decide +kernel | (solve | simp only [bn]))) | (apply AW_condB; exact rfl; (first | with_reducible assumption | decide +kernel | (solve | simp only [bn]))) | (apply AL_len ttok; (iterate 4 exact rfl)) | (apply AW_drawE 35 hmix; (decide +kernel); (kernel_rfl); (kernel_rfl); (kernel_rfl); exact rfl; exact rfl) | (apply AE_consZ; (iterate 4 exact rfl)) | exact AE.nil _ _ _ _ | (apply AEk_puT; exact rfl) | (apply AEk_efT; exact rfl) | (apply AOt_mk; exact rfl; exact rfl; (decide +kernel); exact rfl) | (apply AO_puT; exact rfl) | (apply AO_efT; exact rfl) | exact AO.nil _ _ _ | (apply AOs_skip; (decide +kernel)) | (apply AOs_goZ; (iterate 3 exact rfl)) | exact AOs.nil | exact qY_ok rfl rfl | exact qY_ef rfl rfl | (apply AL_idx ttok; (iterate 6 exact rfl); (first | with_reducible assumption | decide +kernel | exact Int.natCast_nonneg _ | (guard_target = (0:Int) <= (OfNat.ofNat _ : Int); decide) | rotate_left); (first | with_reducible assumption | decide +kernel | exact rfl); (first | exact uniB_ok rfl | with_reducible assumption | decide +kernel | rotate_left)))
 all_goals (apply endQ []; (apply resG_ok ttok; exact rfl); (iterate 4 exact rfl))
 all_goals rfl
theorem rr_y [Known] (x : List UInt8) (m e : Int) (kx k1 k2 k3 k5 k6 k7 k8 k9 : Int) (nx n1 n2 n3 n5 n6 n7 n8 n9 : Nat) (bx lx b1 l1 b2 l2 b3 l3 b5 l5 b6 l6 b7 l7 b8 l8 b9 l9 : List E) (ii : Bool) (jn js jt jq : Nat) (jh jd : List UInt8) (ie : Int) (wb : List UInt8) (we : Int)
  (hR : AP Tryz.prog 38 [byE x, .int .i64 0] (.tup [.agg [.int .i64 kx, .int .u64 (nx : Int), .sl .ext bx, .sl .ext lx], .int .i64 m, .int .i64 e]) [])
  (te : (e != 0) = false)
  (hU : Uni 4 lx)
  (t2 : ((lx.length : Int) != 2) = false)
  (hv1 : lx[(1 : Int).toNat]? = some (.agg [.int .i64 k1, .int .u64 (n1 : Int), .sl b1, .sl l1]))
  (hU1 : Uni 4 l1)
  (t4 : ((l1.length : Int) != 4) = false)
  (hv2 : l1[(0 : Int).toNat]? = some (.agg [.int .i64 k2, .int .u64 (n2 : Int), .sl b2, .sl l2]))
  (hU2 : Uni 4 l2)
  (t3 : ((l2.length : Int) != 3) = false)
  (hv3 : l1[(3 : Int).toNat]? = some (.agg [.int .i64 k3, .int .u64 (n3 : Int), .sl b3, .sl l3]))
  (hI : AP Tryz.prog 43 [.agg [.int .i64 k3, .int .u64 (n3 : Int), .sl .ext b3, .sl .ext l3]] (.tup [.agg [.bool ii, .int .u64 (jn : Int), .int .u64 (js : Int), .str jh, .str jd, .int .u64 (jt : Int), .int .u64 (jq : Int)], .int .i64 ie]) [])
  (ti : (ie != 0) = false)
  (hv5 : l2[(0 : Int).toNat]? = some (.agg [.int .i64 k5, .int .u64 (n5 : Int), .sl b5, .sl l5]))
  (hv6 : l2[(1 : Int).toNat]? = some (.agg [.int .i64 k6, .int .u64 (n6 : Int), .sl b6, .sl l6]))
  (hv7 : l2[(2 : Int).toNat]? = some (.agg [.int .i64 k7, .int .u64 (n7 : Int), .sl b7, .sl l7]))
  (hv8 : l1[(1 : Int).toNat]? = some (.agg [.int .i64 k8, .int .u64 (n8 : Int), .sl b8, .sl l8]))
  (hv9 : l1[(2 : Int).toNat]? = some (.agg [.int .i64 k9, .int .u64 (n9 : Int), .sl b9, .sl l9]))
  (hW : AP Tryz.prog 23 [.agg [.bool ((n5 : Int) == 1), .bool ((n6 : Int) == 1), .bool ((n7 : Int) == 1), .int .u64 (n8 : Int), .int .u64 (n9 : Int), .bool ii, .int .u64 (jn : Int), .int .u64 (js : Int), .str jh, .str jd, .int .u64 (jt : Int), .int .u64 (jq : Int)]] (.tup [byE wb, .int .i64 we]) [])
  (hE : AP Tryz.prog 44 [byE wb, byE x] (.bool (wb == x)) [])
  (tw : (we != 0) = false)
  (hb : (wb == x) = true) :
  AP Tryz.prog 22 [byE x] (.tup [.agg [.bool ((n5 : Int) == 1), .bool ((n6 : Int) == 1), .bool ((n7 : Int) == 1), .int .u64 (n8 : Int), .int .u64 (n9 : Int), .bool ii, .int .u64 (jn : Int), .int .u64 (js : Int), .str jh, .str jd, .int .u64 (jt : Int), .int .u64 (jq : Int)], .int .i64 0]) [] := by
 rw [hb] at hE
 refine AP.ofA ?_
 refine AC_of Tryz.func22 rfl Tryz.ntmps22 rfl rfl ?_
 repeat' (first | (apply AL_callPw (hR); kernel_rfl; (iterate 4 exact rfl)) | (apply AL_callPw (hI); kernel_rfl; (iterate 4 exact rfl)) | (apply AL_callPw (hW); kernel_rfl; (iterate 4 exact rfl)) | (apply AL_callPw (hE); kernel_rfl; (iterate 4 exact rfl)) | (apply AL_go ttok; exact rfl) | (apply AW_go ttok; exact rfl) | (apply K_go ttok; exact rfl) | (apply AL_guardT; (iterate 3 exact rfl); (first | with_reducible assumption | decide +kernel | (solve | simp only [bn]))) | (apply AL_pickF; exact rfl; (first | with_reducible assumption | decide +kernel | (solve | simp only [bn])); exact rfl; exact rfl) | (apply AW_condB; exact rfl; (first | with_reducible assumption | decide +kernel | (solve | simp only [bn]))) | (apply AL_len ttok; (iterate 4 exact rfl)) | (apply AW_drawE 35 hmix; (decide +kernel); (kernel_rfl); (kernel_rfl); (kernel_rfl); exact rfl; exact rfl) | (apply AE_consZ; (iterate 4 exact rfl)) | exact AE.nil _ _ _ _ | (apply AEk_puT; exact rfl) | (apply AEk_efT; exact rfl) | (apply AOt_mk; exact rfl; exact rfl; (decide +kernel); exact rfl) | (apply AO_puT; exact rfl) | (apply AO_efT; exact rfl) | exact AO.nil _ _ _ | (apply AOs_skip; (decide +kernel)) | (apply AOs_goZ; (iterate 3 exact rfl)) | exact AOs.nil | exact qY_ok rfl rfl | exact qY_ef rfl rfl | (apply AL_idx ttok; (iterate 6 exact rfl); (first | with_reducible assumption | decide +kernel | exact Int.natCast_nonneg _ | (guard_target = (0:Int) <= (OfNat.ofNat _ : Int); decide) | rotate_left); (first | with_reducible assumption | decide +kernel | exact rfl); (first | exact uniB_ok rfl | with_reducible assumption | decide +kernel | rotate_left)))
 all_goals (apply endQ []; (apply resG_ok ttok; exact rfl); (iterate 4 exact rfl))
 all_goals rfl
end Go.Proofs.YtpodhnaofhfinaaGreatDoor
end
section
open Go.RowKit Go.Pl Go.Av
namespace Go.Proofs.YtpodhnaofhfinaaGreatDoor
set_option maxHeartbeats 4000000
def rp0 : RepV := ⟨false, false, false, 0, 0, eidZ, 0, 0⟩
def repOf (m1 m2 m3 y1 y2 y3 : It) : RepV := ⟨(m1.n : Int) == 1, (m2.n : Int) == 1, (m3.n : Int) == 1, y1.n, y2.n, (iReadV y3).1, (iReadV y3).2.1, (iReadV y3).2.2.1⟩
def readRx (x : It) (b : List UInt8) : RepV × Int := match x.l with
 | [_, x1] => (match x1.l with
  | [z0, y1, y2, y3] => (match z0.l with
   | [m1, m2, m3] => (match (iReadV y3).2.2.2 with
    | false => (rp0, 3)
    | true => match (writeR (repOf m1 m2 m3 y1 y2 y3)).2 != 0 with
     | true => (rp0, 3)
     | false => match (writeR (repOf m1 m2 m3 y1 y2 y3)).1 == b with
      | false => (rp0, 3)
      | true => (repOf m1 m2 m3 y1 y2 y3, 0))
   | _ => (rp0, 3))
  | _ => (rp0, 3))
 | _ => (rp0, 3)
def readR (b : List UInt8) : RepV × Int := match ((readI b 0).2.2 : Int) != 0 with
 | true => (rp0, 3)
 | false => readRx (readI b 0).1 b
theorem av_rRead [Known] [KnownU8] (b : List UInt8) (hb : b.length <= 3000) : AP Tryz.prog 22 [byE b] (.tup [.agg (repC (readR b).1), .int .i64 (readR b).2]) [] := by
 have hR := av_readC b 0 (by omega)
 unfold readR
 rcases read_case b (by omega) with ⟨e, he, h, _⟩ | ⟨y, n, h, hw, _, _, _⟩
 ·rw [h] at hR ⊢
  have te : ((e : Int) != 0) = true := by simpa using he
  dsimp only
  rw [te]
  exact rr_e b _ _ _ _ _ _ hR te
 rw [h] at hR ⊢
 have te : (((0 : Nat) : Int) != 0) = false := rfl
 dsimp only
 rw [te]
 dsimp only
 clear h
 have hws : wfs y.l := by obtain ⟨k, n1, b1, l⟩ := y; exact hw.2.2.2
 obtain ⟨k, n1, b1, l⟩ := y
 unfold readRx
 dsimp only [It.l] at hws ⊢
 have hlen := itEs_len l
 rcases l with _ | ⟨x0, _ | ⟨x1, _ | ⟨x2, l⟩⟩⟩
 ·exact rr_2 b _ _ _ _ _ _ hR te (by rw [hlen]; rfl)
 ·exact rr_2 b _ _ _ _ _ _ hR te (by rw [hlen]; rfl)
 ·have hU := uniI [x0, x1]
  have hw1 := hws.2.1
  obtain ⟨k0, n0, b0, l0⟩ := x0
  obtain ⟨k1, n1', b1', l1⟩ := x1
  have hw1 : wfs l1 := hw1.2.2.2
  have hlen1 := itEs_len l1
  have hU1 := uniI l1
  rcases l1 with _ | ⟨z0, _ | ⟨z1, _ | ⟨z2, _ | ⟨z3, _ | ⟨z4, l1⟩⟩⟩⟩⟩
  case cons.cons.cons.cons.nil =>
   obtain ⟨kz, nz, bz, lz⟩ := z0
   have hlenz := itEs_len lz
   have hUz := uniI lz
   have hI := av_iRead z3 hw1.2.2.2.1
   rcases lz with _ | ⟨m1, _ | ⟨m2, _ | ⟨m3, _ | ⟨m4, lz⟩⟩⟩⟩
   case cons.cons.cons.nil =>
    have hW := av_rWrite (repOf m1 m2 m3 z1 z2 z3)
    have hE := av_bEq (writeR (repOf m1 m2 m3 z1 z2 z3)).1 b
    dsimp only
    unfold repOf at *
    obtain ⟨k5, n5, b5, l5⟩ := m1
    obtain ⟨k6, n6, b6, l6⟩ := m2
    obtain ⟨k7, n7, b7, l7⟩ := m3
    obtain ⟨k8, n8, b8, l8⟩ := z1
    obtain ⟨k9, n9, b9, l9⟩ := z2
    generalize iReadV z3 = I at *
    obtain ⟨⟨ii, jn, js, jh, jd⟩, jt, jq, ok⟩ := I
    obtain ⟨k3, n3, b3, l3⟩ := z3
    dsimp only [It.n] at *
    cases ok with
    | false => exact rr_i (x := b) (hR := hR) (te := te) (hU := hU) (t2 := rfl) (hv1 := rfl) (hU1 := hU1) (t4 := rfl) (hv2 := rfl) (hU2 := hUz) (t3 := rfl) (hv3 := rfl) (hI := hI) (ti := rfl) ..
    | true =>
     generalize writeR _ = w at *
     obtain ⟨wb, we⟩ := w
     dsimp only at *
     cases tw : (we != 0) with
     | true => exact rr_w (x := b) (hR := hR) (te := te) (hU := hU) (t2 := rfl) (hv1 := rfl) (hU1 := hU1) (t4 := rfl) (hv2 := rfl) (hU2 := hUz) (t3 := rfl) (hv3 := rfl) (hI := hI) (ti := rfl) (hv5 := rfl) (hv6 := rfl) (hv7 := rfl) (hv8 := rfl) (hv9 := rfl) (hW := hW) (hE := hE) (tw := tw) ..
     | false =>
      cases hbb : (wb == b) with
      | false => exact rr_n (x := b) (hR := hR) (te := te) (hU := hU) (t2 := rfl) (hv1 := rfl) (hU1 := hU1) (t4 := rfl) (hv2 := rfl) (hU2 := hUz) (t3 := rfl) (hv3 := rfl) (hI := hI) (ti := rfl) (hv5 := rfl) (hv6 := rfl) (hv7 := rfl) (hv8 := rfl) (hv9 := rfl) (hW := hW) (hE := hE) (tw := tw) (hb := hbb) ..
      | true => exact rr_y (x := b) (hR := hR) (te := te) (hU := hU) (t2 := rfl) (hv1 := rfl) (hU1 := hU1) (t4 := rfl) (hv2 := rfl) (hU2 := hUz) (t3 := rfl) (hv3 := rfl) (hI := hI) (ti := rfl) (hv5 := rfl) (hv6 := rfl) (hv7 := rfl) (hv8 := rfl) (hv9 := rfl) (hW := hW) (hE := hE) (tw := tw) (hb := hbb) ..
   all_goals exact rr_3 (x := b) (hR := hR) (te := te) (hU := hU) (t2 := rfl) (hv1 := rfl) (hU1 := hU1) (t4 := rfl) (hv2 := rfl) (t3 := by rw [hlenz]; simp; try omega) ..
  all_goals exact rr_4 (x := b) (hR := hR) (te := te) (hU := hU) (t2 := rfl) (hv1 := rfl) (t4 := by rw [hlen1]; simp; try omega) ..
 ·exact rr_2 b _ _ _ _ _ _ hR te (by rw [hlen]; simp; try omega)
end Go.Proofs.YtpodhnaofhfinaaGreatDoor
end
section
open Go.RowKit Go.Pl Go.Av
namespace Go.Proofs.YtpodhnaofhfinaaGreatDoor
theorem item_255 (d m : Nat) (t : List UInt8) : ∃ e, itemS d m (255 :: t) = .error e := by
 have h1 : rdS (255 :: t) = (if mayB (7 : Nat) = true then .ok (((7 : Nat), 0, true), t) else .error 3) := by
  unfold rdS
  simp
 have hk : okK ((7 : Nat) : Int) = false := by decide
 cases d with
 | zero =>
  rw [itemS, h1]
  by_cases hm : mayB (7 : Nat) = true
  ·rw [if_pos hm]
   dsimp only
   rw [if_pos hk]
   exact ⟨_, rfl⟩
  ·rw [if_neg hm]
   exact ⟨_, rfl⟩
 | succ d =>
  rw [itemS, h1]
  by_cases hm : mayB (7 : Nat) = true
  ·rw [if_pos hm]
   dsimp only
   rw [if_pos hk]
   exact ⟨_, rfl⟩
  ·rw [if_neg hm]
   exact ⟨_, rfl⟩
theorem open_put : ∀ (l : List It) (d m m' : Nat) (acc : List It) (r : List UInt8) (f : Nat), wfs l -> d <= 6 -> walks l (7 - d) m = some m' -> l.length < f -> lstO (itemS d) f acc m (puts l ++ 255 :: r) = .ok (acc ++ l, r, m')
 | [], d, m, m', acc, r, f, _, _, h, hf => by
  obtain ⟨f, rfl⟩ : ∃ g, f = g + 1 := ⟨f - 1, by simp at hf; omega⟩
  simp only [walks, Option.some.injEq] at h
  simp [lstO, puts, endB, h]
 | x :: l, d, m, m', acc, r, f, hw, hd, h, hf => by
  obtain ⟨f, rfl⟩ : ∃ g, f = g + 1 := ⟨f - 1, by simp at hf; omega⟩
  obtain ⟨m1, h1, h2⟩ := walks_cons h
  have hi := item_put x d m m1 (puts l ++ 255 :: r) hw.1 hd h1
  rw [puts, List.append_assoc, lstO]
  have he : endB (putI x ++ (puts l ++ 255 :: r)) = false := by
   cases hs : putI x ++ (puts l ++ 255 :: r) with
   | nil => rfl
   | cons c t =>
    by_cases hc : c = 255
    ·exfalso
     subst hc
     rw [hs] at hi
     obtain ⟨e, h9⟩ := item_255 d m t
     rw [h9] at hi
     cases hi
    ·simp [endB, hc]
  rw [he]
  dsimp only
  rw [hi]
  dsimp only
  rw [open_put l d m1 m' (acc ++ [x]) r f hw.2 hd h2 (by simp at hf; omega)]
  simp
theorem read_open {l : List It} (hw : wfs l) {m' : Nat} (h : walks l 2 255 = some m') : readI (159 :: (puts l ++ [255])) 0 = (.mk 4 0 [] l, (puts l).length + 2, 0) := by
 have hr : rdS (159 :: (puts l ++ [255])) = .ok (((4 : Nat), 0, true), puts l ++ [255]) := by
  unfold rdS
  simp
  decide
 have hl : l.length < (puts l ++ [255]).length + 1 := by
  have := puts_len h
  rw [List.length_append]
  omega
 have ho := open_put l 5 255 m' [] [] ((puts l ++ [255]).length + 1) hw (by omega) h hl
 have e : readI (159 :: (puts l ++ [255])) 0 = match itemS 6 256 (159 :: (puts l ++ [255])) with
   | .error e => (.mk 0 0 [] [], 0, e)
   | .ok (x, r, _) => (x, (159 :: (puts l ++ [255])).length - r.length, 0) := by rw [readI, if_neg (by simp; omega)]; rfl
 rw [e, itemS, hr]
 dsimp only
 rw [if_neg (by decide), if_neg (by decide)]
 unfold bodyS lisS
 rw [if_neg (by decide), if_pos (by decide)]
 dsimp only
 rw [ho]
 simp
end Go.Proofs.YtpodhnaofhfinaaGreatDoor
end
section
open Go.RowKit Go.Pl Go.Av
namespace Go.Proofs.YtpodhnaofhfinaaGreatDoor
set_option maxHeartbeats 4000000
theorem wfI_n {x : It} (h : wfI x) : x.n < 18446744073709551616 := by obtain ⟨k, n, b, l⟩ := x; exact h.1
end Go.Proofs.YtpodhnaofhfinaaGreatDoor
end
section
open Go.RowKit Go.Pl Go.Av
namespace Go.Proofs.YtpodhnaofhfinaaGreatDoor
theorem iReadV_item {x : EidV} {t q : Nat} (h : iRight x t q = true) : iReadV (itemN x t q) = (x, t, q, true) := by
 obtain ⟨h1, _, _⟩ := iRight_iff.1 h
 have hr := readV_itemE h1 (right_itemE h1)
 have hz : readZ (itemE x) = x := by show (match (readV (itemE x)).2 with | true => (readV (itemE x)).1 | false => eidZ) = x; rw [hr]
 unfold itemN iReadV
 dsimp only
 have e : readNm (itemE x) (.mk 0 t [] []) (.mk 0 q [] []) (.mk 4 0 [] [itemE x, .mk 4 0 [] [.mk 0 t [] [], .mk 0 q [] []]]) = true := by
  unfold readNm
  rw [hz, hr]
  dsimp only [It.n]
  rw [h]
  exact beq_self _
 rw [e, hz]
 rfl
theorem pr_write_read {p : PriV} (hs : p.sum = IntKind.i64.wrap ((p.sum.toNat : Nat) : Int)) {x : It} (h : writeP p = (x, 0)) : readP x = (p, 0) := by
 have hr : rightP p = true := by
  unfold writeP at h
  cases hr : rightP p with
  | true => rfl
  | false => rw [hr] at h; simp at h
 have h2 := h
 unfold writeP at h2
 rw [hr] at h2
 have ho := seal_open h2
 obtain ⟨_, _, d1, d2, d3, _⟩ := pr_facts hr
 have r1 := readV_itemE d1 (right_itemE d1)
 have r2 := readV_itemE d2 (right_itemE d2)
 have r3 := iReadV_item d3
 have e1 : eZ (itemE p.dest) = p.dest := by unfold eZ; rw [r1]
 have e2 : eZ (itemE p.rep) = p.rep := by unfold eZ; rw [r2]
 unfold itemN at r3
 unfold readP
 rw [ho]
 unfold readQ listP
 dsimp only
 have e : priOf (.mk 0 p.fl [] []) (.mk 0 p.sum.toNat [] []) (itemE p.dest) (itemE p.src) (itemE p.rep) (.mk 4 0 [] [.mk 0 p.t [] [], .mk 0 p.q [] []]) (.mk 0 p.life [] []) = p := by
  unfold priOf
  rw [e1, e2, r3]
  dsimp only [It.n]
  rw [<- hs]
 rw [e, r1, r2, r3, h]
 simp [beq_self]
end Go.Proofs.YtpodhnaofhfinaaGreatDoor
end
section
open Go.RowKit Go.Pl Go.Av
namespace Go.Proofs.YtpodhnaofhfinaaGreatDoor
set_option maxHeartbeats 4000000
theorem right_of_writeP {p : PriV} {x : It} (h : writeP p = (x, 0)) : rightP p = true /\ sealV (listP p) 2 = (x, 0) := by
 unfold writeP at h
 cases hr : rightP p with
 | true => rw [hr] at h; exact ⟨rfl, h⟩
 | false => rw [hr] at h; simp at h
theorem rp_fl {z : It} (hw : wfI z) : (readP z).1.fl < 18446744073709551616 := by
 have hsub := open_sub z 2
 have hws : wfs z.l := by obtain ⟨k, n, b, l⟩ := z; exact hw.2.2.2
 unfold readP
 generalize openV z 2 = o at *
 have h0 : pr0.fl < 18446744073709551616 := by decide
 unfold readQ
 split
 ·exact h0
 ·split
  ·rename_i heq
   rw [heq] at hsub
   split
   ·exact h0
   ·split
    ·exact h0
    ·split
     ·exact h0
     ·exact wfI_n (wfs_mem hws _ (hsub _ (List.mem_cons_of_mem _ (List.mem_cons_self ..))))
  ·exact h0
end Go.Proofs.YtpodhnaofhfinaaGreatDoor
end
section
open Go.RowKit Go.Pl Go.Av
namespace Go.Proofs.YtpodhnaofhfinaaGreatDoor
structure BunV where
 p : PriV
 bl : List BlkV
def alone (k : Nat) : Bool := k == 1 || (k == 6 || (k == 7 || k == 10))
def fitL : List BlkV -> List BlkV -> Bool
 | _, [] => true
 | pre, b :: r => bkRight b && (pre.all (fun c => c.num != b.num && (c.ty != b.ty || !alone b.ty)) && fitL (pre ++ [b]) r)
def fitV (l : List BlkV) : Bool := match l.getLast? with
 | none => false
 | some b => decide (l.length <= 8) && (b.ty == 1 && (b.num == 1 && fitL [] l))
theorem fitL_right : ∀ {l pre : List BlkV}, fitL pre l = true -> ∀ b ∈ l, bkRight b = true
 | [], _, _, b, hb => by simp at hb
 | x :: l, pre, h, b, hb => by
  rw [fitL] at h
  simp only [Bool.and_eq_true] at h
  rcases List.mem_cons.1 hb with rfl | hb
  ·exact h.1
  ·exact fitL_right h.2.2 b hb
theorem fit_right_all {l : List BlkV} (h : fitV l = true) : l.length <= 8 /\ ∀ b ∈ l, bkRight b = true := by
 unfold fitV at h
 split at h
 ·cases h
 ·simp only [Bool.and_eq_true, decide_eq_true_eq] at h
  exact ⟨h.1, fitL_right h.2.2.2⟩
def itemsL (b : BunV) : List It := (writeP b.p).1 :: b.bl.map fun c => (writeB c).1
def okAll (b : BunV) : Bool := (writeP b.p).2 == 0 && b.bl.all fun c => (writeB c).2 == 0
def putBn (b : BunV) : List UInt8 := 159 :: (puts (itemsL b) ++ [255])
def rightBn (b : BunV) : Bool := fitV b.bl && (okAll b && decide (((puts (itemsL b)).length : Int) <= 598))
theorem walks_all : ∀ (l : List It) (k m : Nat), (∀ x ∈ l, deepI x 5 = true /\ fineI x = true /\ sizeI x <= k) -> l.length * k <= m -> ∃ m', walks l 2 m = some m'
 | [], k, m, _, _ => ⟨m, by rw [walks]⟩
 | x :: l, k, m, h, hm => by
  obtain ⟨h1, h2, h3⟩ := h x (List.mem_cons_self ..)
  rw [List.length_cons, Nat.add_mul, Nat.one_mul] at hm
  obtain ⟨m', h4⟩ := walks_all l k (m - sizeI x) (fun y hy => h y (List.mem_cons_of_mem _ hy)) (by omega)
  refine ⟨m', ?_⟩
  rw [walks, walk_iff, if_pos ⟨h1, by omega, h2⟩]
  exact h4
theorem seal_right {l : List It} {a : Int} {x : It} (h : sealV l a = (x, 0)) : rightI x = true := by
 unfold sealV at h
 split at h
 ·simp at h
 ·split at h
  ·simp at h
  ·split at h
   ·split at h
    ·rename_i hr
     simp only [Prod.mk.injEq, and_true] at h
     subst h; exact hr
    ·simp at h
   ·split at h
    ·simp at h
    ·split at h
     ·simp at h
     ·rename_i hr
      simp only [Prod.mk.injEq, and_true] at h
      subst h; exact hr
theorem right_fine {x : It} (h : rightI x = true) : fineI x = true := by
 rw [right_iff] at h
 simp only [Bool.and_eq_true] at h
 exact h.2.2
theorem block_few {c : BlkV} {x : It} (h : writeB c = (x, 0)) : deepI x 5 = true /\ fineI x = true /\ sizeI x <= 24 := by
 obtain ⟨_, hs⟩ := right_of_write h
 refine ⟨?_, right_fine (seal_right hs), ?_⟩
 ·rcases seal_cases hs with rfl | ⟨s, _, rfl⟩
  ·simp [listB, deepI, deeps]
  ·simp [outL, listB, deepI, deeps]
 ·rcases seal_cases hs with rfl | ⟨s, _, rfl⟩
  ·simp [listB, sizeI, sizes]
  ·simp [outL, listB, sizeI, sizes]
theorem eid_few (x : EidV) : deepI (itemE x) 4 = true /\ sizeI (itemE x) <= 5 := by
 unfold itemE
 repeat' split
 all_goals simp [deepI, deeps, sizeI, sizes]
theorem prim_few {p : PriV} {x : It} (h : writeP p = (x, 0)) : deepI x 5 = true /\ fineI x = true /\ sizeI x <= 24 := by
 obtain ⟨_, hs⟩ := right_of_writeP h
 obtain ⟨a1, a2⟩ := eid_few p.dest
 obtain ⟨b1, b2⟩ := eid_few p.src
 obtain ⟨c1, c2⟩ := eid_few p.rep
 refine ⟨?_, right_fine (seal_right hs), ?_⟩
 ·rcases seal_cases hs with rfl | ⟨s, _, rfl⟩
  ·simp [listP, deepI, deeps, a1, b1, c1]
  ·simp [outL, listP, deepI, deeps, a1, b1, c1]
 ·rcases seal_cases hs with rfl | ⟨s, _, rfl⟩
  ·simp [listP, sizeI, sizes]; omega
  ·simp [outL, listP, sizeI, sizes]; omega
theorem read_items {b : BunV} (hb : rightBn b = true) (hw : wfs (itemsL b)) : readI (putBn b) 0 = (.mk 4 0 [] (itemsL b), (putBn b).length, 0) := by
 unfold rightBn okAll at hb
 simp only [Bool.and_eq_true, List.all_eq_true, beq_iff_eq] at hb
 obtain ⟨hf, ⟨hp, hc⟩, _⟩ := hb
 have hl := (fit_right_all hf).1
 obtain ⟨m', h⟩ := walks_all (itemsL b) 24 255 (fun x hx => by
  unfold itemsL at hx
  rcases List.mem_cons.1 hx with rfl | hx
  ·exact prim_few (Prod.ext rfl hp)
  ·obtain ⟨c, hcm, rfl⟩ := List.mem_map.1 hx
   exact block_few (Prod.ext rfl (hc c hcm))) (by unfold itemsL; simp; omega)
 have := read_open hw h
 unfold putBn
 rw [this]
 simp
end Go.Proofs.YtpodhnaofhfinaaGreatDoor
end
section
open Go.RowKit Go.Pl Go.Av
namespace Go.Proofs.YtpodhnaofhfinaaGreatDoor
def readBs : List It -> Except Int (List BlkV)
 | [] => .ok []
 | y :: r => match (readB y).2 == 0 with
  | false => .error (readB y).2
  | true => match readBs r with
   | .error e => .error e
   | .ok l => .ok ((readB y).1 :: l)
def bn0 : BunV := ⟨pr0, []⟩
def bunOf (it : It) : BunV × Int := match it with
 | .mk k _ _ l => match k == 4 && (decide (2 <= l.length) && decide (l.length <= 9)) with
  | false => (bn0, 3)
  | true => match l with
   | [] => (bn0, 3)
   | x :: r => match (readP x).2 != 0 with
    | true => (bn0, (readP x).2)
    | false => match readBs r with
     | .error e => (bn0, e)
     | .ok bl => match rightBn ⟨(readP x).1, bl⟩ with
      | false => (bn0, 3)
      | true => (⟨(readP x).1, bl⟩, 0)
def readBn (x : List UInt8) : BunV × Int := match decide ((x.length : Int) > 1200) with
 | true => (bn0, 2)
 | false => match ((readI x 0).2.2 : Int) != 0 with
  | true => (bn0, ((readI x 0).2.2 : Int))
  | false => match (readI x 0).2.1 == x.length with
   | false => (bn0, 3)
   | true => bunOf (readI x 0).1
theorem wrap_sum {s : Int} (h0 : 0 <= s) (h2 : s <= 2) : s = IntKind.i64.wrap ((s.toNat : Nat) : Int) := by
 rw [IntWalk.i64_in _ (by omega)]; omega
theorem readBs_map : ∀ {l : List BlkV}, (∀ c ∈ l, bkRight c = true /\ (writeB c).2 = 0) -> readBs (l.map fun c => (writeB c).1) = .ok l
 | [], _ => rfl
 | c :: l, h => by
  obtain ⟨h1, h2⟩ := h c (List.mem_cons_self ..)
  obtain ⟨_, _, s1, s2, _⟩ := bk_facts h1
  have hr := bk_write_read (wrap_sum s1 s2) (x := (writeB c).1) (Prod.ext rfl h2)
  rw [List.map_cons, readBs, hr, readBs_map fun y hy => h y (List.mem_cons_of_mem _ hy)]
  rfl
theorem bn_write_read {b : BunV} (hb : rightBn b = true) (hw : wfs (itemsL b)) : readBn (putBn b) = (b, 0) := by
 have hi := read_items hb hw
 have hb2 := hb
 unfold rightBn okAll at hb2
 simp only [Bool.and_eq_true, List.all_eq_true, beq_iff_eq, decide_eq_true_eq] at hb2
 obtain ⟨hf, ⟨hp, hc⟩, hl⟩ := hb2
 obtain ⟨hl8, hbr⟩ := fit_right_all hf
 obtain ⟨hpr, _⟩ := right_of_writeP (p := b.p) (x := (writeP b.p).1) (Prod.ext rfl hp)
 obtain ⟨s1, s2, _⟩ := pr_facts hpr
 have hrp := pr_write_read (wrap_sum s1 s2) (x := (writeP b.p).1) (Prod.ext rfl hp)
 have hrb := readBs_map fun c hcm => ⟨hbr c hcm, hc c hcm⟩
 have hne : 1 <= b.bl.length := by
  unfold fitV at hf
  cases hbl : b.bl with
  | nil => rw [hbl] at hf; cases hf
  | cons c l => simp
 have hlen : (putBn b).length = (puts (itemsL b)).length + 2 := by unfold putBn; simp
 have d0 : decide (((putBn b).length : Int) > 1200) = false := decide_eq_false (by omega)
 unfold readBn
 rw [d0, hi]
 dsimp only
 have e1 : (((0 : Nat) : Int) != 0) = false := rfl
 rw [e1]
 dsimp only
 rw [beq_self_eq_true]
 dsimp only
 unfold bunOf itemsL
 have d1 : decide (2 <= ((writeP b.p).1 :: b.bl.map fun c => (writeB c).1).length) = true := decide_eq_true (by simp; omega)
 have d2 : decide (((writeP b.p).1 :: b.bl.map fun c => (writeB c).1).length <= 9) = true := decide_eq_true (by simp; omega)
 dsimp only
 rw [d1, d2, hrp, hrb]
 dsimp only
 rw [hb]
 rfl
theorem wfs_items {b : BunV} (hp : b.p.fl < 18446744073709551616) (hb : ∀ c ∈ b.bl, c.fl < 18446744073709551616 /\ c.data.length <= 3000) : wfs (itemsL b) := by
 have key : ∀ l : List BlkV, (∀ c ∈ l, c.fl < 18446744073709551616 /\ c.data.length <= 3000) -> wfs (l.map fun c => (writeB c).1) := fun l => by
  induction l with
  | nil => intro _; trivial
  | cons c l ih =>
   intro h
   obtain ⟨h1, h2⟩ := h c (List.mem_cons_self ..)
   exact ⟨wf_write h1 h2, ih fun y hy => h y (List.mem_cons_of_mem _ hy)⟩
 exact ⟨wf_writeP hp, key b.bl hb⟩
theorem put_len600 {b : BunV} (hb : rightBn b = true) : (putBn b).length <= 600 := by
 unfold rightBn at hb
 simp only [Bool.and_eq_true, decide_eq_true_eq] at hb
 have hlen : (putBn b).length = (puts (itemsL b)).length + 2 := by unfold putBn; simp
 omega
end Go.Proofs.YtpodhnaofhfinaaGreatDoor
end
