/- Package eid: the name of two numbers. -/
import Derived.Test.YtnihobjehelagaaDoorG17
section
open Go.RowKit Go.Pl Go.Av
namespace Go.Proofs.YtnihobjehelagaaDoor
set_option linter.unusedVariables false
set_option linter.unusedSimpArgs false
set_option maxHeartbeats 4000000
theorem pn_c3 [Known] (s a b da db : List UInt8) (n m : Nat) (k : Bool) (R : Bool) (hC : AP Tryd.prog 107 [.str s, .str [46]] (.tup [.str a, .str b, .bool k]) [])
    (hA : AP Tryd.prog 108 [.str a, .int .i64 10, .int .i64 32] (.tup [.int .u64 (n : Int), .nili]) []) (hB : AP Tryd.prog 108 [.str b, .int .i64 10, .int .i64 32] (.tup [.int .u64 (m : Int), (.iface 199 .junk)]) [])
    (hF1 : AP Tryd.prog 70 [.int .u64 (n : Int), .int .i64 10] (.str da) []) (hF2 : AP Tryd.prog 70 [.int .u64 (m : Int), .int .i64 10] (.str db) [])
    (hR : AP Tryd.prog 33 [.agg [.bool true, .int .u64 (n : Int), .int .u64 (m : Int), .str [], .str []]] (.bool R) []) : AP Tryd.prog 73 [.str s] (.tup [.agg [.bool true, .int .u64 (n : Int), .int .u64 (m : Int), .str [], .str []], .bool false]) [] := by
  cases k
  all_goals
    refine AP.ofA ?_
    refine AC_of Tryd.func73 rfl Tryd.ntmps73 rfl rfl ?_
    repeat' (first | (apply AL_callPw (hC); kernel_rfl; (iterate 4 exact rfl)) | (apply AL_callPw (hA); kernel_rfl; (iterate 4 exact rfl)) | (apply AL_callPw (hB); kernel_rfl; (iterate 4 exact rfl)) | (apply AL_ifnil; exact rfl; exact err_u; exact rfl; exact rfl) | (apply AL_ifnot; exact rfl; exact err_u; exact rfl; exact rfl) | (apply AL_move; exact rfl; exact rfl) | (apply AL_assign; exact rfl; exact rfl) | (apply AL_loadn ttok; (iterate 7 exact rfl)) | (apply AL_store ttok; (iterate 8 exact rfl)) | (apply AL_extract; (iterate 3 exact rfl)) | refine AL_nil ?_ | (apply AL_guardT; (iterate 3 exact rfl); (first | with_reducible assumption | decide +kernel)) | (apply AL_guardFt; (iterate 3 exact rfl); (first | with_reducible assumption | decide +kernel)) | (apply AL_pickT; exact rfl; (first | with_reducible assumption | decide +kernel); exact rfl; exact rfl) | (apply AL_pickF; exact rfl; (first | with_reducible assumption | decide +kernel); exact rfl; exact rfl) | refine AW_region ?_ | refine AW_seq' ?_ | refine then_norm ?_ | refine AW_ret ?_ | (apply AL_build ttok; (iterate 6 exact rfl)) | (apply AL_allocZ ttok; (iterate 4 exact rfl)) | (apply AW_drawE 27 hmix; (decide +kernel); (kernel_rfl); (kernel_rfl); (kernel_rfl); exact rfl; exact rfl) | (apply AE_consZ; (iterate 4 exact rfl)) | exact AE.nil _ _ _ _ | (apply AEk_puT; exact rfl) | (apply AEk_ef; exact rfl) | (apply AOt_mk; exact rfl; exact rfl; (decide +kernel); exact rfl) | (apply AO_puT; exact rfl) | (apply AO_ef; exact rfl) | exact AO.nil _ _ _ | (apply AOs_skip; (decide +kernel)) | (apply AOs_goZ; (iterate 3 exact rfl)) | exact AOs.nil | exact qY_ok rfl rfl | exact qY_efn rfl)
    all_goals (apply endQ []; (repeat (first | exact ResL.nil | (apply ResL.cons; first | exact .tmp _ _ rfl | (apply res_n ttok; (iterate 6 exact rfl)) | (apply res_1 ttok; (iterate 5 exact rfl))))); (iterate 4 exact rfl))
    all_goals rfl
end Go.Proofs.YtnihobjehelagaaDoor
end
/- Package eid: the name of two numbers. -/
section
open Go.RowKit Go.Pl Go.Av
namespace Go.Proofs.YtnihobjehelagaaDoor
set_option linter.unusedVariables false
set_option linter.unusedSimpArgs false
set_option maxHeartbeats 4000000
theorem pn_c6 [Known] (s a b da db : List UInt8) (n m : Nat) (f1 f2 : Bool) (hC : AP Tryd.prog 107 [.str s, .str [46]] (.tup [.str a, .str b, .bool true]) [])
    (hA : AP Tryd.prog 108 [.str a, .int .i64 10, .int .i64 32] (.tup [.int .u64 (n : Int), .nili]) []) (hB : AP Tryd.prog 108 [.str b, .int .i64 10, .int .i64 32] (.tup [.int .u64 (m : Int), .nili]) [])
    (hF1 : AP Tryd.prog 70 [.int .u64 (n : Int), .int .i64 10] (.str da) []) (hF2 : AP Tryd.prog 70 [.int .u64 (m : Int), .int .i64 10] (.str db) [])
    (hR : AP Tryd.prog 33 [.agg [.bool true, .int .u64 (n : Int), .int .u64 (m : Int), .str [], .str []]] (.bool true) []) (h1 : (da == a) = f1) (h2 : (db == b) = f2) : AP Tryd.prog 73 [.str s] (.tup [.agg [.bool true, .int .u64 (n : Int), .int .u64 (m : Int), .str [], .str []], .bool (f1 && f2)]) [] := by
  cases f1 <;> cases f2
  all_goals
    refine AP.ofA ?_
    refine AC_of Tryd.func73 rfl Tryd.ntmps73 rfl rfl ?_
    repeat' (first | rw [h1] | rw [h2] | (apply AL_callPw (hC); kernel_rfl; (iterate 4 exact rfl)) | (apply AL_callPw (hA); kernel_rfl; (iterate 4 exact rfl)) | (apply AL_callPw (hB); kernel_rfl; (iterate 4 exact rfl)) | (apply AL_callPw (hR); kernel_rfl; (iterate 4 exact rfl)) | (apply AL_callPw (hF1); kernel_rfl; (iterate 4 exact rfl)) | (apply AL_callPw (hF2); kernel_rfl; (iterate 4 exact rfl)) | (apply AL_ifnil; exact rfl; exact err_u; exact rfl; exact rfl) | (apply AL_move; exact rfl; exact rfl) | (apply AL_assign; exact rfl; exact rfl) | (apply AL_loadn ttok; (iterate 7 exact rfl)) | (apply AL_store ttok; (iterate 8 exact rfl)) | (apply AL_extract; (iterate 3 exact rfl)) | refine AL_nil ?_ | (apply AL_guardT; (iterate 3 exact rfl); (first | with_reducible assumption | decide +kernel)) | (apply AL_guardFt; (iterate 3 exact rfl); (first | with_reducible assumption | decide +kernel)) | (apply AL_pickT; exact rfl; (first | with_reducible assumption | decide +kernel); exact rfl; exact rfl) | (apply AL_pickF; exact rfl; (first | with_reducible assumption | decide +kernel); exact rfl; exact rfl) | refine AW_region ?_ | refine AW_seq' ?_ | refine then_norm ?_ | refine AW_ret ?_ | (apply AL_build ttok; (iterate 6 exact rfl)) | (apply AL_allocZ ttok; (iterate 4 exact rfl)) | (apply AL_str; (iterate 5 exact rfl)) | (apply AW_drawE 27 hmix; (decide +kernel); (kernel_rfl); (kernel_rfl); (kernel_rfl); exact rfl; exact rfl) | (apply AE_consZ; (iterate 4 exact rfl)) | exact AE.nil _ _ _ _ | (apply AEk_puT; exact rfl) | (apply AEk_ef; exact rfl) | (apply AOt_mk; exact rfl; exact rfl; (decide +kernel); exact rfl) | (apply AO_puT; exact rfl) | (apply AO_ef; exact rfl) | exact AO.nil _ _ _ | (apply AOs_skip; (decide +kernel)) | (apply AOs_goZ; (iterate 3 exact rfl)) | exact AOs.nil | exact qY_ok rfl rfl | exact qY_efn rfl)
    all_goals (apply endQ []; (repeat (first | exact ResL.nil | (apply ResL.cons; first | exact .tmp _ _ rfl | (apply res_n ttok; (iterate 6 exact rfl)) | (apply res_1 ttok; (iterate 5 exact rfl))))); (iterate 4 exact rfl))
    all_goals rfl
end Go.Proofs.YtnihobjehelagaaDoor
end
