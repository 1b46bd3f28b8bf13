/- Package request: Write, by kinds (4, 5, 6). -/
import Derived.Test.YtnihobjehelagaaDoorG13
import Derived.Shelf.LaysM
import Derived.Shelf.Strconv.Itoa1
import Derived.Shelf.Strconv.Itoa2
import Derived.Test.YtnihobjehelagaaDoorProg
import Derived.Test.YtnihobjehelagaaDoorG11
import Derived.Lib.ItoaMem
import Derived.Lib.Walk
import Derived.WalkKit
import Derived.BigCall
import Derived.BigGuard
import Derived.Test.YtnihobjehelagaaDoorG10
section
open Go.RowKit Go.Pl Go.Av
namespace Go.Proofs.YtnihobjehelagaaDoor
set_option linter.unusedVariables false
set_option linter.unusedSimpArgs false
set_option maxHeartbeats 4000000
theorem rw_4 [Known] (id : Nat) (ei : Bool) (en es : Nat) (eh ed : List UInt8) (di : Bool) (dn dq : Nat) (dh dd : List UInt8) (pol num tik : Int) (pay : List UInt8) (life tok : Nat) (on : Bool) (L0 L1 L2 L3 L4 L5 L6 R : List E) (c0 c1 c2 c3 c4 c5 c6 : Nat) (hR : AP Tryd.prog 50 [.agg [.int .u64 (id : Int), .int .i64 4, .bool ei, .int .u64 (en : Int), .int .u64 (es : Int), .str eh, .str ed, .bool di, .int .u64 (dn : Int), .int .u64 (dq : Int), .str dh, .str dd, .int .i64 pol, .int .i64 num, .int .i64 tik, .sl .ext (pay.map E.byte), .int .u64 (life : Int), .int .u64 (tok : Int), .bool on]] (.bool true) []) (hN : AT Tryd.prog 80 [] [] [] (.ptr 0 0) [[.bool true, .sl .nil []]] [])
    (h0 : AT Tryd.prog 81 [.ptr 0 0, .int .u64 (id : Int)] [[.bool true, .sl .nil []]] [] (.ptr 0 0) [[.bool true, .sl (.own 0) L0]] [⟨c0, 1, 5⟩])
    (h1 : AT Tryd.prog 82 [.ptr 0 0, .int .i64 4] [[.bool true, .sl (.own 0) L0]] [⟨c0, 1, 5⟩] (.ptr 0 0) [[.bool true, .sl (.own 0) L1]] [⟨c1, 1, 5⟩])
    (h2 : AT Tryd.prog 83 [.ptr 0 0, .agg [.bool ei, .int .u64 (en : Int), .int .u64 (es : Int), .str eh, .str ed]] [[.bool true, .sl (.own 0) L1]] [⟨c1, 1, 5⟩] (.tup []) [[.bool true, .sl (.own 0) L2]] [⟨c2, 1, 5⟩])
    (h3 : AT Tryd.prog 83 [.ptr 0 0, .agg [.bool di, .int .u64 (dn : Int), .int .u64 (dq : Int), .str dh, .str dd]] [[.bool true, .sl (.own 0) L2]] [⟨c2, 1, 5⟩] (.tup []) [[.bool true, .sl (.own 0) L3]] [⟨c3, 1, 5⟩])
    (h4 : AT Tryd.prog 84 [.ptr 0 0, .sl .ext (pay.map E.byte)] [[.bool true, .sl (.own 0) L3]] [⟨c3, 1, 5⟩] (.ptr 0 0) [[.bool true, .sl (.own 0) L4]] [⟨c4, 1, 5⟩])
    (h5 : AT Tryd.prog 81 [.ptr 0 0, .int .u64 (life : Int)] [[.bool true, .sl (.own 0) L4]] [⟨c4, 1, 5⟩] (.ptr 0 0) [[.bool true, .sl (.own 0) L5]] [⟨c5, 1, 5⟩])
    (h6 : AT Tryd.prog 85 [.ptr 0 0, .bool on] [[.bool true, .sl (.own 0) L5]] [⟨c5, 1, 5⟩] (.ptr 0 0) [[.bool true, .sl (.own 0) L6]] [⟨c6, 1, 5⟩])
    (hB : AT Tryd.prog 86 [.ptr 0 0] [[.bool true, .sl (.own 0) L6]] [⟨c6, 1, 5⟩] (.sl .ext R) [[.bool true, .sl (.own 0) L6]] [⟨c6, 1, 5⟩]) :
    AP Tryd.prog 46 [.agg [.int .u64 (id : Int), .int .i64 4, .bool ei, .int .u64 (en : Int), .int .u64 (es : Int), .str eh, .str ed, .bool di, .int .u64 (dn : Int), .int .u64 (dq : Int), .str dh, .str dd, .int .i64 pol, .int .i64 num, .int .i64 tik, .sl .ext (pay.map E.byte), .int .u64 (life : Int), .int .u64 (tok : Int), .bool on]] (.tup [.sl .ext R, .int .i64 0]) [] := by
  refine AP.ofA ?_
  refine AC_of Tryd.func46 rfl Tryd.ntmps46 rfl rfl ?_
  repeat' (first | (apply AL_callPw (hR); kernel_rfl; (iterate 4 exact rfl)) | (apply AL_callT [] [] (hN); kernel_rfl; (iterate 10 exact rfl)) | (apply AL_callT [1] [] (h0); kernel_rfl; (iterate 10 exact rfl)) | (apply AL_callT [1] [0] (h1); kernel_rfl; (iterate 10 exact rfl)) | (apply AL_callT [1] [0] (h2); kernel_rfl; (iterate 10 exact rfl)) | (apply AL_callT [1] [0] (h3); kernel_rfl; (iterate 10 exact rfl)) | (apply AL_callT [1] [0] (h4); kernel_rfl; (iterate 10 exact rfl)) | (apply AL_callT [1] [0] (h5); kernel_rfl; (iterate 10 exact rfl)) | (apply AL_callT [1] [0] (h6); kernel_rfl; (iterate 10 exact rfl)) | (apply AL_callT [1] [0] (hB); kernel_rfl; (iterate 10 exact rfl)) | (apply AL_move; exact rfl; exact rfl) | (apply AL_assign; exact rfl; exact rfl) | (apply AL_bin; (iterate 5 exact rfl)) | (apply AL_load1 ttok; (iterate 6 exact rfl)) | (apply AL_loadn ttok; (iterate 7 exact rfl)) | (apply AL_fieldAddr ttok; (iterate 7 exact rfl)) | (apply AL_boxZ; (iterate 5 exact rfl)) | (apply AL_not; exact rfl; exact rfl) | refine AL_nil ?_ | refine AW_region ?_ | refine AW_seq' ?_ | (apply AW_condA; exact rfl; (first | with_reducible assumption | decide +kernel)) | (apply AW_condB; exact rfl; (first | with_reducible assumption | decide +kernel)) | refine then_norm ?_ | refine AW_block ?_ | refine AW_ret ?_ | (apply AW_drawE 6 hmix; (decide +kernel); (kernel_rfl); (kernel_rfl); (kernel_rfl); exact rfl; exact rfl) | (apply AW_drawE 9 hmix; (decide +kernel); (kernel_rfl); (kernel_rfl); (kernel_rfl); exact rfl; exact rfl) | (apply AE_consZ; (iterate 4 exact rfl)) | exact AE.nil _ _ _ _ | (apply AEk_puT; exact rfl) | (apply AEk_efT; exact rfl) | (apply AOt_mk; exact rfl; exact rfl; (decide +kernel); exact rfl) | (apply AO_puT; exact rfl) | (apply AO_efT; exact rfl) | exact AO.nil _ _ _ | (apply AOs_skip; (decide +kernel)) | (apply AOs_goZ; (iterate 3 exact rfl)) | exact AOs.nil | exact qY_ok rfl rfl | exact qY_ef rfl rfl | refine AW_skip ?_)
  all_goals (apply endQ []; (repeat (first | exact ResL.nil | (apply ResL.cons; first | exact .tmp _ _ rfl | (apply res_n ttok; (iterate 6 exact rfl)) | (apply res_1 ttok; (iterate 5 exact rfl))))); (iterate 4 exact rfl))
  all_goals rfl
theorem rw_5 [Known] (id : Nat) (ei : Bool) (en es : Nat) (eh ed : List UInt8) (di : Bool) (dn dq : Nat) (dh dd : List UInt8) (pol num tik : Int) (pay : List UInt8) (life tok : Nat) (on : Bool) (L0 L1 L2 R : List E) (c0 c1 c2 : Nat) (hR : AP Tryd.prog 50 [.agg [.int .u64 (id : Int), .int .i64 5, .bool ei, .int .u64 (en : Int), .int .u64 (es : Int), .str eh, .str ed, .bool di, .int .u64 (dn : Int), .int .u64 (dq : Int), .str dh, .str dd, .int .i64 pol, .int .i64 num, .int .i64 tik, .sl .ext (pay.map E.byte), .int .u64 (life : Int), .int .u64 (tok : Int), .bool on]] (.bool true) []) (hN : AT Tryd.prog 80 [] [] [] (.ptr 0 0) [[.bool true, .sl .nil []]] [])
    (h0 : AT Tryd.prog 81 [.ptr 0 0, .int .u64 (id : Int)] [[.bool true, .sl .nil []]] [] (.ptr 0 0) [[.bool true, .sl (.own 0) L0]] [⟨c0, 1, 5⟩])
    (h1 : AT Tryd.prog 82 [.ptr 0 0, .int .i64 5] [[.bool true, .sl (.own 0) L0]] [⟨c0, 1, 5⟩] (.ptr 0 0) [[.bool true, .sl (.own 0) L1]] [⟨c1, 1, 5⟩])
    (h2 : AT Tryd.prog 82 [.ptr 0 0, .int .i64 num] [[.bool true, .sl (.own 0) L1]] [⟨c1, 1, 5⟩] (.ptr 0 0) [[.bool true, .sl (.own 0) L2]] [⟨c2, 1, 5⟩])
    (hB : AT Tryd.prog 86 [.ptr 0 0] [[.bool true, .sl (.own 0) L2]] [⟨c2, 1, 5⟩] (.sl .ext R) [[.bool true, .sl (.own 0) L2]] [⟨c2, 1, 5⟩]) :
    AP Tryd.prog 46 [.agg [.int .u64 (id : Int), .int .i64 5, .bool ei, .int .u64 (en : Int), .int .u64 (es : Int), .str eh, .str ed, .bool di, .int .u64 (dn : Int), .int .u64 (dq : Int), .str dh, .str dd, .int .i64 pol, .int .i64 num, .int .i64 tik, .sl .ext (pay.map E.byte), .int .u64 (life : Int), .int .u64 (tok : Int), .bool on]] (.tup [.sl .ext R, .int .i64 0]) [] := by
  refine AP.ofA ?_
  refine AC_of Tryd.func46 rfl Tryd.ntmps46 rfl rfl ?_
  repeat' (first | (apply AL_callPw (hR); kernel_rfl; (iterate 4 exact rfl)) | (apply AL_callT [] [] (hN); kernel_rfl; (iterate 10 exact rfl)) | (apply AL_callT [1] [] (h0); kernel_rfl; (iterate 10 exact rfl)) | (apply AL_callT [1] [0] (h1); kernel_rfl; (iterate 10 exact rfl)) | (apply AL_callT [1] [0] (h2); kernel_rfl; (iterate 10 exact rfl)) | (apply AL_callT [1] [0] (hB); kernel_rfl; (iterate 10 exact rfl)) | (apply AL_move; exact rfl; exact rfl) | (apply AL_assign; exact rfl; exact rfl) | (apply AL_bin; (iterate 5 exact rfl)) | (apply AL_load1 ttok; (iterate 6 exact rfl)) | (apply AL_loadn ttok; (iterate 7 exact rfl)) | (apply AL_fieldAddr ttok; (iterate 7 exact rfl)) | (apply AL_boxZ; (iterate 5 exact rfl)) | (apply AL_not; exact rfl; exact rfl) | refine AL_nil ?_ | refine AW_region ?_ | refine AW_seq' ?_ | (apply AW_condA; exact rfl; (first | with_reducible assumption | decide +kernel)) | (apply AW_condB; exact rfl; (first | with_reducible assumption | decide +kernel)) | refine then_norm ?_ | refine AW_block ?_ | refine AW_ret ?_ | (apply AW_drawE 6 hmix; (decide +kernel); (kernel_rfl); (kernel_rfl); (kernel_rfl); exact rfl; exact rfl) | (apply AE_consZ; (iterate 4 exact rfl)) | exact AE.nil _ _ _ _ | (apply AEk_puT; exact rfl) | (apply AEk_efT; exact rfl) | (apply AOt_mk; exact rfl; exact rfl; (decide +kernel); exact rfl) | (apply AO_puT; exact rfl) | (apply AO_efT; exact rfl) | exact AO.nil _ _ _ | (apply AOs_skip; (decide +kernel)) | (apply AOs_goZ; (iterate 3 exact rfl)) | exact AOs.nil | exact qY_ok rfl rfl | exact qY_ef rfl rfl | refine AW_skip ?_)
  all_goals (apply endQ []; (repeat (first | exact ResL.nil | (apply ResL.cons; first | exact .tmp _ _ rfl | (apply res_n ttok; (iterate 6 exact rfl)) | (apply res_1 ttok; (iterate 5 exact rfl))))); (iterate 4 exact rfl))
  all_goals rfl
theorem rw_6 [Known] (id : Nat) (ei : Bool) (en es : Nat) (eh ed : List UInt8) (di : Bool) (dn dq : Nat) (dh dd : List UInt8) (pol num tik : Int) (pay : List UInt8) (life tok : Nat) (on : Bool) (L0 L1 L2 R : List E) (c0 c1 c2 : Nat) (hR : AP Tryd.prog 50 [.agg [.int .u64 (id : Int), .int .i64 6, .bool ei, .int .u64 (en : Int), .int .u64 (es : Int), .str eh, .str ed, .bool di, .int .u64 (dn : Int), .int .u64 (dq : Int), .str dh, .str dd, .int .i64 pol, .int .i64 num, .int .i64 tik, .sl .ext (pay.map E.byte), .int .u64 (life : Int), .int .u64 (tok : Int), .bool on]] (.bool true) []) (hN : AT Tryd.prog 80 [] [] [] (.ptr 0 0) [[.bool true, .sl .nil []]] [])
    (h0 : AT Tryd.prog 81 [.ptr 0 0, .int .u64 (id : Int)] [[.bool true, .sl .nil []]] [] (.ptr 0 0) [[.bool true, .sl (.own 0) L0]] [⟨c0, 1, 5⟩])
    (h1 : AT Tryd.prog 82 [.ptr 0 0, .int .i64 6] [[.bool true, .sl (.own 0) L0]] [⟨c0, 1, 5⟩] (.ptr 0 0) [[.bool true, .sl (.own 0) L1]] [⟨c1, 1, 5⟩])
    (h2 : AT Tryd.prog 83 [.ptr 0 0, .agg [.bool ei, .int .u64 (en : Int), .int .u64 (es : Int), .str eh, .str ed]] [[.bool true, .sl (.own 0) L1]] [⟨c1, 1, 5⟩] (.tup []) [[.bool true, .sl (.own 0) L2]] [⟨c2, 1, 5⟩])
    (hB : AT Tryd.prog 86 [.ptr 0 0] [[.bool true, .sl (.own 0) L2]] [⟨c2, 1, 5⟩] (.sl .ext R) [[.bool true, .sl (.own 0) L2]] [⟨c2, 1, 5⟩]) :
    AP Tryd.prog 46 [.agg [.int .u64 (id : Int), .int .i64 6, .bool ei, .int .u64 (en : Int), .int .u64 (es : Int), .str eh, .str ed, .bool di, .int .u64 (dn : Int), .int .u64 (dq : Int), .str dh, .str dd, .int .i64 pol, .int .i64 num, .int .i64 tik, .sl .ext (pay.map E.byte), .int .u64 (life : Int), .int .u64 (tok : Int), .bool on]] (.tup [.sl .ext R, .int .i64 0]) [] := by
  refine AP.ofA ?_
  refine AC_of Tryd.func46 rfl Tryd.ntmps46 rfl rfl ?_
  repeat' (first | (apply AL_callPw (hR); kernel_rfl; (iterate 4 exact rfl)) | (apply AL_callT [] [] (hN); kernel_rfl; (iterate 10 exact rfl)) | (apply AL_callT [1] [] (h0); kernel_rfl; (iterate 10 exact rfl)) | (apply AL_callT [1] [0] (h1); kernel_rfl; (iterate 10 exact rfl)) | (apply AL_callT [1] [0] (h2); kernel_rfl; (iterate 10 exact rfl)) | (apply AL_callT [1] [0] (hB); kernel_rfl; (iterate 10 exact rfl)) | (apply AL_move; exact rfl; exact rfl) | (apply AL_assign; exact rfl; exact rfl) | (apply AL_bin; (iterate 5 exact rfl)) | (apply AL_load1 ttok; (iterate 6 exact rfl)) | (apply AL_loadn ttok; (iterate 7 exact rfl)) | (apply AL_fieldAddr ttok; (iterate 7 exact rfl)) | (apply AL_boxZ; (iterate 5 exact rfl)) | (apply AL_not; exact rfl; exact rfl) | refine AL_nil ?_ | refine AW_region ?_ | refine AW_seq' ?_ | (apply AW_condA; exact rfl; (first | with_reducible assumption | decide +kernel)) | (apply AW_condB; exact rfl; (first | with_reducible assumption | decide +kernel)) | refine then_norm ?_ | refine AW_block ?_ | refine AW_ret ?_ | (apply AW_drawE 6 hmix; (decide +kernel); (kernel_rfl); (kernel_rfl); (kernel_rfl); exact rfl; exact rfl) | (apply AE_consZ; (iterate 4 exact rfl)) | exact AE.nil _ _ _ _ | (apply AEk_puT; exact rfl) | (apply AEk_efT; exact rfl) | (apply AOt_mk; exact rfl; exact rfl; (decide +kernel); exact rfl) | (apply AO_puT; exact rfl) | (apply AO_efT; exact rfl) | exact AO.nil _ _ _ | (apply AOs_skip; (decide +kernel)) | (apply AOs_goZ; (iterate 3 exact rfl)) | exact AOs.nil | exact qY_ok rfl rfl | exact qY_ef rfl rfl | refine AW_skip ?_)
  all_goals (apply endQ []; (repeat (first | exact ResL.nil | (apply ResL.cons; first | exact .tmp _ _ rfl | (apply res_n ttok; (iterate 6 exact rfl)) | (apply res_1 ttok; (iterate 5 exact rfl))))); (iterate 4 exact rfl))
  all_goals rfl
end Go.Proofs.YtnihobjehelagaaDoor
end
/- Package request: Write, by kinds (7, 8, 9). -/
section
open Go.RowKit Go.Pl Go.Av
namespace Go.Proofs.YtnihobjehelagaaDoor
set_option linter.unusedVariables false
set_option linter.unusedSimpArgs false
set_option maxHeartbeats 4000000
theorem rw_7 [Known] (id : Nat) (ei : Bool) (en es : Nat) (eh ed : List UInt8) (di : Bool) (dn dq : Nat) (dh dd : List UInt8) (pol num tik : Int) (pay : List UInt8) (life tok : Nat) (on : Bool) (L0 L1 L2 L3 R : List E) (c0 c1 c2 c3 : Nat) (hR : AP Tryd.prog 50 [.agg [.int .u64 (id : Int), .int .i64 7, .bool ei, .int .u64 (en : Int), .int .u64 (es : Int), .str eh, .str ed, .bool di, .int .u64 (dn : Int), .int .u64 (dq : Int), .str dh, .str dd, .int .i64 pol, .int .i64 num, .int .i64 tik, .sl .ext (pay.map E.byte), .int .u64 (life : Int), .int .u64 (tok : Int), .bool on]] (.bool true) []) (hN : AT Tryd.prog 80 [] [] [] (.ptr 0 0) [[.bool true, .sl .nil []]] [])
    (h0 : AT Tryd.prog 81 [.ptr 0 0, .int .u64 (id : Int)] [[.bool true, .sl .nil []]] [] (.ptr 0 0) [[.bool true, .sl (.own 0) L0]] [⟨c0, 1, 5⟩])
    (h1 : AT Tryd.prog 82 [.ptr 0 0, .int .i64 7] [[.bool true, .sl (.own 0) L0]] [⟨c0, 1, 5⟩] (.ptr 0 0) [[.bool true, .sl (.own 0) L1]] [⟨c1, 1, 5⟩])
    (h2 : AT Tryd.prog 83 [.ptr 0 0, .agg [.bool ei, .int .u64 (en : Int), .int .u64 (es : Int), .str eh, .str ed]] [[.bool true, .sl (.own 0) L1]] [⟨c1, 1, 5⟩] (.tup []) [[.bool true, .sl (.own 0) L2]] [⟨c2, 1, 5⟩])
    (h3 : AT Tryd.prog 82 [.ptr 0 0, .int .i64 tik] [[.bool true, .sl (.own 0) L2]] [⟨c2, 1, 5⟩] (.ptr 0 0) [[.bool true, .sl (.own 0) L3]] [⟨c3, 1, 5⟩])
    (hB : AT Tryd.prog 86 [.ptr 0 0] [[.bool true, .sl (.own 0) L3]] [⟨c3, 1, 5⟩] (.sl .ext R) [[.bool true, .sl (.own 0) L3]] [⟨c3, 1, 5⟩]) :
    AP Tryd.prog 46 [.agg [.int .u64 (id : Int), .int .i64 7, .bool ei, .int .u64 (en : Int), .int .u64 (es : Int), .str eh, .str ed, .bool di, .int .u64 (dn : Int), .int .u64 (dq : Int), .str dh, .str dd, .int .i64 pol, .int .i64 num, .int .i64 tik, .sl .ext (pay.map E.byte), .int .u64 (life : Int), .int .u64 (tok : Int), .bool on]] (.tup [.sl .ext R, .int .i64 0]) [] := by
  refine AP.ofA ?_
  refine AC_of Tryd.func46 rfl Tryd.ntmps46 rfl rfl ?_
  repeat' (first | (apply AL_callPw (hR); kernel_rfl; (iterate 4 exact rfl)) | (apply AL_callT [] [] (hN); kernel_rfl; (iterate 10 exact rfl)) | (apply AL_callT [1] [] (h0); kernel_rfl; (iterate 10 exact rfl)) | (apply AL_callT [1] [0] (h1); kernel_rfl; (iterate 10 exact rfl)) | (apply AL_callT [1] [0] (h2); kernel_rfl; (iterate 10 exact rfl)) | (apply AL_callT [1] [0] (h3); kernel_rfl; (iterate 10 exact rfl)) | (apply AL_callT [1] [0] (hB); kernel_rfl; (iterate 10 exact rfl)) | (apply AL_move; exact rfl; exact rfl) | (apply AL_assign; exact rfl; exact rfl) | (apply AL_bin; (iterate 5 exact rfl)) | (apply AL_load1 ttok; (iterate 6 exact rfl)) | (apply AL_loadn ttok; (iterate 7 exact rfl)) | (apply AL_fieldAddr ttok; (iterate 7 exact rfl)) | (apply AL_boxZ; (iterate 5 exact rfl)) | (apply AL_not; exact rfl; exact rfl) | refine AL_nil ?_ | refine AW_region ?_ | refine AW_seq' ?_ | (apply AW_condA; exact rfl; (first | with_reducible assumption | decide +kernel)) | (apply AW_condB; exact rfl; (first | with_reducible assumption | decide +kernel)) | refine then_norm ?_ | refine AW_block ?_ | refine AW_ret ?_ | (apply AW_drawE 6 hmix; (decide +kernel); (kernel_rfl); (kernel_rfl); (kernel_rfl); exact rfl; exact rfl) | (apply AE_consZ; (iterate 4 exact rfl)) | exact AE.nil _ _ _ _ | (apply AEk_puT; exact rfl) | (apply AEk_efT; exact rfl) | (apply AOt_mk; exact rfl; exact rfl; (decide +kernel); exact rfl) | (apply AO_puT; exact rfl) | (apply AO_efT; exact rfl) | exact AO.nil _ _ _ | (apply AOs_skip; (decide +kernel)) | (apply AOs_goZ; (iterate 3 exact rfl)) | exact AOs.nil | exact qY_ok rfl rfl | exact qY_ef rfl rfl | refine AW_skip ?_)
  all_goals (apply endQ []; (repeat (first | exact ResL.nil | (apply ResL.cons; first | exact .tmp _ _ rfl | (apply res_n ttok; (iterate 6 exact rfl)) | (apply res_1 ttok; (iterate 5 exact rfl))))); (iterate 4 exact rfl))
  all_goals rfl
theorem rw_8 [Known] (id : Nat) (ei : Bool) (en es : Nat) (eh ed : List UInt8) (di : Bool) (dn dq : Nat) (dh dd : List UInt8) (pol num tik : Int) (pay : List UInt8) (life tok : Nat) (on : Bool) (L0 L1 L2 R : List E) (c0 c1 c2 : Nat) (hR : AP Tryd.prog 50 [.agg [.int .u64 (id : Int), .int .i64 8, .bool ei, .int .u64 (en : Int), .int .u64 (es : Int), .str eh, .str ed, .bool di, .int .u64 (dn : Int), .int .u64 (dq : Int), .str dh, .str dd, .int .i64 pol, .int .i64 num, .int .i64 tik, .sl .ext (pay.map E.byte), .int .u64 (life : Int), .int .u64 (tok : Int), .bool on]] (.bool true) []) (hN : AT Tryd.prog 80 [] [] [] (.ptr 0 0) [[.bool true, .sl .nil []]] [])
    (h0 : AT Tryd.prog 81 [.ptr 0 0, .int .u64 (id : Int)] [[.bool true, .sl .nil []]] [] (.ptr 0 0) [[.bool true, .sl (.own 0) L0]] [⟨c0, 1, 5⟩])
    (h1 : AT Tryd.prog 82 [.ptr 0 0, .int .i64 8] [[.bool true, .sl (.own 0) L0]] [⟨c0, 1, 5⟩] (.ptr 0 0) [[.bool true, .sl (.own 0) L1]] [⟨c1, 1, 5⟩])
    (h2 : AT Tryd.prog 82 [.ptr 0 0, .int .i64 num] [[.bool true, .sl (.own 0) L1]] [⟨c1, 1, 5⟩] (.ptr 0 0) [[.bool true, .sl (.own 0) L2]] [⟨c2, 1, 5⟩])
    (hB : AT Tryd.prog 86 [.ptr 0 0] [[.bool true, .sl (.own 0) L2]] [⟨c2, 1, 5⟩] (.sl .ext R) [[.bool true, .sl (.own 0) L2]] [⟨c2, 1, 5⟩]) :
    AP Tryd.prog 46 [.agg [.int .u64 (id : Int), .int .i64 8, .bool ei, .int .u64 (en : Int), .int .u64 (es : Int), .str eh, .str ed, .bool di, .int .u64 (dn : Int), .int .u64 (dq : Int), .str dh, .str dd, .int .i64 pol, .int .i64 num, .int .i64 tik, .sl .ext (pay.map E.byte), .int .u64 (life : Int), .int .u64 (tok : Int), .bool on]] (.tup [.sl .ext R, .int .i64 0]) [] := by
  refine AP.ofA ?_
  refine AC_of Tryd.func46 rfl Tryd.ntmps46 rfl rfl ?_
  repeat' (first | (apply AL_callPw (hR); kernel_rfl; (iterate 4 exact rfl)) | (apply AL_callT [] [] (hN); kernel_rfl; (iterate 10 exact rfl)) | (apply AL_callT [1] [] (h0); kernel_rfl; (iterate 10 exact rfl)) | (apply AL_callT [1] [0] (h1); kernel_rfl; (iterate 10 exact rfl)) | (apply AL_callT [1] [0] (h2); kernel_rfl; (iterate 10 exact rfl)) | (apply AL_callT [1] [0] (hB); kernel_rfl; (iterate 10 exact rfl)) | (apply AL_move; exact rfl; exact rfl) | (apply AL_assign; exact rfl; exact rfl) | (apply AL_bin; (iterate 5 exact rfl)) | (apply AL_load1 ttok; (iterate 6 exact rfl)) | (apply AL_loadn ttok; (iterate 7 exact rfl)) | (apply AL_fieldAddr ttok; (iterate 7 exact rfl)) | (apply AL_boxZ; (iterate 5 exact rfl)) | (apply AL_not; exact rfl; exact rfl) | refine AL_nil ?_ | refine AW_region ?_ | refine AW_seq' ?_ | (apply AW_condA; exact rfl; (first | with_reducible assumption | decide +kernel)) | (apply AW_condB; exact rfl; (first | with_reducible assumption | decide +kernel)) | refine then_norm ?_ | refine AW_block ?_ | refine AW_ret ?_ | (apply AW_drawE 6 hmix; (decide +kernel); (kernel_rfl); (kernel_rfl); (kernel_rfl); exact rfl; exact rfl) | (apply AE_consZ; (iterate 4 exact rfl)) | exact AE.nil _ _ _ _ | (apply AEk_puT; exact rfl) | (apply AEk_efT; exact rfl) | (apply AOt_mk; exact rfl; exact rfl; (decide +kernel); exact rfl) | (apply AO_puT; exact rfl) | (apply AO_efT; exact rfl) | exact AO.nil _ _ _ | (apply AOs_skip; (decide +kernel)) | (apply AOs_goZ; (iterate 3 exact rfl)) | exact AOs.nil | exact qY_ok rfl rfl | exact qY_ef rfl rfl | refine AW_skip ?_)
  all_goals (apply endQ []; (repeat (first | exact ResL.nil | (apply ResL.cons; first | exact .tmp _ _ rfl | (apply res_n ttok; (iterate 6 exact rfl)) | (apply res_1 ttok; (iterate 5 exact rfl))))); (iterate 4 exact rfl))
  all_goals rfl
theorem rw_9 [Known] (id : Nat) (ei : Bool) (en es : Nat) (eh ed : List UInt8) (di : Bool) (dn dq : Nat) (dh dd : List UInt8) (pol num tik : Int) (pay : List UInt8) (life tok : Nat) (on : Bool) (L0 L1 L2 R : List E) (c0 c1 c2 : Nat) (hR : AP Tryd.prog 50 [.agg [.int .u64 (id : Int), .int .i64 9, .bool ei, .int .u64 (en : Int), .int .u64 (es : Int), .str eh, .str ed, .bool di, .int .u64 (dn : Int), .int .u64 (dq : Int), .str dh, .str dd, .int .i64 pol, .int .i64 num, .int .i64 tik, .sl .ext (pay.map E.byte), .int .u64 (life : Int), .int .u64 (tok : Int), .bool on]] (.bool true) []) (hN : AT Tryd.prog 80 [] [] [] (.ptr 0 0) [[.bool true, .sl .nil []]] [])
    (h0 : AT Tryd.prog 81 [.ptr 0 0, .int .u64 (id : Int)] [[.bool true, .sl .nil []]] [] (.ptr 0 0) [[.bool true, .sl (.own 0) L0]] [⟨c0, 1, 5⟩])
    (h1 : AT Tryd.prog 82 [.ptr 0 0, .int .i64 9] [[.bool true, .sl (.own 0) L0]] [⟨c0, 1, 5⟩] (.ptr 0 0) [[.bool true, .sl (.own 0) L1]] [⟨c1, 1, 5⟩])
    (h2 : AT Tryd.prog 82 [.ptr 0 0, .int .i64 num] [[.bool true, .sl (.own 0) L1]] [⟨c1, 1, 5⟩] (.ptr 0 0) [[.bool true, .sl (.own 0) L2]] [⟨c2, 1, 5⟩])
    (hB : AT Tryd.prog 86 [.ptr 0 0] [[.bool true, .sl (.own 0) L2]] [⟨c2, 1, 5⟩] (.sl .ext R) [[.bool true, .sl (.own 0) L2]] [⟨c2, 1, 5⟩]) :
    AP Tryd.prog 46 [.agg [.int .u64 (id : Int), .int .i64 9, .bool ei, .int .u64 (en : Int), .int .u64 (es : Int), .str eh, .str ed, .bool di, .int .u64 (dn : Int), .int .u64 (dq : Int), .str dh, .str dd, .int .i64 pol, .int .i64 num, .int .i64 tik, .sl .ext (pay.map E.byte), .int .u64 (life : Int), .int .u64 (tok : Int), .bool on]] (.tup [.sl .ext R, .int .i64 0]) [] := by
  refine AP.ofA ?_
  refine AC_of Tryd.func46 rfl Tryd.ntmps46 rfl rfl ?_
  repeat' (first | (apply AL_callPw (hR); kernel_rfl; (iterate 4 exact rfl)) | (apply AL_callT [] [] (hN); kernel_rfl; (iterate 10 exact rfl)) | (apply AL_callT [1] [] (h0); kernel_rfl; (iterate 10 exact rfl)) | (apply AL_callT [1] [0] (h1); kernel_rfl; (iterate 10 exact rfl)) | (apply AL_callT [1] [0] (h2); kernel_rfl; (iterate 10 exact rfl)) | (apply AL_callT [1] [0] (hB); kernel_rfl; (iterate 10 exact rfl)) | (apply AL_move; exact rfl; exact rfl) | (apply AL_assign; exact rfl; exact rfl) | (apply AL_bin; (iterate 5 exact rfl)) | (apply AL_load1 ttok; (iterate 6 exact rfl)) | (apply AL_loadn ttok; (iterate 7 exact rfl)) | (apply AL_fieldAddr ttok; (iterate 7 exact rfl)) | (apply AL_boxZ; (iterate 5 exact rfl)) | (apply AL_not; exact rfl; exact rfl) | refine AL_nil ?_ | refine AW_region ?_ | refine AW_seq' ?_ | (apply AW_condA; exact rfl; (first | with_reducible assumption | decide +kernel)) | (apply AW_condB; exact rfl; (first | with_reducible assumption | decide +kernel)) | refine then_norm ?_ | refine AW_block ?_ | refine AW_ret ?_ | (apply AW_drawE 6 hmix; (decide +kernel); (kernel_rfl); (kernel_rfl); (kernel_rfl); exact rfl; exact rfl) | (apply AE_consZ; (iterate 4 exact rfl)) | exact AE.nil _ _ _ _ | (apply AEk_puT; exact rfl) | (apply AEk_efT; exact rfl) | (apply AOt_mk; exact rfl; exact rfl; (decide +kernel); exact rfl) | (apply AO_puT; exact rfl) | (apply AO_efT; exact rfl) | exact AO.nil _ _ _ | (apply AOs_skip; (decide +kernel)) | (apply AOs_goZ; (iterate 3 exact rfl)) | exact AOs.nil | exact qY_ok rfl rfl | exact qY_ef rfl rfl | refine AW_skip ?_)
  all_goals (apply endQ []; (repeat (first | exact ResL.nil | (apply ResL.cons; first | exact .tmp _ _ rfl | (apply res_n ttok; (iterate 6 exact rfl)) | (apply res_1 ttok; (iterate 5 exact rfl))))); (iterate 4 exact rfl))
  all_goals rfl
end Go.Proofs.YtnihobjehelagaaDoor
end
/- Package request: Write, by kinds (10, 11, 12). -/
section
open Go.RowKit Go.Pl Go.Av
namespace Go.Proofs.YtnihobjehelagaaDoor
set_option linter.unusedVariables false
set_option linter.unusedSimpArgs false
set_option maxHeartbeats 4000000
theorem rw_10 [Known] (id : Nat) (ei : Bool) (en es : Nat) (eh ed : List UInt8) (di : Bool) (dn dq : Nat) (dh dd : List UInt8) (pol num tik : Int) (pay : List UInt8) (life tok : Nat) (on : Bool) (L0 L1 L2 R : List E) (c0 c1 c2 : Nat) (hR : AP Tryd.prog 50 [.agg [.int .u64 (id : Int), .int .i64 10, .bool ei, .int .u64 (en : Int), .int .u64 (es : Int), .str eh, .str ed, .bool di, .int .u64 (dn : Int), .int .u64 (dq : Int), .str dh, .str dd, .int .i64 pol, .int .i64 num, .int .i64 tik, .sl .ext (pay.map E.byte), .int .u64 (life : Int), .int .u64 (tok : Int), .bool on]] (.bool true) []) (hN : AT Tryd.prog 80 [] [] [] (.ptr 0 0) [[.bool true, .sl .nil []]] [])
    (h0 : AT Tryd.prog 81 [.ptr 0 0, .int .u64 (id : Int)] [[.bool true, .sl .nil []]] [] (.ptr 0 0) [[.bool true, .sl (.own 0) L0]] [⟨c0, 1, 5⟩])
    (h1 : AT Tryd.prog 82 [.ptr 0 0, .int .i64 10] [[.bool true, .sl (.own 0) L0]] [⟨c0, 1, 5⟩] (.ptr 0 0) [[.bool true, .sl (.own 0) L1]] [⟨c1, 1, 5⟩])
    (h2 : AT Tryd.prog 85 [.ptr 0 0, .bool on] [[.bool true, .sl (.own 0) L1]] [⟨c1, 1, 5⟩] (.ptr 0 0) [[.bool true, .sl (.own 0) L2]] [⟨c2, 1, 5⟩])
    (hB : AT Tryd.prog 86 [.ptr 0 0] [[.bool true, .sl (.own 0) L2]] [⟨c2, 1, 5⟩] (.sl .ext R) [[.bool true, .sl (.own 0) L2]] [⟨c2, 1, 5⟩]) :
    AP Tryd.prog 46 [.agg [.int .u64 (id : Int), .int .i64 10, .bool ei, .int .u64 (en : Int), .int .u64 (es : Int), .str eh, .str ed, .bool di, .int .u64 (dn : Int), .int .u64 (dq : Int), .str dh, .str dd, .int .i64 pol, .int .i64 num, .int .i64 tik, .sl .ext (pay.map E.byte), .int .u64 (life : Int), .int .u64 (tok : Int), .bool on]] (.tup [.sl .ext R, .int .i64 0]) [] := by
  refine AP.ofA ?_
  refine AC_of Tryd.func46 rfl Tryd.ntmps46 rfl rfl ?_
  repeat' (first | (apply AL_callPw (hR); kernel_rfl; (iterate 4 exact rfl)) | (apply AL_callT [] [] (hN); kernel_rfl; (iterate 10 exact rfl)) | (apply AL_callT [1] [] (h0); kernel_rfl; (iterate 10 exact rfl)) | (apply AL_callT [1] [0] (h1); kernel_rfl; (iterate 10 exact rfl)) | (apply AL_callT [1] [0] (h2); kernel_rfl; (iterate 10 exact rfl)) | (apply AL_callT [1] [0] (hB); kernel_rfl; (iterate 10 exact rfl)) | (apply AL_move; exact rfl; exact rfl) | (apply AL_assign; exact rfl; exact rfl) | (apply AL_bin; (iterate 5 exact rfl)) | (apply AL_load1 ttok; (iterate 6 exact rfl)) | (apply AL_loadn ttok; (iterate 7 exact rfl)) | (apply AL_fieldAddr ttok; (iterate 7 exact rfl)) | (apply AL_boxZ; (iterate 5 exact rfl)) | (apply AL_not; exact rfl; exact rfl) | refine AL_nil ?_ | refine AW_region ?_ | refine AW_seq' ?_ | (apply AW_condA; exact rfl; (first | with_reducible assumption | decide +kernel)) | (apply AW_condB; exact rfl; (first | with_reducible assumption | decide +kernel)) | refine then_norm ?_ | refine AW_block ?_ | refine AW_ret ?_ | (apply AW_drawE 6 hmix; (decide +kernel); (kernel_rfl); (kernel_rfl); (kernel_rfl); exact rfl; exact rfl) | (apply AE_consZ; (iterate 4 exact rfl)) | exact AE.nil _ _ _ _ | (apply AEk_puT; exact rfl) | (apply AEk_efT; exact rfl) | (apply AOt_mk; exact rfl; exact rfl; (decide +kernel); exact rfl) | (apply AO_puT; exact rfl) | (apply AO_efT; exact rfl) | exact AO.nil _ _ _ | (apply AOs_skip; (decide +kernel)) | (apply AOs_goZ; (iterate 3 exact rfl)) | exact AOs.nil | exact qY_ok rfl rfl | exact qY_ef rfl rfl | refine AW_skip ?_)
  all_goals (apply endQ []; (repeat (first | exact ResL.nil | (apply ResL.cons; first | exact .tmp _ _ rfl | (apply res_n ttok; (iterate 6 exact rfl)) | (apply res_1 ttok; (iterate 5 exact rfl))))); (iterate 4 exact rfl))
  all_goals rfl
theorem rw_11 [Known] (id : Nat) (ei : Bool) (en es : Nat) (eh ed : List UInt8) (di : Bool) (dn dq : Nat) (dh dd : List UInt8) (pol num tik : Int) (pay : List UInt8) (life tok : Nat) (on : Bool) (L0 L1 R : List E) (c0 c1 : Nat) (hR : AP Tryd.prog 50 [.agg [.int .u64 (id : Int), .int .i64 11, .bool ei, .int .u64 (en : Int), .int .u64 (es : Int), .str eh, .str ed, .bool di, .int .u64 (dn : Int), .int .u64 (dq : Int), .str dh, .str dd, .int .i64 pol, .int .i64 num, .int .i64 tik, .sl .ext (pay.map E.byte), .int .u64 (life : Int), .int .u64 (tok : Int), .bool on]] (.bool true) []) (hN : AT Tryd.prog 80 [] [] [] (.ptr 0 0) [[.bool true, .sl .nil []]] [])
    (h0 : AT Tryd.prog 81 [.ptr 0 0, .int .u64 (id : Int)] [[.bool true, .sl .nil []]] [] (.ptr 0 0) [[.bool true, .sl (.own 0) L0]] [⟨c0, 1, 5⟩])
    (h1 : AT Tryd.prog 82 [.ptr 0 0, .int .i64 11] [[.bool true, .sl (.own 0) L0]] [⟨c0, 1, 5⟩] (.ptr 0 0) [[.bool true, .sl (.own 0) L1]] [⟨c1, 1, 5⟩])
    (hB : AT Tryd.prog 86 [.ptr 0 0] [[.bool true, .sl (.own 0) L1]] [⟨c1, 1, 5⟩] (.sl .ext R) [[.bool true, .sl (.own 0) L1]] [⟨c1, 1, 5⟩]) :
    AP Tryd.prog 46 [.agg [.int .u64 (id : Int), .int .i64 11, .bool ei, .int .u64 (en : Int), .int .u64 (es : Int), .str eh, .str ed, .bool di, .int .u64 (dn : Int), .int .u64 (dq : Int), .str dh, .str dd, .int .i64 pol, .int .i64 num, .int .i64 tik, .sl .ext (pay.map E.byte), .int .u64 (life : Int), .int .u64 (tok : Int), .bool on]] (.tup [.sl .ext R, .int .i64 0]) [] := by
  refine AP.ofA ?_
  refine AC_of Tryd.func46 rfl Tryd.ntmps46 rfl rfl ?_
  repeat' (first | (apply AL_callPw (hR); kernel_rfl; (iterate 4 exact rfl)) | (apply AL_callT [] [] (hN); kernel_rfl; (iterate 10 exact rfl)) | (apply AL_callT [1] [] (h0); kernel_rfl; (iterate 10 exact rfl)) | (apply AL_callT [1] [0] (h1); kernel_rfl; (iterate 10 exact rfl)) | (apply AL_callT [1] [0] (hB); kernel_rfl; (iterate 10 exact rfl)) | (apply AL_move; exact rfl; exact rfl) | (apply AL_assign; exact rfl; exact rfl) | (apply AL_bin; (iterate 5 exact rfl)) | (apply AL_load1 ttok; (iterate 6 exact rfl)) | (apply AL_loadn ttok; (iterate 7 exact rfl)) | (apply AL_fieldAddr ttok; (iterate 7 exact rfl)) | (apply AL_boxZ; (iterate 5 exact rfl)) | (apply AL_not; exact rfl; exact rfl) | refine AL_nil ?_ | refine AW_region ?_ | refine AW_seq' ?_ | (apply AW_condB; exact rfl; (first | with_reducible assumption | decide +kernel)) | refine then_norm ?_ | refine AW_block ?_ | refine AW_ret ?_ | (apply AW_drawE 6 hmix; (decide +kernel); (kernel_rfl); (kernel_rfl); (kernel_rfl); exact rfl; exact rfl) | (apply AE_consZ; (iterate 4 exact rfl)) | exact AE.nil _ _ _ _ | (apply AEk_puT; exact rfl) | (apply AEk_efT; exact rfl) | (apply AOt_mk; exact rfl; exact rfl; (decide +kernel); exact rfl) | (apply AO_puT; exact rfl) | (apply AO_efT; exact rfl) | exact AO.nil _ _ _ | (apply AOs_skip; (decide +kernel)) | (apply AOs_goZ; (iterate 3 exact rfl)) | exact AOs.nil | exact qY_ok rfl rfl | exact qY_ef rfl rfl | refine AW_skip ?_)
  all_goals (apply endQ []; (repeat (first | exact ResL.nil | (apply ResL.cons; first | exact .tmp _ _ rfl | (apply res_n ttok; (iterate 6 exact rfl)) | (apply res_1 ttok; (iterate 5 exact rfl))))); (iterate 4 exact rfl))
  all_goals rfl
theorem rw_12 [Known] (id : Nat) (ei : Bool) (en es : Nat) (eh ed : List UInt8) (di : Bool) (dn dq : Nat) (dh dd : List UInt8) (pol num tik : Int) (pay : List UInt8) (life tok : Nat) (on : Bool) (L0 L1 L2 R : List E) (c0 c1 c2 : Nat) (hR : AP Tryd.prog 50 [.agg [.int .u64 (id : Int), .int .i64 12, .bool ei, .int .u64 (en : Int), .int .u64 (es : Int), .str eh, .str ed, .bool di, .int .u64 (dn : Int), .int .u64 (dq : Int), .str dh, .str dd, .int .i64 pol, .int .i64 num, .int .i64 tik, .sl .ext (pay.map E.byte), .int .u64 (life : Int), .int .u64 (tok : Int), .bool on]] (.bool true) []) (hN : AT Tryd.prog 80 [] [] [] (.ptr 0 0) [[.bool true, .sl .nil []]] [])
    (h0 : AT Tryd.prog 81 [.ptr 0 0, .int .u64 (id : Int)] [[.bool true, .sl .nil []]] [] (.ptr 0 0) [[.bool true, .sl (.own 0) L0]] [⟨c0, 1, 5⟩])
    (h1 : AT Tryd.prog 82 [.ptr 0 0, .int .i64 12] [[.bool true, .sl (.own 0) L0]] [⟨c0, 1, 5⟩] (.ptr 0 0) [[.bool true, .sl (.own 0) L1]] [⟨c1, 1, 5⟩])
    (h2 : AT Tryd.prog 81 [.ptr 0 0, .int .u64 (tok : Int)] [[.bool true, .sl (.own 0) L1]] [⟨c1, 1, 5⟩] (.ptr 0 0) [[.bool true, .sl (.own 0) L2]] [⟨c2, 1, 5⟩])
    (hB : AT Tryd.prog 86 [.ptr 0 0] [[.bool true, .sl (.own 0) L2]] [⟨c2, 1, 5⟩] (.sl .ext R) [[.bool true, .sl (.own 0) L2]] [⟨c2, 1, 5⟩]) :
    AP Tryd.prog 46 [.agg [.int .u64 (id : Int), .int .i64 12, .bool ei, .int .u64 (en : Int), .int .u64 (es : Int), .str eh, .str ed, .bool di, .int .u64 (dn : Int), .int .u64 (dq : Int), .str dh, .str dd, .int .i64 pol, .int .i64 num, .int .i64 tik, .sl .ext (pay.map E.byte), .int .u64 (life : Int), .int .u64 (tok : Int), .bool on]] (.tup [.sl .ext R, .int .i64 0]) [] := by
  refine AP.ofA ?_
  refine AC_of Tryd.func46 rfl Tryd.ntmps46 rfl rfl ?_
  repeat' (first | (apply AL_callPw (hR); kernel_rfl; (iterate 4 exact rfl)) | (apply AL_callT [] [] (hN); kernel_rfl; (iterate 10 exact rfl)) | (apply AL_callT [1] [] (h0); kernel_rfl; (iterate 10 exact rfl)) | (apply AL_callT [1] [0] (h1); kernel_rfl; (iterate 10 exact rfl)) | (apply AL_callT [1] [0] (h2); kernel_rfl; (iterate 10 exact rfl)) | (apply AL_callT [1] [0] (hB); kernel_rfl; (iterate 10 exact rfl)) | (apply AL_move; exact rfl; exact rfl) | (apply AL_assign; exact rfl; exact rfl) | (apply AL_bin; (iterate 5 exact rfl)) | (apply AL_load1 ttok; (iterate 6 exact rfl)) | (apply AL_loadn ttok; (iterate 7 exact rfl)) | (apply AL_fieldAddr ttok; (iterate 7 exact rfl)) | (apply AL_boxZ; (iterate 5 exact rfl)) | (apply AL_not; exact rfl; exact rfl) | refine AL_nil ?_ | refine AW_region ?_ | refine AW_seq' ?_ | (apply AW_condA; exact rfl; (first | with_reducible assumption | decide +kernel)) | (apply AW_condB; exact rfl; (first | with_reducible assumption | decide +kernel)) | refine then_norm ?_ | refine AW_block ?_ | refine AW_ret ?_ | (apply AW_drawE 6 hmix; (decide +kernel); (kernel_rfl); (kernel_rfl); (kernel_rfl); exact rfl; exact rfl) | (apply AE_consZ; (iterate 4 exact rfl)) | exact AE.nil _ _ _ _ | (apply AEk_puT; exact rfl) | (apply AEk_efT; exact rfl) | (apply AOt_mk; exact rfl; exact rfl; (decide +kernel); exact rfl) | (apply AO_puT; exact rfl) | (apply AO_efT; exact rfl) | exact AO.nil _ _ _ | (apply AOs_skip; (decide +kernel)) | (apply AOs_goZ; (iterate 3 exact rfl)) | exact AOs.nil | exact qY_ok rfl rfl | exact qY_ef rfl rfl | refine AW_skip ?_)
  all_goals (apply endQ []; (repeat (first | exact ResL.nil | (apply ResL.cons; first | exact .tmp _ _ rfl | (apply res_n ttok; (iterate 6 exact rfl)) | (apply res_1 ttok; (iterate 5 exact rfl))))); (iterate 4 exact rfl))
  all_goals rfl
end Go.Proofs.YtnihobjehelagaaDoor
end
/- Contracts of the library that are proved once, laid at this program: each body is held against the one that they were proved of. -/
section
namespace Go.Proofs.YtnihobjehelagaaDoor
open Go.Shelf
def lays283_ren : Go.Shelf.Ren := ⟨fun | 283 => 124 | n => n, fun | 3 => 3 | 9 => 9 | 4 => 4 | n => n, fun | n => n⟩
theorem lays283 : Go.Proofs.Lays.n283 Tryd.prog lays283_ren := {
  mixed := by kernel_rfl,
  f283 := Tryd.func124.trans (congrArg some (by kernel_rfl)),
  t3 := Tryd.underlying3,
  a3 := Tryd.isAgg3,
  z3 := Tryd.sizeOf3,
  v3 := Tryd.zeroValue3,
  t4 := Tryd.underlying4,
  a4 := Tryd.isAgg4,
  z4 := Tryd.sizeOf4,
  v4 := Tryd.zeroValue4,
  t9 := Tryd.underlying9,
  a9 := Tryd.isAgg9,
  z9 := Tryd.sizeOf9,
  v9 := Tryd.zeroValue9 }
def lays284_ren : Go.Shelf.Ren := ⟨fun | 284 => 125 | 129 => 136 | 317 => 135 | 318 => 137 | n => n, fun | 53 => 22 | 3 => 3 | 212 => 191 | 0 => 0 | 4 => 4 | 46 => 161 | 5 => 5 | 9 => 9 | n => n, fun | 17 => 2 | n => n⟩
theorem lays284 : Go.Proofs.LaysM.n284 Tryd.prog lays284_ren := {
  mixed := by kernel_rfl,
  f129 := Tryd.func136.trans (congrArg some (by kernel_rfl)),
  f284 := Tryd.func125.trans (congrArg some (by kernel_rfl)),
  f317 := Tryd.func135.trans (congrArg some (by kernel_rfl)),
  f318 := Tryd.func137.trans (congrArg some (by kernel_rfl)),
  t0 := Tryd.underlying0,
  a0 := Tryd.isAgg0,
  z0 := Tryd.sizeOf0,
  v0 := Tryd.zeroValue0,
  t3 := Tryd.underlying3,
  a3 := Tryd.isAgg3,
  z3 := Tryd.sizeOf3,
  v3 := Tryd.zeroValue3,
  t4 := Tryd.underlying4,
  a4 := Tryd.isAgg4,
  z4 := Tryd.sizeOf4,
  v4 := Tryd.zeroValue4,
  t5 := Tryd.underlying5,
  a5 := Tryd.isAgg5,
  z5 := Tryd.sizeOf5,
  v5 := Tryd.zeroValue5,
  t9 := Tryd.underlying9,
  a9 := Tryd.isAgg9,
  z9 := Tryd.sizeOf9,
  v9 := Tryd.zeroValue9,
  t46 := Tryd.underlying161,
  a46 := Tryd.isAgg161,
  z46 := Tryd.sizeOf161,
  v46 := Tryd.zeroValue161,
  t53 := Tryd.underlying22,
  a53 := Tryd.isAgg22,
  z53 := Tryd.sizeOf22,
  v53 := Tryd.zeroValue22,
  t212 := Tryd.underlying191,
  a212 := Tryd.isAgg191,
  z212 := Tryd.sizeOf191,
  v212 := Tryd.zeroValue191,
  g17 := by kernel_rfl,
  i0 := by kernel_rfl,
  i3 := by kernel_rfl,
  i4 := by kernel_rfl,
  i5 := by kernel_rfl,
  i9 := by kernel_rfl,
  i46 := by kernel_rfl,
  i53 := by kernel_rfl,
  i212 := by kernel_rfl,
  m17 := by kernel_rfl }
def lays285_ren : Go.Shelf.Ren := ⟨fun | 285 => 126 | n => n, fun | 37 => 23 | 53 => 22 | 3 => 3 | 4 => 4 | 51 => 192 | 9 => 9 | 5 => 5 | 0 => 0 | n => n, fun | n => n⟩
theorem lays285 : Go.Proofs.Lays.n285 Tryd.prog lays285_ren := {
  mixed := by kernel_rfl,
  f285 := Tryd.func126.trans (congrArg some (by kernel_rfl)),
  t0 := Tryd.underlying0,
  a0 := Tryd.isAgg0,
  z0 := Tryd.sizeOf0,
  v0 := Tryd.zeroValue0,
  t3 := Tryd.underlying3,
  a3 := Tryd.isAgg3,
  z3 := Tryd.sizeOf3,
  v3 := Tryd.zeroValue3,
  t4 := Tryd.underlying4,
  a4 := Tryd.isAgg4,
  z4 := Tryd.sizeOf4,
  v4 := Tryd.zeroValue4,
  t5 := Tryd.underlying5,
  a5 := Tryd.isAgg5,
  z5 := Tryd.sizeOf5,
  v5 := Tryd.zeroValue5,
  t9 := Tryd.underlying9,
  a9 := Tryd.isAgg9,
  z9 := Tryd.sizeOf9,
  v9 := Tryd.zeroValue9,
  t37 := Tryd.underlying23,
  a37 := Tryd.isAgg23,
  z37 := Tryd.sizeOf23,
  v37 := Tryd.zeroValue23,
  t51 := Tryd.underlying192,
  a51 := Tryd.isAgg192,
  z51 := Tryd.sizeOf192,
  v51 := Tryd.zeroValue192,
  t53 := Tryd.underlying22,
  a53 := Tryd.isAgg22,
  z53 := Tryd.sizeOf22,
  v53 := Tryd.zeroValue22 }
end Go.Proofs.YtnihobjehelagaaDoor
end
/- strconv.FormatUint at base 10: every number. -/
section
open Go.RowKit Go.Pl Go.Av Go.Shelf Go.Sort Go.Lib
namespace Go.Proofs.YtnihobjehelagaaDoor
set_option linter.unusedVariables false
set_option linter.unusedSimpArgs false
set_option maxHeartbeats 6400000
set_option maxRecDepth 100000 in
theorem numDigits_c (u : Nat) (h1 : 1 ≤ u) (h2 : u < 18446744073709551616) (w : World) (hc : ∀ i, i < 20 → w.cell? ⟨2, i, none⟩ = some (.int .u64 ((10 ^ i : Nat) : Int))) :
    Calls Tryd.prog 125 #[.int .u64 u] w fun e w' => e = .returned (.int .i64 (Lib.nDigits u)) ∧ w' = w := by
  obtain ⟨hnd, h19⟩ := Lib.numDigits_eq u h1 h2
  have hL : Lib.bitLen u ≤ 64 := Lib.bitLen_le u 64 (Nat.le_refl _) h2
  have hcell := hc (Lib.l10 (Lib.bitLen u)) (by omega)
  have hto : ((u : Int)).toNat = u := by omega
  generalize hq : Lib.l10 (Lib.bitLen u) = q at hnd h19 hcell
  generalize hT : 10 ^ q = T at hnd hcell
  have h20 : q < 20 := by omega
  have Hnd := Lib.hid hnd
  clear hnd hc
  go_enter Tryd.func125, Tryd.ntmps125
  go_wp2_with (first
    | (go_at_call 136; refine (Any.bits_Len64 (P := Tryd.prog) (ρ := lays284_ren) { lays284 with } _ _ (by omega) (by omega)).mono ?_; rintro e w' ⟨rfl, rfl⟩)
    | (go_at_call 135; refine (Any.internal_strconv_log10Pow2 (P := Tryd.prog) (ρ := lays284_ren) { lays284 with } _ (by first | exact hL | (rw [hto]; exact hL)) _).mono ?_; rintro e w' ⟨rfl, rfl⟩)
    | (go_at_call 137; refine (Any.internal_strconv_bool2_int (P := Tryd.prog) (ρ := lays284_ren) { lays284 with } _ _).mono ?_; rintro e w' ⟨rfl, rfl⟩))
  all_goals go_ret
  all_goals (
    refine ⟨?_, rfl⟩
    have hnd := Hnd.out
    congr 2
    split at hnd <;> simp_all <;> omega)
theorem holds_zero0 (w : World) (T : TypeId) (nd : Nat) (hs : nd ≤ 24) : Holds (fun (b : UInt8) => Value.int .u8 (b.toNat : Int)) (w.alloc (.cells Lib.zeros24 T)) w.heap.size 0 (Array.replicate nd (0 : UInt8)) := fun j hj => by
  have hj' : j < nd := by simpa using hj
  refine ⟨?_, World.frozen?_alloc_new _ _ _ _⟩
  rw [World.cell?_alloc_new, Lib.zeros24_at _ (by omega), getElem!_pos _ j hj]
  simp
theorem fin0 (w : World) (o : Obj) (dk : Array UInt8) (k : Nat) : Below w.heap.size w ((putRow (fun (b : UInt8) => Value.int .u8 (b.toNat : Int)) (w.alloc o) w.heap.size 0 dk).drewN k) := by
  have h : ∃ os, (putRow (fun (b : UInt8) => Value.int .u8 (b.toNat : Int)) (w.alloc o) w.heap.size 0 dk).drewN k = grow (w.drewN k) os := by
    rw [alloc_eq_grow]
    obtain ⟨os', _, e⟩ := putRow_grow_new (fun (b : UInt8) => Value.int .u8 (b.toNat : Int)) w #[o] w.heap.size 0 dk (Nat.le_refl _)
    exact ⟨os', by rw [e]; rfl⟩
  obtain ⟨os, e⟩ := h
  rw [e]
  refine ⟨rfl, rfl, rfl, ?_, fun b hb => ?_⟩
  · show w.heap.size ≤ (w.heap ++ os).size
    rw [Array.size_append]; omega
  · show (w.heap ++ os)[b]? = w.heap[b]?
    rw [Array.getElem?_append_left hb]
theorem cell_al {w : World} {o : Obj} {g i : Nat} {v : Value} (h : w.cell? ⟨g, i, none⟩ = some v) : (w.alloc o).cell? ⟨g, i, none⟩ = some v :=
  (cell_alloc w o (World.block_lt_of_cell? w _ h) i).trans h
set_option maxRecDepth 100000 in
theorem fmtI_walk (u : Nat) (hu64 : u < 18446744073709551616) (w : World) (hc : ∀ i, i < 20 → w.cell? ⟨2, i, none⟩ = some (.int .u64 ((10 ^ i : Nat) : Int))) :
    Calls Tryd.prog 105 #[.int .u64 u, .int .i64 10] w fun e w' => e = .returned (.string ⟨(Lib.decDigits u).toArray⟩) ∧ Below w.heap.size w w' := by
  by_cases hs : u < 100
  · have Hs := Lib.hid hs
    go_enter Tryd.func105, Tryd.ntmps105
    go_wp2_with (go_at_call 124; refine (Any.internal_strconv_small (P := Tryd.prog) (ρ := lays283_ren) lays283 u Hs.out _).mono ?_; rintro e w' ⟨rfl, rfl⟩)
    go_ret
    exact ⟨rfl, Below.refl _ _⟩
  · have hu1 : 1 ≤ u := by omega
    have hnd20 : Lib.nDigits u ≤ 20 := by have := Lib.numDigits_eq u hu1 hu64; split at this <;> omega
    have hal : Tryd.prog.arrayLen 175 = 24 := by simp [Program.arrayLen, Tryd.underlying175]
    have hsl : ∀ W, (Instr.sliceAt 175 (.pointer (some ⟨w.heap.size, 0, none⟩)) none (some (.int .i64 (Lib.nDigits u : Int))) none).run Tryd.prog W = .ok (.slice (some ⟨w.heap.size, 0, none⟩) (Lib.nDigits u) 24) W := fun W => by
      rw [run_sliceAt_array_h W 175 ⟨w.heap.size, 0, none⟩ (by simp [Program.arrayLen, Program.elem, Tryd.underlying175]) .i64 (Lib.nDigits u : Int) (by omega) (by rw [hal]; omega)]
      go_simp
    have hH0 := holds_zero0 w 175 (Lib.nDigits u) (by omega)
    have hfmt : Calls Tryd.prog 126 _ _ _ := Any.internal_strconv_formatBase10 (P := Tryd.prog) (ρ := lays285_ren) lays285 w.heap.size 0 24 u (Array.replicate (Lib.nDigits u) 0) (w.alloc (.cells Lib.zeros24 175)) hH0 (by rw [Array.size_replicate]; exact Lib.lt_pow_nDigits u) hu64 (by rw [Array.size_replicate]; omega)
    rw [Array.size_replicate] at hfmt
    have HH0 := Lib.hid hH0
    have HC := Lib.hid hc
    clear hH0 hal hc
    go_enter Tryd.func105, Tryd.ntmps105
    go_wp2_with (first
      | (go_at_call 125; refine (numDigits_c u hu1 hu64 _ (fun i hi => cell_al (HC.out i hi))).mono ?_; rintro e w' ⟨rfl, rfl⟩))
    go_at_call 126
    refine hfmt.mono ?_
    rintro e w' ⟨rfl, k, v', dk, rfl, hF⟩
    have hcv : (convert 23 9 (.slice (some ⟨w.heap.size, 0, none⟩) (Lib.nDigits u) 24)).run Tryd.prog ((putRow (fun (b : UInt8) => Value.int .u8 (b.toNat : Int)) (w.alloc (.cells Lib.zeros24 175)) w.heap.size 0 dk).drewN k) = .ok (.string ⟨(Lib.decDigits u).toArray⟩) ((putRow (fun (b : UInt8) => Value.int .u8 (b.toNat : Int)) (w.alloc (.cells Lib.zeros24 175)) w.heap.size 0 dk).drewN k) := by
      have h := run_convert_bytes_back (P := Tryd.prog) ((putRow (fun (b : UInt8) => Value.int .u8 (b.toNat : Int)) (w.alloc (.cells Lib.zeros24 175)) w.heap.size 0 dk).drewN k) 23 9 5 ⟨w.heap.size, 0, none⟩ 24 (Lib.decDigits u) Tryd.underlying23 Tryd.underlying5 Tryd.underlying9 (fun j hj => by
        rw [Lib.row_is_numeral hF j hj, Lib.add_plain, World.cell?_drewN]
        exact cell?_putRow (fun (b : UInt8) => Value.int .u8 (b.toNat : Int)) _ w.heap.size 0 _ dk HH0.out (by rw [hF.size, Array.size_replicate]) j (by rw [hF.size]; rw [Lib.decDigits_length] at hj; exact hj))
      rw [Lib.decDigits_length] at h
      exact h
    go_wp2
    go_ret
    exact ⟨rfl, fin0 w _ dk k⟩
end Go.Proofs.YtnihobjehelagaaDoor
end
/- Package eid: names that may be; the path of one. -/
section
open Go.RowKit Go.Pl Go.Av
namespace Go.Proofs.YtnihobjehelagaaDoor
set_option linter.unusedVariables false
set_option linter.unusedSimpArgs false
set_option maxHeartbeats 4000000
/-- a name's path -/
def pathE (x : EidV) : List UInt8 := [47, 47] ++ x.h ++ [47] ++ x.d
theorem eRight_num {x : EidV} (h : eRight x = true) (hz : isZ x = false) (hi : x.i = true) : x.n ≤ 4294967295 ∧ x.s ≤ 4294967295 ∧ x.h = [] ∧ x.d = [] ∧ 1 ≤ x.n := by
  rw [eRight_I hz hi] at h
  simp only [Bool.and_eq_true, decide_eq_true_eq, beq_iff_eq] at h
  obtain ⟨⟨⟨⟨_, _, _, h1, h2, _⟩, h3⟩, h4⟩, h5⟩ := h
  exact ⟨by omega, by omega, h1, h2, by omega⟩
theorem eRight_txt {x : EidV} (h : eRight x = true) (hz : isZ x = false) (hi : x.i = false) : x.n = 0 ∧ x.s = 0 ∧ 1 ≤ x.h.length ∧ x.h.length ≤ 16 ∧ x.d.length ≤ 24 ∧ x.h.all (okB 45) = true ∧ x.d.all (okB 47) = true := by
  rw [eRight_T hz hi] at h
  simp only [Bool.and_eq_true, decide_eq_true_eq, beq_iff_eq] at h
  obtain ⟨⟨⟨⟨⟨⟨_, h1, h2, _⟩, h3⟩, h4⟩, h5⟩, h6⟩, h7⟩ := h
  exact ⟨by omega, by omega, by omega, by omega, by omega, h6, h7⟩
theorem av_path [Known] (x : EidV) (h1 : x.h.length ≤ 16) (h2 : x.d.length ≤ 24) : AP Tryd.prog 71 [.agg (eC x)] (.str (pathE x)) [] := by
  have l1 : [(47 : UInt8), 47].length + x.h.length ≤ maxLen := by simp; unfold maxLen; omega
  have l2 : ([(47 : UInt8), 47] ++ x.h).length + [(47 : UInt8)].length ≤ maxLen := by simp; unfold maxLen; omega
  have l3 : ([(47 : UInt8), 47] ++ x.h ++ [47]).length + x.d.length ≤ maxLen := by simp; unfold maxLen; omega
  refine AP.ofA ?_
  refine AC_of Tryd.func71 rfl Tryd.ntmps71 rfl rfl ?_
  repeat' (first | (apply AL_cat; exact rfl; exact rfl; (first | exact l1 | exact l2 | exact l3); exact rfl) | (apply AL_assign; exact rfl; exact rfl) | (apply AL_load1 ttok; (iterate 6 exact rfl)) | (apply AL_fieldAddr ttok; (iterate 7 exact rfl)) | (apply AL_boxZ; (iterate 5 exact rfl)) | refine AL_nil ?_ | refine AW_region ?_ | refine AW_seq' ?_ | refine then_norm ?_ | refine AW_ret ?_)
  all_goals (apply endQ []; (repeat (first | exact ResL.nil | (apply ResL.cons; first | exact .tmp _ _ rfl | (apply res_n ttok; (iterate 6 exact rfl)) | (apply res_1 ttok; (iterate 5 exact rfl))))); (iterate 4 exact rfl))
  all_goals rfl
end Go.Proofs.YtnihobjehelagaaDoor
end
