/- Package request: Write, by kinds (7, 8, 9). -/
import Derived.Test.YtdhkfbolnkikgaaGreatDoorG12
import Derived.Shelf.LaysM
import Derived.Shelf.Strconv.Itoa1
import Derived.Shelf.Strconv.Itoa2
import Derived.Test.YtdhkfbolnkikgaaGreatDoorProg
import Derived.Test.YtdhkfbolnkikgaaGreatDoorG10
import Derived.Lib.ItoaMem
import Derived.Lib.Walk
import Derived.WalkKit
import Derived.BigCall
import Derived.BigGuard
section
open Go.RowKit Go.Pl Go.Av
namespace Go.Proofs.YtdhkfbolnkikgaaGreatDoor
set_option linter.unusedVariables false
set_option linter.unusedSimpArgs false
set_option maxHeartbeats 4000000
theorem rw_7 [Known] (id : Nat) (ei : Bool) (en es : Nat) (eh ed : List UInt8) (di : Bool) (dn dq : Nat) (dh dd : List UInt8) (pol num tik : Int) (pay : List UInt8) (life tok : Nat) (on : Bool) (L0 L1 L2 L3 R : List E) (c0 c1 c2 c3 : Nat) (hR : AP Tryz.prog 11 [.agg [.int .u64 (id : Int), .int .i64 7, .bool ei, .int .u64 (en : Int), .int .u64 (es : Int), .str eh, .str ed, .bool di, .int .u64 (dn : Int), .int .u64 (dq : Int), .str dh, .str dd, .int .i64 pol, .int .i64 num, .int .i64 tik, .sl .ext (pay.map E.byte), .int .u64 (life : Int), .int .u64 (tok : Int), .bool on]] (.bool true) []) (hN : AT Tryz.prog 18 [] [] [] (.ptr 0 0) [[.bool true, .sl .nil []]] [])
    (h0 : AT Tryz.prog 19 [.ptr 0 0, .int .u64 (id : Int)] [[.bool true, .sl .nil []]] [] (.ptr 0 0) [[.bool true, .sl (.own 0) L0]] [⟨c0, 1, 5⟩])
    (h1 : AT Tryz.prog 20 [.ptr 0 0, .int .i64 7] [[.bool true, .sl (.own 0) L0]] [⟨c0, 1, 5⟩] (.ptr 0 0) [[.bool true, .sl (.own 0) L1]] [⟨c1, 1, 5⟩])
    (h2 : AT Tryz.prog 21 [.ptr 0 0, .agg [.bool ei, .int .u64 (en : Int), .int .u64 (es : Int), .str eh, .str ed]] [[.bool true, .sl (.own 0) L1]] [⟨c1, 1, 5⟩] (.tup []) [[.bool true, .sl (.own 0) L2]] [⟨c2, 1, 5⟩])
    (h3 : AT Tryz.prog 20 [.ptr 0 0, .int .i64 tik] [[.bool true, .sl (.own 0) L2]] [⟨c2, 1, 5⟩] (.ptr 0 0) [[.bool true, .sl (.own 0) L3]] [⟨c3, 1, 5⟩])
    (hB : AT Tryz.prog 24 [.ptr 0 0] [[.bool true, .sl (.own 0) L3]] [⟨c3, 1, 5⟩] (.sl .ext R) [[.bool true, .sl (.own 0) L3]] [⟨c3, 1, 5⟩]) :
    AP Tryz.prog 7 [.agg [.int .u64 (id : Int), .int .i64 7, .bool ei, .int .u64 (en : Int), .int .u64 (es : Int), .str eh, .str ed, .bool di, .int .u64 (dn : Int), .int .u64 (dq : Int), .str dh, .str dd, .int .i64 pol, .int .i64 num, .int .i64 tik, .sl .ext (pay.map E.byte), .int .u64 (life : Int), .int .u64 (tok : Int), .bool on]] (.tup [.sl .ext R, .int .i64 0]) [] := by
  refine AP.ofA ?_
  refine AC_of Tryz.func7 rfl Tryz.ntmps7 rfl rfl ?_
  repeat' (first | (apply AL_callPw (hR); kernel_rfl; (iterate 4 exact rfl)) | (apply AL_callT [] [] (hN); kernel_rfl; (iterate 10 exact rfl)) | (apply AL_callT [1] [] (h0); kernel_rfl; (iterate 10 exact rfl)) | (apply AL_callT [1] [0] (h1); kernel_rfl; (iterate 10 exact rfl)) | (apply AL_callT [1] [0] (h2); kernel_rfl; (iterate 10 exact rfl)) | (apply AL_callT [1] [0] (h3); kernel_rfl; (iterate 10 exact rfl)) | (apply AL_callT [1] [0] (hB); kernel_rfl; (iterate 10 exact rfl)) | (apply AL_move; exact rfl; exact rfl) | (apply AL_assign; exact rfl; exact rfl) | (apply AL_bin; (iterate 5 exact rfl)) | (apply AL_load1 ttok; (iterate 6 exact rfl)) | (apply AL_loadn ttok; (iterate 7 exact rfl)) | (apply AL_fieldAddr ttok; (iterate 7 exact rfl)) | (apply AL_boxZ; (iterate 5 exact rfl)) | (apply AL_not; exact rfl; exact rfl) | refine AL_nil ?_ | refine AW_region ?_ | refine AW_seq' ?_ | (apply AW_condA; exact rfl; (first | with_reducible assumption | decide +kernel)) | (apply AW_condB; exact rfl; (first | with_reducible assumption | decide +kernel)) | refine then_norm ?_ | refine AW_block ?_ | refine AW_ret ?_ | (apply AW_drawE 6 hmix; (decide +kernel); (kernel_rfl); (kernel_rfl); (kernel_rfl); exact rfl; exact rfl) | (apply AE_consZ; (iterate 4 exact rfl)) | exact AE.nil _ _ _ _ | (apply AEk_puT; exact rfl) | (apply AEk_efT; exact rfl) | (apply AOt_mk; exact rfl; exact rfl; (decide +kernel); exact rfl) | (apply AO_puT; exact rfl) | (apply AO_efT; exact rfl) | exact AO.nil _ _ _ | (apply AOs_skip; (decide +kernel)) | (apply AOs_goZ; (iterate 3 exact rfl)) | exact AOs.nil | exact qY_ok rfl rfl | exact qY_ef rfl rfl | refine AW_skip ?_)
  all_goals (apply endQ []; (repeat (first | exact ResL.nil | (apply ResL.cons; first | exact .tmp _ _ rfl | (apply res_n ttok; (iterate 6 exact rfl)) | (apply res_1 ttok; (iterate 5 exact rfl))))); (iterate 4 exact rfl))
  all_goals rfl
theorem rw_8 [Known] (id : Nat) (ei : Bool) (en es : Nat) (eh ed : List UInt8) (di : Bool) (dn dq : Nat) (dh dd : List UInt8) (pol num tik : Int) (pay : List UInt8) (life tok : Nat) (on : Bool) (L0 L1 L2 R : List E) (c0 c1 c2 : Nat) (hR : AP Tryz.prog 11 [.agg [.int .u64 (id : Int), .int .i64 8, .bool ei, .int .u64 (en : Int), .int .u64 (es : Int), .str eh, .str ed, .bool di, .int .u64 (dn : Int), .int .u64 (dq : Int), .str dh, .str dd, .int .i64 pol, .int .i64 num, .int .i64 tik, .sl .ext (pay.map E.byte), .int .u64 (life : Int), .int .u64 (tok : Int), .bool on]] (.bool true) []) (hN : AT Tryz.prog 18 [] [] [] (.ptr 0 0) [[.bool true, .sl .nil []]] [])
    (h0 : AT Tryz.prog 19 [.ptr 0 0, .int .u64 (id : Int)] [[.bool true, .sl .nil []]] [] (.ptr 0 0) [[.bool true, .sl (.own 0) L0]] [⟨c0, 1, 5⟩])
    (h1 : AT Tryz.prog 20 [.ptr 0 0, .int .i64 8] [[.bool true, .sl (.own 0) L0]] [⟨c0, 1, 5⟩] (.ptr 0 0) [[.bool true, .sl (.own 0) L1]] [⟨c1, 1, 5⟩])
    (h2 : AT Tryz.prog 20 [.ptr 0 0, .int .i64 num] [[.bool true, .sl (.own 0) L1]] [⟨c1, 1, 5⟩] (.ptr 0 0) [[.bool true, .sl (.own 0) L2]] [⟨c2, 1, 5⟩])
    (hB : AT Tryz.prog 24 [.ptr 0 0] [[.bool true, .sl (.own 0) L2]] [⟨c2, 1, 5⟩] (.sl .ext R) [[.bool true, .sl (.own 0) L2]] [⟨c2, 1, 5⟩]) :
    AP Tryz.prog 7 [.agg [.int .u64 (id : Int), .int .i64 8, .bool ei, .int .u64 (en : Int), .int .u64 (es : Int), .str eh, .str ed, .bool di, .int .u64 (dn : Int), .int .u64 (dq : Int), .str dh, .str dd, .int .i64 pol, .int .i64 num, .int .i64 tik, .sl .ext (pay.map E.byte), .int .u64 (life : Int), .int .u64 (tok : Int), .bool on]] (.tup [.sl .ext R, .int .i64 0]) [] := by
  refine AP.ofA ?_
  refine AC_of Tryz.func7 rfl Tryz.ntmps7 rfl rfl ?_
  repeat' (first | (apply AL_callPw (hR); kernel_rfl; (iterate 4 exact rfl)) | (apply AL_callT [] [] (hN); kernel_rfl; (iterate 10 exact rfl)) | (apply AL_callT [1] [] (h0); kernel_rfl; (iterate 10 exact rfl)) | (apply AL_callT [1] [0] (h1); kernel_rfl; (iterate 10 exact rfl)) | (apply AL_callT [1] [0] (h2); kernel_rfl; (iterate 10 exact rfl)) | (apply AL_callT [1] [0] (hB); kernel_rfl; (iterate 10 exact rfl)) | (apply AL_move; exact rfl; exact rfl) | (apply AL_assign; exact rfl; exact rfl) | (apply AL_bin; (iterate 5 exact rfl)) | (apply AL_load1 ttok; (iterate 6 exact rfl)) | (apply AL_loadn ttok; (iterate 7 exact rfl)) | (apply AL_fieldAddr ttok; (iterate 7 exact rfl)) | (apply AL_boxZ; (iterate 5 exact rfl)) | (apply AL_not; exact rfl; exact rfl) | refine AL_nil ?_ | refine AW_region ?_ | refine AW_seq' ?_ | (apply AW_condA; exact rfl; (first | with_reducible assumption | decide +kernel)) | (apply AW_condB; exact rfl; (first | with_reducible assumption | decide +kernel)) | refine then_norm ?_ | refine AW_block ?_ | refine AW_ret ?_ | (apply AW_drawE 6 hmix; (decide +kernel); (kernel_rfl); (kernel_rfl); (kernel_rfl); exact rfl; exact rfl) | (apply AE_consZ; (iterate 4 exact rfl)) | exact AE.nil _ _ _ _ | (apply AEk_puT; exact rfl) | (apply AEk_efT; exact rfl) | (apply AOt_mk; exact rfl; exact rfl; (decide +kernel); exact rfl) | (apply AO_puT; exact rfl) | (apply AO_efT; exact rfl) | exact AO.nil _ _ _ | (apply AOs_skip; (decide +kernel)) | (apply AOs_goZ; (iterate 3 exact rfl)) | exact AOs.nil | exact qY_ok rfl rfl | exact qY_ef rfl rfl | refine AW_skip ?_)
  all_goals (apply endQ []; (repeat (first | exact ResL.nil | (apply ResL.cons; first | exact .tmp _ _ rfl | (apply res_n ttok; (iterate 6 exact rfl)) | (apply res_1 ttok; (iterate 5 exact rfl))))); (iterate 4 exact rfl))
  all_goals rfl
theorem rw_9 [Known] (id : Nat) (ei : Bool) (en es : Nat) (eh ed : List UInt8) (di : Bool) (dn dq : Nat) (dh dd : List UInt8) (pol num tik : Int) (pay : List UInt8) (life tok : Nat) (on : Bool) (L0 L1 L2 R : List E) (c0 c1 c2 : Nat) (hR : AP Tryz.prog 11 [.agg [.int .u64 (id : Int), .int .i64 9, .bool ei, .int .u64 (en : Int), .int .u64 (es : Int), .str eh, .str ed, .bool di, .int .u64 (dn : Int), .int .u64 (dq : Int), .str dh, .str dd, .int .i64 pol, .int .i64 num, .int .i64 tik, .sl .ext (pay.map E.byte), .int .u64 (life : Int), .int .u64 (tok : Int), .bool on]] (.bool true) []) (hN : AT Tryz.prog 18 [] [] [] (.ptr 0 0) [[.bool true, .sl .nil []]] [])
    (h0 : AT Tryz.prog 19 [.ptr 0 0, .int .u64 (id : Int)] [[.bool true, .sl .nil []]] [] (.ptr 0 0) [[.bool true, .sl (.own 0) L0]] [⟨c0, 1, 5⟩])
    (h1 : AT Tryz.prog 20 [.ptr 0 0, .int .i64 9] [[.bool true, .sl (.own 0) L0]] [⟨c0, 1, 5⟩] (.ptr 0 0) [[.bool true, .sl (.own 0) L1]] [⟨c1, 1, 5⟩])
    (h2 : AT Tryz.prog 20 [.ptr 0 0, .int .i64 num] [[.bool true, .sl (.own 0) L1]] [⟨c1, 1, 5⟩] (.ptr 0 0) [[.bool true, .sl (.own 0) L2]] [⟨c2, 1, 5⟩])
    (hB : AT Tryz.prog 24 [.ptr 0 0] [[.bool true, .sl (.own 0) L2]] [⟨c2, 1, 5⟩] (.sl .ext R) [[.bool true, .sl (.own 0) L2]] [⟨c2, 1, 5⟩]) :
    AP Tryz.prog 7 [.agg [.int .u64 (id : Int), .int .i64 9, .bool ei, .int .u64 (en : Int), .int .u64 (es : Int), .str eh, .str ed, .bool di, .int .u64 (dn : Int), .int .u64 (dq : Int), .str dh, .str dd, .int .i64 pol, .int .i64 num, .int .i64 tik, .sl .ext (pay.map E.byte), .int .u64 (life : Int), .int .u64 (tok : Int), .bool on]] (.tup [.sl .ext R, .int .i64 0]) [] := by
  refine AP.ofA ?_
  refine AC_of Tryz.func7 rfl Tryz.ntmps7 rfl rfl ?_
  repeat' (first | (apply AL_callPw (hR); kernel_rfl; (iterate 4 exact rfl)) | (apply AL_callT [] [] (hN); kernel_rfl; (iterate 10 exact rfl)) | (apply AL_callT [1] [] (h0); kernel_rfl; (iterate 10 exact rfl)) | (apply AL_callT [1] [0] (h1); kernel_rfl; (iterate 10 exact rfl)) | (apply AL_callT [1] [0] (h2); kernel_rfl; (iterate 10 exact rfl)) | (apply AL_callT [1] [0] (hB); kernel_rfl; (iterate 10 exact rfl)) | (apply AL_move; exact rfl; exact rfl) | (apply AL_assign; exact rfl; exact rfl) | (apply AL_bin; (iterate 5 exact rfl)) | (apply AL_load1 ttok; (iterate 6 exact rfl)) | (apply AL_loadn ttok; (iterate 7 exact rfl)) | (apply AL_fieldAddr ttok; (iterate 7 exact rfl)) | (apply AL_boxZ; (iterate 5 exact rfl)) | (apply AL_not; exact rfl; exact rfl) | refine AL_nil ?_ | refine AW_region ?_ | refine AW_seq' ?_ | (apply AW_condA; exact rfl; (first | with_reducible assumption | decide +kernel)) | (apply AW_condB; exact rfl; (first | with_reducible assumption | decide +kernel)) | refine then_norm ?_ | refine AW_block ?_ | refine AW_ret ?_ | (apply AW_drawE 6 hmix; (decide +kernel); (kernel_rfl); (kernel_rfl); (kernel_rfl); exact rfl; exact rfl) | (apply AE_consZ; (iterate 4 exact rfl)) | exact AE.nil _ _ _ _ | (apply AEk_puT; exact rfl) | (apply AEk_efT; exact rfl) | (apply AOt_mk; exact rfl; exact rfl; (decide +kernel); exact rfl) | (apply AO_puT; exact rfl) | (apply AO_efT; exact rfl) | exact AO.nil _ _ _ | (apply AOs_skip; (decide +kernel)) | (apply AOs_goZ; (iterate 3 exact rfl)) | exact AOs.nil | exact qY_ok rfl rfl | exact qY_ef rfl rfl | refine AW_skip ?_)
  all_goals (apply endQ []; (repeat (first | exact ResL.nil | (apply ResL.cons; first | exact .tmp _ _ rfl | (apply res_n ttok; (iterate 6 exact rfl)) | (apply res_1 ttok; (iterate 5 exact rfl))))); (iterate 4 exact rfl))
  all_goals rfl
end Go.Proofs.YtdhkfbolnkikgaaGreatDoor
end
/- Package request: Write, by kinds (10, 11, 12). -/
section
open Go.RowKit Go.Pl Go.Av
namespace Go.Proofs.YtdhkfbolnkikgaaGreatDoor
set_option linter.unusedVariables false
set_option linter.unusedSimpArgs false
set_option maxHeartbeats 4000000
theorem rw_10 [Known] (id : Nat) (ei : Bool) (en es : Nat) (eh ed : List UInt8) (di : Bool) (dn dq : Nat) (dh dd : List UInt8) (pol num tik : Int) (pay : List UInt8) (life tok : Nat) (on : Bool) (L0 L1 L2 R : List E) (c0 c1 c2 : Nat) (hR : AP Tryz.prog 11 [.agg [.int .u64 (id : Int), .int .i64 10, .bool ei, .int .u64 (en : Int), .int .u64 (es : Int), .str eh, .str ed, .bool di, .int .u64 (dn : Int), .int .u64 (dq : Int), .str dh, .str dd, .int .i64 pol, .int .i64 num, .int .i64 tik, .sl .ext (pay.map E.byte), .int .u64 (life : Int), .int .u64 (tok : Int), .bool on]] (.bool true) []) (hN : AT Tryz.prog 18 [] [] [] (.ptr 0 0) [[.bool true, .sl .nil []]] [])
    (h0 : AT Tryz.prog 19 [.ptr 0 0, .int .u64 (id : Int)] [[.bool true, .sl .nil []]] [] (.ptr 0 0) [[.bool true, .sl (.own 0) L0]] [⟨c0, 1, 5⟩])
    (h1 : AT Tryz.prog 20 [.ptr 0 0, .int .i64 10] [[.bool true, .sl (.own 0) L0]] [⟨c0, 1, 5⟩] (.ptr 0 0) [[.bool true, .sl (.own 0) L1]] [⟨c1, 1, 5⟩])
    (h2 : AT Tryz.prog 23 [.ptr 0 0, .bool on] [[.bool true, .sl (.own 0) L1]] [⟨c1, 1, 5⟩] (.ptr 0 0) [[.bool true, .sl (.own 0) L2]] [⟨c2, 1, 5⟩])
    (hB : AT Tryz.prog 24 [.ptr 0 0] [[.bool true, .sl (.own 0) L2]] [⟨c2, 1, 5⟩] (.sl .ext R) [[.bool true, .sl (.own 0) L2]] [⟨c2, 1, 5⟩]) :
    AP Tryz.prog 7 [.agg [.int .u64 (id : Int), .int .i64 10, .bool ei, .int .u64 (en : Int), .int .u64 (es : Int), .str eh, .str ed, .bool di, .int .u64 (dn : Int), .int .u64 (dq : Int), .str dh, .str dd, .int .i64 pol, .int .i64 num, .int .i64 tik, .sl .ext (pay.map E.byte), .int .u64 (life : Int), .int .u64 (tok : Int), .bool on]] (.tup [.sl .ext R, .int .i64 0]) [] := by
  refine AP.ofA ?_
  refine AC_of Tryz.func7 rfl Tryz.ntmps7 rfl rfl ?_
  repeat' (first | (apply AL_callPw (hR); kernel_rfl; (iterate 4 exact rfl)) | (apply AL_callT [] [] (hN); kernel_rfl; (iterate 10 exact rfl)) | (apply AL_callT [1] [] (h0); kernel_rfl; (iterate 10 exact rfl)) | (apply AL_callT [1] [0] (h1); kernel_rfl; (iterate 10 exact rfl)) | (apply AL_callT [1] [0] (h2); kernel_rfl; (iterate 10 exact rfl)) | (apply AL_callT [1] [0] (hB); kernel_rfl; (iterate 10 exact rfl)) | (apply AL_move; exact rfl; exact rfl) | (apply AL_assign; exact rfl; exact rfl) | (apply AL_bin; (iterate 5 exact rfl)) | (apply AL_load1 ttok; (iterate 6 exact rfl)) | (apply AL_loadn ttok; (iterate 7 exact rfl)) | (apply AL_fieldAddr ttok; (iterate 7 exact rfl)) | (apply AL_boxZ; (iterate 5 exact rfl)) | (apply AL_not; exact rfl; exact rfl) | refine AL_nil ?_ | refine AW_region ?_ | refine AW_seq' ?_ | (apply AW_condA; exact rfl; (first | with_reducible assumption | decide +kernel)) | (apply AW_condB; exact rfl; (first | with_reducible assumption | decide +kernel)) | refine then_norm ?_ | refine AW_block ?_ | refine AW_ret ?_ | (apply AW_drawE 6 hmix; (decide +kernel); (kernel_rfl); (kernel_rfl); (kernel_rfl); exact rfl; exact rfl) | (apply AE_consZ; (iterate 4 exact rfl)) | exact AE.nil _ _ _ _ | (apply AEk_puT; exact rfl) | (apply AEk_efT; exact rfl) | (apply AOt_mk; exact rfl; exact rfl; (decide +kernel); exact rfl) | (apply AO_puT; exact rfl) | (apply AO_efT; exact rfl) | exact AO.nil _ _ _ | (apply AOs_skip; (decide +kernel)) | (apply AOs_goZ; (iterate 3 exact rfl)) | exact AOs.nil | exact qY_ok rfl rfl | exact qY_ef rfl rfl | refine AW_skip ?_)
  all_goals (apply endQ []; (repeat (first | exact ResL.nil | (apply ResL.cons; first | exact .tmp _ _ rfl | (apply res_n ttok; (iterate 6 exact rfl)) | (apply res_1 ttok; (iterate 5 exact rfl))))); (iterate 4 exact rfl))
  all_goals rfl
theorem rw_11 [Known] (id : Nat) (ei : Bool) (en es : Nat) (eh ed : List UInt8) (di : Bool) (dn dq : Nat) (dh dd : List UInt8) (pol num tik : Int) (pay : List UInt8) (life tok : Nat) (on : Bool) (L0 L1 R : List E) (c0 c1 : Nat) (hR : AP Tryz.prog 11 [.agg [.int .u64 (id : Int), .int .i64 11, .bool ei, .int .u64 (en : Int), .int .u64 (es : Int), .str eh, .str ed, .bool di, .int .u64 (dn : Int), .int .u64 (dq : Int), .str dh, .str dd, .int .i64 pol, .int .i64 num, .int .i64 tik, .sl .ext (pay.map E.byte), .int .u64 (life : Int), .int .u64 (tok : Int), .bool on]] (.bool true) []) (hN : AT Tryz.prog 18 [] [] [] (.ptr 0 0) [[.bool true, .sl .nil []]] [])
    (h0 : AT Tryz.prog 19 [.ptr 0 0, .int .u64 (id : Int)] [[.bool true, .sl .nil []]] [] (.ptr 0 0) [[.bool true, .sl (.own 0) L0]] [⟨c0, 1, 5⟩])
    (h1 : AT Tryz.prog 20 [.ptr 0 0, .int .i64 11] [[.bool true, .sl (.own 0) L0]] [⟨c0, 1, 5⟩] (.ptr 0 0) [[.bool true, .sl (.own 0) L1]] [⟨c1, 1, 5⟩])
    (hB : AT Tryz.prog 24 [.ptr 0 0] [[.bool true, .sl (.own 0) L1]] [⟨c1, 1, 5⟩] (.sl .ext R) [[.bool true, .sl (.own 0) L1]] [⟨c1, 1, 5⟩]) :
    AP Tryz.prog 7 [.agg [.int .u64 (id : Int), .int .i64 11, .bool ei, .int .u64 (en : Int), .int .u64 (es : Int), .str eh, .str ed, .bool di, .int .u64 (dn : Int), .int .u64 (dq : Int), .str dh, .str dd, .int .i64 pol, .int .i64 num, .int .i64 tik, .sl .ext (pay.map E.byte), .int .u64 (life : Int), .int .u64 (tok : Int), .bool on]] (.tup [.sl .ext R, .int .i64 0]) [] := by
  refine AP.ofA ?_
  refine AC_of Tryz.func7 rfl Tryz.ntmps7 rfl rfl ?_
  repeat' (first | (apply AL_callPw (hR); kernel_rfl; (iterate 4 exact rfl)) | (apply AL_callT [] [] (hN); kernel_rfl; (iterate 10 exact rfl)) | (apply AL_callT [1] [] (h0); kernel_rfl; (iterate 10 exact rfl)) | (apply AL_callT [1] [0] (h1); kernel_rfl; (iterate 10 exact rfl)) | (apply AL_callT [1] [0] (hB); kernel_rfl; (iterate 10 exact rfl)) | (apply AL_move; exact rfl; exact rfl) | (apply AL_assign; exact rfl; exact rfl) | (apply AL_bin; (iterate 5 exact rfl)) | (apply AL_load1 ttok; (iterate 6 exact rfl)) | (apply AL_loadn ttok; (iterate 7 exact rfl)) | (apply AL_fieldAddr ttok; (iterate 7 exact rfl)) | (apply AL_boxZ; (iterate 5 exact rfl)) | (apply AL_not; exact rfl; exact rfl) | refine AL_nil ?_ | refine AW_region ?_ | refine AW_seq' ?_ | (apply AW_condB; exact rfl; (first | with_reducible assumption | decide +kernel)) | refine then_norm ?_ | refine AW_block ?_ | refine AW_ret ?_ | (apply AW_drawE 6 hmix; (decide +kernel); (kernel_rfl); (kernel_rfl); (kernel_rfl); exact rfl; exact rfl) | (apply AE_consZ; (iterate 4 exact rfl)) | exact AE.nil _ _ _ _ | (apply AEk_puT; exact rfl) | (apply AEk_efT; exact rfl) | (apply AOt_mk; exact rfl; exact rfl; (decide +kernel); exact rfl) | (apply AO_puT; exact rfl) | (apply AO_efT; exact rfl) | exact AO.nil _ _ _ | (apply AOs_skip; (decide +kernel)) | (apply AOs_goZ; (iterate 3 exact rfl)) | exact AOs.nil | exact qY_ok rfl rfl | exact qY_ef rfl rfl | refine AW_skip ?_)
  all_goals (apply endQ []; (repeat (first | exact ResL.nil | (apply ResL.cons; first | exact .tmp _ _ rfl | (apply res_n ttok; (iterate 6 exact rfl)) | (apply res_1 ttok; (iterate 5 exact rfl))))); (iterate 4 exact rfl))
  all_goals rfl
theorem rw_12 [Known] (id : Nat) (ei : Bool) (en es : Nat) (eh ed : List UInt8) (di : Bool) (dn dq : Nat) (dh dd : List UInt8) (pol num tik : Int) (pay : List UInt8) (life tok : Nat) (on : Bool) (L0 L1 L2 R : List E) (c0 c1 c2 : Nat) (hR : AP Tryz.prog 11 [.agg [.int .u64 (id : Int), .int .i64 12, .bool ei, .int .u64 (en : Int), .int .u64 (es : Int), .str eh, .str ed, .bool di, .int .u64 (dn : Int), .int .u64 (dq : Int), .str dh, .str dd, .int .i64 pol, .int .i64 num, .int .i64 tik, .sl .ext (pay.map E.byte), .int .u64 (life : Int), .int .u64 (tok : Int), .bool on]] (.bool true) []) (hN : AT Tryz.prog 18 [] [] [] (.ptr 0 0) [[.bool true, .sl .nil []]] [])
    (h0 : AT Tryz.prog 19 [.ptr 0 0, .int .u64 (id : Int)] [[.bool true, .sl .nil []]] [] (.ptr 0 0) [[.bool true, .sl (.own 0) L0]] [⟨c0, 1, 5⟩])
    (h1 : AT Tryz.prog 20 [.ptr 0 0, .int .i64 12] [[.bool true, .sl (.own 0) L0]] [⟨c0, 1, 5⟩] (.ptr 0 0) [[.bool true, .sl (.own 0) L1]] [⟨c1, 1, 5⟩])
    (h2 : AT Tryz.prog 19 [.ptr 0 0, .int .u64 (tok : Int)] [[.bool true, .sl (.own 0) L1]] [⟨c1, 1, 5⟩] (.ptr 0 0) [[.bool true, .sl (.own 0) L2]] [⟨c2, 1, 5⟩])
    (hB : AT Tryz.prog 24 [.ptr 0 0] [[.bool true, .sl (.own 0) L2]] [⟨c2, 1, 5⟩] (.sl .ext R) [[.bool true, .sl (.own 0) L2]] [⟨c2, 1, 5⟩]) :
    AP Tryz.prog 7 [.agg [.int .u64 (id : Int), .int .i64 12, .bool ei, .int .u64 (en : Int), .int .u64 (es : Int), .str eh, .str ed, .bool di, .int .u64 (dn : Int), .int .u64 (dq : Int), .str dh, .str dd, .int .i64 pol, .int .i64 num, .int .i64 tik, .sl .ext (pay.map E.byte), .int .u64 (life : Int), .int .u64 (tok : Int), .bool on]] (.tup [.sl .ext R, .int .i64 0]) [] := by
  refine AP.ofA ?_
  refine AC_of Tryz.func7 rfl Tryz.ntmps7 rfl rfl ?_
  repeat' (first | (apply AL_callPw (hR); kernel_rfl; (iterate 4 exact rfl)) | (apply AL_callT [] [] (hN); kernel_rfl; (iterate 10 exact rfl)) | (apply AL_callT [1] [] (h0); kernel_rfl; (iterate 10 exact rfl)) | (apply AL_callT [1] [0] (h1); kernel_rfl; (iterate 10 exact rfl)) | (apply AL_callT [1] [0] (h2); kernel_rfl; (iterate 10 exact rfl)) | (apply AL_callT [1] [0] (hB); kernel_rfl; (iterate 10 exact rfl)) | (apply AL_move; exact rfl; exact rfl) | (apply AL_assign; exact rfl; exact rfl) | (apply AL_bin; (iterate 5 exact rfl)) | (apply AL_load1 ttok; (iterate 6 exact rfl)) | (apply AL_loadn ttok; (iterate 7 exact rfl)) | (apply AL_fieldAddr ttok; (iterate 7 exact rfl)) | (apply AL_boxZ; (iterate 5 exact rfl)) | (apply AL_not; exact rfl; exact rfl) | refine AL_nil ?_ | refine AW_region ?_ | refine AW_seq' ?_ | (apply AW_condA; exact rfl; (first | with_reducible assumption | decide +kernel)) | (apply AW_condB; exact rfl; (first | with_reducible assumption | decide +kernel)) | refine then_norm ?_ | refine AW_block ?_ | refine AW_ret ?_ | (apply AW_drawE 6 hmix; (decide +kernel); (kernel_rfl); (kernel_rfl); (kernel_rfl); exact rfl; exact rfl) | (apply AE_consZ; (iterate 4 exact rfl)) | exact AE.nil _ _ _ _ | (apply AEk_puT; exact rfl) | (apply AEk_efT; exact rfl) | (apply AOt_mk; exact rfl; exact rfl; (decide +kernel); exact rfl) | (apply AO_puT; exact rfl) | (apply AO_efT; exact rfl) | exact AO.nil _ _ _ | (apply AOs_skip; (decide +kernel)) | (apply AOs_goZ; (iterate 3 exact rfl)) | exact AOs.nil | exact qY_ok rfl rfl | exact qY_ef rfl rfl | refine AW_skip ?_)
  all_goals (apply endQ []; (repeat (first | exact ResL.nil | (apply ResL.cons; first | exact .tmp _ _ rfl | (apply res_n ttok; (iterate 6 exact rfl)) | (apply res_1 ttok; (iterate 5 exact rfl))))); (iterate 4 exact rfl))
  all_goals rfl
end Go.Proofs.YtdhkfbolnkikgaaGreatDoor
end
/- Contracts of the library that are proved once, laid at this program: each body is held against the one that they were proved of. -/
section
namespace Go.Proofs.YtdhkfbolnkikgaaGreatDoor
open Go.Shelf
def lays283_ren : Go.Shelf.Ren := ⟨fun | 283 => 69 | n => n, fun | 3 => 3 | 9 => 9 | 4 => 4 | n => n, fun | n => n⟩
theorem lays283 : Go.Proofs.Lays.n283 Tryz.prog lays283_ren := {
  mixed := by kernel_rfl,
  f283 := Tryz.func69.trans (congrArg some (by kernel_rfl)),
  t3 := Tryz.underlying3,
  a3 := Tryz.isAgg3,
  z3 := Tryz.sizeOf3,
  v3 := Tryz.zeroValue3,
  t4 := Tryz.underlying4,
  a4 := Tryz.isAgg4,
  z4 := Tryz.sizeOf4,
  v4 := Tryz.zeroValue4,
  t9 := Tryz.underlying9,
  a9 := Tryz.isAgg9,
  z9 := Tryz.sizeOf9,
  v9 := Tryz.zeroValue9 }
def lays284_ren : Go.Shelf.Ren := ⟨fun | 284 => 70 | 129 => 78 | 317 => 77 | 318 => 79 | n => n, fun | 53 => 22 | 3 => 3 | 212 => 120 | 0 => 0 | 4 => 4 | 46 => 79 | 5 => 5 | 9 => 9 | n => n, fun | 17 => 0 | n => n⟩
theorem lays284 : Go.Proofs.LaysM.n284 Tryz.prog lays284_ren := {
  mixed := by kernel_rfl,
  f129 := Tryz.func78.trans (congrArg some (by kernel_rfl)),
  f284 := Tryz.func70.trans (congrArg some (by kernel_rfl)),
  f317 := Tryz.func77.trans (congrArg some (by kernel_rfl)),
  f318 := Tryz.func79.trans (congrArg some (by kernel_rfl)),
  t0 := Tryz.underlying0,
  a0 := Tryz.isAgg0,
  z0 := Tryz.sizeOf0,
  v0 := Tryz.zeroValue0,
  t3 := Tryz.underlying3,
  a3 := Tryz.isAgg3,
  z3 := Tryz.sizeOf3,
  v3 := Tryz.zeroValue3,
  t4 := Tryz.underlying4,
  a4 := Tryz.isAgg4,
  z4 := Tryz.sizeOf4,
  v4 := Tryz.zeroValue4,
  t5 := Tryz.underlying5,
  a5 := Tryz.isAgg5,
  z5 := Tryz.sizeOf5,
  v5 := Tryz.zeroValue5,
  t9 := Tryz.underlying9,
  a9 := Tryz.isAgg9,
  z9 := Tryz.sizeOf9,
  v9 := Tryz.zeroValue9,
  t46 := Tryz.underlying79,
  a46 := Tryz.isAgg79,
  z46 := Tryz.sizeOf79,
  v46 := Tryz.zeroValue79,
  t53 := Tryz.underlying22,
  a53 := Tryz.isAgg22,
  z53 := Tryz.sizeOf22,
  v53 := Tryz.zeroValue22,
  t212 := Tryz.underlying120,
  a212 := Tryz.isAgg120,
  z212 := Tryz.sizeOf120,
  v212 := Tryz.zeroValue120,
  g17 := by kernel_rfl,
  i0 := by kernel_rfl,
  i3 := by kernel_rfl,
  i4 := by kernel_rfl,
  i5 := by kernel_rfl,
  i9 := by kernel_rfl,
  i46 := by kernel_rfl,
  i53 := by kernel_rfl,
  i212 := by kernel_rfl,
  m17 := by kernel_rfl }
def lays285_ren : Go.Shelf.Ren := ⟨fun | 285 => 71 | n => n, fun | 37 => 25 | 53 => 22 | 3 => 3 | 4 => 4 | 51 => 121 | 9 => 9 | 5 => 5 | 0 => 0 | n => n, fun | n => n⟩
theorem lays285 : Go.Proofs.Lays.n285 Tryz.prog lays285_ren := {
  mixed := by kernel_rfl,
  f285 := Tryz.func71.trans (congrArg some (by kernel_rfl)),
  t0 := Tryz.underlying0,
  a0 := Tryz.isAgg0,
  z0 := Tryz.sizeOf0,
  v0 := Tryz.zeroValue0,
  t3 := Tryz.underlying3,
  a3 := Tryz.isAgg3,
  z3 := Tryz.sizeOf3,
  v3 := Tryz.zeroValue3,
  t4 := Tryz.underlying4,
  a4 := Tryz.isAgg4,
  z4 := Tryz.sizeOf4,
  v4 := Tryz.zeroValue4,
  t5 := Tryz.underlying5,
  a5 := Tryz.isAgg5,
  z5 := Tryz.sizeOf5,
  v5 := Tryz.zeroValue5,
  t9 := Tryz.underlying9,
  a9 := Tryz.isAgg9,
  z9 := Tryz.sizeOf9,
  v9 := Tryz.zeroValue9,
  t37 := Tryz.underlying25,
  a37 := Tryz.isAgg25,
  z37 := Tryz.sizeOf25,
  v37 := Tryz.zeroValue25,
  t51 := Tryz.underlying121,
  a51 := Tryz.isAgg121,
  z51 := Tryz.sizeOf121,
  v51 := Tryz.zeroValue121,
  t53 := Tryz.underlying22,
  a53 := Tryz.isAgg22,
  z53 := Tryz.sizeOf22,
  v53 := Tryz.zeroValue22 }
end Go.Proofs.YtdhkfbolnkikgaaGreatDoor
end
/- strconv.FormatUint at base 10: every number. -/
section
open Go.RowKit Go.Pl Go.Av Go.Shelf Go.Sort Go.Lib
namespace Go.Proofs.YtdhkfbolnkikgaaGreatDoor
set_option linter.unusedVariables false
set_option linter.unusedSimpArgs false
set_option maxHeartbeats 6400000
set_option maxRecDepth 100000 in
theorem numDigits_c (u : Nat) (h1 : 1 ≤ u) (h2 : u < 18446744073709551616) (w : World) (hc : ∀ i, i < 20 → w.cell? ⟨0, i, none⟩ = some (.int .u64 ((10 ^ i : Nat) : Int))) :
    Calls Tryz.prog 70 #[.int .u64 u] w fun e w' => e = .returned (.int .i64 (Lib.nDigits u)) ∧ w' = w := by
  obtain ⟨hnd, h19⟩ := Lib.numDigits_eq u h1 h2
  have hL : Lib.bitLen u ≤ 64 := Lib.bitLen_le u 64 (Nat.le_refl _) h2
  have hcell := hc (Lib.l10 (Lib.bitLen u)) (by omega)
  have hto : ((u : Int)).toNat = u := by omega
  generalize hq : Lib.l10 (Lib.bitLen u) = q at hnd h19 hcell
  generalize hT : 10 ^ q = T at hnd hcell
  have h20 : q < 20 := by omega
  have Hnd := Lib.hid hnd
  clear hnd hc
  go_enter Tryz.func70, Tryz.ntmps70
  go_wp2_with (first
    | (go_at_call 78; refine (Any.bits_Len64 (P := Tryz.prog) (ρ := lays284_ren) { lays284 with } _ _ (by omega) (by omega)).mono ?_; rintro e w' ⟨rfl, rfl⟩)
    | (go_at_call 77; refine (Any.internal_strconv_log10Pow2 (P := Tryz.prog) (ρ := lays284_ren) { lays284 with } _ (by first | exact hL | (rw [hto]; exact hL)) _).mono ?_; rintro e w' ⟨rfl, rfl⟩)
    | (go_at_call 79; refine (Any.internal_strconv_bool2_int (P := Tryz.prog) (ρ := lays284_ren) { lays284 with } _ _).mono ?_; rintro e w' ⟨rfl, rfl⟩))
  all_goals go_ret
  all_goals (
    refine ⟨?_, rfl⟩
    have hnd := Hnd.out
    congr 2
    split at hnd <;> simp_all <;> omega)
theorem holds_zero0 (w : World) (T : TypeId) (nd : Nat) (hs : nd ≤ 24) : Holds (fun (b : UInt8) => Value.int .u8 (b.toNat : Int)) (w.alloc (.cells Lib.zeros24 T)) w.heap.size 0 (Array.replicate nd (0 : UInt8)) := fun j hj => by
  have hj' : j < nd := by simpa using hj
  refine ⟨?_, World.frozen?_alloc_new _ _ _ _⟩
  rw [World.cell?_alloc_new, Lib.zeros24_at _ (by omega), getElem!_pos _ j hj]
  simp
theorem fin0 (w : World) (o : Obj) (dk : Array UInt8) (k : Nat) : Below w.heap.size w ((putRow (fun (b : UInt8) => Value.int .u8 (b.toNat : Int)) (w.alloc o) w.heap.size 0 dk).drewN k) := by
  have h : ∃ os, (putRow (fun (b : UInt8) => Value.int .u8 (b.toNat : Int)) (w.alloc o) w.heap.size 0 dk).drewN k = grow (w.drewN k) os := by
    rw [alloc_eq_grow]
    obtain ⟨os', _, e⟩ := putRow_grow_new (fun (b : UInt8) => Value.int .u8 (b.toNat : Int)) w #[o] w.heap.size 0 dk (Nat.le_refl _)
    exact ⟨os', by rw [e]; rfl⟩
  obtain ⟨os, e⟩ := h
  rw [e]
  refine ⟨rfl, rfl, rfl, ?_, fun b hb => ?_⟩
  · show w.heap.size ≤ (w.heap ++ os).size
    rw [Array.size_append]; omega
  · show (w.heap ++ os)[b]? = w.heap[b]?
    rw [Array.getElem?_append_left hb]
theorem cell_al {w : World} {o : Obj} {g i : Nat} {v : Value} (h : w.cell? ⟨g, i, none⟩ = some v) : (w.alloc o).cell? ⟨g, i, none⟩ = some v :=
  (cell_alloc w o (World.block_lt_of_cell? w _ h) i).trans h
set_option maxRecDepth 100000 in
theorem fmtI_walk (u : Nat) (hu64 : u < 18446744073709551616) (w : World) (hc : ∀ i, i < 20 → w.cell? ⟨0, i, none⟩ = some (.int .u64 ((10 ^ i : Nat) : Int))) :
    Calls Tryz.prog 65 #[.int .u64 u, .int .i64 10] w fun e w' => e = .returned (.string ⟨(Lib.decDigits u).toArray⟩) ∧ Below w.heap.size w w' := by
  by_cases hs : u < 100
  · have Hs := Lib.hid hs
    go_enter Tryz.func65, Tryz.ntmps65
    go_wp2_with (go_at_call 69; refine (Any.internal_strconv_small (P := Tryz.prog) (ρ := lays283_ren) lays283 u Hs.out _).mono ?_; rintro e w' ⟨rfl, rfl⟩)
    go_ret
    exact ⟨rfl, Below.refl _ _⟩
  · have hu1 : 1 ≤ u := by omega
    have hnd20 : Lib.nDigits u ≤ 20 := by have := Lib.numDigits_eq u hu1 hu64; split at this <;> omega
    have hal : Tryz.prog.arrayLen 111 = 24 := by simp [Program.arrayLen, Tryz.underlying111]
    have hsl : ∀ W, (Instr.sliceAt 111 (.pointer (some ⟨w.heap.size, 0, none⟩)) none (some (.int .i64 (Lib.nDigits u : Int))) none).run Tryz.prog W = .ok (.slice (some ⟨w.heap.size, 0, none⟩) (Lib.nDigits u) 24) W := fun W => by
      rw [run_sliceAt_array_h W 111 ⟨w.heap.size, 0, none⟩ (by simp [Program.arrayLen, Program.elem, Tryz.underlying111]) .i64 (Lib.nDigits u : Int) (by omega) (by rw [hal]; omega)]
      go_simp
    have hH0 := holds_zero0 w 111 (Lib.nDigits u) (by omega)
    have hfmt : Calls Tryz.prog 71 _ _ _ := Any.internal_strconv_formatBase10 (P := Tryz.prog) (ρ := lays285_ren) lays285 w.heap.size 0 24 u (Array.replicate (Lib.nDigits u) 0) (w.alloc (.cells Lib.zeros24 111)) hH0 (by rw [Array.size_replicate]; exact Lib.lt_pow_nDigits u) hu64 (by rw [Array.size_replicate]; omega)
    rw [Array.size_replicate] at hfmt
    have HH0 := Lib.hid hH0
    have HC := Lib.hid hc
    clear hH0 hal hc
    go_enter Tryz.func65, Tryz.ntmps65
    go_wp2_with (first
      | (go_at_call 70; refine (numDigits_c u hu1 hu64 _ (fun i hi => cell_al (HC.out i hi))).mono ?_; rintro e w' ⟨rfl, rfl⟩))
    go_at_call 71
    refine hfmt.mono ?_
    rintro e w' ⟨rfl, k, v', dk, rfl, hF⟩
    have hcv : (convert 25 9 (.slice (some ⟨w.heap.size, 0, none⟩) (Lib.nDigits u) 24)).run Tryz.prog ((putRow (fun (b : UInt8) => Value.int .u8 (b.toNat : Int)) (w.alloc (.cells Lib.zeros24 111)) w.heap.size 0 dk).drewN k) = .ok (.string ⟨(Lib.decDigits u).toArray⟩) ((putRow (fun (b : UInt8) => Value.int .u8 (b.toNat : Int)) (w.alloc (.cells Lib.zeros24 111)) w.heap.size 0 dk).drewN k) := by
      have h := run_convert_bytes_back (P := Tryz.prog) ((putRow (fun (b : UInt8) => Value.int .u8 (b.toNat : Int)) (w.alloc (.cells Lib.zeros24 111)) w.heap.size 0 dk).drewN k) 25 9 5 ⟨w.heap.size, 0, none⟩ 24 (Lib.decDigits u) Tryz.underlying25 Tryz.underlying5 Tryz.underlying9 (fun j hj => by
        rw [Lib.row_is_numeral hF j hj, Lib.add_plain, World.cell?_drewN]
        exact cell?_putRow (fun (b : UInt8) => Value.int .u8 (b.toNat : Int)) _ w.heap.size 0 _ dk HH0.out (by rw [hF.size, Array.size_replicate]) j (by rw [hF.size]; rw [Lib.decDigits_length] at hj; exact hj))
      rw [Lib.decDigits_length] at h
      exact h
    go_wp2
    go_ret
    exact ⟨rfl, fin0 w _ dk k⟩
end Go.Proofs.YtdhkfbolnkikgaaGreatDoor
end
/- Package eid: names that may be; the path of one. -/
section
open Go.RowKit Go.Pl Go.Av
namespace Go.Proofs.YtdhkfbolnkikgaaGreatDoor
set_option linter.unusedVariables false
set_option linter.unusedSimpArgs false
set_option maxHeartbeats 4000000
/-- a name's path -/
def pathE (x : EidV) : List UInt8 := [47, 47] ++ x.h ++ [47] ++ x.d
theorem eRight_num {x : EidV} (h : eRight x = true) (hz : isZ x = false) (hi : x.i = true) : x.n ≤ 4294967295 ∧ x.s ≤ 4294967295 ∧ x.h = [] ∧ x.d = [] ∧ 1 ≤ x.n := by
  rw [eRight_I hz hi] at h
  simp only [Bool.and_eq_true, decide_eq_true_eq, beq_iff_eq] at h
  obtain ⟨⟨⟨⟨_, _, _, h1, h2, _⟩, h3⟩, h4⟩, h5⟩ := h
  exact ⟨by omega, by omega, h1, h2, by omega⟩
theorem eRight_txt {x : EidV} (h : eRight x = true) (hz : isZ x = false) (hi : x.i = false) : x.n = 0 ∧ x.s = 0 ∧ 1 ≤ x.h.length ∧ x.h.length ≤ 16 ∧ x.d.length ≤ 24 ∧ x.h.all (okB 45) = true ∧ x.d.all (okB 47) = true := by
  rw [eRight_T hz hi] at h
  simp only [Bool.and_eq_true, decide_eq_true_eq, beq_iff_eq] at h
  obtain ⟨⟨⟨⟨⟨⟨_, h1, h2, _⟩, h3⟩, h4⟩, h5⟩, h6⟩, h7⟩ := h
  exact ⟨by omega, by omega, by omega, by omega, by omega, h6, h7⟩
theorem av_path [Known] (x : EidV) (h1 : x.h.length ≤ 16) (h2 : x.d.length ≤ 24) : AP Tryz.prog 59 [.agg (eC x)] (.str (pathE x)) [] := by
  have l1 : [(47 : UInt8), 47].length + x.h.length ≤ maxLen := by simp; unfold maxLen; omega
  have l2 : ([(47 : UInt8), 47] ++ x.h).length + [(47 : UInt8)].length ≤ maxLen := by simp; unfold maxLen; omega
  have l3 : ([(47 : UInt8), 47] ++ x.h ++ [47]).length + x.d.length ≤ maxLen := by simp; unfold maxLen; omega
  refine AP.ofA ?_
  refine AC_of Tryz.func59 rfl Tryz.ntmps59 rfl rfl ?_
  repeat' (first | (apply AL_cat; exact rfl; exact rfl; (first | exact l1 | exact l2 | exact l3); exact rfl) | (apply AL_assign; exact rfl; exact rfl) | (apply AL_load1 ttok; (iterate 6 exact rfl)) | (apply AL_fieldAddr ttok; (iterate 7 exact rfl)) | (apply AL_boxZ; (iterate 5 exact rfl)) | refine AL_nil ?_ | refine AW_region ?_ | refine AW_seq' ?_ | refine then_norm ?_ | refine AW_ret ?_)
  all_goals (apply endQ []; (repeat (first | exact ResL.nil | (apply ResL.cons; first | exact .tmp _ _ rfl | (apply res_n ttok; (iterate 6 exact rfl)) | (apply res_1 ttok; (iterate 5 exact rfl))))); (iterate 4 exact rfl))
  all_goals rfl
end Go.Proofs.YtdhkfbolnkikgaaGreatDoor
end
/- Package eid: numbers written; a name's text. -/
section
open Go.RowKit Go.Pl Go.Av
namespace Go.Proofs.YtdhkfbolnkikgaaGreatDoor
set_option linter.unusedVariables false
set_option linter.unusedSimpArgs false
set_option maxHeartbeats 4000000
/-- the powers of ten are known -/
class KnownPow [Known] : Prop where
  pow : 0 ∈ Known.ks
theorem pow_cells : dcs Rows.laid_internal_strconv_uint64pow10 = (List.range 20).map (fun i => Value.int .u64 ((10 ^ i : Nat) : Int)) := by kernel_rfl
theorem pow_mem : ((0, dcs Rows.laid_internal_strconv_uint64pow10) : Nat × List Value) ∈ tabs := by
  unfold tabs
  repeat (first | exact List.mem_cons_self .. | apply List.mem_cons_of_mem)
theorem dec_len (n : Nat) (hn : n < 18446744073709551616) : (Lib.decDigits n).length ≤ 20 := by
  rw [Lib.decDigits_length]
  rcases Nat.eq_zero_or_pos n with rfl | h
  · rw [Lib.nDigits_small (by omega)]; omega
  · have := Lib.numDigits_eq n h hn; split at this <;> omega
theorem av_fmtI [Known] [KnownPow] (n : Nat) (hn : n < 18446744073709551616) : AP Tryz.prog 65 [.int .u64 (n : Int), .int .i64 10] (.str (Lib.decDigits n)) [] := by
  refine ⟨fun g w vs hmem hl hv => ?_⟩
  obtain ⟨v0, v1, rfl⟩ : ∃ v0 v1, vs = [v0, v1] := by
    match vs, hl with
    | [v0, v1], _ => exact ⟨v0, v1, rfl⟩
  have h0 := (hv 0 _ _ rfl rfl).int_inv
  have h1 := (hv 1 _ _ rfl rfl).int_inv
  subst h0 h1
  have hc : ∀ i, i < 20 → w.cell? ⟨0, i, none⟩ = some (.int .u64 ((10 ^ i : Nat) : Int)) := fun i hi =>
    (hmem.gl.1 _ _ ⟨KnownPow.pow, pow_mem⟩ i _ (by rw [pow_cells, List.getElem?_map, List.getElem?_range hi]; rfl)).2
  exact (fmtI_walk n hn w hc).mono fun e w' ⟨he, hb⟩ => endBelow hmem hb he (.str _ (by have := dec_len n hn; unfold maxLen; omega))
theorem av_fmtU [Known] [KnownPow] (n : Nat) (hn : n < 18446744073709551616) : AP Tryz.prog 58 [.int .u64 (n : Int), .int .i64 10] (.str (Lib.decDigits n)) [] := by
  have h := av_fmtI n hn
  refine AP.ofA ?_
  refine AC_of Tryz.func58 rfl Tryz.ntmps58 rfl rfl ?_
  repeat' (first | (apply AL_callPw (h); kernel_rfl; (iterate 4 exact rfl)) | (apply AL_move; exact rfl; exact rfl) | (apply AL_assign; exact rfl; exact rfl) | refine AL_nil ?_ | refine AW_region ?_ | refine AW_seq' ?_ | refine then_norm ?_ | refine AW_ret ?_)
  all_goals (apply endQ []; (repeat (first | exact ResL.nil | (apply ResL.cons; first | exact .tmp _ _ rfl | (apply res_n ttok; (iterate 6 exact rfl)) | (apply res_1 ttok; (iterate 5 exact rfl))))); (iterate 4 exact rfl))
  all_goals rfl
/-- a name's text -/
def textE (x : EidV) : List UInt8 :=
  if isZ x then [100, 116, 110, 58, 110, 111, 110, 101]
  else if x.i then [105, 112, 110, 58] ++ Lib.decDigits x.n ++ [46] ++ Lib.decDigits x.s
  else [100, 116, 110, 58] ++ pathE x
theorem av_eText [Known] [KnownPow] (x : EidV) : AP Tryz.prog 45 [.agg (eC x)] (.tup [.str (if eRight x then textE x else []), .int .i64 (if eRight x then 0 else 3)]) [] := by
  have hR := av_eRight x
  cases hr : eRight x with
  | false =>
    rw [hr] at hR
    refine AP.ofA ?_
    refine AC_of Tryz.func45 rfl Tryz.ntmps45 rfl rfl ?_
    repeat' (first | (apply AL_callPw (hR); kernel_rfl; (iterate 4 exact rfl)) | (apply AL_assign; exact rfl; exact rfl) | (apply AL_loadn ttok; (iterate 7 exact rfl)) | (apply AL_boxZ; (iterate 5 exact rfl)) | (apply AL_not; exact rfl; exact rfl) | refine AL_nil ?_ | refine AW_region ?_ | refine AW_seq' ?_ | (apply AW_condA; exact rfl; (first | with_reducible assumption | decide +kernel)) | refine then_norm ?_ | refine AW_block ?_ | refine AW_ret ?_ | refine then_ret ?_ | refine blk_ret ?_)
    all_goals (apply endQ []; (repeat (first | exact ResL.nil | (apply ResL.cons; first | exact .tmp _ _ rfl | (apply res_n ttok; (iterate 6 exact rfl)) | (apply res_1 ttok; (iterate 5 exact rfl))))); (iterate 4 exact rfl))
    all_goals rfl
  | true =>
    rw [hr] at hR
    rw [if_pos rfl, if_pos rfl]
    unfold textE
    cases hz : isZ x with
    | true =>
      rw [if_pos rfl]
      unfold isZ at hz
      refine AP.ofA ?_
      refine AC_of Tryz.func45 rfl Tryz.ntmps45 rfl rfl ?_
      repeat' (first | (apply AL_callPw (hR); kernel_rfl; (iterate 4 exact rfl)) | (apply AL_assign; exact rfl; exact rfl) | (apply AL_loadn ttok; (iterate 7 exact rfl)) | (apply AL_boxZ; (iterate 5 exact rfl)) | (apply AL_not; exact rfl; exact rfl) | refine AL_nil ?_ | refine AW_region ?_ | refine AW_seq' ?_ | (apply AW_condA; exact rfl; (first | with_reducible assumption | decide +kernel)) | (apply AW_condB; exact rfl; (first | with_reducible assumption | decide +kernel)) | refine then_norm ?_ | refine AW_block ?_ | refine AW_ret ?_ | refine then_ret ?_ | refine blk_ret ?_ | (apply AL_build ttok; (iterate 6 exact rfl)) | (apply AL_eqS ttok; (iterate 4 exact rfl); (kernel_rfl); (kernel_rfl); (iterate 3 exact rfl)))
      all_goals (apply endQ []; (repeat (first | exact ResL.nil | (apply ResL.cons; first | exact .tmp _ _ rfl | (apply res_n ttok; (iterate 6 exact rfl)) | (apply res_1 ttok; (iterate 5 exact rfl))))); (iterate 4 exact rfl))
      all_goals rfl
    | false =>
      rw [if_neg (by simp)]
      cases hi : x.i with
      | true =>
        obtain ⟨b1, b2, _⟩ := eRight_num hr hz hi
        rw [if_pos rfl]
        have f1 := av_fmtU x.n (by omega)
        have f2 := av_fmtU x.s (by omega)
        have d1 := dec_len x.n (by omega)
        have d2 := dec_len x.s (by omega)
        generalize Lib.decDigits x.n = p at *
        generalize Lib.decDigits x.s = q at *
        have l1 : [(105 : UInt8), 112, 110, 58].length + p.length ≤ maxLen := by simp; unfold maxLen; omega
        have l2 : ([(105 : UInt8), 112, 110, 58] ++ p).length + [(46 : UInt8)].length ≤ maxLen := by simp; unfold maxLen; omega
        have l3 : ([(105 : UInt8), 112, 110, 58] ++ p ++ [46]).length + q.length ≤ maxLen := by simp; unfold maxLen; omega
        unfold isZ at hz
        refine AP.ofA ?_
        refine AC_of Tryz.func45 rfl Tryz.ntmps45 rfl rfl ?_
        repeat' (first | (apply AL_callPw (hR); kernel_rfl; (iterate 4 exact rfl)) | (apply AL_callPw (f1); kernel_rfl; (iterate 4 exact rfl)) | (apply AL_callPw (f2); kernel_rfl; (iterate 4 exact rfl)) | (apply AL_cat; exact rfl; exact rfl; (first | exact l1 | exact l2 | exact l3); exact rfl) | (apply AL_assign; exact rfl; exact rfl) | (apply AL_load1 ttok; (iterate 6 exact rfl)) | (apply AL_loadn ttok; (iterate 7 exact rfl)) | (apply AL_fieldAddr ttok; (iterate 7 exact rfl)) | (apply AL_boxZ; (iterate 5 exact rfl)) | (apply AL_not; exact rfl; exact rfl) | refine AL_nil ?_ | refine AW_region ?_ | refine AW_seq' ?_ | (apply AW_condA; exact rfl; (first | with_reducible assumption | decide +kernel)) | (apply AW_condB; exact rfl; (first | with_reducible assumption | decide +kernel)) | refine then_norm ?_ | refine AW_block ?_ | refine AW_ret ?_ | refine then_ret ?_ | refine blk_ret ?_ | (apply AL_build ttok; (iterate 6 exact rfl)) | (apply AL_eqS ttok; (iterate 4 exact rfl); (kernel_rfl); (kernel_rfl); (iterate 3 exact rfl)) | (apply AW_drawE 8 hmix; (decide +kernel); (kernel_rfl); (kernel_rfl); (kernel_rfl); exact rfl; exact rfl) | (apply AE_consZ; (iterate 4 exact rfl)) | exact AE.nil _ _ _ _ | (apply AEk_puT; exact rfl) | (apply AOt_mk; exact rfl; exact rfl; (decide +kernel); exact rfl) | (apply AO_puT; exact rfl) | exact AO.nil _ _ _ | (apply AOs_skip; (decide +kernel)) | exact AOs.nil | exact qY_ok rfl rfl)
        all_goals (apply endQ []; (repeat (first | exact ResL.nil | (apply ResL.cons; first | exact .tmp _ _ rfl | (apply res_n ttok; (iterate 6 exact rfl)) | (apply res_1 ttok; (iterate 5 exact rfl))))); (iterate 4 exact rfl))
        all_goals rfl
      | false =>
        obtain ⟨_, _, _, b1, b2, _⟩ := eRight_txt hr hz hi
        rw [if_neg (by simp)]
        have hP := av_path x b1 b2
        have hpl : (pathE x).length ≤ 100 := by unfold pathE; simp; omega
        generalize pathE x = p at *
        have l1 : [(100 : UInt8), 116, 110, 58].length + p.length ≤ maxLen := by simp; unfold maxLen; omega
        unfold isZ at hz
        refine AP.ofA ?_
        refine AC_of Tryz.func45 rfl Tryz.ntmps45 rfl rfl ?_
        repeat' (first | (apply AL_callPw (hR); kernel_rfl; (iterate 4 exact rfl)) | (apply AL_callPw (hP); kernel_rfl; (iterate 4 exact rfl)) | (apply AL_cat; exact rfl; exact rfl; exact l1; exact rfl) | (apply AL_assign; exact rfl; exact rfl) | (apply AL_load1 ttok; (iterate 6 exact rfl)) | (apply AL_loadn ttok; (iterate 7 exact rfl)) | (apply AL_fieldAddr ttok; (iterate 7 exact rfl)) | (apply AL_boxZ; (iterate 5 exact rfl)) | (apply AL_not; exact rfl; exact rfl) | refine AL_nil ?_ | refine AW_region ?_ | refine AW_seq' ?_ | (apply AW_condB; exact rfl; (first | with_reducible assumption | decide +kernel)) | refine then_norm ?_ | refine AW_block ?_ | refine AW_ret ?_ | (apply AL_build ttok; (iterate 6 exact rfl)) | (apply AL_eqS ttok; (iterate 4 exact rfl); (kernel_rfl); (kernel_rfl); (iterate 3 exact rfl)) | refine AW_skip ?_)
        all_goals (apply endQ []; (repeat (first | exact ResL.nil | (apply ResL.cons; first | exact .tmp _ _ rfl | (apply res_n ttok; (iterate 6 exact rfl)) | (apply res_1 ttok; (iterate 5 exact rfl))))); (iterate 4 exact rfl))
        all_goals rfl
end Go.Proofs.YtdhkfbolnkikgaaGreatDoor
end
/- A name's text is short. -/
section
open Go.RowKit Go.Pl Go.Av
namespace Go.Proofs.YtdhkfbolnkikgaaGreatDoor
set_option linter.unusedVariables false
set_option linter.unusedSimpArgs false
set_option maxHeartbeats 4000000
theorem text_len {x : EidV} (h : eRight x = true) : (textE x).length ≤ 100 := by
  unfold textE
  cases hz : isZ x with
  | true => rw [if_pos rfl]; decide
  | false =>
    rw [if_neg (by simp)]
    cases hi : x.i with
    | true =>
      obtain ⟨b1, b2, _⟩ := eRight_num h hz hi
      have d1 := dec_len x.n (by omega)
      have d2 := dec_len x.s (by omega)
      rw [if_pos rfl]
      simp only [List.length_append, List.length_cons, List.length_nil]
      omega
    | false =>
      obtain ⟨_, _, _, b1, b2, _⟩ := eRight_txt h hz hi
      rw [if_neg (by simp)]
      unfold pathE
      simp only [List.length_append, List.length_cons, List.length_nil]
      omega
end Go.Proofs.YtdhkfbolnkikgaaGreatDoor
end
