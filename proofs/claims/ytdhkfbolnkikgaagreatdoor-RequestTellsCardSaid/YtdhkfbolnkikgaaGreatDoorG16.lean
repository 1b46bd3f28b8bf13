/- Package request: which requests may be; what is too much. -/
import Derived.Test.YtdhkfbolnkikgaaGreatDoorG15
section
open Go.RowKit Go.Pl Go.Av
namespace Go.Proofs.YtdhkfbolnkikgaaGreatDoor
set_option linter.unusedVariables false
set_option linter.unusedSimpArgs false
set_option maxHeartbeats 4000000
def rqRight (x : RqV) : Bool := decide ((x.id : Int) ≥ 1) && (decide ((x.id : Int) ≤ 1099511627776) && (rqParts x && rqSame x (rqOwn x)))
theorem av_rqRight [Known] (x : RqV) : AP Tryz.prog 11 [.agg (rqC x)] (.bool (rqRight x)) [] := by
  have hP := av_rqParts x
  have hO := av_rqOwn x
  have hS := av_rqSame x (rqOwn x)
  unfold rqRight
  generalize rqParts x = bP at *
  generalize rqSame x (rqOwn x) = bS at *
  generalize rqOwn x = y at *
  obtain ⟨id, kd, ⟨ei, en, es, eh, ed⟩, ⟨di, dn, dq, dh, dd⟩, pol, num, tik, pay, life, tok, on⟩ := x
  obtain ⟨yid, ykd, ⟨yei, yen, yes, yeh, yed⟩, ⟨ydi, ydn, ydq, ydh, ydd⟩, ypol, ynum, ytik, ypay, ylife, ytok, yon⟩ := y
  replace hP : AP Tryz.prog _ [.agg [.int .u64 (id : Int), .int .i64 kd, .bool ei, .int .u64 (en : Int), .int .u64 (es : Int), .str eh, .str ed, .bool di, .int .u64 (dn : Int), .int .u64 (dq : Int), .str dh, .str dd, .int .i64 pol, .int .i64 num, .int .i64 tik, .sl .ext (pay.map E.byte), .int .u64 (life : Int), .int .u64 (tok : Int), .bool on]] _ [] := hP
  replace hO : AP Tryz.prog _ [.agg [.int .u64 (id : Int), .int .i64 kd, .bool ei, .int .u64 (en : Int), .int .u64 (es : Int), .str eh, .str ed, .bool di, .int .u64 (dn : Int), .int .u64 (dq : Int), .str dh, .str dd, .int .i64 pol, .int .i64 num, .int .i64 tik, .sl .ext (pay.map E.byte), .int .u64 (life : Int), .int .u64 (tok : Int), .bool on]] (.agg [.int .u64 (yid : Int), .int .i64 ykd, .bool yei, .int .u64 (yen : Int), .int .u64 (yes : Int), .str yeh, .str yed, .bool ydi, .int .u64 (ydn : Int), .int .u64 (ydq : Int), .str ydh, .str ydd, .int .i64 ypol, .int .i64 ynum, .int .i64 ytik, .sl .ext (ypay.map E.byte), .int .u64 (ylife : Int), .int .u64 (ytok : Int), .bool yon]) [] := hO
  replace hS : AP Tryz.prog _ [.agg [.int .u64 (id : Int), .int .i64 kd, .bool ei, .int .u64 (en : Int), .int .u64 (es : Int), .str eh, .str ed, .bool di, .int .u64 (dn : Int), .int .u64 (dq : Int), .str dh, .str dd, .int .i64 pol, .int .i64 num, .int .i64 tik, .sl .ext (pay.map E.byte), .int .u64 (life : Int), .int .u64 (tok : Int), .bool on], .agg [.int .u64 (yid : Int), .int .i64 ykd, .bool yei, .int .u64 (yen : Int), .int .u64 (yes : Int), .str yeh, .str yed, .bool ydi, .int .u64 (ydn : Int), .int .u64 (ydq : Int), .str ydh, .str ydd, .int .i64 ypol, .int .i64 ynum, .int .i64 ytik, .sl .ext (ypay.map E.byte), .int .u64 (ylife : Int), .int .u64 (ytok : Int), .bool yon]] _ [] := hS
  show AP Tryz.prog _ [.agg [.int .u64 (id : Int), .int .i64 kd, .bool ei, .int .u64 (en : Int), .int .u64 (es : Int), .str eh, .str ed, .bool di, .int .u64 (dn : Int), .int .u64 (dq : Int), .str dh, .str dd, .int .i64 pol, .int .i64 num, .int .i64 tik, .sl .ext (pay.map E.byte), .int .u64 (life : Int), .int .u64 (tok : Int), .bool on]] (.bool (decide ((id : Int) ≥ 1) && (decide ((id : Int) ≤ 1099511627776) && (bP && bS)))) []
  cases t1 : decide ((id : Int) ≥ 1) with
  | false =>
    refine AP.ofA ?_
    refine AC_of Tryz.func11 rfl Tryz.ntmps11 rfl rfl ?_
    repeat' (first | (apply AL_move; exact rfl; exact rfl) | (apply AL_assign; exact rfl; exact rfl) | (apply AL_bin; (iterate 5 exact rfl)) | (apply AL_load1 ttok; (iterate 6 exact rfl)) | (apply AL_fieldAddr ttok; (iterate 7 exact rfl)) | (apply AL_boxZ; (iterate 5 exact rfl)) | refine AL_nil ?_ | (apply AL_guardFt; (iterate 3 exact rfl); (first | with_reducible assumption | decide +kernel)) | (apply AL_pickF; exact rfl; (first | with_reducible assumption | decide +kernel); exact rfl; exact rfl) | refine AW_region ?_ | refine AW_seq' ?_ | refine then_norm ?_ | refine AW_ret ?_ | (apply AW_drawE 16 hmix; (decide +kernel); (kernel_rfl); (kernel_rfl); (kernel_rfl); exact rfl; exact rfl) | (apply AE_consZ; (iterate 4 exact rfl)) | exact AE.nil _ _ _ _ | (apply AEk_puT; exact rfl) | (apply AOt_mk; exact rfl; exact rfl; (decide +kernel); exact rfl) | (apply AO_puT; exact rfl) | exact AO.nil _ _ _ | (apply AOs_skip; (decide +kernel)) | exact AOs.nil | exact qY_ok rfl rfl)
    all_goals (apply endQ []; (repeat (first | exact ResL.nil | (apply ResL.cons; first | exact .tmp _ _ rfl | (apply res_n ttok; (iterate 6 exact rfl)) | (apply res_1 ttok; (iterate 5 exact rfl))))); (iterate 4 exact rfl))
    all_goals rfl
  | true =>
    cases t2 : decide ((id : Int) ≤ 1099511627776) with
    | false =>
      refine AP.ofA ?_
      refine AC_of Tryz.func11 rfl Tryz.ntmps11 rfl rfl ?_
      repeat' (first | (apply AL_move; exact rfl; exact rfl) | (apply AL_assign; exact rfl; exact rfl) | (apply AL_bin; (iterate 5 exact rfl)) | (apply AL_load1 ttok; (iterate 6 exact rfl)) | (apply AL_fieldAddr ttok; (iterate 7 exact rfl)) | (apply AL_boxZ; (iterate 5 exact rfl)) | refine AL_nil ?_ | (apply AL_guardT; (iterate 3 exact rfl); (first | with_reducible assumption | decide +kernel)) | (apply AL_guardFt; (iterate 3 exact rfl); (first | with_reducible assumption | decide +kernel)) | (apply AL_pickT; exact rfl; (first | with_reducible assumption | decide +kernel); exact rfl; exact rfl) | (apply AL_pickF; exact rfl; (first | with_reducible assumption | decide +kernel); exact rfl; exact rfl) | refine AW_region ?_ | refine AW_seq' ?_ | refine then_norm ?_ | refine AW_ret ?_ | (apply AW_drawE 16 hmix; (decide +kernel); (kernel_rfl); (kernel_rfl); (kernel_rfl); exact rfl; exact rfl) | (apply AE_consZ; (iterate 4 exact rfl)) | exact AE.nil _ _ _ _ | (apply AEk_puT; exact rfl) | (apply AOt_mk; exact rfl; exact rfl; (decide +kernel); exact rfl) | (apply AO_puT; exact rfl) | exact AO.nil _ _ _ | (apply AOs_skip; (decide +kernel)) | exact AOs.nil | exact qY_ok rfl rfl)
      all_goals (apply endQ []; (repeat (first | exact ResL.nil | (apply ResL.cons; first | exact .tmp _ _ rfl | (apply res_n ttok; (iterate 6 exact rfl)) | (apply res_1 ttok; (iterate 5 exact rfl))))); (iterate 4 exact rfl))
      all_goals rfl
    | true =>
      cases bP with
      | false =>
        refine AP.ofA ?_
        refine AC_of Tryz.func11 rfl Tryz.ntmps11 rfl rfl ?_
        repeat' (first | (apply AL_callPw (hP); kernel_rfl; (iterate 4 exact rfl)) | (apply AL_move; exact rfl; exact rfl) | (apply AL_assign; exact rfl; exact rfl) | (apply AL_bin; (iterate 5 exact rfl)) | (apply AL_load1 ttok; (iterate 6 exact rfl)) | (apply AL_loadn ttok; (iterate 7 exact rfl)) | (apply AL_fieldAddr ttok; (iterate 7 exact rfl)) | (apply AL_boxZ; (iterate 5 exact rfl)) | refine AL_nil ?_ | (apply AL_guardT; (iterate 3 exact rfl); (first | with_reducible assumption | decide +kernel)) | (apply AL_guardFt; (iterate 3 exact rfl); (first | with_reducible assumption | decide +kernel)) | (apply AL_pickT; exact rfl; (first | with_reducible assumption | decide +kernel); exact rfl; exact rfl) | (apply AL_pickF; exact rfl; (first | with_reducible assumption | decide +kernel); exact rfl; exact rfl) | refine AW_region ?_ | refine AW_seq' ?_ | refine then_norm ?_ | refine AW_ret ?_ | (apply AW_drawE 16 hmix; (decide +kernel); (kernel_rfl); (kernel_rfl); (kernel_rfl); exact rfl; exact rfl) | (apply AE_consZ; (iterate 4 exact rfl)) | exact AE.nil _ _ _ _ | (apply AEk_puT; exact rfl) | (apply AOt_mk; exact rfl; exact rfl; (decide +kernel); exact rfl) | (apply AO_puT; exact rfl) | exact AO.nil _ _ _ | (apply AOs_skip; (decide +kernel)) | exact AOs.nil | exact qY_ok rfl rfl)
        all_goals (apply endQ []; (repeat (first | exact ResL.nil | (apply ResL.cons; first | exact .tmp _ _ rfl | (apply res_n ttok; (iterate 6 exact rfl)) | (apply res_1 ttok; (iterate 5 exact rfl))))); (iterate 4 exact rfl))
        all_goals rfl
      | true =>
        refine AP.ofA ?_
        refine AC_of Tryz.func11 rfl Tryz.ntmps11 rfl rfl ?_
        repeat' (first | (apply AL_callPw (hP); kernel_rfl; (iterate 4 exact rfl)) | (apply AL_callPw (hO); kernel_rfl; (iterate 4 exact rfl)) | (apply AL_callPw (hS); kernel_rfl; (iterate 4 exact rfl)) | (apply AL_move; exact rfl; exact rfl) | (apply AL_assign; exact rfl; exact rfl) | (apply AL_bin; (iterate 5 exact rfl)) | (apply AL_load1 ttok; (iterate 6 exact rfl)) | (apply AL_loadn ttok; (iterate 7 exact rfl)) | (apply AL_fieldAddr ttok; (iterate 7 exact rfl)) | (apply AL_boxZ; (iterate 5 exact rfl)) | refine AL_nil ?_ | (apply AL_guardT; (iterate 3 exact rfl); (first | with_reducible assumption | decide +kernel)) | (apply AL_pickT; exact rfl; (first | with_reducible assumption | decide +kernel); exact rfl; exact rfl) | refine AW_region ?_ | refine AW_seq' ?_ | refine then_norm ?_ | refine AW_ret ?_ | (apply AW_drawE 16 hmix; (decide +kernel); (kernel_rfl); (kernel_rfl); (kernel_rfl); exact rfl; exact rfl) | (apply AE_consZ; (iterate 4 exact rfl)) | exact AE.nil _ _ _ _ | (apply AEk_puT; exact rfl) | (apply AOt_mk; exact rfl; exact rfl; (decide +kernel); exact rfl) | (apply AO_puT; exact rfl) | exact AO.nil _ _ _ | (apply AOs_skip; (decide +kernel)) | exact AOs.nil | exact qY_ok rfl rfl)
        all_goals (apply endQ []; (repeat (first | exact ResL.nil | (apply ResL.cons; first | exact .tmp _ _ rfl | (apply res_n ttok; (iterate 6 exact rfl)) | (apply res_1 ttok; (iterate 5 exact rfl))))); (iterate 4 exact rfl))
        all_goals rfl
def rqGreat (x : RqV) : Bool := decide ((x.pay.length : Int) > 400) || decide (IntKind.i64.wrap (IntKind.i64.wrap (IntKind.i64.wrap ((x.ep.h.length : Int) + (x.ep.d.length : Int)) + (x.ds.h.length : Int)) + (x.ds.d.length : Int)) > 300)
theorem av_rqGreat [Known] (x : RqV) : AP Tryz.prog 4 [.agg (rqC x)] (.bool (rqGreat x)) [] := by
  have hbl : (x.pay.map E.byte).length = x.pay.length := List.length_map ..
  unfold rqGreat
  refine AP.ofA ?_
  refine AC_of Tryz.func4 rfl Tryz.ntmps4 rfl rfl ?_
  repeat' (first | (apply AL_move; exact rfl; exact rfl) | (apply AL_assign; exact rfl; exact rfl) | (apply AL_bin; (iterate 5 exact rfl)) | (apply AL_load1 ttok; (iterate 6 exact rfl)) | (apply AL_fieldAddr ttok; (iterate 7 exact rfl)) | (apply AL_box; (iterate 5 exact rfl)) | refine AL_nil ?_ | (apply AL_guardT; (iterate 3 exact rfl); (first | with_reducible assumption | (guard_target =ₛ true = true; rfl) | (guard_target =ₛ false = false; rfl) | (guard_target =ₛ (!true) = false; rfl) | (guard_target =ₛ (!false) = true; rfl))) | (apply AL_guardFf; (iterate 3 exact rfl); (first | with_reducible assumption | (guard_target =ₛ true = true; rfl) | (guard_target =ₛ false = false; rfl) | (guard_target =ₛ (!true) = false; rfl) | (guard_target =ₛ (!false) = true; rfl))) | (apply AL_guardS; exact rfl; exact rfl; all_goals intro hb) | (apply AL_pickT; exact rfl; (first | with_reducible assumption | (guard_target =ₛ true = true; rfl) | (guard_target =ₛ false = false; rfl) | (guard_target =ₛ (!true) = false; rfl) | (guard_target =ₛ (!false) = true; rfl)); exact rfl; exact rfl) | (apply AL_pickF; exact rfl; (first | with_reducible assumption | (guard_target =ₛ true = true; rfl) | (guard_target =ₛ false = false; rfl) | (guard_target =ₛ (!true) = false; rfl) | (guard_target =ₛ (!false) = true; rfl)); exact rfl; exact rfl) | refine AW_region ?_ | refine AW_seq' ?_ | refine then_norm ?_ | refine AW_ret ?_ | (apply AL_len ttok; (iterate 4 exact rfl)) | (apply AL_lens ttok; (iterate 4 exact rfl)))
  all_goals (apply endQ []; (repeat (first | exact ResL.nil | (apply ResL.cons; first | exact .tmp _ _ rfl | (apply res_n ttok; (iterate 6 exact rfl)) | (apply res_1 ttok; (iterate 5 exact rfl))))); (iterate 4 exact rfl))
  all_goals first | rfl | (rw [hbl] at hb; rw [hb]; rfl)
end Go.Proofs.YtdhkfbolnkikgaaGreatDoor
end
/- RequestOwn, plain: a part that is not a kind's. -/
section
open Go.RowKit Go.Pl Go.Av
namespace Go.Proofs.YtdhkfbolnkikgaaGreatDoor
set_option linter.unusedVariables false
set_option linter.unusedSimpArgs false
theorem rq_kind {x : RqV} (h : rqRight x = true) : x.kd = 1 ∨ x.kd = 2 ∨ x.kd = 3 ∨ x.kd = 4 ∨ x.kd = 5 ∨ x.kd = 6 ∨ x.kd = 7 ∨ x.kd = 8 ∨ x.kd = 9 ∨ x.kd = 10 ∨ x.kd = 11 ∨ x.kd = 12 := by
  rcases kcase x.kd with h1 | h1 | h1 | h1 | h1 | h1 | h1 | h1 | h1 | h1 | h1 | h1 | ⟨n1, n2, n3, n4, n5, n6, n7, n8, n9, n10, n11, n12⟩
  all_goals first | (simp [h1]; done) | skip
  exfalso
  unfold rqRight rqParts at h
  simp [n1, n2, n3, n4, n5, n6, n7, n8, n9, n10, n11, n12] at h
end Go.Proofs.YtdhkfbolnkikgaaGreatDoor
end
