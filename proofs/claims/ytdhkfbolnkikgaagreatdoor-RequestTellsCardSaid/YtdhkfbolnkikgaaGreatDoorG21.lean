/- Package eid: the name of two numbers. -/
import Derived.Test.YtdhkfbolnkikgaaGreatDoorG20
section
open Go.RowKit Go.Pl Go.Av
namespace Go.Proofs.YtdhkfbolnkikgaaGreatDoor
set_option linter.unusedVariables false
set_option linter.unusedSimpArgs false
set_option maxHeartbeats 4000000
theorem pn_c3 [Known] (s a b da db : List UInt8) (n m : Nat) (k : Bool) (R : Bool) (hC : AP Tryz.prog 67 [.str s, .str [46]] (.tup [.str a, .str b, .bool k]) [])
    (hA : AP Tryz.prog 68 [.str a, .int .i64 10, .int .i64 32] (.tup [.int .u64 (n : Int), .nili]) []) (hB : AP Tryz.prog 68 [.str b, .int .i64 10, .int .i64 32] (.tup [.int .u64 (m : Int), (.iface 129 .junk)]) [])
    (hF1 : AP Tryz.prog 58 [.int .u64 (n : Int), .int .i64 10] (.str da) []) (hF2 : AP Tryz.prog 58 [.int .u64 (m : Int), .int .i64 10] (.str db) [])
    (hR : AP Tryz.prog 57 [.agg [.bool true, .int .u64 (n : Int), .int .u64 (m : Int), .str [], .str []]] (.bool R) []) : AP Tryz.prog 61 [.str s] (.tup [.agg [.bool true, .int .u64 (n : Int), .int .u64 (m : Int), .str [], .str []], .bool false]) [] := by
  cases k
  all_goals
    refine AP.ofA ?_
    refine AC_of Tryz.func61 rfl Tryz.ntmps61 rfl rfl ?_
    repeat' (first | (apply AL_callPw (hC); kernel_rfl; (iterate 4 exact rfl)) | (apply AL_callPw (hA); kernel_rfl; (iterate 4 exact rfl)) | (apply AL_callPw (hB); kernel_rfl; (iterate 4 exact rfl)) | (apply AL_ifnil; exact rfl; exact err_u; exact rfl; exact rfl) | (apply AL_ifnot; exact rfl; exact err_u; exact rfl; exact rfl) | (apply AL_move; exact rfl; exact rfl) | (apply AL_assign; exact rfl; exact rfl) | (apply AL_loadn ttok; (iterate 7 exact rfl)) | (apply AL_store ttok; (iterate 8 exact rfl)) | (apply AL_extract; (iterate 3 exact rfl)) | refine AL_nil ?_ | (apply AL_guardT; (iterate 3 exact rfl); (first | with_reducible assumption | decide +kernel)) | (apply AL_guardFt; (iterate 3 exact rfl); (first | with_reducible assumption | decide +kernel)) | (apply AL_pickT; exact rfl; (first | with_reducible assumption | decide +kernel); exact rfl; exact rfl) | (apply AL_pickF; exact rfl; (first | with_reducible assumption | decide +kernel); exact rfl; exact rfl) | refine AW_region ?_ | refine AW_seq' ?_ | refine then_norm ?_ | refine AW_ret ?_ | (apply AL_build ttok; (iterate 6 exact rfl)) | (apply AL_allocZ ttok; (iterate 4 exact rfl)) | (apply AW_drawE 27 hmix; (decide +kernel); (kernel_rfl); (kernel_rfl); (kernel_rfl); exact rfl; exact rfl) | (apply AE_consZ; (iterate 4 exact rfl)) | exact AE.nil _ _ _ _ | (apply AEk_puT; exact rfl) | (apply AEk_ef; exact rfl) | (apply AOt_mk; exact rfl; exact rfl; (decide +kernel); exact rfl) | (apply AO_puT; exact rfl) | (apply AO_ef; exact rfl) | exact AO.nil _ _ _ | (apply AOs_skip; (decide +kernel)) | (apply AOs_goZ; (iterate 3 exact rfl)) | exact AOs.nil | exact qY_ok rfl rfl | exact qY_efn rfl)
    all_goals (apply endQ []; (repeat (first | exact ResL.nil | (apply ResL.cons; first | exact .tmp _ _ rfl | (apply res_n ttok; (iterate 6 exact rfl)) | (apply res_1 ttok; (iterate 5 exact rfl))))); (iterate 4 exact rfl))
    all_goals rfl
end Go.Proofs.YtdhkfbolnkikgaaGreatDoor
end
/- Package eid: the name of two numbers. -/
section
open Go.RowKit Go.Pl Go.Av
namespace Go.Proofs.YtdhkfbolnkikgaaGreatDoor
set_option linter.unusedVariables false
set_option linter.unusedSimpArgs false
set_option maxHeartbeats 4000000
theorem pn_c6 [Known] (s a b da db : List UInt8) (n m : Nat) (f1 f2 : Bool) (hC : AP Tryz.prog 67 [.str s, .str [46]] (.tup [.str a, .str b, .bool true]) [])
    (hA : AP Tryz.prog 68 [.str a, .int .i64 10, .int .i64 32] (.tup [.int .u64 (n : Int), .nili]) []) (hB : AP Tryz.prog 68 [.str b, .int .i64 10, .int .i64 32] (.tup [.int .u64 (m : Int), .nili]) [])
    (hF1 : AP Tryz.prog 58 [.int .u64 (n : Int), .int .i64 10] (.str da) []) (hF2 : AP Tryz.prog 58 [.int .u64 (m : Int), .int .i64 10] (.str db) [])
    (hR : AP Tryz.prog 57 [.agg [.bool true, .int .u64 (n : Int), .int .u64 (m : Int), .str [], .str []]] (.bool true) []) (h1 : (da == a) = f1) (h2 : (db == b) = f2) : AP Tryz.prog 61 [.str s] (.tup [.agg [.bool true, .int .u64 (n : Int), .int .u64 (m : Int), .str [], .str []], .bool (f1 && f2)]) [] := by
  cases f1 <;> cases f2
  all_goals
    refine AP.ofA ?_
    refine AC_of Tryz.func61 rfl Tryz.ntmps61 rfl rfl ?_
    repeat' (first | rw [h1] | rw [h2] | (apply AL_callPw (hC); kernel_rfl; (iterate 4 exact rfl)) | (apply AL_callPw (hA); kernel_rfl; (iterate 4 exact rfl)) | (apply AL_callPw (hB); kernel_rfl; (iterate 4 exact rfl)) | (apply AL_callPw (hR); kernel_rfl; (iterate 4 exact rfl)) | (apply AL_callPw (hF1); kernel_rfl; (iterate 4 exact rfl)) | (apply AL_callPw (hF2); kernel_rfl; (iterate 4 exact rfl)) | (apply AL_ifnil; exact rfl; exact err_u; exact rfl; exact rfl) | (apply AL_move; exact rfl; exact rfl) | (apply AL_assign; exact rfl; exact rfl) | (apply AL_loadn ttok; (iterate 7 exact rfl)) | (apply AL_store ttok; (iterate 8 exact rfl)) | (apply AL_extract; (iterate 3 exact rfl)) | refine AL_nil ?_ | (apply AL_guardT; (iterate 3 exact rfl); (first | with_reducible assumption | decide +kernel)) | (apply AL_guardFt; (iterate 3 exact rfl); (first | with_reducible assumption | decide +kernel)) | (apply AL_pickT; exact rfl; (first | with_reducible assumption | decide +kernel); exact rfl; exact rfl) | (apply AL_pickF; exact rfl; (first | with_reducible assumption | decide +kernel); exact rfl; exact rfl) | refine AW_region ?_ | refine AW_seq' ?_ | refine then_norm ?_ | refine AW_ret ?_ | (apply AL_build ttok; (iterate 6 exact rfl)) | (apply AL_allocZ ttok; (iterate 4 exact rfl)) | (apply AL_str; (iterate 5 exact rfl)) | (apply AW_drawE 27 hmix; (decide +kernel); (kernel_rfl); (kernel_rfl); (kernel_rfl); exact rfl; exact rfl) | (apply AE_consZ; (iterate 4 exact rfl)) | exact AE.nil _ _ _ _ | (apply AEk_puT; exact rfl) | (apply AEk_ef; exact rfl) | (apply AOt_mk; exact rfl; exact rfl; (decide +kernel); exact rfl) | (apply AO_puT; exact rfl) | (apply AO_ef; exact rfl) | exact AO.nil _ _ _ | (apply AOs_skip; (decide +kernel)) | (apply AOs_goZ; (iterate 3 exact rfl)) | exact AOs.nil | exact qY_ok rfl rfl | exact qY_efn rfl)
    all_goals (apply endQ []; (repeat (first | exact ResL.nil | (apply ResL.cons; first | exact .tmp _ _ rfl | (apply res_n ttok; (iterate 6 exact rfl)) | (apply res_1 ttok; (iterate 5 exact rfl))))); (iterate 4 exact rfl))
    all_goals rfl
end Go.Proofs.YtdhkfbolnkikgaaGreatDoor
end
/- Package eid: the name of a text. -/
section
open Go.RowKit Go.Pl Go.Av
namespace Go.Proofs.YtdhkfbolnkikgaaGreatDoor
set_option linter.unusedVariables false
set_option linter.unusedSimpArgs false
set_option maxHeartbeats 4000000
theorem av_pn [Known] [KnownSc] [KnownPow] (s : List UInt8) (hs : s.length ≤ 1099511627776) : AP Tryz.prog 61 [.str s] (.tup [.agg (eC (pnV s).1), .bool (pnV s).2]) [] := by
  have hC := av_cut s 46 (by omega)
  have hl := cutV_len 46 s
  unfold pnV
  dsimp only
  generalize (cutV 46 s).1 = a at *
  generalize (cutV 46 s).2.1 = b at *
  generalize (cutV 46 s).2.2 = k at *
  have hA := av_parseU a (by omega)
  have hB := av_parseU b (by omega)
  rw [puD_eq] at hA hB
  have ha := puN_le a
  have hb := puN_le b
  have hF1 := av_fmtU (puN a) (by omega)
  have hF2 := av_fmtU (puN b) (by omega)
  have hR := av_eRight ⟨true, puN a, puN b, [], []⟩
  generalize eRight ⟨true, puN a, puN b, [], []⟩ = R at *
  generalize puN a = n at *
  generalize puN b = m at *
  generalize puB a = pa at *
  generalize puB b = pb at *
  generalize Lib.decDigits n = da at *
  generalize Lib.decDigits m = db at *
  replace hR : AP Tryz.prog _ [.agg [.bool true, .int .u64 (n : Int), .int .u64 (m : Int), .str [], .str []]] (.bool R) [] := hR
  show AP Tryz.prog _ _ (.tup [.agg [.bool true, .int .u64 (n : Int), .int .u64 (m : Int), .str [], .str []], _]) _
  clear ha hb hl
  have hf1 : ∃ f1, (da == a) = f1 := ⟨_, rfl⟩
  have hf2 : ∃ f2, (db == b) = f2 := ⟨_, rfl⟩
  obtain ⟨f1, h1⟩ := hf1
  obtain ⟨f2, h2⟩ := hf2
  rw [h1, h2]
  cases pa with
  | false =>
    rw [show (k && (false && (pb && (R && (f1 && f2))))) = false by simp]
    cases pb with
    | false => exact pn_c1 s a b da db n m k R hC hA hB hF1 hF2 hR
    | true => exact pn_c2 s a b da db n m k R hC hA hB hF1 hF2 hR
  | true =>
    cases pb with
    | false =>
      rw [show (k && (true && (false && (R && (f1 && f2))))) = false by simp]
      exact pn_c3 s a b da db n m k R hC hA hB hF1 hF2 hR
    | true =>
      cases k with
      | false => exact pn_c4 s a b da db n m R hC hA hB hF1 hF2 hR
      | true =>
        cases R with
        | false => exact pn_c5 s a b da db n m hC hA hB hF1 hF2 hR
        | true => exact pn_c6 s a b da db n m f1 f2 hC hA hB hF1 hF2 hR h1 h2
theorem av_parse [Known] [KnownSc] [KnownPow] (s : List UInt8) (hs : s.length ≤ 1099511627776) : AP Tryz.prog 50 [.str s] (.tup [.agg (eC (if (parseE s).2 then (parseE s).1 else eidZ)), .int .i64 (if (parseE s).2 then 0 else 3)]) [] := by
  have hI := av_cutPre s ipnT (by omega) (by decide)
  have hD := av_cutPre s dtnT (by omega) (by decide)
  have l1 := preV_len ipnT s
  have l2 := preV_len dtnT s
  have hN := av_pn (preV ipnT s).1 (by omega)
  have hP := av_pp (preV dtnT s).1 (by omega)
  unfold parseE
  generalize pnV (preV ipnT s).1 = xn at *
  generalize ppV (preV dtnT s).1 = xp at *
  obtain ⟨⟨ni, nn, ns, nh, nd⟩, nb⟩ := xn
  obtain ⟨⟨qi, qn, qs, qh, qd⟩, qb⟩ := xp
  generalize (preV ipnT s).1 = r1 at *
  generalize (preV ipnT s).2 = k1 at *
  generalize (preV dtnT s).1 = r2 at *
  generalize (preV dtnT s).2 = k2 at *
  obtain ⟨z, h0⟩ : ∃ z, (s == noneT) = z := ⟨_, rfl⟩
  rw [h0]
  replace h0 : (s == [100, 116, 110, 58, 110, 111, 110, 101]) = z := h0
  replace hI : AP Tryz.prog _ [.str s, .str [105, 112, 110, 58]] _ [] := hI
  replace hD : AP Tryz.prog _ [.str s, .str [100, 116, 110, 58]] _ [] := hD
  replace hN : AP Tryz.prog _ [.str r1] (.tup [.agg [.bool ni, .int .u64 (nn : Int), .int .u64 (ns : Int), .str nh, .str nd], .bool nb]) [] := hN
  replace hP : AP Tryz.prog _ [.str r2] (.tup [.agg [.bool qi, .int .u64 (qn : Int), .int .u64 (qs : Int), .str qh, .str qd], .bool qb]) [] := hP
  cases z with
  | true =>
    refine AP.ofA ?_
    refine AC_of Tryz.func50 rfl Tryz.ntmps50 rfl rfl ?_
    repeat' (first | (apply AL_move; exact rfl; exact rfl) | (apply AL_assign; exact rfl; exact rfl) | (apply AL_store ttok; (iterate 8 exact rfl)) | refine AL_nil ?_ | refine AW_region ?_ | refine AW_seq' ?_ | (apply AW_condA; exact rfl; (first | with_reducible assumption | decide +kernel)) | refine then_norm ?_ | refine AW_ret ?_ | refine then_ret ?_ | (apply AL_build ttok; (iterate 6 exact rfl)) | (apply AL_allocZ ttok; (iterate 4 exact rfl)) | (apply AL_str; (iterate 5 exact rfl)))
    all_goals (apply endQ []; (repeat (first | exact ResL.nil | (apply ResL.cons; first | exact .tmp _ _ rfl | (apply res_n ttok; (iterate 6 exact rfl)) | (apply res_1 ttok; (iterate 5 exact rfl))))); (iterate 4 exact rfl))
    all_goals rfl
  | false =>
    cases k1 with
    | true =>
      cases nb
      all_goals
        refine AP.ofA ?_
        refine AC_of Tryz.func50 rfl Tryz.ntmps50 rfl rfl ?_
        repeat' (first | (apply AL_callPw (hI); kernel_rfl; (iterate 4 exact rfl)) | (apply AL_callPw (hN); kernel_rfl; (iterate 4 exact rfl)) | (apply AL_move; exact rfl; exact rfl) | (apply AL_assign; exact rfl; exact rfl) | (apply AL_loadn ttok; (iterate 7 exact rfl)) | (apply AL_store ttok; (iterate 8 exact rfl)) | (apply AL_not; exact rfl; exact rfl) | (apply AL_extract; (iterate 3 exact rfl)) | refine AL_nil ?_ | refine AW_region ?_ | refine AW_seq' ?_ | (apply AW_condA; exact rfl; (first | with_reducible assumption | decide +kernel)) | (apply AW_condB; exact rfl; (first | with_reducible assumption | decide +kernel)) | refine then_norm ?_ | refine AW_ret ?_ | refine then_ret ?_ | (apply AL_build ttok; (iterate 6 exact rfl)) | (apply AL_allocZ ttok; (iterate 4 exact rfl)) | (apply AL_str; (iterate 5 exact rfl)) | refine AW_skip ?_)
        all_goals (apply endQ []; (repeat (first | exact ResL.nil | (apply ResL.cons; first | exact .tmp _ _ rfl | (apply res_n ttok; (iterate 6 exact rfl)) | (apply res_1 ttok; (iterate 5 exact rfl))))); (iterate 4 exact rfl))
        all_goals rfl
    | false =>
      cases k2 with
      | false =>
        refine AP.ofA ?_
        refine AC_of Tryz.func50 rfl Tryz.ntmps50 rfl rfl ?_
        repeat' (first | (apply AL_callPw (hI); kernel_rfl; (iterate 4 exact rfl)) | (apply AL_callPw (hD); kernel_rfl; (iterate 4 exact rfl)) | (apply AL_move; exact rfl; exact rfl) | (apply AL_assign; exact rfl; exact rfl) | (apply AL_store ttok; (iterate 8 exact rfl)) | (apply AL_not; exact rfl; exact rfl) | (apply AL_extract; (iterate 3 exact rfl)) | refine AL_nil ?_ | refine AW_region ?_ | refine AW_seq' ?_ | (apply AW_condA; exact rfl; (first | with_reducible assumption | decide +kernel)) | (apply AW_condB; exact rfl; (first | with_reducible assumption | decide +kernel)) | refine then_norm ?_ | refine AW_ret ?_ | refine then_ret ?_ | (apply AL_build ttok; (iterate 6 exact rfl)) | (apply AL_allocZ ttok; (iterate 4 exact rfl)) | (apply AL_str; (iterate 5 exact rfl)) | refine AW_skip ?_)
        all_goals (apply endQ []; (repeat (first | exact ResL.nil | (apply ResL.cons; first | exact .tmp _ _ rfl | (apply res_n ttok; (iterate 6 exact rfl)) | (apply res_1 ttok; (iterate 5 exact rfl))))); (iterate 4 exact rfl))
        all_goals rfl
      | true =>
        cases qb
        all_goals
          refine AP.ofA ?_
          refine AC_of Tryz.func50 rfl Tryz.ntmps50 rfl rfl ?_
          repeat' (first | (apply AL_callPw (hI); kernel_rfl; (iterate 4 exact rfl)) | (apply AL_callPw (hD); kernel_rfl; (iterate 4 exact rfl)) | (apply AL_callPw (hP); kernel_rfl; (iterate 4 exact rfl)) | (apply AL_move; exact rfl; exact rfl) | (apply AL_assign; exact rfl; exact rfl) | (apply AL_loadn ttok; (iterate 7 exact rfl)) | (apply AL_store ttok; (iterate 8 exact rfl)) | (apply AL_not; exact rfl; exact rfl) | (apply AL_extract; (iterate 3 exact rfl)) | refine AL_nil ?_ | refine AW_region ?_ | refine AW_seq' ?_ | (apply AW_condA; exact rfl; (first | with_reducible assumption | decide +kernel)) | (apply AW_condB; exact rfl; (first | with_reducible assumption | decide +kernel)) | refine then_norm ?_ | refine AW_ret ?_ | refine then_ret ?_ | (apply AL_build ttok; (iterate 6 exact rfl)) | (apply AL_allocZ ttok; (iterate 4 exact rfl)) | (apply AL_str; (iterate 5 exact rfl)) | refine AW_skip ?_)
          all_goals (apply endQ []; (repeat (first | exact ResL.nil | (apply ResL.cons; first | exact .tmp _ _ rfl | (apply res_n ttok; (iterate 6 exact rfl)) | (apply res_1 ttok; (iterate 5 exact rfl))))); (iterate 4 exact rfl))
          all_goals rfl
end Go.Proofs.YtdhkfbolnkikgaaGreatDoor
end
