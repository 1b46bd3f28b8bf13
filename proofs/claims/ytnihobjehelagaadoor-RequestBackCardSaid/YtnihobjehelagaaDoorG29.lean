/- RequestBack: the law's walk, by cases (a cut). -/
import Derived.Test.YtnihobjehelagaaDoorG11
import Derived.Test.YtnihobjehelagaaDoorG12
import Derived.Test.YtnihobjehelagaaDoorG26
import Derived.Test.YtnihobjehelagaaDoorG27
import Derived.Test.YtnihobjehelagaaDoorG28
import Derived.Test.YtnihobjehelagaaDoorG01
import Derived.Test.YtnihobjehelagaaDoorG07
import Derived.Test.YtnihobjehelagaaDoorProg
import Derived.Lib.LaidU8
import Derived.Test.YtnihobjehelagaaDoorG15
import Derived.Stop.LaidErr
section
open Go.RowKit Go.Pl Go.Av
namespace Go.Proofs.YtnihobjehelagaaDoor
set_option linter.unusedVariables false
set_option linter.unusedSimpArgs false
set_option maxHeartbeats 4000000
theorem rb_cn [Known] (id : Nat) (kd : Int) (ei : Bool) (en es : Nat) (eh ed : List UInt8) (di : Bool) (dn dq : Nat) (dh dd : List UInt8) (pol num tik : Int) (pay : List UInt8) (life tok : Nat) (on : Bool) (b P nm : List UInt8) (cut : Int)
    (hA : AP Tryd.prog 45 [] (.bool true) []) (hG : AP Tryd.prog 44 [.agg [.int .u64 (id : Int), .int .i64 kd, .bool ei, .int .u64 (en : Int), .int .u64 (es : Int), .str eh, .str ed, .bool di, .int .u64 (dn : Int), .int .u64 (dq : Int), .str dh, .str dd, .int .i64 pol, .int .i64 num, .int .i64 tik, .sl .ext (pay.map E.byte), .int .u64 (life : Int), .int .u64 (tok : Int), .bool on]] (.bool false) []) (t0 : decide (((b.map E.byte).length : Int) > 600) = false)
    (hW : AP Tryd.prog 46 [.agg [.int .u64 (id : Int), .int .i64 kd, .bool ei, .int .u64 (en : Int), .int .u64 (es : Int), .str eh, .str ed, .bool di, .int .u64 (dn : Int), .int .u64 (dq : Int), .str dh, .str dd, .int .i64 pol, .int .i64 num, .int .i64 tik, .sl .ext (pay.map E.byte), .int .u64 (life : Int), .int .u64 (tok : Int), .bool on]] (.tup [.sl .ext (P.map E.byte), .int .i64 0]) [])
    (hB : AP Tryd.prog 47 [.sl .ext (P.map E.byte)] (.tup [.agg [.int .u64 (id : Int), .int .i64 kd, .bool ei, .int .u64 (en : Int), .int .u64 (es : Int), .str eh, .str ed, .bool di, .int .u64 (dn : Int), .int .u64 (dq : Int), .str dh, .str dd, .int .i64 pol, .int .i64 num, .int .i64 tik, .sl .ext (pay.map E.byte), .int .u64 (life : Int), .int .u64 (tok : Int), .bool on], .int .i64 0]) [])
    (hS : AP Tryd.prog 48 [.agg [.int .u64 (id : Int), .int .i64 kd, .bool ei, .int .u64 (en : Int), .int .u64 (es : Int), .str eh, .str ed, .bool di, .int .u64 (dn : Int), .int .u64 (dq : Int), .str dh, .str dd, .int .i64 pol, .int .i64 num, .int .i64 tik, .sl .ext (pay.map E.byte), .int .u64 (life : Int), .int .u64 (tok : Int), .bool on], .agg [.int .u64 (id : Int), .int .i64 kd, .bool ei, .int .u64 (en : Int), .int .u64 (es : Int), .str eh, .str ed, .bool di, .int .u64 (dn : Int), .int .u64 (dq : Int), .str dh, .str dd, .int .i64 pol, .int .i64 num, .int .i64 tik, .sl .ext (pay.map E.byte), .int .u64 (life : Int), .int .u64 (tok : Int), .bool on]] (.bool true) [])
    (hN : AP Tryd.prog 49 [.int .i64 kd] (.str nm) []) (tn : (nm == []) = false)
    (t3 : decide (cut ≥ 0) = true) (t4 : decide (cut < ((P.map E.byte).length : Int)) = true)
    (hc0 : 0 ≤ cut) (hq : cut.toNat ≤ P.length) (hU1 : Uni 1 (P.map E.byte)) (hC : AP Tryd.prog 47 [.sl .ext ((P.take cut.toNat).map E.byte)] (.tup [.agg [.int .u64 0, .int .i64 0, .bool false, .int .u64 0, .int .u64 0, .str [], .str [], .bool false, .int .u64 0, .int .u64 0, .str [], .str [], .int .i64 0, .int .i64 0, .int .i64 0, .sl .ext [], .int .u64 0, .int .u64 0, .bool false], .int .i64 3]) [])
    (hR : AP Tryd.prog 47 [.sl .ext (b.map E.byte)] (.tup [.agg [.int .u64 0, .int .i64 0, .bool false, .int .u64 0, .int .u64 0, .str [], .str [], .bool false, .int .u64 0, .int .u64 0, .str [], .str [], .int .i64 0, .int .i64 0, .int .i64 0, .sl .ext [], .int .u64 0, .int .u64 0, .bool false], .int .i64 3]) [])
    (hV : AP Tryd.prog 46 [.agg [.int .u64 0, .int .i64 0, .bool false, .int .u64 0, .int .u64 0, .str [], .str [], .bool false, .int .u64 0, .int .u64 0, .str [], .str [], .int .i64 0, .int .i64 0, .int .i64 0, .sl .ext [], .int .u64 0, .int .u64 0, .bool false]] (.tup [.sl .ext [], .int .i64 3]) []) :
    AP Tryd.prog 12 [.agg [.int .u64 (id : Int), .int .i64 kd, .bool ei, .int .u64 (en : Int), .int .u64 (es : Int), .str eh, .str ed, .bool di, .int .u64 (dn : Int), .int .u64 (dq : Int), .str dh, .str dd, .int .i64 pol, .int .i64 num, .int .i64 tik, .sl .ext (pay.map E.byte), .int .u64 (life : Int), .int .u64 (tok : Int), .bool on], .sl .ext (b.map E.byte), .int .i64 cut] (.bool true) [] := by
  refine AP.ofA ?_
  refine AC_of Tryd.func12 rfl Tryd.ntmps12 rfl rfl ?_
  repeat' (first | (apply AL_callPw (hG); kernel_rfl; (iterate 4 exact rfl)) | (apply AL_callPw (hA); kernel_rfl; (iterate 4 exact rfl)) | (apply AL_callPw (hW); kernel_rfl; (iterate 4 exact rfl)) | (apply AL_callPw (hB); kernel_rfl; (iterate 4 exact rfl)) | (apply AL_callPw (hS); kernel_rfl; (iterate 4 exact rfl)) | (apply AL_callPw (hN); kernel_rfl; (iterate 4 exact rfl)) | (apply AL_callPw (hC); kernel_rfl; (iterate 4 exact rfl)) | (apply AL_upto ttok; (iterate 8 exact rfl); (first | with_reducible assumption | exact Int.natCast_nonneg _ | exact (by decide)); (first | with_reducible assumption | decide | (simp only [List.length_cons, List.length_drop, List.length_take, List.length_append, Int.toNat_natCast] at *; omega)); (first | with_reducible assumption | exact rfl)) | (apply AL_callPw (hR); kernel_rfl; (iterate 4 exact rfl)) | (apply AL_callPw (hV); kernel_rfl; (iterate 4 exact rfl)) | (apply AL_move; exact rfl; exact rfl) | (apply AL_assign; exact rfl; exact rfl) | (apply AL_bin; (iterate 5 exact rfl)) | (apply AL_load1 ttok; (iterate 6 exact rfl)) | (apply AL_loadn ttok; (iterate 7 exact rfl)) | (apply AL_fieldAddr ttok; (iterate 7 exact rfl)) | (apply AL_boxZ; (iterate 5 exact rfl)) | (apply AL_store ttok; (iterate 8 exact rfl)) | (apply AL_not; exact rfl; exact rfl) | (apply AL_extract; (iterate 3 exact rfl)) | refine AL_nil ?_ | (apply AL_guardT; (iterate 3 exact rfl); (first | with_reducible assumption | decide +kernel)) | (apply AL_guardFf; (iterate 3 exact rfl); (first | with_reducible assumption | decide +kernel)) | (apply AL_guardU; (iterate 3 exact rfl)) | (apply AL_pickT; exact rfl; (first | with_reducible assumption | decide +kernel); exact rfl; exact rfl) | (apply AL_pickF; exact rfl; (first | with_reducible assumption | decide +kernel); exact rfl; exact rfl) | refine AW_region ?_ | refine AW_seq' ?_ | (apply AW_condA; exact rfl; (first | with_reducible assumption | decide +kernel)) | (apply AW_condB; exact rfl; (first | with_reducible assumption | decide +kernel)) | refine then_norm ?_ | refine AW_ret ?_ | (apply AL_len ttok; (iterate 4 exact rfl)) | (apply AL_allocZ ttok; (iterate 4 exact rfl)) | (apply AL_str; (iterate 5 exact rfl)) | refine AW_skip ?_)
  all_goals (apply endQ []; (repeat (first | exact ResL.nil | (apply ResL.cons; first | exact .tmp _ _ rfl | (apply res_n ttok; (iterate 6 exact rfl)) | (apply res_1 ttok; (iterate 5 exact rfl))))); (iterate 4 exact rfl))
  all_goals first | rfl | (exfalso; revert hb; simp)
theorem rb_cy [Known] (id : Nat) (kd : Int) (ei : Bool) (en es : Nat) (eh ed : List UInt8) (di : Bool) (dn dq : Nat) (dh dd : List UInt8) (pol num tik : Int) (pay : List UInt8) (life tok : Nat) (on : Bool) (b P nm : List UInt8) (cut : Int) (yid : Nat) (ykd : Int) (yei : Bool) (yen yes : Nat) (yeh yed : List UInt8) (ydi : Bool) (ydn ydq : Nat) (ydh ydd : List UInt8) (ypol ynum ytik : Int) (ypay : List UInt8) (ylife ytok : Nat) (yon : Bool)
    (hA : AP Tryd.prog 45 [] (.bool true) []) (hG : AP Tryd.prog 44 [.agg [.int .u64 (id : Int), .int .i64 kd, .bool ei, .int .u64 (en : Int), .int .u64 (es : Int), .str eh, .str ed, .bool di, .int .u64 (dn : Int), .int .u64 (dq : Int), .str dh, .str dd, .int .i64 pol, .int .i64 num, .int .i64 tik, .sl .ext (pay.map E.byte), .int .u64 (life : Int), .int .u64 (tok : Int), .bool on]] (.bool false) []) (t0 : decide (((b.map E.byte).length : Int) > 600) = false)
    (hW : AP Tryd.prog 46 [.agg [.int .u64 (id : Int), .int .i64 kd, .bool ei, .int .u64 (en : Int), .int .u64 (es : Int), .str eh, .str ed, .bool di, .int .u64 (dn : Int), .int .u64 (dq : Int), .str dh, .str dd, .int .i64 pol, .int .i64 num, .int .i64 tik, .sl .ext (pay.map E.byte), .int .u64 (life : Int), .int .u64 (tok : Int), .bool on]] (.tup [.sl .ext (P.map E.byte), .int .i64 0]) [])
    (hB : AP Tryd.prog 47 [.sl .ext (P.map E.byte)] (.tup [.agg [.int .u64 (id : Int), .int .i64 kd, .bool ei, .int .u64 (en : Int), .int .u64 (es : Int), .str eh, .str ed, .bool di, .int .u64 (dn : Int), .int .u64 (dq : Int), .str dh, .str dd, .int .i64 pol, .int .i64 num, .int .i64 tik, .sl .ext (pay.map E.byte), .int .u64 (life : Int), .int .u64 (tok : Int), .bool on], .int .i64 0]) [])
    (hS : AP Tryd.prog 48 [.agg [.int .u64 (id : Int), .int .i64 kd, .bool ei, .int .u64 (en : Int), .int .u64 (es : Int), .str eh, .str ed, .bool di, .int .u64 (dn : Int), .int .u64 (dq : Int), .str dh, .str dd, .int .i64 pol, .int .i64 num, .int .i64 tik, .sl .ext (pay.map E.byte), .int .u64 (life : Int), .int .u64 (tok : Int), .bool on], .agg [.int .u64 (id : Int), .int .i64 kd, .bool ei, .int .u64 (en : Int), .int .u64 (es : Int), .str eh, .str ed, .bool di, .int .u64 (dn : Int), .int .u64 (dq : Int), .str dh, .str dd, .int .i64 pol, .int .i64 num, .int .i64 tik, .sl .ext (pay.map E.byte), .int .u64 (life : Int), .int .u64 (tok : Int), .bool on]] (.bool true) [])
    (hN : AP Tryd.prog 49 [.int .i64 kd] (.str nm) []) (tn : (nm == []) = false)
    (t3 : decide (cut ≥ 0) = true) (t4 : decide (cut < ((P.map E.byte).length : Int)) = true)
    (hc0 : 0 ≤ cut) (hq : cut.toNat ≤ P.length) (hU1 : Uni 1 (P.map E.byte)) (hC : AP Tryd.prog 47 [.sl .ext ((P.take cut.toNat).map E.byte)] (.tup [.agg [.int .u64 0, .int .i64 0, .bool false, .int .u64 0, .int .u64 0, .str [], .str [], .bool false, .int .u64 0, .int .u64 0, .str [], .str [], .int .i64 0, .int .i64 0, .int .i64 0, .sl .ext [], .int .u64 0, .int .u64 0, .bool false], .int .i64 3]) [])
    (hR : AP Tryd.prog 47 [.sl .ext (b.map E.byte)] (.tup [.agg [.int .u64 (yid : Int), .int .i64 ykd, .bool yei, .int .u64 (yen : Int), .int .u64 (yes : Int), .str yeh, .str yed, .bool ydi, .int .u64 (ydn : Int), .int .u64 (ydq : Int), .str ydh, .str ydd, .int .i64 ypol, .int .i64 ynum, .int .i64 ytik, .sl .ext (ypay.map E.byte), .int .u64 (ylife : Int), .int .u64 (ytok : Int), .bool yon], .int .i64 0]) [])
    (hV : AP Tryd.prog 46 [.agg [.int .u64 (yid : Int), .int .i64 ykd, .bool yei, .int .u64 (yen : Int), .int .u64 (yes : Int), .str yeh, .str yed, .bool ydi, .int .u64 (ydn : Int), .int .u64 (ydq : Int), .str ydh, .str ydd, .int .i64 ypol, .int .i64 ynum, .int .i64 ytik, .sl .ext (ypay.map E.byte), .int .u64 (ylife : Int), .int .u64 (ytok : Int), .bool yon]] (.tup [.sl .ext (b.map E.byte), .int .i64 0]) []) (tb : (b == b) = true) :
    AP Tryd.prog 12 [.agg [.int .u64 (id : Int), .int .i64 kd, .bool ei, .int .u64 (en : Int), .int .u64 (es : Int), .str eh, .str ed, .bool di, .int .u64 (dn : Int), .int .u64 (dq : Int), .str dh, .str dd, .int .i64 pol, .int .i64 num, .int .i64 tik, .sl .ext (pay.map E.byte), .int .u64 (life : Int), .int .u64 (tok : Int), .bool on], .sl .ext (b.map E.byte), .int .i64 cut] (.bool true) [] := by
  refine AP.ofA ?_
  refine AC_of Tryd.func12 rfl Tryd.ntmps12 rfl rfl ?_
  repeat' (first | (apply AL_callPw (hG); kernel_rfl; (iterate 4 exact rfl)) | (apply AL_callPw (hA); kernel_rfl; (iterate 4 exact rfl)) | (apply AL_callPw (hW); kernel_rfl; (iterate 4 exact rfl)) | (apply AL_callPw (hB); kernel_rfl; (iterate 4 exact rfl)) | (apply AL_callPw (hS); kernel_rfl; (iterate 4 exact rfl)) | (apply AL_callPw (hN); kernel_rfl; (iterate 4 exact rfl)) | (apply AL_callPw (hC); kernel_rfl; (iterate 4 exact rfl)) | (apply AL_upto ttok; (iterate 8 exact rfl); (first | with_reducible assumption | exact Int.natCast_nonneg _ | exact (by decide)); (first | with_reducible assumption | decide | (simp only [List.length_cons, List.length_drop, List.length_take, List.length_append, Int.toNat_natCast] at *; omega)); (first | with_reducible assumption | exact rfl)) | (apply AL_callPw (hR); kernel_rfl; (iterate 4 exact rfl)) | (apply AL_callPw (hV); kernel_rfl; (iterate 4 exact rfl)) | (apply AL_b2s ttok; (iterate 9 exact rfl)) | (apply AL_move; exact rfl; exact rfl) | (apply AL_assign; exact rfl; exact rfl) | (apply AL_bin; (iterate 5 exact rfl)) | (apply AL_load1 ttok; (iterate 6 exact rfl)) | (apply AL_loadn ttok; (iterate 7 exact rfl)) | (apply AL_fieldAddr ttok; (iterate 7 exact rfl)) | (apply AL_boxZ; (iterate 5 exact rfl)) | (apply AL_store ttok; (iterate 8 exact rfl)) | (apply AL_not; exact rfl; exact rfl) | (apply AL_extract; (iterate 3 exact rfl)) | refine AL_nil ?_ | (apply AL_guardT; (iterate 3 exact rfl); (first | with_reducible assumption | decide +kernel)) | (apply AL_pickT; exact rfl; (first | with_reducible assumption | decide +kernel); exact rfl; exact rfl) | (apply AL_pickF; exact rfl; (first | with_reducible assumption | decide +kernel); exact rfl; exact rfl) | refine AW_region ?_ | refine AW_seq' ?_ | (apply AW_condA; exact rfl; (first | with_reducible assumption | decide +kernel)) | (apply AW_condB; exact rfl; (first | with_reducible assumption | decide +kernel)) | refine then_norm ?_ | refine AW_ret ?_ | (apply AL_len ttok; (iterate 4 exact rfl)) | (apply AL_allocZ ttok; (iterate 4 exact rfl)) | (apply AL_str; (iterate 5 exact rfl)) | refine AW_skip ?_ | (apply AL_b2s ttok; (iterate 9 exact rfl)))
  all_goals (apply endQ []; (repeat (first | exact ResL.nil | (apply ResL.cons; first | exact .tmp _ _ rfl | (apply res_n ttok; (iterate 6 exact rfl)) | (apply res_1 ttok; (iterate 5 exact rfl))))); (iterate 4 exact rfl))
  all_goals first | rfl | exact congrArg D.bool tb | (exfalso; revert hb; simp)
end Go.Proofs.YtnihobjehelagaaDoor
end
/- RequestBack: the law's walk. -/
section
open Go.RowKit Go.Pl Go.Av
namespace Go.Proofs.YtnihobjehelagaaDoor
set_option linter.unusedVariables false
set_option linter.unusedSimpArgs false
set_option maxHeartbeats 4000000
theorem rb_al [Known] (x : RqV) (b : List UInt8) (cut : Int) (h : rqGreat x = true ∨ rqGreat x = false ∧ 600 < b.length) : AP Tryd.prog 12 [.agg (rqC x), byE b, .int .i64 cut] (.bool true) [] := by
  have hA := av_aliveQ
  have hG := av_rqGreat x
  have hbl : (b.map E.byte).length = b.length := List.length_map ..
  rcases h with h | ⟨h, h2⟩
  · rw [h] at hG
    refine AP.ofA ?_
    refine AC_of Tryd.func12 rfl Tryd.ntmps12 rfl rfl ?_
    repeat' (first | (apply AL_callPw (hG); kernel_rfl; (iterate 4 exact rfl)) | (apply AL_callPw (hA); kernel_rfl; (iterate 4 exact rfl)) | (apply AL_move; exact rfl; exact rfl) | (apply AL_assign; exact rfl; exact rfl) | (apply AL_loadn ttok; (iterate 7 exact rfl)) | (apply AL_boxZ; (iterate 5 exact rfl)) | refine AL_nil ?_ | (apply AL_guardFf; (iterate 3 exact rfl); (first | with_reducible assumption | decide +kernel)) | (apply AL_pickT; exact rfl; (first | with_reducible assumption | decide +kernel); exact rfl; exact rfl) | refine AW_region ?_ | refine AW_seq' ?_ | (apply AW_condA; exact rfl; (first | with_reducible assumption | decide +kernel)) | refine then_norm ?_ | refine AW_ret ?_ | refine then_ret ?_)
    all_goals (apply endQ []; (repeat (first | exact ResL.nil | (apply ResL.cons; first | exact .tmp _ _ rfl | (apply res_n ttok; (iterate 6 exact rfl)) | (apply res_1 ttok; (iterate 5 exact rfl))))); (iterate 4 exact rfl))
    all_goals rfl
  · rw [h] at hG
    have t1 : decide (((b.map E.byte).length : Int) > 600) = true := decide_eq_true (by omega)
    refine AP.ofA ?_
    refine AC_of Tryd.func12 rfl Tryd.ntmps12 rfl rfl ?_
    repeat' (first | (apply AL_callPw (hG); kernel_rfl; (iterate 4 exact rfl)) | (apply AL_callPw (hA); kernel_rfl; (iterate 4 exact rfl)) | (apply AL_move; exact rfl; exact rfl) | (apply AL_assign; exact rfl; exact rfl) | (apply AL_bin; (iterate 5 exact rfl)) | (apply AL_loadn ttok; (iterate 7 exact rfl)) | (apply AL_boxZ; (iterate 5 exact rfl)) | refine AL_nil ?_ | (apply AL_guardT; (iterate 3 exact rfl); (first | with_reducible assumption | decide +kernel)) | (apply AL_pickF; exact rfl; (first | with_reducible assumption | decide +kernel); exact rfl; exact rfl) | refine AW_region ?_ | refine AW_seq' ?_ | (apply AW_condA; exact rfl; (first | with_reducible assumption | decide +kernel)) | refine then_norm ?_ | refine AW_ret ?_ | refine then_ret ?_ | (apply AL_len ttok; (iterate 4 exact rfl)))
    all_goals (apply endQ []; (repeat (first | exact ResL.nil | (apply ResL.cons; first | exact .tmp _ _ rfl | (apply res_n ttok; (iterate 6 exact rfl)) | (apply res_1 ttok; (iterate 5 exact rfl))))); (iterate 4 exact rfl))
    all_goals rfl
theorem put_len {x : RqV} (h : rqRight x = true) (hg : rqGreat x = false) : (rqPut x).length ≤ 1000 := by
  have hk := rq_kind h
  obtain ⟨_, hp, _⟩ := rq_facts h
  unfold rqGreat at hg
  rw [Bool.or_eq_false_iff] at hg
  have hpay : x.pay.length ≤ 400 := by have := of_decide_eq_false hg.1; omega
  have a1 := vn_len x.id
  have a2 := vn_len x.kd.toNat
  have a3 := vn_len x.pol.toNat
  have a4 := vn_len x.num.toNat
  have a5 := vn_len x.tik.toNat
  have a6 := vn_len x.life
  have a7 := vn_len x.tok
  have a8 := vn_len x.on.toNat
  have a9 := vn_len x.pay.length
  have b1 := vn_len (textE x.ep).length
  have b2 := vn_len (textE x.ds).length
  have c1 : isNm x.ep = true → (textE x.ep).length ≤ 100 := fun h => text_len (nm_right h)
  have c2 : isNm x.ds = true → (textE x.ds).length ≤ 100 := fun h => text_len (nm_right h)
  unfold rqParts at hp
  unfold rqPut rqBody
  repeat' split
  all_goals
    simp only [List.length_append, List.length_nil]
    simp_all
    try omega
theorem same_self (x : RqV) : rqSame x x = true := by
  obtain ⟨id, kd, ⟨ei, en, es, eh, ed⟩, ⟨di, dn, dq, dh, dd⟩, pol, num, tik, pay, life, tok, on⟩ := x
  simp [rqSame, eqE]
theorem no_right : rqRight rqNo = false := by decide +kernel
theorem av_requestBack [Known] [KnownSc] [KnownPow] (x : RqV) (b : List UInt8) (cut : Int) : AP Tryd.prog 12 [.agg (rqC x), byE b, .int .i64 cut] (.bool true) [] := by
  cases hg : rqGreat x with
  | true => exact rb_al x b cut (.inl hg)
  | false =>
    rcases Nat.lt_or_ge 600 b.length with hb | hb
    · exact rb_al x b cut (.inr ⟨hg, hb⟩)
    have hA := av_aliveQ
    have hG := av_rqGreat x
    rw [hg] at hG
    have hbl : (b.map E.byte).length = b.length := List.length_map ..
    have t0 : decide (((b.map E.byte).length : Int) > 600) = false := decide_eq_false (by omega)
    have hR := av_rqRead b (by omega)
    have hV0 := rw_no rqNo no_right
    cases hr : rqRight x with
    | false =>
      have hW := rw_no x hr
      cases hk : rqOk b with
      | false =>
        rw [resQ_no hk] at hR
        exact rb_nn x.id x.kd x.ep.i x.ep.n x.ep.s x.ep.h x.ep.d x.ds.i x.ds.n x.ds.s x.ds.h x.ds.d x.pol x.num x.tik x.pay x.life x.tok x.on b cut hA hG t0 hW hR hV0
      | true =>
        have hk2 := hk
        unfold rqOk at hk2
        simp only [Bool.and_eq_true, beq_iff_eq] at hk2
        have hV := rw_yes _ hk2.1
        rw [hk2.2.2] at hV
        rw [resQ_yes hk] at hR
        generalize (rqGet b).1 = Y at *
        exact rb_ny x.id x.kd x.ep.i x.ep.n x.ep.s x.ep.h x.ep.d x.ds.i x.ds.n x.ds.s x.ds.h x.ds.d x.pol x.num x.tik x.pay x.life x.tok x.on b cut Y.id Y.kd Y.ep.i Y.ep.n Y.ep.s Y.ep.h Y.ep.d Y.ds.i Y.ds.n Y.ds.s Y.ds.h Y.ds.d Y.pol Y.num Y.tik Y.pay Y.life Y.tok Y.on hA hG t0 hW hR hV (beq_self_eq_true b)
    | true =>
      have hW := rw_yes x hr
      have hPl := put_len hr hg
      have hB := av_rqRead (rqPut x) hPl
      obtain ⟨o1, o2⟩ := ok_put hr
      rw [resQ_yes o1, o2] at hB
      have hS := av_rqSame x x
      rw [same_self x] at hS
      obtain ⟨nm, tn, hN⟩ := av_name x.kd (rq_kind hr)
      have hcut := fun (c : Nat) (hc : c < (rqPut x).length) => resQ_no (cut_no hr hc)
      generalize rqPut x = P at *
      have hPm : (P.map E.byte).length = P.length := List.length_map ..
      rcases Int.lt_or_le cut 0 with hc0 | hc0
      · have t3 : decide (cut ≥ 0) = false := decide_eq_false (by omega)
        cases hk : rqOk b with
        | false =>
          rw [resQ_no hk] at hR
          exact rb_an x.id x.kd x.ep.i x.ep.n x.ep.s x.ep.h x.ep.d x.ds.i x.ds.n x.ds.s x.ds.h x.ds.d x.pol x.num x.tik x.pay x.life x.tok x.on b P nm cut hA hG t0 hW hB hS hN tn t3 hR hV0
        | true =>
          have hk2 := hk
          unfold rqOk at hk2
          simp only [Bool.and_eq_true, beq_iff_eq] at hk2
          have hV := rw_yes _ hk2.1
          rw [hk2.2.2] at hV
          rw [resQ_yes hk] at hR
          generalize (rqGet b).1 = Y at *
          exact rb_ay x.id x.kd x.ep.i x.ep.n x.ep.s x.ep.h x.ep.d x.ds.i x.ds.n x.ds.s x.ds.h x.ds.d x.pol x.num x.tik x.pay x.life x.tok x.on b P nm cut Y.id Y.kd Y.ep.i Y.ep.n Y.ep.s Y.ep.h Y.ep.d Y.ds.i Y.ds.n Y.ds.s Y.ds.h Y.ds.d Y.pol Y.num Y.tik Y.pay Y.life Y.tok Y.on hA hG t0 hW hB hS hN tn t3 hR hV (beq_self_eq_true b)
      · have t3 : decide (cut ≥ 0) = true := decide_eq_true (by omega)
        rcases Int.lt_or_le cut P.length with hc1 | hc1
        · have t4 : decide (cut < ((P.map E.byte).length : Int)) = true := decide_eq_true (by omega)
          have hC := av_rqRead (P.take cut.toNat) (by rw [List.length_take]; omega)
          rw [hcut cut.toNat (by omega)] at hC
          have hU1 := uniB1 P
          have hq : cut.toNat ≤ P.length := by omega
          cases hk : rqOk b with
          | false =>
            rw [resQ_no hk] at hR
            exact rb_cn x.id x.kd x.ep.i x.ep.n x.ep.s x.ep.h x.ep.d x.ds.i x.ds.n x.ds.s x.ds.h x.ds.d x.pol x.num x.tik x.pay x.life x.tok x.on b P nm cut hA hG t0 hW hB hS hN tn t3 t4 hc0 hq hU1 hC hR hV0
          | true =>
            have hk2 := hk
            unfold rqOk at hk2
            simp only [Bool.and_eq_true, beq_iff_eq] at hk2
            have hV := rw_yes _ hk2.1
            rw [hk2.2.2] at hV
            rw [resQ_yes hk] at hR
            generalize (rqGet b).1 = Y at *
            exact rb_cy x.id x.kd x.ep.i x.ep.n x.ep.s x.ep.h x.ep.d x.ds.i x.ds.n x.ds.s x.ds.h x.ds.d x.pol x.num x.tik x.pay x.life x.tok x.on b P nm cut Y.id Y.kd Y.ep.i Y.ep.n Y.ep.s Y.ep.h Y.ep.d Y.ds.i Y.ds.n Y.ds.s Y.ds.h Y.ds.d Y.pol Y.num Y.tik Y.pay Y.life Y.tok Y.on hA hG t0 hW hB hS hN tn t3 t4 hc0 hq hU1 hC hR hV (beq_self_eq_true b)
        · have t4 : decide (cut < ((P.map E.byte).length : Int)) = false := decide_eq_false (by omega)
          cases hk : rqOk b with
          | false =>
            rw [resQ_no hk] at hR
            exact rb_bn x.id x.kd x.ep.i x.ep.n x.ep.s x.ep.h x.ep.d x.ds.i x.ds.n x.ds.s x.ds.h x.ds.d x.pol x.num x.tik x.pay x.life x.tok x.on b P nm cut hA hG t0 hW hB hS hN tn t3 t4 hR hV0
          | true =>
            have hk2 := hk
            unfold rqOk at hk2
            simp only [Bool.and_eq_true, beq_iff_eq] at hk2
            have hV := rw_yes _ hk2.1
            rw [hk2.2.2] at hV
            rw [resQ_yes hk] at hR
            generalize (rqGet b).1 = Y at *
            exact rb_by x.id x.kd x.ep.i x.ep.n x.ep.s x.ep.h x.ep.d x.ds.i x.ds.n x.ds.s x.ds.h x.ds.d x.pol x.num x.tik x.pay x.life x.tok x.on b P nm cut Y.id Y.kd Y.ep.i Y.ep.n Y.ep.s Y.ep.h Y.ep.d Y.ds.i Y.ds.n Y.ds.s Y.ds.h Y.ds.d Y.pol Y.num Y.tik Y.pay Y.life Y.tok Y.on hA hG t0 hW hB hS hN tn t3 t4 hR hV (beq_self_eq_true b)
end Go.Proofs.YtnihobjehelagaaDoor
end
/- What a row's tables tell of the world. -/
section
open Go.RowKit Go.Pl Go.Av Go.Lib
namespace Go.Proofs.YtnihobjehelagaaDoor
set_option linter.unusedVariables false
theorem dcsl_ints (k : IntKind) : ∀ zs : List Int, dcsl (zs.map fun z => .lit (.int k z)) = zs.map fun z => Value.int k z
  | [] => rfl
  | z :: zs => by rw [List.map_cons, List.map_cons, dcsl, dcsl_ints k zs]; rfl
theorem cells_at {P : Program} {W : World} {n : String} {g : Nat} {t : TypeId} {d : DataW Unit} (hg : P.globalNamed n = some g) (ht : (P.globals[g]?).map (·.type) = some t) (h : VarReads P W n d)
    (key : ∀ (fuel : Nat) (cs : List Value) (p : List MemPlace), DataW.trod (fun _ => ()) P W 0 (fun _ => true) false fuel t cs = some (d, p) → ∀ (j : Nat) (v : Value), (dcs d)[j]? = some v → cs[j]? = some v) :
    ∀ (j : Nat) (v : Value), (dcs d)[j]? = some v → (g0 W).C g j ∧ W.cell? ⟨g, j, none⟩ = some v := by
  obtain ⟨g', t', cs, fuel, p, h1, h2, h3, h4⟩ := h
  obtain rfl := Option.some.inj (hg.symm.trans h1)
  obtain rfl := Option.some.inj (ht.symm.trans h2)
  intro j v hv
  have hc := key fuel cs.toList p h4 j v hv
  have hcell : W.cell? ⟨g, j, none⟩ = some v := by
    rw [World.var?_cell hg h3 j, ← Array.getElem?_toList]; exact hc
  exact ⟨World.block_lt_of_cell? W _ hcell, hcell⟩
theorem ints_at {P : Program} {W : World} {t e : TypeId} {n : Nat} {k : IntKind} {d : DataW Unit} (zs : List Int) (hd : d = tabData k zs) (ht : P.underlying t = some (.array n e)) (he : P.underlying e = some (.int k)) (hce : P.cellsOf e = 1) (hct : P.cellsOf t = n) :
    ∀ (fuel : Nat) (cs : List Value) (p : List MemPlace), DataW.trod (fun _ => ()) P W 0 (fun _ => true) false fuel t cs = some (d, p) → ∀ (j : Nat) (v : Value), (dcs d)[j]? = some v → cs[j]? = some v := by
  subst hd
  intro fuel cs p h j v hv
  rw [cells_of_tab ht he hce hct h]
  rw [tabData, dcs, dcsl_ints] at hv
  exact hv
theorem rows_at {P : Program} {W : World} {t e : TypeId} {n : Nat} {k : IntKind} {d : DataW Unit} {fs : Array Field} (rows : List (List Int)) (hd : d = .agg (rows.map fun r => .agg (r.map fun z => .lit (.int k z)))) (hn : rows.length = n) (ht : P.underlying t = some (.array n e)) (he : P.underlying e = some (.struct fs))
    (hf : ∀ (i : Nat) (f : Field), fs[i]? = some f → P.underlying f.type = some (.int k) ∧ f.offset = i ∧ P.cellsOf f.type = 1) (hce : P.cellsOf e = fs.size) :
    ∀ (fuel : Nat) (cs : List Value) (p : List MemPlace), DataW.trod (fun _ => ()) P W 0 (fun _ => true) false fuel t cs = some (d, p) → ∀ (j : Nat) (v : Value), (dcs d)[j]? = some v → cs[j]? = some v := by
  subst hd
  intro fuel cs p h j v hv
  have key : ∀ i, i ≤ n → cs.take (i * fs.size) = dcsl ((rows.take i).map fun r => .agg (r.map fun z => .lit (.int k z))) := by
    intro i
    induction i with
    | zero => intro _; rw [Nat.zero_mul, List.take_zero, List.take_zero]; rfl
    | succ i ih =>
      intro hi
      obtain ⟨fuel', d', q, hdi, he'⟩ := array_elem ht h i (by omega)
      rw [List.getElem?_map, List.getElem?_eq_getElem (by omega : i < rows.length)] at hdi
      simp only [Option.map_some, Option.some.injEq] at hdi
      subst hdi
      rw [hce] at he'
      have hcs := ints_of_struct he hf hce he'
      rw [Nat.succ_mul, List.take_add, ih (by omega), hcs, List.take_succ_eq_append_getElem (by omega : i < rows.length), List.map_append]
      have app : ∀ (a b : List (DataW Unit)), dcsl (a ++ b) = dcsl a ++ dcsl b := fun a b => by
        induction a with
        | nil => rfl
        | cons x a ih => rw [List.cons_append, dcsl, dcsl, ih, List.append_assoc]
      rw [app, List.map_cons, List.map_nil, dcsl, dcs, dcsl_ints]
      simp [dcsl]
  have h2 := key n (Nat.le_refl _)
  rw [← hn, List.take_length] at h2
  rw [dcs, ← h2] at hv
  rw [List.getElem?_take] at hv
  split at hv
  · exact hv
  · cases hv
/-- the tables of unicode/utf8 -/
abbrev knownU8 : Known := ⟨[0, 1]⟩
theorem knownU8_ok : @KnownU8 knownU8 := @KnownU8.mk knownU8 (List.mem_cons_self ..) (List.mem_cons_of_mem _ (List.mem_cons_self ..))
def firstZ : List Int := Pinned.utf8FirstZ.map Int.ofNat
def acceptZ : List (List Int) := [[128, 191], [160, 191], [128, 159], [144, 191], [128, 143], [0, 0], [0, 0], [0, 0], [0, 0], [0, 0], [0, 0], [0, 0], [0, 0], [0, 0], [0, 0], [0, 0]]
theorem gls_u8 {W : World} {laid : List (String × DataW Unit)} (h1 : ("unicode/utf8.first", Rows.laid_unicode_utf8_first) ∈ laid) (h2 : ("unicode/utf8.acceptRanges", Rows.laid_unicode_utf8_acceptRanges) ∈ laid) (h : laidMet Tryd.prog laid W) : @Gls knownU8 (g0 W).C W := by
  have r1 := laidMet.reads h h1
  have r2 := laidMet.reads h h2
  have c1 := cells_at (P := Tryd.prog) (g := 0) (t := 184) (by kernel_rfl) (by kernel_rfl) r1 (ints_at firstZ (by kernel_rfl) (n := 256) (by kernel_rfl) Tryd.underlying5 (by kernel_rfl) (by kernel_rfl))
  have c2 := cells_at (P := Tryd.prog) (g := 1) (t := 187) (by kernel_rfl) (by kernel_rfl) r2 (rows_at acceptZ (by kernel_rfl) (n := 16) rfl Tryd.underlying187 Tryd.underlying186 (fun i f hf => by
    match i, hf with
    | 0, hf => simp at hf; subst hf; exact ⟨Tryd.underlying5, rfl, by kernel_rfl⟩
    | 1, hf => simp at hf; subst hf; exact ⟨Tryd.underlying5, rfl, by kernel_rfl⟩
    | i + 2, hf => simp at hf) (by kernel_rfl))
  refine ⟨fun k cs hk => ?_, fun k t hk => ?_⟩
  · obtain ⟨hk, hm⟩ := hk
    simp only [tabs, List.mem_cons, List.not_mem_nil, or_false, Prod.mk.injEq] at hm
    have hk : k ∈ [0, 1] := hk
    simp only [List.mem_cons, List.not_mem_nil, or_false] at hk
    clear r1 r2 h1 h2 h
    rcases hk with rfl | rfl
    all_goals repeat' (refine Or.elim hm (fun hm => ?_) (fun hm => ?_))
    all_goals first
      | (obtain ⟨h, rfl⟩ := hm; exact c1)
      | (obtain ⟨h, rfl⟩ := hm; exact c2)
      | (obtain ⟨h, _⟩ := hm; exact absurd h (by decide))
  · obtain ⟨hk, hm⟩ := hk
    have hk : k ∈ [0, 1] := hk
    simp only [List.mem_cons, List.not_mem_nil, or_false] at hk
    simp only [tabI, List.mem_cons, List.not_mem_nil, or_false, Prod.mk.injEq] at hm
    omega
end Go.Proofs.YtnihobjehelagaaDoor
end
/- What a row's tables and errors of strconv tell of the world. -/
section
open Go.RowKit Go.Pl Go.Av Go.Lib
namespace Go.Proofs.YtnihobjehelagaaDoor
set_option linter.unusedVariables false
theorem star_e : "*" ++ "errors.errorString" = "*errors.errorString" := by decide
theorem row_e (u : TypeId) (h : Tryd.prog.typeName? 3 u = some "*errors.errorString") : u = 213 :=
  typeName_ptr_named (nm := "errors.errorString") (by rw [star_e]; kernel_rfl) (by kernel_rfl) (by decide) u (by rw [star_e]; exact h)
theorem err_face : Tryd.prog.underlying 153 = some (.interface (Tryd.prog.methodsAt 153)) := by kernel_rfl
theorem sent_at {W : World} {n : String} {g : Nat} {text : List UInt8} {r : List (String × DataW Unit)} (hg : Tryd.prog.globalNamed n = some g) (ht : (Tryd.prog.globals[g]?).map (·.type) = some 153) (h : laidMet Tryd.prog ((n, .iface "*errors.errorString" (.ptr (.agg [.lit (.string text)]))) :: r) W) :
    (g0 W).C g 0 ∧ ∃ v, W.cell? ⟨g, 0, none⟩ = some (.iface 213 v) := by
  obtain ⟨a, s, hv, _⟩ := laid_sentinel h hg ht err_face row_e (Tryd.underlying213) (Tryd.underlying215) rfl rfl Tryd.underlying9 (by kernel_rfl) (by kernel_rfl)
  have hc : W.cell? ⟨g, 0, none⟩ = some (.iface 213 (.pointer (some a))) := by
    rw [World.var?_cell hg hv 0]; rfl
  exact ⟨World.block_lt_of_cell? W _ hc, _, hc⟩
abbrev knownSc : Known := ⟨[2, 4, 5]⟩
theorem knownSc_ok : @KnownSc knownSc := @KnownSc.mk knownSc (List.mem_cons_of_mem _ (List.mem_cons_of_mem _ (List.mem_cons_self ..))) (List.mem_cons_of_mem _ (List.mem_cons_self ..))
theorem knownPow_ok : @KnownPow knownSc := @KnownPow.mk knownSc (List.mem_cons_self ..)
def powZ : List Int := (List.range 20).map fun i => ((10 ^ i : Nat) : Int)
theorem gls_sc {W : World} {laid r1 r2 : List (String × DataW Unit)} (h1 : ("internal/strconv.uint64pow10", Rows.laid_internal_strconv_uint64pow10) ∈ laid) (h : laidMet Tryd.prog laid W) (hR : laidMet Tryd.prog (("strconv.ErrRange", Rows.laid_strconv_ErrRange) :: r1) W) (hS : laidMet Tryd.prog (("strconv.ErrSyntax", Rows.laid_strconv_ErrSyntax) :: r2) W) : @Gls knownSc (g0 W).C W := by
  have r1' := laidMet.reads h h1
  have c1 := cells_at (P := Tryd.prog) (g := 2) (t := 191) (by kernel_rfl) (by kernel_rfl) r1' (ints_at powZ (by kernel_rfl) (n := 20) (by kernel_rfl) Tryd.underlying22 (by kernel_rfl) (by kernel_rfl))
  have eR := sent_at (W := W) (g := 5) (by kernel_rfl) (by kernel_rfl) hR
  have eS := sent_at (W := W) (g := 4) (by kernel_rfl) (by kernel_rfl) hS
  refine ⟨fun k cs hk => ?_, fun k t hk => ?_⟩
  · obtain ⟨hk, hm⟩ := hk
    simp only [tabs, List.mem_cons, List.not_mem_nil, or_false, Prod.mk.injEq] at hm
    have hk : k ∈ [2, 4, 5] := hk
    simp only [List.mem_cons, List.not_mem_nil, or_false] at hk
    clear r1' h1 h hR hS eR eS
    rcases hk with rfl | rfl | rfl
    all_goals repeat' (refine Or.elim hm (fun hm => ?_) (fun hm => ?_))
    all_goals first
      | (obtain ⟨h, rfl⟩ := hm; exact c1)
      | (obtain ⟨h, _⟩ := hm; exact absurd h (by decide))
  · obtain ⟨hk, hm⟩ := hk
    have hk : k ∈ [2, 4, 5] := hk
    simp only [List.mem_cons, List.not_mem_nil, or_false] at hk
    simp only [tabI, List.mem_cons, List.not_mem_nil, or_false, Prod.mk.injEq] at hm
    clear r1' h1 h hR hS c1
    rcases hk with rfl | rfl | rfl
    all_goals repeat' (refine Or.elim hm (fun hm => ?_) (fun hm => ?_))
    all_goals first
      | (obtain ⟨h, _⟩ := hm; exact absurd h (by decide))
      | (obtain ⟨_, rfl⟩ := hm; exact eS)
      | (obtain ⟨_, rfl⟩ := hm; exact eR)
end Go.Proofs.YtnihobjehelagaaDoor
end
/- RequestBack: the walk, from the row's arguments. -/
section
open Go.RowKit Go.Pl Go.Av
namespace Go.Proofs.YtnihobjehelagaaDoor
set_option linter.unusedVariables false
theorem requestBack_walk (c0 : List Value) (v1 : Value) (a2 : Int) (x0 : XQ) (x1 : List UInt8) (W : World) (h0 : RQ.ok W (· < W.heap.size) c0 x0) (h1 : Sl Rep.byte W (· < W.heap.size) v1 x1) (h2 : -9223372036854775808 ≤ a2 ∧ a2 ≤ 9223372036854775807) (hl : laidMet Tryd.prog Rows.requestBackRow.laid W) :
    Calls Tryd.prog 12 #[.agg c0.toArray, v1, .int .i64 a2] W fun e w' => e = .returned (.bool true) ∧ Below W.heap.size W w' := by
  have hg := gls_sc (laid := Rows.requestBackRow.laid) (by unfold Rows.requestBackRow; repeat (first | exact List.mem_cons_self .. | apply List.mem_cons_of_mem)) hl hl.tail.tail.tail hl.tail.tail.tail.tail
  have h := @av_requestBack knownSc knownSc_ok knownPow_ok x0.v x1 a2
  refine @topG knownSc Tryd.prog 12 _ (@AC.mono knownSc _ _ _ _ _ _ _ h fun r b t h => h.1) W [.agg c0.toArray, v1, .int .i64 a2] hg rfl ?_
  intro j d v hd hv
  match j, hd, hv with
  | 0, hd, hv => cases hd; cases hv; exact @rq_V knownSc _ _ _ h0
  | 1, hd, hv => cases hd; cases hv; exact bytes_V h1
  | 2, hd, hv => cases hd; cases hv; exact .int _ _
  | j + 3, hd, hv => cases hd
end Go.Proofs.YtnihobjehelagaaDoor
end
