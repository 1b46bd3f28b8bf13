/- The document's answers for requests: which may be. -/
import Derived.Test.YtdhkfbolnkikgaaGreatDoorG24
import Derived.Test.YtdhkfbolnkikgaaGreatDoorG25
section
open Go.RowKit Go.Pl Go.Av
namespace Go.Proofs.YtdhkfbolnkikgaaGreatDoor
set_option linter.unusedVariables false
set_option linter.unusedSimpArgs false
set_option maxHeartbeats 4000000
theorem rt_6_all [Known] (id : Nat) (kd : Int) (ei : Bool) (en es : Nat) (eh ed : List UInt8) (di : Bool) (dn dq : Nat) (dh dd : List UInt8) (pol num tik : Int) (pay : List UInt8) (life tok : Nat) (on : Bool) (p : List UInt8) (fe fd fp fn ft fl fk fb fo : Bool) (k1 k2 : Int) (hP : AP Tryz.prog 35 [.int .i64 kd] (.str p) []) (tq : (p == [63]) = false) (hW : AP Tryz.prog 40 [.int .u64 (id : Int), .int .u64 1099511627776] (.bool true) []) (hw : (decide ((id : Int) ≥ 1) && decide ((id : Int) ≤ 1099511627776)) = true) (hfe : AP Tryz.prog 41 [.str p, .int .u8 101] (.bool fe) []) (hfd : AP Tryz.prog 41 [.str p, .int .u8 100] (.bool fd) []) (hfp : AP Tryz.prog 41 [.str p, .int .u8 112] (.bool fp) []) (hfn : AP Tryz.prog 41 [.str p, .int .u8 110] (.bool fn) []) (hft : AP Tryz.prog 41 [.str p, .int .u8 116] (.bool ft) []) (hfl : AP Tryz.prog 41 [.str p, .int .u8 108] (.bool fl) []) (hfk : AP Tryz.prog 41 [.str p, .int .u8 107] (.bool fk) []) (hfb : AP Tryz.prog 41 [.str p, .int .u8 98] (.bool fb) []) (hfo : AP Tryz.prog 41 [.str p, .int .u8 111] (.bool fo) []) (hK : AP Tryz.prog 42 [.agg [.bool ei, .int .u64 (en : Int), .int .u64 (es : Int), .str eh, .str ed]] (.int .i64 k1) []) (hL : AP Tryz.prog 42 [.agg [.bool di, .int .u64 (dn : Int), .int .u64 (dq : Int), .str dh, .str dd]] (.int .i64 k2) []) (x1 : (!(fn == decide (num > 0))) = false) (x2 : decide (num > 1099511627776) = false) (x3 : (!(ft == decide (tik > 0))) = false) (x4 : decide (tik > 1000) = false) (y1 : (!(fl == decide ((life : Int) > 0))) = false) (y2 : decide ((life : Int) > 1099511627776) = false) :
    (∀ (y3 : (!(fk == decide ((tok : Int) > 0))) = true),
    AP Tryz.prog 12 [.agg [.int .u64 (id : Int), .int .i64 kd, .bool ei, .int .u64 (en : Int), .int .u64 (es : Int), .str eh, .str ed, .bool di, .int .u64 (dn : Int), .int .u64 (dq : Int), .str dh, .str dd, .int .i64 pol, .int .i64 num, .int .i64 tik, .sl .ext (pay.map E.byte), .int .u64 (life : Int), .int .u64 (tok : Int), .bool on]] (.bool (rfR fe fd fp fn ft fl fk fb fo k1 k2 ⟨id, kd, ⟨ei, en, es, eh, ed⟩, ⟨di, dn, dq, dh, dd⟩, pol, num, tik, pay, life, tok, on⟩)) []) ∧
    (∀ (y3 : (!(fk == decide ((tok : Int) > 0))) = false) (y4 : decide ((tok : Int) > 2147483648) = true),
    AP Tryz.prog 12 [.agg [.int .u64 (id : Int), .int .i64 kd, .bool ei, .int .u64 (en : Int), .int .u64 (es : Int), .str eh, .str ed, .bool di, .int .u64 (dn : Int), .int .u64 (dq : Int), .str dh, .str dd, .int .i64 pol, .int .i64 num, .int .i64 tik, .sl .ext (pay.map E.byte), .int .u64 (life : Int), .int .u64 (tok : Int), .bool on]] (.bool (rfR fe fd fp fn ft fl fk fb fo k1 k2 ⟨id, kd, ⟨ei, en, es, eh, ed⟩, ⟨di, dn, dq, dh, dd⟩, pol, num, tik, pay, life, tok, on⟩)) []) := by
  refine ⟨fun y3 => ?_, fun y3 y4 => ?_⟩
  all_goals
    have hbl : (pay.map E.byte).length = pay.length := List.length_map ..
    unfold rfR
    rw [hw]
    simp only [bne, Bool.true_and]

    rw [← hbl]
    first | simp only [x1, x2, x3, x4, y1, y2, y3, y4, Bool.or_false, Bool.false_or, Bool.true_or, Bool.or_true, Bool.not_true, Bool.not_false, Bool.and_false, Bool.false_and, Bool.true_and] | simp only [x1, x2, x3, x4, y1, y2, y3, Bool.or_false, Bool.false_or, Bool.true_or, Bool.or_true, Bool.not_true, Bool.not_false, Bool.and_false, Bool.false_and, Bool.true_and]
    refine AP.ofA ?_
    refine AC_of Tryz.func12 rfl Tryz.ntmps12 rfl rfl ?_
    repeat' (first | refine AW_join 35 (fun tm bx fr => ((fe && decide (k1 < 1)) || (!fe && !(isZ ⟨ei, en, es, eh, ed⟩))) = false ∧ tm = [(1, .ptr 0 0), (2, .bool false), (3, .str p), (4, .ptr 1 0)] ∧ bx = [[.int .u64 (id : Int), .int .i64 kd, .bool ei, .int .u64 (en : Int), .int .u64 (es : Int), .str eh, .str ed, .bool di, .int .u64 (dn : Int), .int .u64 (dq : Int), .str dh, .str dd, .int .i64 pol, .int .i64 num, .int .i64 tik, .sl .ext (pay.map E.byte), .int .u64 (life : Int), .int .u64 (tok : Int), .bool on], [.bool false, .int .u64 0, .int .u64 0, .str [], .str []]] ∧ fr = []) ?_ ?_ | (apply AL_callPw (hP); kernel_rfl; (iterate 4 exact rfl)) | (apply AL_callPw (hW); kernel_rfl; (iterate 4 exact rfl)) | (apply AL_callPw (hfe); kernel_rfl; (iterate 4 exact rfl)) | (apply AL_callPw (hK); kernel_rfl; (iterate 4 exact rfl)) | (apply AL_move; exact rfl; exact rfl) | (apply AL_assign; exact rfl; exact rfl) | (apply AL_bin; (iterate 5 exact rfl)) | (apply AL_load1 ttok; (iterate 6 exact rfl)) | (apply AL_loadn ttok; (iterate 7 exact rfl)) | (apply AL_fieldAddr ttok; (iterate 7 exact rfl)) | (apply AL_boxZ; (iterate 5 exact rfl)) | (apply AL_store ttok; (iterate 8 exact rfl)) | (apply AL_not; exact rfl; exact rfl) | refine AL_nil ?_ | (apply AL_guardT; (iterate 3 exact rfl); (first | with_reducible assumption | decide +kernel)) | (apply AL_guardFt; (iterate 3 exact rfl); (first | with_reducible assumption | decide +kernel)) | (apply AL_guardFf; (iterate 3 exact rfl); (first | with_reducible assumption | decide +kernel)) | (apply AL_guardU; (iterate 3 exact rfl)) | (apply AL_guardS; exact rfl; exact rfl; all_goals intro hb) | (apply AL_pickT; exact rfl; (first | with_reducible assumption | decide +kernel); exact rfl; exact rfl) | (apply AL_pickF; exact rfl; (first | with_reducible assumption | decide +kernel); exact rfl; exact rfl) | refine AW_region ?_ | refine AW_seq' ?_ | (apply AW_condA; exact rfl; (first | with_reducible assumption | decide +kernel)) | (apply AW_condB; exact rfl; (first | with_reducible assumption | decide +kernel)) | (apply AW_cond'; exact rfl; all_goals intro hb) | refine then_norm ?_ | refine AW_ret ?_ | refine then_ret ?_ | (apply AL_build ttok; (iterate 6 exact rfl)) | (apply AL_allocZ ttok; (iterate 4 exact rfl)) | (apply AL_str; (iterate 5 exact rfl)) | (apply AL_eqS ttok; (iterate 4 exact rfl); (kernel_rfl); (kernel_rfl); (iterate 3 exact rfl)) | refine AW_skip ?_)
    · rintro tm bx fr ⟨e1, rfl, rfl, rfl⟩
      try simp only [e1, Bool.not_false, Bool.true_and]
      repeat' (first | refine AW_join 54 (fun tm bx fr => ((fd && decide (k2 < 1)) || (!fd && !(isZ ⟨di, dn, dq, dh, dd⟩))) = false ∧ tm = [(1, .ptr 0 0), (2, .bool false), (3, .str p), (4, .ptr 1 0)] ∧ bx = [[.int .u64 (id : Int), .int .i64 kd, .bool ei, .int .u64 (en : Int), .int .u64 (es : Int), .str eh, .str ed, .bool di, .int .u64 (dn : Int), .int .u64 (dq : Int), .str dh, .str dd, .int .i64 pol, .int .i64 num, .int .i64 tik, .sl .ext (pay.map E.byte), .int .u64 (life : Int), .int .u64 (tok : Int), .bool on], [.bool false, .int .u64 0, .int .u64 0, .str [], .str []]] ∧ fr = []) ?_ ?_ | (apply AL_callPw (hfd); kernel_rfl; (iterate 4 exact rfl)) | (apply AL_callPw (hL); kernel_rfl; (iterate 4 exact rfl)) | (apply AL_move; exact rfl; exact rfl) | (apply AL_assign; exact rfl; exact rfl) | (apply AL_bin; (iterate 5 exact rfl)) | (apply AL_loadn ttok; (iterate 7 exact rfl)) | (apply AL_fieldAddr ttok; (iterate 7 exact rfl)) | (apply AL_not; exact rfl; exact rfl) | refine AL_nil ?_ | (apply AL_guardT; (iterate 3 exact rfl); (first | with_reducible assumption | decide +kernel)) | (apply AL_guardFt; (iterate 3 exact rfl); (first | with_reducible assumption | decide +kernel)) | (apply AL_guardFf; (iterate 3 exact rfl); (first | with_reducible assumption | decide +kernel)) | (apply AL_guardU; (iterate 3 exact rfl)) | (apply AL_guardS; exact rfl; exact rfl; all_goals intro hb) | (apply AL_pickT; exact rfl; (first | with_reducible assumption | decide +kernel); exact rfl; exact rfl) | (apply AL_pickF; exact rfl; (first | with_reducible assumption | decide +kernel); exact rfl; exact rfl) | refine AW_region ?_ | refine AW_seq' ?_ | (apply AW_condA; exact rfl; (first | with_reducible assumption | decide +kernel)) | (apply AW_condB; exact rfl; (first | with_reducible assumption | decide +kernel)) | (apply AW_cond'; exact rfl; all_goals intro hb) | refine then_norm ?_ | refine AW_ret ?_ | refine then_ret ?_ | (apply AL_eqS ttok; (iterate 4 exact rfl); (kernel_rfl); (kernel_rfl); (iterate 3 exact rfl)) | refine AW_skip ?_)
      · rintro tm bx fr ⟨e2, rfl, rfl, rfl⟩
        try simp only [e2, Bool.not_false, Bool.true_and]
        repeat' (first | refine AW_join 82 (fun tm bx fr => (decide (pol < 0) || (decide (pol > 2) || ((!fp && !(pol == 0)) || (decide (num < 0) || decide (tik < 0))))) = false ∧ tm = [(1, .ptr 0 0), (2, .bool false), (3, .str p), (4, .ptr 1 0)] ∧ bx = [[.int .u64 (id : Int), .int .i64 kd, .bool ei, .int .u64 (en : Int), .int .u64 (es : Int), .str eh, .str ed, .bool di, .int .u64 (dn : Int), .int .u64 (dq : Int), .str dh, .str dd, .int .i64 pol, .int .i64 num, .int .i64 tik, .sl .ext (pay.map E.byte), .int .u64 (life : Int), .int .u64 (tok : Int), .bool on], [.bool false, .int .u64 0, .int .u64 0, .str [], .str []]] ∧ fr = []) ?_ ?_ | (apply AL_callPw (hfp); kernel_rfl; (iterate 4 exact rfl)) | (apply AL_move; exact rfl; exact rfl) | (apply AL_assign; exact rfl; exact rfl) | (apply AL_bin; (iterate 5 exact rfl)) | (apply AL_load1 ttok; (iterate 6 exact rfl)) | (apply AL_fieldAddr ttok; (iterate 7 exact rfl)) | (apply AL_not; exact rfl; exact rfl) | refine AL_nil ?_ | (apply AL_guardT; (iterate 3 exact rfl); (first | with_reducible assumption | decide +kernel)) | (apply AL_guardFt; (iterate 3 exact rfl); (first | with_reducible assumption | decide +kernel)) | (apply AL_guardFf; (iterate 3 exact rfl); (first | with_reducible assumption | decide +kernel)) | (apply AL_guardU; (iterate 3 exact rfl)) | (apply AL_guardS; exact rfl; exact rfl; all_goals intro hb) | (apply AL_pickT; exact rfl; (first | with_reducible assumption | decide +kernel); exact rfl; exact rfl) | (apply AL_pickF; exact rfl; (first | with_reducible assumption | decide +kernel); exact rfl; exact rfl) | refine AW_region ?_ | refine AW_seq' ?_ | (apply AW_condA; exact rfl; (first | with_reducible assumption | decide +kernel)) | (apply AW_cond'; exact rfl; all_goals intro hb) | refine then_norm ?_ | refine AW_ret ?_ | refine then_ret ?_ | refine AW_skip ?_)
        · rintro tm bx fr ⟨e3, rfl, rfl, rfl⟩
          try simp only [e3, Bool.not_false, Bool.true_and]
          repeat' (first | (apply AL_callPw (hfn); kernel_rfl; (iterate 4 exact rfl)) | (apply AL_callPw (hft); kernel_rfl; (iterate 4 exact rfl)) | (apply AL_callPw (hfl); kernel_rfl; (iterate 4 exact rfl)) | (apply AL_callPw (hfk); kernel_rfl; (iterate 4 exact rfl)) | (apply AL_move; exact rfl; exact rfl) | (apply AL_assign; exact rfl; exact rfl) | (apply AL_bin; (iterate 5 exact rfl)) | (apply AL_load1 ttok; (iterate 6 exact rfl)) | (apply AL_fieldAddr ttok; (iterate 7 exact rfl)) | refine AL_nil ?_ | (apply AL_guardT; (iterate 3 exact rfl); (first | with_reducible assumption | decide +kernel)) | (apply AL_guardFf; (iterate 3 exact rfl); (first | with_reducible assumption | decide +kernel)) | (apply AL_pickT; exact rfl; (first | with_reducible assumption | decide +kernel); exact rfl; exact rfl) | (apply AL_pickF; exact rfl; (first | with_reducible assumption | decide +kernel); exact rfl; exact rfl) | refine AW_region ?_ | refine AW_seq' ?_ | (apply AW_condA; exact rfl; (first | with_reducible assumption | decide +kernel)) | (apply AW_condB; exact rfl; (first | with_reducible assumption | decide +kernel)) | refine then_norm ?_ | refine AW_ret ?_ | refine then_ret ?_ | (apply AL_beq ttok; (iterate 6 exact rfl)) | (apply AW_drawE 17 hmix; (decide +kernel); (kernel_rfl); (kernel_rfl); (kernel_rfl); exact rfl; exact rfl) | (apply AE_consZ; (iterate 4 exact rfl)) | exact AE.nil _ _ _ _ | (apply AEk_puT; exact rfl) | (apply AOt_mk; exact rfl; exact rfl; (decide +kernel); exact rfl) | (apply AO_puT; exact rfl) | exact AO.nil _ _ _ | (apply AOs_skip; (decide +kernel)) | exact AOs.nil | exact qY_ok rfl rfl | refine AW_skip ?_)
          all_goals first | (refine Lands.mk' (m := 0) (by decide) ⟨by clear hP hW hfe hfd hfp hfn hft hfl hfk hfb hfo hK hL; simp_all [isZ], rfl, rfl, rfl⟩ ?_ rfl rfl rfl rfl rfl rfl; exact .cons rfl (.cons rfl (.cons rfl (.cons rfl .nil))); done) | (((apply endQ []; (repeat (first | exact ResL.nil | (apply ResL.cons; first | exact .tmp _ _ rfl | (apply res_n ttok; (iterate 6 exact rfl)) | (apply res_1 ttok; (iterate 5 exact rfl))))); (iterate 4 exact rfl))) <;> (first | rfl | (simp [isZ, *]; done) | (clear hP hW hfe hfd hfp hfn hft hfl hfk hfb hfo hK hL; simp_all [isZ]; done) | (clear hP hW hfe hfd hfp hfn hft hfl hfk hfb hfo hK hL; simp_all [isZ]; omega) | (clear hP hW hfe hfd hfp hfn hft hfl hfk hfb hfo hK hL; simp_all [isZ]; intros; exfalso; first | omega | (simp_all; done))))
        all_goals first | (refine Lands.mk' (m := 0) (by decide) ⟨by clear hP hW hfe hfd hfp hfn hft hfl hfk hfb hfo hK hL; simp_all [isZ], rfl, rfl, rfl⟩ ?_ rfl rfl rfl rfl rfl rfl; exact .cons rfl (.cons rfl (.cons rfl (.cons rfl .nil))); done) | (((apply endQ []; (repeat (first | exact ResL.nil | (apply ResL.cons; first | exact .tmp _ _ rfl | (apply res_n ttok; (iterate 6 exact rfl)) | (apply res_1 ttok; (iterate 5 exact rfl))))); (iterate 4 exact rfl))) <;> (first | rfl | (simp [isZ, *]; done) | (clear hP hW hfe hfd hfp hfn hft hfl hfk hfb hfo hK hL; simp_all [isZ]; done) | (clear hP hW hfe hfd hfp hfn hft hfl hfk hfb hfo hK hL; simp_all [isZ]; omega) | (clear hP hW hfe hfd hfp hfn hft hfl hfk hfb hfo hK hL; simp_all [isZ]; intros; exfalso; first | omega | (simp_all; done))))
      all_goals first | (refine Lands.mk' (m := 0) (by decide) ⟨by clear hP hW hfe hfd hfp hfn hft hfl hfk hfb hfo hK hL; simp_all [isZ], rfl, rfl, rfl⟩ ?_ rfl rfl rfl rfl rfl rfl; exact .cons rfl (.cons rfl (.cons rfl (.cons rfl .nil))); done) | (((apply endQ []; (repeat (first | exact ResL.nil | (apply ResL.cons; first | exact .tmp _ _ rfl | (apply res_n ttok; (iterate 6 exact rfl)) | (apply res_1 ttok; (iterate 5 exact rfl))))); (iterate 4 exact rfl))) <;> (first | rfl | (simp [isZ, *]; done) | (clear hP hW hfe hfd hfp hfn hft hfl hfk hfb hfo hK hL; simp_all [isZ]; done) | (clear hP hW hfe hfd hfp hfn hft hfl hfk hfb hfo hK hL; simp_all [isZ]; omega) | (clear hP hW hfe hfd hfp hfn hft hfl hfk hfb hfo hK hL; simp_all [isZ]; intros; exfalso; first | omega | (simp_all; done))))
    all_goals first | (refine Lands.mk' (m := 0) (by decide) ⟨by clear hP hW hfe hfd hfp hfn hft hfl hfk hfb hfo hK hL; simp_all [isZ], rfl, rfl, rfl⟩ ?_ rfl rfl rfl rfl rfl rfl; exact .cons rfl (.cons rfl (.cons rfl (.cons rfl .nil))); done) | (((apply endQ []; (repeat (first | exact ResL.nil | (apply ResL.cons; first | exact .tmp _ _ rfl | (apply res_n ttok; (iterate 6 exact rfl)) | (apply res_1 ttok; (iterate 5 exact rfl))))); (iterate 4 exact rfl))) <;> (first | rfl | (simp [isZ, *]; done) | (clear hP hW hfe hfd hfp hfn hft hfl hfk hfb hfo hK hL; simp_all [isZ]; done) | (clear hP hW hfe hfd hfp hfn hft hfl hfk hfb hfo hK hL; simp_all [isZ]; omega) | (clear hP hW hfe hfd hfp hfn hft hfl hfk hfb hfo hK hL; simp_all [isZ]; intros; exfalso; first | omega | (simp_all; done))))
end Go.Proofs.YtdhkfbolnkikgaaGreatDoor
end
/- The document's answers for requests: which may be. -/
section
open Go.RowKit Go.Pl Go.Av
namespace Go.Proofs.YtdhkfbolnkikgaaGreatDoor
set_option linter.unusedVariables false
set_option linter.unusedSimpArgs false
set_option maxHeartbeats 4000000
theorem rt_8 [Known] (id : Nat) (kd : Int) (ei : Bool) (en es : Nat) (eh ed : List UInt8) (di : Bool) (dn dq : Nat) (dh dd : List UInt8) (pol num tik : Int) (pay : List UInt8) (life tok : Nat) (on : Bool) (p : List UInt8) (fe fd fp fn ft fl fk fb fo : Bool) (k1 k2 : Int)
    (hP : AP Tryz.prog 35 [.int .i64 kd] (.str p) []) (tq : (p == [63]) = false) (hW : AP Tryz.prog 40 [.int .u64 (id : Int), .int .u64 1099511627776] (.bool true) []) (hw : (decide ((id : Int) ≥ 1) && decide ((id : Int) ≤ 1099511627776)) = true)
    (hfe : AP Tryz.prog 41 [.str p, .int .u8 101] (.bool fe) [])
    (hfd : AP Tryz.prog 41 [.str p, .int .u8 100] (.bool fd) [])
    (hfp : AP Tryz.prog 41 [.str p, .int .u8 112] (.bool fp) [])
    (hfn : AP Tryz.prog 41 [.str p, .int .u8 110] (.bool fn) [])
    (hft : AP Tryz.prog 41 [.str p, .int .u8 116] (.bool ft) [])
    (hfl : AP Tryz.prog 41 [.str p, .int .u8 108] (.bool fl) [])
    (hfk : AP Tryz.prog 41 [.str p, .int .u8 107] (.bool fk) [])
    (hfb : AP Tryz.prog 41 [.str p, .int .u8 98] (.bool fb) [])
    (hfo : AP Tryz.prog 41 [.str p, .int .u8 111] (.bool fo) [])
    (hK : AP Tryz.prog 42 [.agg [.bool ei, .int .u64 (en : Int), .int .u64 (es : Int), .str eh, .str ed]] (.int .i64 k1) []) (hL : AP Tryz.prog 42 [.agg [.bool di, .int .u64 (dn : Int), .int .u64 (dq : Int), .str dh, .str dd]] (.int .i64 k2) [])
    (x1 : (!(fn == decide (num > 0))) = false) (x2 : decide (num > 1099511627776) = false) (x3 : (!(ft == decide (tik > 0))) = false) (x4 : decide (tik > 1000) = false) (y1 : (!(fl == decide ((life : Int) > 0))) = false) (y2 : decide ((life : Int) > 1099511627776) = false) (y3 : (!(fk == decide ((tok : Int) > 0))) = false) (y4 : decide ((tok : Int) > 2147483648) = false) :
    AP Tryz.prog 12 [.agg [.int .u64 (id : Int), .int .i64 kd, .bool ei, .int .u64 (en : Int), .int .u64 (es : Int), .str eh, .str ed, .bool di, .int .u64 (dn : Int), .int .u64 (dq : Int), .str dh, .str dd, .int .i64 pol, .int .i64 num, .int .i64 tik, .sl .ext (pay.map E.byte), .int .u64 (life : Int), .int .u64 (tok : Int), .bool on]] (.bool (rfR fe fd fp fn ft fl fk fb fo k1 k2 ⟨id, kd, ⟨ei, en, es, eh, ed⟩, ⟨di, dn, dq, dh, dd⟩, pol, num, tik, pay, life, tok, on⟩)) [] := by
  have hbl : (pay.map E.byte).length = pay.length := List.length_map ..
  unfold rfR
  rw [hw]
  simp only [bne, Bool.true_and]

  rw [← hbl]
  simp only [x1, x2, x3, x4, y1, y2, y3, y4, Bool.or_false, Bool.false_or, Bool.true_or, Bool.or_true, Bool.not_true, Bool.not_false, Bool.and_false, Bool.false_and, Bool.true_and]
  refine AP.ofA ?_
  refine AC_of Tryz.func12 rfl Tryz.ntmps12 rfl rfl ?_
  repeat' (first | refine AW_join 35 (fun tm bx fr => ((fe && decide (k1 < 1)) || (!fe && !(isZ ⟨ei, en, es, eh, ed⟩))) = false ∧ tm = [(1, .ptr 0 0), (2, .bool false), (3, .str p), (4, .ptr 1 0)] ∧ bx = [[.int .u64 (id : Int), .int .i64 kd, .bool ei, .int .u64 (en : Int), .int .u64 (es : Int), .str eh, .str ed, .bool di, .int .u64 (dn : Int), .int .u64 (dq : Int), .str dh, .str dd, .int .i64 pol, .int .i64 num, .int .i64 tik, .sl .ext (pay.map E.byte), .int .u64 (life : Int), .int .u64 (tok : Int), .bool on], [.bool false, .int .u64 0, .int .u64 0, .str [], .str []]] ∧ fr = []) ?_ ?_ | (apply AL_callPw (hP); kernel_rfl; (iterate 4 exact rfl)) | (apply AL_callPw (hW); kernel_rfl; (iterate 4 exact rfl)) | (apply AL_callPw (hfe); kernel_rfl; (iterate 4 exact rfl)) | (apply AL_callPw (hK); kernel_rfl; (iterate 4 exact rfl)) | (apply AL_move; exact rfl; exact rfl) | (apply AL_assign; exact rfl; exact rfl) | (apply AL_bin; (iterate 5 exact rfl)) | (apply AL_load1 ttok; (iterate 6 exact rfl)) | (apply AL_loadn ttok; (iterate 7 exact rfl)) | (apply AL_fieldAddr ttok; (iterate 7 exact rfl)) | (apply AL_boxZ; (iterate 5 exact rfl)) | (apply AL_store ttok; (iterate 8 exact rfl)) | (apply AL_not; exact rfl; exact rfl) | refine AL_nil ?_ | (apply AL_guardT; (iterate 3 exact rfl); (first | with_reducible assumption | decide +kernel)) | (apply AL_guardFt; (iterate 3 exact rfl); (first | with_reducible assumption | decide +kernel)) | (apply AL_guardFf; (iterate 3 exact rfl); (first | with_reducible assumption | decide +kernel)) | (apply AL_guardU; (iterate 3 exact rfl)) | (apply AL_guardS; exact rfl; exact rfl; all_goals intro hb) | (apply AL_pickT; exact rfl; (first | with_reducible assumption | decide +kernel); exact rfl; exact rfl) | (apply AL_pickF; exact rfl; (first | with_reducible assumption | decide +kernel); exact rfl; exact rfl) | refine AW_region ?_ | refine AW_seq' ?_ | (apply AW_condA; exact rfl; (first | with_reducible assumption | decide +kernel)) | (apply AW_condB; exact rfl; (first | with_reducible assumption | decide +kernel)) | (apply AW_cond'; exact rfl; all_goals intro hb) | refine then_norm ?_ | refine AW_ret ?_ | refine then_ret ?_ | (apply AL_build ttok; (iterate 6 exact rfl)) | (apply AL_allocZ ttok; (iterate 4 exact rfl)) | (apply AL_str; (iterate 5 exact rfl)) | (apply AL_eqS ttok; (iterate 4 exact rfl); (kernel_rfl); (kernel_rfl); (iterate 3 exact rfl)) | refine AW_skip ?_)
  · rintro tm bx fr ⟨e1, rfl, rfl, rfl⟩
    try simp only [e1, Bool.not_false, Bool.true_and]
    repeat' (first | refine AW_join 54 (fun tm bx fr => ((fd && decide (k2 < 1)) || (!fd && !(isZ ⟨di, dn, dq, dh, dd⟩))) = false ∧ tm = [(1, .ptr 0 0), (2, .bool false), (3, .str p), (4, .ptr 1 0)] ∧ bx = [[.int .u64 (id : Int), .int .i64 kd, .bool ei, .int .u64 (en : Int), .int .u64 (es : Int), .str eh, .str ed, .bool di, .int .u64 (dn : Int), .int .u64 (dq : Int), .str dh, .str dd, .int .i64 pol, .int .i64 num, .int .i64 tik, .sl .ext (pay.map E.byte), .int .u64 (life : Int), .int .u64 (tok : Int), .bool on], [.bool false, .int .u64 0, .int .u64 0, .str [], .str []]] ∧ fr = []) ?_ ?_ | (apply AL_callPw (hfd); kernel_rfl; (iterate 4 exact rfl)) | (apply AL_callPw (hL); kernel_rfl; (iterate 4 exact rfl)) | (apply AL_move; exact rfl; exact rfl) | (apply AL_assign; exact rfl; exact rfl) | (apply AL_bin; (iterate 5 exact rfl)) | (apply AL_loadn ttok; (iterate 7 exact rfl)) | (apply AL_fieldAddr ttok; (iterate 7 exact rfl)) | (apply AL_not; exact rfl; exact rfl) | refine AL_nil ?_ | (apply AL_guardT; (iterate 3 exact rfl); (first | with_reducible assumption | decide +kernel)) | (apply AL_guardFt; (iterate 3 exact rfl); (first | with_reducible assumption | decide +kernel)) | (apply AL_guardFf; (iterate 3 exact rfl); (first | with_reducible assumption | decide +kernel)) | (apply AL_guardU; (iterate 3 exact rfl)) | (apply AL_guardS; exact rfl; exact rfl; all_goals intro hb) | (apply AL_pickT; exact rfl; (first | with_reducible assumption | decide +kernel); exact rfl; exact rfl) | (apply AL_pickF; exact rfl; (first | with_reducible assumption | decide +kernel); exact rfl; exact rfl) | refine AW_region ?_ | refine AW_seq' ?_ | (apply AW_condA; exact rfl; (first | with_reducible assumption | decide +kernel)) | (apply AW_condB; exact rfl; (first | with_reducible assumption | decide +kernel)) | (apply AW_cond'; exact rfl; all_goals intro hb) | refine then_norm ?_ | refine AW_ret ?_ | refine then_ret ?_ | (apply AL_eqS ttok; (iterate 4 exact rfl); (kernel_rfl); (kernel_rfl); (iterate 3 exact rfl)) | refine AW_skip ?_)
    · rintro tm bx fr ⟨e2, rfl, rfl, rfl⟩
      try simp only [e2, Bool.not_false, Bool.true_and]
      repeat' (first | refine AW_join 82 (fun tm bx fr => (decide (pol < 0) || (decide (pol > 2) || ((!fp && !(pol == 0)) || (decide (num < 0) || decide (tik < 0))))) = false ∧ tm = [(1, .ptr 0 0), (2, .bool false), (3, .str p), (4, .ptr 1 0)] ∧ bx = [[.int .u64 (id : Int), .int .i64 kd, .bool ei, .int .u64 (en : Int), .int .u64 (es : Int), .str eh, .str ed, .bool di, .int .u64 (dn : Int), .int .u64 (dq : Int), .str dh, .str dd, .int .i64 pol, .int .i64 num, .int .i64 tik, .sl .ext (pay.map E.byte), .int .u64 (life : Int), .int .u64 (tok : Int), .bool on], [.bool false, .int .u64 0, .int .u64 0, .str [], .str []]] ∧ fr = []) ?_ ?_ | (apply AL_callPw (hfp); kernel_rfl; (iterate 4 exact rfl)) | (apply AL_move; exact rfl; exact rfl) | (apply AL_assign; exact rfl; exact rfl) | (apply AL_bin; (iterate 5 exact rfl)) | (apply AL_load1 ttok; (iterate 6 exact rfl)) | (apply AL_fieldAddr ttok; (iterate 7 exact rfl)) | (apply AL_not; exact rfl; exact rfl) | refine AL_nil ?_ | (apply AL_guardT; (iterate 3 exact rfl); (first | with_reducible assumption | decide +kernel)) | (apply AL_guardFt; (iterate 3 exact rfl); (first | with_reducible assumption | decide +kernel)) | (apply AL_guardFf; (iterate 3 exact rfl); (first | with_reducible assumption | decide +kernel)) | (apply AL_guardU; (iterate 3 exact rfl)) | (apply AL_guardS; exact rfl; exact rfl; all_goals intro hb) | (apply AL_pickT; exact rfl; (first | with_reducible assumption | decide +kernel); exact rfl; exact rfl) | (apply AL_pickF; exact rfl; (first | with_reducible assumption | decide +kernel); exact rfl; exact rfl) | refine AW_region ?_ | refine AW_seq' ?_ | (apply AW_condA; exact rfl; (first | with_reducible assumption | decide +kernel)) | (apply AW_cond'; exact rfl; all_goals intro hb) | refine then_norm ?_ | refine AW_ret ?_ | refine then_ret ?_ | refine AW_skip ?_)
      · rintro tm bx fr ⟨e3, rfl, rfl, rfl⟩
        try simp only [e3, Bool.not_false, Bool.true_and]
        repeat' (first | (apply AL_callPw (hfn); kernel_rfl; (iterate 4 exact rfl)) | (apply AL_callPw (hft); kernel_rfl; (iterate 4 exact rfl)) | (apply AL_callPw (hfl); kernel_rfl; (iterate 4 exact rfl)) | (apply AL_callPw (hfk); kernel_rfl; (iterate 4 exact rfl)) | (apply AL_callPw (hfb); kernel_rfl; (iterate 4 exact rfl)) | (apply AL_callPw (hfo); kernel_rfl; (iterate 4 exact rfl)) | (apply AL_move; exact rfl; exact rfl) | (apply AL_assign; exact rfl; exact rfl) | (apply AL_bin; (iterate 5 exact rfl)) | (apply AL_load1 ttok; (iterate 6 exact rfl)) | (apply AL_fieldAddr ttok; (iterate 7 exact rfl)) | (apply AL_not; exact rfl; exact rfl) | refine AL_nil ?_ | (apply AL_guardT; (iterate 3 exact rfl); (first | with_reducible assumption | decide +kernel)) | (apply AL_guardFt; (iterate 3 exact rfl); (first | with_reducible assumption | decide +kernel)) | (apply AL_guardFf; (iterate 3 exact rfl); (first | with_reducible assumption | decide +kernel)) | (apply AL_guardU; (iterate 3 exact rfl)) | (apply AL_guardS; exact rfl; exact rfl; all_goals intro hb) | (apply AL_pickT; exact rfl; (first | with_reducible assumption | decide +kernel); exact rfl; exact rfl) | (apply AL_pickF; exact rfl; (first | with_reducible assumption | decide +kernel); exact rfl; exact rfl) | refine AW_region ?_ | refine AW_seq' ?_ | (apply AW_condB; exact rfl; (first | with_reducible assumption | decide +kernel)) | refine then_norm ?_ | refine AW_ret ?_ | (apply AL_len ttok; (iterate 4 exact rfl)) | (apply AL_beq ttok; (iterate 6 exact rfl)) | (apply AW_drawE 17 hmix; (decide +kernel); (kernel_rfl); (kernel_rfl); (kernel_rfl); exact rfl; exact rfl) | (apply AE_consZ; (iterate 4 exact rfl)) | exact AE.nil _ _ _ _ | (apply AEk_puT; exact rfl) | (apply AOt_mk; exact rfl; exact rfl; (decide +kernel); exact rfl) | (apply AO_puT; exact rfl) | exact AO.nil _ _ _ | (apply AOs_skip; (decide +kernel)) | exact AOs.nil | exact qY_ok rfl rfl | refine AW_skip ?_)
        all_goals first | (refine Lands.mk' (m := 0) (by decide) ⟨by clear hP hW hfe hfd hfp hfn hft hfl hfk hfb hfo hK hL; simp_all [isZ], rfl, rfl, rfl⟩ ?_ rfl rfl rfl rfl rfl rfl; exact .cons rfl (.cons rfl (.cons rfl (.cons rfl .nil))); done) | (((apply endQ []; (repeat (first | exact ResL.nil | (apply ResL.cons; first | exact .tmp _ _ rfl | (apply res_n ttok; (iterate 6 exact rfl)) | (apply res_1 ttok; (iterate 5 exact rfl))))); (iterate 4 exact rfl))) <;> (first | rfl | (simp [isZ, *]; done) | (clear hP hW hfe hfd hfp hfn hft hfl hfk hfb hfo hK hL; simp_all [isZ]; done) | (clear hP hW hfe hfd hfp hfn hft hfl hfk hfb hfo hK hL; simp_all [isZ]; omega) | (clear hP hW hfe hfd hfp hfn hft hfl hfk hfb hfo hK hL; simp_all [isZ]; intros; exfalso; first | omega | (simp_all; done))))
      all_goals first | (refine Lands.mk' (m := 0) (by decide) ⟨by clear hP hW hfe hfd hfp hfn hft hfl hfk hfb hfo hK hL; simp_all [isZ], rfl, rfl, rfl⟩ ?_ rfl rfl rfl rfl rfl rfl; exact .cons rfl (.cons rfl (.cons rfl (.cons rfl .nil))); done) | (((apply endQ []; (repeat (first | exact ResL.nil | (apply ResL.cons; first | exact .tmp _ _ rfl | (apply res_n ttok; (iterate 6 exact rfl)) | (apply res_1 ttok; (iterate 5 exact rfl))))); (iterate 4 exact rfl))) <;> (first | rfl | (simp [isZ, *]; done) | (clear hP hW hfe hfd hfp hfn hft hfl hfk hfb hfo hK hL; simp_all [isZ]; done) | (clear hP hW hfe hfd hfp hfn hft hfl hfk hfb hfo hK hL; simp_all [isZ]; omega) | (clear hP hW hfe hfd hfp hfn hft hfl hfk hfb hfo hK hL; simp_all [isZ]; intros; exfalso; first | omega | (simp_all; done))))
    all_goals first | (refine Lands.mk' (m := 0) (by decide) ⟨by clear hP hW hfe hfd hfp hfn hft hfl hfk hfb hfo hK hL; simp_all [isZ], rfl, rfl, rfl⟩ ?_ rfl rfl rfl rfl rfl rfl; exact .cons rfl (.cons rfl (.cons rfl (.cons rfl .nil))); done) | (((apply endQ []; (repeat (first | exact ResL.nil | (apply ResL.cons; first | exact .tmp _ _ rfl | (apply res_n ttok; (iterate 6 exact rfl)) | (apply res_1 ttok; (iterate 5 exact rfl))))); (iterate 4 exact rfl))) <;> (first | rfl | (simp [isZ, *]; done) | (clear hP hW hfe hfd hfp hfn hft hfl hfk hfb hfo hK hL; simp_all [isZ]; done) | (clear hP hW hfe hfd hfp hfn hft hfl hfk hfb hfo hK hL; simp_all [isZ]; omega) | (clear hP hW hfe hfd hfp hfn hft hfl hfk hfb hfo hK hL; simp_all [isZ]; intros; exfalso; first | omega | (simp_all; done))))
  all_goals first | (refine Lands.mk' (m := 0) (by decide) ⟨by clear hP hW hfe hfd hfp hfn hft hfl hfk hfb hfo hK hL; simp_all [isZ], rfl, rfl, rfl⟩ ?_ rfl rfl rfl rfl rfl rfl; exact .cons rfl (.cons rfl (.cons rfl (.cons rfl .nil))); done) | (((apply endQ []; (repeat (first | exact ResL.nil | (apply ResL.cons; first | exact .tmp _ _ rfl | (apply res_n ttok; (iterate 6 exact rfl)) | (apply res_1 ttok; (iterate 5 exact rfl))))); (iterate 4 exact rfl))) <;> (first | rfl | (simp [isZ, *]; done) | (clear hP hW hfe hfd hfp hfn hft hfl hfk hfb hfo hK hL; simp_all [isZ]; done) | (clear hP hW hfe hfd hfp hfn hft hfl hfk hfb hfo hK hL; simp_all [isZ]; omega) | (clear hP hW hfe hfd hfp hfn hft hfl hfk hfb hfo hK hL; simp_all [isZ]; intros; exfalso; first | omega | (simp_all; done))))
theorem rt_9 [Known] (id : Nat) (kd : Int) (ei : Bool) (en es : Nat) (eh ed : List UInt8) (di : Bool) (dn dq : Nat) (dh dd : List UInt8) (pol num tik : Int) (pay : List UInt8) (life tok : Nat) (on : Bool) (p : List UInt8) (r : Bool) (hr : r = false)
    (hP : AP Tryz.prog 35 [.int .i64 kd] (.str p) []) (tq : (p == [63]) = false) (hW : AP Tryz.prog 40 [.int .u64 (id : Int), .int .u64 1099511627776] (.bool false) []) :
    AP Tryz.prog 12 [.agg [.int .u64 (id : Int), .int .i64 kd, .bool ei, .int .u64 (en : Int), .int .u64 (es : Int), .str eh, .str ed, .bool di, .int .u64 (dn : Int), .int .u64 (dq : Int), .str dh, .str dd, .int .i64 pol, .int .i64 num, .int .i64 tik, .sl .ext (pay.map E.byte), .int .u64 (life : Int), .int .u64 (tok : Int), .bool on]] (.bool r) [] := by
  subst hr
  refine AP.ofA ?_
  refine AC_of Tryz.func12 rfl Tryz.ntmps12 rfl rfl ?_
  repeat' (first | (apply AL_callPw (hP); kernel_rfl; (iterate 4 exact rfl)) | (apply AL_callPw (hW); kernel_rfl; (iterate 4 exact rfl)) | (apply AL_move; exact rfl; exact rfl) | (apply AL_assign; exact rfl; exact rfl) | (apply AL_load1 ttok; (iterate 6 exact rfl)) | (apply AL_fieldAddr ttok; (iterate 7 exact rfl)) | (apply AL_boxZ; (iterate 5 exact rfl)) | (apply AL_not; exact rfl; exact rfl) | refine AL_nil ?_ | (apply AL_guardT; (iterate 3 exact rfl); (first | with_reducible assumption | decide +kernel)) | (apply AL_pickF; exact rfl; (first | with_reducible assumption | decide +kernel); exact rfl; exact rfl) | refine AW_region ?_ | refine AW_seq' ?_ | (apply AW_condA; exact rfl; (first | with_reducible assumption | decide +kernel)) | refine then_norm ?_ | refine AW_ret ?_ | refine then_ret ?_ | (apply AL_str; (iterate 5 exact rfl)))
  all_goals (apply endQ []; (repeat (first | exact ResL.nil | (apply ResL.cons; first | exact .tmp _ _ rfl | (apply res_n ttok; (iterate 6 exact rfl)) | (apply res_1 ttok; (iterate 5 exact rfl))))); (iterate 4 exact rfl))
  all_goals rfl
theorem rt_10 [Known] (id : Nat) (kd : Int) (ei : Bool) (en es : Nat) (eh ed : List UInt8) (di : Bool) (dn dq : Nat) (dh dd : List UInt8) (pol num tik : Int) (pay : List UInt8) (life tok : Nat) (on : Bool) (r : Bool) (hr : r = false)
    (hP : AP Tryz.prog 35 [.int .i64 kd] (.str [63]) []) :
    AP Tryz.prog 12 [.agg [.int .u64 (id : Int), .int .i64 kd, .bool ei, .int .u64 (en : Int), .int .u64 (es : Int), .str eh, .str ed, .bool di, .int .u64 (dn : Int), .int .u64 (dq : Int), .str dh, .str dd, .int .i64 pol, .int .i64 num, .int .i64 tik, .sl .ext (pay.map E.byte), .int .u64 (life : Int), .int .u64 (tok : Int), .bool on]] (.bool r) [] := by
  subst hr
  refine AP.ofA ?_
  refine AC_of Tryz.func12 rfl Tryz.ntmps12 rfl rfl ?_
  repeat' (first | (apply AL_callPw (hP); kernel_rfl; (iterate 4 exact rfl)) | (apply AL_move; exact rfl; exact rfl) | (apply AL_assign; exact rfl; exact rfl) | (apply AL_load1 ttok; (iterate 6 exact rfl)) | (apply AL_fieldAddr ttok; (iterate 7 exact rfl)) | (apply AL_box; (iterate 5 exact rfl)) | refine AL_nil ?_ | (apply AL_guardFf; (iterate 3 exact rfl); (first | with_reducible assumption | decide +kernel)) | (apply AL_pickT; exact rfl; (first | with_reducible assumption | decide +kernel); exact rfl; exact rfl) | refine AW_region ?_ | refine AW_seq' ?_ | (apply AW_condA; exact rfl; (first | with_reducible assumption | decide +kernel)) | refine then_norm ?_ | refine AW_ret ?_ | refine then_ret ?_ | (apply AL_str; (iterate 5 exact rfl)))
  all_goals (apply endQ []; (repeat (first | exact ResL.nil | (apply ResL.cons; first | exact .tmp _ _ rfl | (apply res_n ttok; (iterate 6 exact rfl)) | (apply res_1 ttok; (iterate 5 exact rfl))))); (iterate 4 exact rfl))
  all_goals rfl
end Go.Proofs.YtdhkfbolnkikgaaGreatDoor
end
/- The document's answers for requests: which may be, and a request's bytes, joined. -/
section
open Go.RowKit Go.Pl Go.Av
namespace Go.Proofs.YtdhkfbolnkikgaaGreatDoor
set_option linter.unusedVariables false
set_option linter.unusedSimpArgs false
set_option maxHeartbeats 4000000
theorem av_rfRight [Known] (x : RqV) (hx : Fit x.ep) (hy : Fit x.ds) : AP Tryz.prog 12 [.agg (rqC x)] (.bool (rqRight x)) [] := by
  obtain ⟨id, kd, ep, ds, pol, num, tik, pay, life, tok, on⟩ := x
  dsimp only at hx hy
  have hP := av_ptsL kd
  have hK := av_kind ep hx
  have hL := av_kind ds hy
  have hW := av_within id 1099511627776
  by_cases hk : kd = 1 ∨ kd = 2 ∨ kd = 3 ∨ kd = 4 ∨ kd = 5 ∨ kd = 6 ∨ kd = 7 ∨ kd = 8 ∨ kd = 9 ∨ kd = 10 ∨ kd = 11 ∨ kd = 12
  · rw [← rf_right _ hk]
    have tq : (ptsL kd == [63]) = false := by rcases hk with rfl | rfl | rfl | rfl | rfl | rfl | rfl | rfl | rfl | rfl | rfl | rfl <;> rfl
    have hl : (ptsL kd).length ≤ 10 := by rcases hk with rfl | rfl | rfl | rfl | rfl | rfl | rfl | rfl | rfl | rfl | rfl | rfl <;> decide
    have ha := fun c => av_has (ptsL kd) c (by omega)
    have he := ha 101
    have hd := ha 100
    have hp := ha 112
    have hn := ha 110
    have ht := ha 116
    have hf := ha 108
    have hq := ha 107
    have hb := ha 98
    have ho := ha 111
    unfold rfF
    dsimp only at *
    clear hk hl ha hx hy
    generalize ptsL kd = p at *
    generalize p.contains 101 = fe at *
    generalize p.contains 100 = fd at *
    generalize p.contains 112 = fp at *
    generalize p.contains 110 = fn at *
    generalize p.contains 116 = ft at *
    generalize p.contains 108 = fl at *
    generalize p.contains 107 = fk at *
    generalize p.contains 98 = fb at *
    generalize p.contains 111 = fo at *
    obtain ⟨ei, en, es, eh, ed⟩ := ep
    obtain ⟨di, dn, dq, dh, dd⟩ := ds
    generalize kindN _ = k1 at hK ⊢
    generalize kindN _ = k2 at hL ⊢
    have hW2 : AP Tryz.prog 40 [.int .u64 (id : Int), .int .u64 1099511627776] (.bool (decide ((id : Int) ≥ 1) && decide ((id : Int) ≤ 1099511627776))) [] := hW
    clear hW
    cases hw : (decide ((id : Int) ≥ 1) && decide ((id : Int) ≤ 1099511627776)) with
    | false =>
      rw [hw] at hW2
      exact rt_9 id kd ei en es eh ed di dn dq dh dd pol num tik pay life tok on p _ (by unfold rfR; rw [hw]; rfl) hP tq hW2
    | true =>
      rw [hw] at hW2
      cases x1 : (!(fn == decide (num > 0))) with
      | true => exact (rt_0_all id kd ei en es eh ed di dn dq dh dd pol num tik pay life tok on p fe fd fp fn ft fl fk fb fo k1 k2 hP tq hW2 hw he hd hp hn ht hf hq hb ho hK hL).1 x1
      | false =>
      cases x2 : decide (num > 1099511627776) with
      | true => exact (rt_0_all id kd ei en es eh ed di dn dq dh dd pol num tik pay life tok on p fe fd fp fn ft fl fk fb fo k1 k2 hP tq hW2 hw he hd hp hn ht hf hq hb ho hK hL).2.1 x1 x2
      | false =>
      cases x3 : (!(ft == decide (tik > 0))) with
      | true => exact (rt_0_all id kd ei en es eh ed di dn dq dh dd pol num tik pay life tok on p fe fd fp fn ft fl fk fb fo k1 k2 hP tq hW2 hw he hd hp hn ht hf hq hb ho hK hL).2.2 x1 x2 x3
      | false =>
      cases x4 : decide (tik > 1000) with
      | true => exact (rt_3_all id kd ei en es eh ed di dn dq dh dd pol num tik pay life tok on p fe fd fp fn ft fl fk fb fo k1 k2 hP tq hW2 hw he hd hp hn ht hf hq hb ho hK hL x1 x2 x3).1 x4
      | false =>
      cases y1 : (!(fl == decide ((life : Int) > 0))) with
      | true => exact (rt_3_all id kd ei en es eh ed di dn dq dh dd pol num tik pay life tok on p fe fd fp fn ft fl fk fb fo k1 k2 hP tq hW2 hw he hd hp hn ht hf hq hb ho hK hL x1 x2 x3).2 x4 y1
      | false =>
      cases y2 : decide ((life : Int) > 1099511627776) with
      | true => exact rt_5 id kd ei en es eh ed di dn dq dh dd pol num tik pay life tok on p fe fd fp fn ft fl fk fb fo k1 k2 hP tq hW2 hw he hd hp hn ht hf hq hb ho hK hL x1 x2 x3 x4 y1 y2
      | false =>
      cases y3 : (!(fk == decide ((tok : Int) > 0))) with
      | true => exact (rt_6_all id kd ei en es eh ed di dn dq dh dd pol num tik pay life tok on p fe fd fp fn ft fl fk fb fo k1 k2 hP tq hW2 hw he hd hp hn ht hf hq hb ho hK hL x1 x2 x3 x4 y1 y2).1 y3
      | false =>
      cases y4 : decide ((tok : Int) > 2147483648) with
      | true => exact (rt_6_all id kd ei en es eh ed di dn dq dh dd pol num tik pay life tok on p fe fd fp fn ft fl fk fb fo k1 k2 hP tq hW2 hw he hd hp hn ht hf hq hb ho hK hL x1 x2 x3 x4 y1 y2).2 y3 y4
      | false => exact rt_8 id kd ei en es eh ed di dn dq dh dd pol num tik pay life tok on p fe fd fp fn ft fl fk fb fo k1 k2 hP tq hW2 hw he hd hp hn ht hf hq hb ho hK hL x1 x2 x3 x4 y1 y2 y3 y4
  · have e : ptsL kd = [63] := by
      rcases kcase kd with h | h | h | h | h | h | h | h | h | h | h | h | ⟨k1, k2, k3, k4, k5, k6, k7, k8, k9, k10, k11, k12⟩
      all_goals first | (exact absurd h (fun h => hk (by omega))) | skip
      unfold ptsL
      simp only [k1, k2, k3, k4, k5, k6, k7, k8, k9, k10, k11, k12, Bool.or_self, Bool.false_eq_true, if_false]
    rw [e] at hP
    obtain ⟨ei, en, es, eh, ed⟩ := ep
    obtain ⟨di, dn, dq, dh, dd⟩ := ds
    refine rt_10 id kd ei en es eh ed di dn dq dh dd pol num tik pay life tok on _ ?_ hP
    cases hr : rqRight _ with
    | false => rfl
    | true => exact absurd (rq_kind hr) hk
end Go.Proofs.YtdhkfbolnkikgaaGreatDoor
end
