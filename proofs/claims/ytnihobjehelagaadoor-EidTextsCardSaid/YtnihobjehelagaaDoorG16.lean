/- Interface values that are not nil, held against nil. -/
import Derived.Test.YtnihobjehelagaaDoorG03
import Derived.LaidEql
import Derived.Test.YtnihobjehelagaaDoorG14
import Derived.Test.YtnihobjehelagaaDoorG15
section
open Go.RowKit Go.Pl
namespace Go.Av
set_option linter.unusedSimpArgs false
set_option linter.unusedVariables false
section
variable {P : Program} {Q : X → St → Prop} {n : Nat} {ee : Nat × Nat} {tm : List (Nat × D)} {bx : List (List D)} {fr : List Fr}
variable {ops : Array Oper} {rest : List Oper} {t ty : Nat} {pos : String} {after : Array Edge}
theorem run_equal_iface_nil {ti : TypeId} {w : World} {ms : Array (String × TypeId)} (tp : TypeId) (v : Value) (hi : P.underlying ti = some (.interface ms)) : (Op.equal ti (.iface tp v) .nilIface).run P w = .ok false w := by
  have h : ∀ d : Nat, (Op.equalIn (d + 1) ti (.iface tp v) .nilIface).run P w = .ok false w := fun d => by simp [Op.equalIn, run_underlying hi]
  simp only [Op.equal]
  exact h _
theorem AL_ifnot [Known] [Dfr] {op : BinOp} {x : Operand} {xt yt : Nat} {d d0 : D} {t0 : TypeId} (hx : ev tm x = .iface t0 d0) (hu : P.underlying xt = some (.interface (P.methodsAt xt))) (hd : (match op with | .eql => some (D.bool false) | .neq => some (D.bool true) | _ => none) = some d) (htd : Nat.blt t n = true)
    (k : AL P ops rest ⟨n, (t, d) :: tm, bx, fr, ee⟩ Q) : AL P ops (⟨some t, .binOp op xt x (.const .nilIface) yt, ty, pos, after, none⟩ :: rest) ⟨n, tm, bx, fr, ee⟩ Q :=
  AL_val _ htd (fun g a w hi => by
    have h1 : V w g fr (ev tm x) (a.eval x) := hi.ev x
    rw [hx] at h1
    obtain ⟨v, h1⟩ : ∃ v, a.eval x = .iface t0 v := by
      generalize a.eval x = v at h1
      cases h1 with | iface _ _ v _ => exact ⟨v, rfl⟩
    have h2 : a.eval (.const .nilIface) = .nilIface := rfl
    have hrun : (Op.equal xt (.iface t0 v) .nilIface).run P w = .ok false w := run_equal_iface_nil t0 v hu
    cases op <;> simp at hd <;> subst hd <;> first | exact ⟨.bool false, by simp [execOp, h1, h2, eqGuard, binOp, Sem.run_bind, hrun], .bool _⟩ | exact ⟨.bool true, by simp [execOp, h1, h2, eqGuard, binOp, Sem.run_bind, hrun], .bool _⟩) k
end
end Go.Av
end
/- Package eid: a text's name. -/
section
open Go.RowKit Go.Pl Go.Av
namespace Go.Proofs.YtnihobjehelagaaDoor
set_option linter.unusedVariables false
set_option linter.unusedSimpArgs false
set_option maxHeartbeats 4000000
theorem cutV_len (c : UInt8) : ∀ s : List UInt8, (cutV c s).1.length ≤ s.length ∧ (cutV c s).2.1.length ≤ s.length
  | [] => ⟨Nat.le_refl _, Nat.le_refl _⟩
  | x :: s => by
    rw [cutV]
    have := cutV_len c s
    split
    · simp
    · simp; omega
theorem preV_len (p s : List UInt8) : (preV p s).1.length ≤ s.length := by
  unfold preV
  split
  · simp
  · exact Nat.le_refl _
theorem av_cut [Known] (s : List UInt8) (c : UInt8) (hl : s.length ≤ 4611686018427387904) : AP Tryd.prog 107 [.str s, .str [c]] (.tup [.str (cutV c s).1, .str (cutV c s).2.1, .bool (cutV c s).2.2]) [] := by
  rcases cut_cases c s with h | ⟨a, b, rfl, h⟩
  · rw [cutV_no h]; exact av_cutN s c h
  · rw [cutV_yes h]; exact av_cutY a b c h hl
theorem av_cutPre [Known] (s p : List UInt8) (hs : s.length ≤ 4611686018427387904) (hp : p.length ≤ 4611686018427387904) : AP Tryd.prog 72 [.str s, .str p] (.tup [.str (preV p s).1, .bool (preV p s).2]) [] := by
  rcases pre_cases s p with ⟨r, rfl⟩ | h
  · rw [preV_app]; exact av_cutPreY p r hs
  · rw [preV_no h]; exact av_cutPreN s p hs hp h
theorem av_pp [Known] (s : List UInt8) (hs : s.length ≤ 1099511627776) : AP Tryd.prog 74 [.str s] (.tup [.agg (eC (ppV s).1), .bool (ppV s).2]) [] := by
  have hP := av_cutPre s [47, 47] (by omega) (by decide)
  have hl := preV_len [47, 47] s
  unfold ppV
  dsimp only
  generalize (preV [47, 47] s).1 = r at *
  generalize (preV [47, 47] s).2 = ok at *
  have hC := av_cut r 47 (by omega)
  generalize (cutV 47 r).1 = a at *
  generalize (cutV 47 r).2.1 = b at *
  generalize (cutV 47 r).2.2 = k at *
  have hR := av_eRight ⟨false, 0, 0, a, b⟩
  generalize eRight ⟨false, 0, 0, a, b⟩ = R at *
  replace hR : AP Tryd.prog _ [.agg [.bool false, .int .u64 0, .int .u64 0, .str a, .str b]] (.bool R) [] := hR
  show AP Tryd.prog _ _ (.tup [.agg [.bool false, .int .u64 0, .int .u64 0, .str a, .str b], _]) _
  obtain ⟨ne, h1⟩ : ∃ ne, (a != []) = ne := ⟨_, rfl⟩
  rw [h1]
  cases ok with
  | false =>
    refine AP.ofA ?_
    refine AC_of Tryd.func74 rfl Tryd.ntmps74 rfl rfl ?_
    repeat' (first | (apply AL_callPw (hP); kernel_rfl; (iterate 4 exact rfl)) | (apply AL_callPw (hC); kernel_rfl; (iterate 4 exact rfl)) | (apply AL_move; exact rfl; exact rfl) | (apply AL_assign; exact rfl; exact rfl) | (apply AL_loadn ttok; (iterate 7 exact rfl)) | (apply AL_store ttok; (iterate 8 exact rfl)) | (apply AL_extract; (iterate 3 exact rfl)) | refine AL_nil ?_ | (apply AL_guardFt; (iterate 3 exact rfl); (first | with_reducible assumption | decide +kernel)) | (apply AL_pickF; exact rfl; (first | with_reducible assumption | decide +kernel); exact rfl; exact rfl) | refine AW_region ?_ | refine AW_seq' ?_ | refine then_norm ?_ | refine AW_ret ?_ | (apply AL_build ttok; (iterate 6 exact rfl)) | (apply AL_allocZ ttok; (iterate 4 exact rfl)) | (apply AW_drawE 14 hmix; (decide +kernel); (kernel_rfl); (kernel_rfl); (kernel_rfl); exact rfl; exact rfl) | (apply AE_consZ; (iterate 4 exact rfl)) | exact AE.nil _ _ _ _ | (apply AEk_puT; exact rfl) | (apply AEk_ef; exact rfl) | (apply AOt_mk; exact rfl; exact rfl; (decide +kernel); exact rfl) | (apply AO_puT; exact rfl) | (apply AO_ef; exact rfl) | exact AO.nil _ _ _ | (apply AOs_skip; (decide +kernel)) | (apply AOs_goZ; (iterate 3 exact rfl)) | exact AOs.nil | exact qY_ok rfl rfl | exact qY_efn rfl)
    all_goals (apply endQ []; (repeat (first | exact ResL.nil | (apply ResL.cons; first | exact .tmp _ _ rfl | (apply res_n ttok; (iterate 6 exact rfl)) | (apply res_1 ttok; (iterate 5 exact rfl))))); (iterate 4 exact rfl))
    all_goals rfl
  | true =>
    cases k with
    | false =>
      refine AP.ofA ?_
      refine AC_of Tryd.func74 rfl Tryd.ntmps74 rfl rfl ?_
      repeat' (first | (apply AL_callPw (hP); kernel_rfl; (iterate 4 exact rfl)) | (apply AL_callPw (hC); kernel_rfl; (iterate 4 exact rfl)) | (apply AL_move; exact rfl; exact rfl) | (apply AL_assign; exact rfl; exact rfl) | (apply AL_loadn ttok; (iterate 7 exact rfl)) | (apply AL_store ttok; (iterate 8 exact rfl)) | (apply AL_extract; (iterate 3 exact rfl)) | refine AL_nil ?_ | (apply AL_guardT; (iterate 3 exact rfl); (first | with_reducible assumption | decide +kernel)) | (apply AL_guardFt; (iterate 3 exact rfl); (first | with_reducible assumption | decide +kernel)) | (apply AL_pickT; exact rfl; (first | with_reducible assumption | decide +kernel); exact rfl; exact rfl) | (apply AL_pickF; exact rfl; (first | with_reducible assumption | decide +kernel); exact rfl; exact rfl) | refine AW_region ?_ | refine AW_seq' ?_ | refine then_norm ?_ | refine AW_ret ?_ | (apply AL_build ttok; (iterate 6 exact rfl)) | (apply AL_allocZ ttok; (iterate 4 exact rfl)) | (apply AW_drawE 14 hmix; (decide +kernel); (kernel_rfl); (kernel_rfl); (kernel_rfl); exact rfl; exact rfl) | (apply AE_consZ; (iterate 4 exact rfl)) | exact AE.nil _ _ _ _ | (apply AEk_puT; exact rfl) | (apply AEk_ef; exact rfl) | (apply AOt_mk; exact rfl; exact rfl; (decide +kernel); exact rfl) | (apply AO_puT; exact rfl) | (apply AO_ef; exact rfl) | exact AO.nil _ _ _ | (apply AOs_skip; (decide +kernel)) | (apply AOs_goZ; (iterate 3 exact rfl)) | exact AOs.nil | exact qY_ok rfl rfl | exact qY_efn rfl)
      all_goals (apply endQ []; (repeat (first | exact ResL.nil | (apply ResL.cons; first | exact .tmp _ _ rfl | (apply res_n ttok; (iterate 6 exact rfl)) | (apply res_1 ttok; (iterate 5 exact rfl))))); (iterate 4 exact rfl))
      all_goals rfl
    | true =>
      cases ne <;> cases R
      all_goals
        refine AP.ofA ?_
        refine AC_of Tryd.func74 rfl Tryd.ntmps74 rfl rfl ?_
        repeat' (first | rw [h1] | (apply AL_callPw (hP); kernel_rfl; (iterate 4 exact rfl)) | (apply AL_callPw (hC); kernel_rfl; (iterate 4 exact rfl)) | (apply AL_callPw (hR); kernel_rfl; (iterate 4 exact rfl)) | (apply AL_move; exact rfl; exact rfl) | (apply AL_assign; exact rfl; exact rfl) | (apply AL_loadn ttok; (iterate 7 exact rfl)) | (apply AL_store ttok; (iterate 8 exact rfl)) | (apply AL_extract; (iterate 3 exact rfl)) | refine AL_nil ?_ | (apply AL_guardT; (iterate 3 exact rfl); (first | with_reducible assumption | decide +kernel)) | (apply AL_guardFt; (iterate 3 exact rfl); (first | with_reducible assumption | decide +kernel)) | (apply AL_pickT; exact rfl; (first | with_reducible assumption | decide +kernel); exact rfl; exact rfl) | (apply AL_pickF; exact rfl; (first | with_reducible assumption | decide +kernel); exact rfl; exact rfl) | refine AW_region ?_ | refine AW_seq' ?_ | refine then_norm ?_ | refine AW_ret ?_ | (apply AL_build ttok; (iterate 6 exact rfl)) | (apply AL_allocZ ttok; (iterate 4 exact rfl)) | (apply AL_str; (iterate 5 exact rfl)) | (apply AW_drawE 14 hmix; (decide +kernel); (kernel_rfl); (kernel_rfl); (kernel_rfl); exact rfl; exact rfl) | (apply AE_consZ; (iterate 4 exact rfl)) | exact AE.nil _ _ _ _ | (apply AEk_puT; exact rfl) | (apply AEk_ef; exact rfl) | (apply AOt_mk; exact rfl; exact rfl; (decide +kernel); exact rfl) | (apply AO_puT; exact rfl) | (apply AO_ef; exact rfl) | exact AO.nil _ _ _ | (apply AOs_skip; (decide +kernel)) | (apply AOs_goZ; (iterate 3 exact rfl)) | exact AOs.nil | exact qY_ok rfl rfl | exact qY_efn rfl)
        all_goals (apply endQ []; (repeat (first | exact ResL.nil | (apply ResL.cons; first | exact .tmp _ _ rfl | (apply res_n ttok; (iterate 6 exact rfl)) | (apply res_1 ttok; (iterate 5 exact rfl))))); (iterate 4 exact rfl))
        all_goals rfl
end Go.Proofs.YtnihobjehelagaaDoor
end
