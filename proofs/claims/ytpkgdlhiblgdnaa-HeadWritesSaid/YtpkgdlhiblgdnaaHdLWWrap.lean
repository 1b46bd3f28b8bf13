/- HeadWrites: the statement, out of my walk of the law. -/
import Derived.Test.YtpkgdlhiblgdnaaRows
import Derived.ProofKit
import Derived.OpenShut
import Derived.ShutString
import Derived.ChangeOld
import Derived.Test.YtpkgdlhiblgdnaaOpen
import Derived.Test.YtpkgdlhiblgdnaaHdL
namespace Go.Proofs.Ytpkgdlhiblgdnaa.headWritesWrap
open Go.ChangeShapes Go.WideShapes Go.ChangeAt Go.RowKit Go.Pl
open Go.ChangeMaps (open_string shut_string)
set_option linter.unusedVariables false

theorem own : ownKnob Try.prog.godebug = none := by kernel_rfl
theorem laidOut : laidOutB Try.prog = true := by kernel_rfl

set_option maxRecDepth 100000 in
theorem lifted (os : Os) (started : os.Started) (H : Type) (enc : TypeId × Value → H) :
    ReturnsInHanded {} Try.checked os 10 .any (Rows.headWritesSpec.pre6 enc Try.prog Try.f10 Rows.headWritesRow.domain false) (Rows.headWritesSpec.post enc Try.prog Try.f10 false true false false) := by
  refine returnsInHanded_of_change (C := Try.checked) own started (by kernel_rfl) Try.func10
    (ChangeSpec.witness6 (enc := enc) (C := Try.checked) false ⟨#[], #[.agg #[.int .i64 0, .int .u64 0, .bool false]], []⟩ 8 (by kernel_rfl) (by kernel_rfl) (by kernel_rfl) (by kernel_rfl)) ?_
  intro W base args ds gs before hval0 hW hcnd _
  have hval : ∀ (j : Nat) t v, Try.f10.params[j]? = some t → args[j]? = some v → Value.okWide Try.prog W .any base t v := hval0
  have hW' := hW
  obtain ⟨p, q, hA0, hV, rfl, hfz, hnd⟩ := hW
  have hA : DataW.TrodAll enc Try.prog W 0 (fun _ => true) true Try.f10.params.toList args.toList ds p := hA0
  rw [Try.params10] at hA hval
  obtain ⟨v0, vs0, d0, ds0, p0, q0, hargs, rfl, rfl, h0, r0⟩ := trodAll_cons hA
  obtain ⟨rfl, rfl, rfl⟩ := trodAll_nil r0
  obtain rfl : args = #[v0] := by cases args; simp_all
  obtain ⟨rfl, rfl⟩ := trodVars_none hV
  have k0 := h0
  have lt0 : ∀ x ∈ p0, x.block < W.heap.size := by obtain ⟨m, hm⟩ := k0; exact DataW.trod_lt m _ _ _ hm
  obtain ⟨x0, hx0⟩ := (Opens.value (R := RH) (opens_prod3 Try.underlying69 rfl (by kernel_rfl) rfl rfl rfl (by kernel_rfl) (by kernel_rfl) (by kernel_rfl) (opens_i64 Try.underlying3) (opens_u64 Try.underlying67) (opens_bool Try.underlying4))) h0
  obtain ⟨⟨cs0⟩, rfl, _⟩ := okWide_struct Try.underlying69 (hval 0 69 v0 rfl rfl)
  obtain ⟨e0, b0⟩ : cs0 = [.int .i64 x0.1, .int .u64 (x0.2.1 : Int), .bool x0.2.2] ∧ x0.2.1 < 18446744073709551616 := by
    obtain ⟨c1, c2, hc, ⟨h1, _⟩, c3, c4, hc2, ⟨h2, hb⟩, h3⟩ := hx0
    subst h1 h2 h3 hc2
    simp [Value.cells] at hc
    subst hc
    exact ⟨rfl, hb⟩
  subst e0
  clear hA0 hval0
  refine (headWrites_walk x0 W b0).mono fun e W' ⟨he, bel⟩ => ?_
  subst he
  exact ⟨_, rfl, _, _, _, [], _, [], hW', trodAll_mk1 (shut_bool Try.underlying4 _), (trodAll_cons_mk (Below.trod laidOut (by kernel_rfl) (of_decide_eq_true (by kernel_rfl)) k0 bel lt0) trodAll_mk0), rfl, bel.frame _, fun h => by cases h⟩

theorem over : Rows.headWritesRow.holds Try.pinned (OpenSpec.ofChange Rows.headWritesSpec) :=
  OpenClaim.holds_of_wide 10 Try.f10 rfl rfl rfl rfl rfl rfl rfl ⟨rfl, rfl, rfl, rfl, rfl⟩ rfl rfl rfl rfl rfl (by kernel_rfl) Try.func10 (by kernel_rfl)
    (of_decide_eq_true (by kernel_rfl)) (by unfold Func.isWrapper; first | (rw [if_pos (by decide +kernel)]; kernel_rfl) | (rw [if_neg (by decide +kernel)]; exact ⟨rfl, rfl⟩))
    (fun os started H enc _ => lifted os started H enc)
end Go.Proofs.Ytpkgdlhiblgdnaa.headWritesWrap
namespace Go.Proofs.Ytpkgdlhiblgdnaa
/-- THE STATEMENT -/
theorem headWrites_holds : Rows.HeadWritesSaid := headWritesWrap.over
#print axioms headWrites_holds
end Go.Proofs.Ytpkgdlhiblgdnaa
