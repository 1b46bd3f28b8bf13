/- HeadBack: the statement, out of my walk of the law. -/
import Derived.Test.YtpkgdlhiblgdnaaRows
import Derived.ProofKit
import Derived.OpenShut
import Derived.ShutString
import Derived.ChangeOld
import Derived.Test.YtpkgdlhiblgdnaaOpen
import Derived.Test.YtpkgdlhiblgdnaaHeadB
namespace Go.Proofs.Ytpkgdlhiblgdnaa.headBackWrap
open Go.ChangeShapes Go.WideShapes Go.ChangeAt Go.RowKit Go.Pl
open Go.ChangeMaps (open_string shut_string)
set_option linter.unusedVariables false

theorem own : ownKnob Try.prog.godebug = none := by kernel_rfl
theorem laidOut : laidOutB Try.prog = true := by kernel_rfl

set_option maxRecDepth 100000 in
theorem lifted (os : Os) (started : os.Started) (H : Type) (enc : TypeId × Value → H) :
    ReturnsInHanded {} Try.checked os 12 .any (Rows.headBackSpec.pre6 enc Try.prog Try.f12 Rows.headBackRow.domain false) (Rows.headBackSpec.post enc Try.prog Try.f12 false true false false) := by
  refine returnsInHanded_of_change (C := Try.checked) own started (by kernel_rfl) Try.func12
    (ChangeSpec.witness6 (enc := enc) (C := Try.checked) false ⟨#[], #[.agg #[.int .i64 0, .int .u64 0, .bool false], .slice none 0 0, .slice none 0 0, .slice none 0 0], []⟩ 8 (by kernel_rfl) (by kernel_rfl) (by kernel_rfl) (by kernel_rfl)) ?_
  intro W base args ds gs before hval0 hW hcnd _
  have hval : ∀ (j : Nat) t v, Try.f12.params[j]? = some t → args[j]? = some v → Value.okWide Try.prog W .any base t v := hval0
  have hW' := hW
  obtain ⟨p, q, hA0, hV, rfl, hfz, hnd⟩ := hW
  have hA : DataW.TrodAll enc Try.prog W 0 (fun _ => true) true Try.f12.params.toList args.toList ds p := hA0
  rw [Try.params12] at hA hval
  obtain ⟨v0, vs0, d0, ds0, p0, q0, hargs, rfl, rfl, h0, r0⟩ := trodAll_cons hA
  obtain ⟨v1, vs1, d1, ds1, p1, q1, rfl, rfl, rfl, h1, r1⟩ := trodAll_cons r0
  obtain ⟨v2, vs2, d2, ds2, p2, q2, rfl, rfl, rfl, h2, r2⟩ := trodAll_cons r1
  obtain ⟨v3, vs3, d3, ds3, p3, q3, rfl, rfl, rfl, h3, r3⟩ := trodAll_cons r2
  obtain ⟨rfl, rfl, rfl⟩ := trodAll_nil r3
  obtain rfl : args = #[v0, v1, v2, v3] := by cases args; simp_all
  obtain ⟨rfl, rfl⟩ := trodVars_none hV
  have k0 := h0
  have lt0 : ∀ x ∈ p0, x.block < W.heap.size := by obtain ⟨m, hm⟩ := k0; exact DataW.trod_lt m _ _ _ hm
  obtain ⟨x0, hx0⟩ := (Opens.value (R := RH) (opens_prod3 Try.underlying69 rfl (by kernel_rfl) rfl rfl rfl (by kernel_rfl) (by kernel_rfl) (by kernel_rfl) (opens_i64 Try.underlying3) (opens_u64 Try.underlying67) (opens_bool Try.underlying4))) h0
  obtain ⟨⟨cs0⟩, rfl, _⟩ := okWide_struct Try.underlying69 (hval 0 69 v0 rfl rfl)
  obtain ⟨e0, b0⟩ : cs0 = [.int .i64 x0.1, .int .u64 (x0.2.1 : Int), .bool x0.2.2] ∧ x0.2.1 < 18446744073709551616 := by
    obtain ⟨c1, c2, hc, ⟨h1, _⟩, c3, c4, hc2, ⟨h2, hb⟩, h3⟩ := hx0
    subst h1 h2 h3 hc2
    simp [Value.cells] at hc
    subst hc
    exact ⟨rfl, hb⟩
  subst e0
  have k1 := h1
  have lt1 : ∀ x ∈ p1, x.block < W.heap.size := by obtain ⟨m, hm⟩ := k1; exact DataW.trod_lt m _ _ _ hm
  obtain ⟨x1, hx1⟩ := (opens_slice (R := Rep.byte) (by decide) Try.underlying22 (by kernel_rfl) (opens_byte Try.underlying5)).value h1
  obtain ⟨A1, l1, c1, hv1⟩ := okWide_slice Try.underlying22 (hval 1 22 v1 rfl rfl)
  have s1 : Sl Rep.byte W (· < W.heap.size) v1 x1 := by
    obtain ⟨u, hu, hs⟩ := hx1
    rw [hv1] at hu ⊢
    simp [Value.cells] at hu
    rw [hu]; exact hs
  have k2 := h2
  have lt2 : ∀ x ∈ p2, x.block < W.heap.size := by obtain ⟨m, hm⟩ := k2; exact DataW.trod_lt m _ _ _ hm
  obtain ⟨x2, hx2⟩ := (opens_slice (R := Rep.byte) (by decide) Try.underlying22 (by kernel_rfl) (opens_byte Try.underlying5)).value h2
  obtain ⟨A2, l2, c2, hv2⟩ := okWide_slice Try.underlying22 (hval 2 22 v2 rfl rfl)
  have s2 : Sl Rep.byte W (· < W.heap.size) v2 x2 := by
    obtain ⟨u, hu, hs⟩ := hx2
    rw [hv2] at hu ⊢
    simp [Value.cells] at hu
    rw [hu]; exact hs
  have k3 := h3
  have lt3 : ∀ x ∈ p3, x.block < W.heap.size := by obtain ⟨m, hm⟩ := k3; exact DataW.trod_lt m _ _ _ hm
  obtain ⟨x3, hx3⟩ := (opens_slice (R := Rep.byte) (by decide) Try.underlying22 (by kernel_rfl) (opens_byte Try.underlying5)).value h3
  obtain ⟨A3, l3, c3, hv3⟩ := okWide_slice Try.underlying22 (hval 3 22 v3 rfl rfl)
  have s3 : Sl Rep.byte W (· < W.heap.size) v3 x3 := by
    obtain ⟨u, hu, hs⟩ := hx3
    rw [hv3] at hu ⊢
    simp [Value.cells] at hu
    rw [hu]; exact hs
  clear hA0 hval0
  refine (back_walk x0 v1 v2 v3 x1 x2 x3 W b0 s1 s2 s3).mono fun e W' ⟨he, bel⟩ => ?_
  subst he
  exact ⟨_, rfl, _, _, _, [], _, [], hW', trodAll_mk1 (shut_bool Try.underlying4 _), (trodAll_cons_mk (Below.trod laidOut (by kernel_rfl) (of_decide_eq_true (by kernel_rfl)) k0 bel lt0) (trodAll_cons_mk (Below.trod laidOut (by kernel_rfl) (of_decide_eq_true (by kernel_rfl)) k1 bel lt1) (trodAll_cons_mk (Below.trod laidOut (by kernel_rfl) (of_decide_eq_true (by kernel_rfl)) k2 bel lt2) (trodAll_cons_mk (Below.trod laidOut (by kernel_rfl) (of_decide_eq_true (by kernel_rfl)) k3 bel lt3) trodAll_mk0)))), rfl, bel.frame _, fun h => by cases h⟩

theorem over : Rows.headBackRow.holds Try.pinned (OpenSpec.ofChange Rows.headBackSpec) :=
  OpenClaim.holds_of_wide 12 Try.f12 rfl rfl rfl rfl rfl rfl rfl ⟨rfl, rfl, rfl, rfl, rfl⟩ rfl rfl rfl rfl rfl (by kernel_rfl) Try.func12 (by kernel_rfl)
    (of_decide_eq_true (by kernel_rfl)) (by unfold Func.isWrapper; first | (rw [if_pos (by decide +kernel)]; kernel_rfl) | (rw [if_neg (by decide +kernel)]; exact ⟨rfl, rfl⟩))
    (fun os started H enc _ => lifted os started H enc)
end Go.Proofs.Ytpkgdlhiblgdnaa.headBackWrap
namespace Go.Proofs.Ytpkgdlhiblgdnaa
/-- THE STATEMENT -/
theorem headBack_holds : Rows.HeadBackSaid := headBackWrap.over
#print axioms headBack_holds
end Go.Proofs.Ytpkgdlhiblgdnaa
