/- FrameFeeds: the statement, out of my walk of the law. -/
import Derived.Test.YtkdpfkjlheajhaaRows
import Derived.ProofKit
import Derived.OpenShut
import Derived.ShutString
import Derived.ChangeOld
import Derived.Test.YtkdpfkjlheajhaaF01
import Derived.Test.YtkdpfkjlheajhaaF17
namespace Go.Proofs.Ytkdpfkjlheajhaa.frameFeedsWrap
open Go.ChangeShapes Go.WideShapes Go.ChangeAt Go.RowKit Go.Pl
open Go.ChangeMaps (open_string shut_string)
set_option linter.unusedVariables false

theorem own : ownKnob Try.prog.godebug = none := by kernel_rfl
theorem UP : laidOutB Try.prog = true := by kernel_rfl

set_option maxRecDepth 100000 in
theorem JO (os : Os) (started : os.Started) (H : Type) (enc : TypeId × Value -> H) :
  ReturnsInHanded {} Try.checked os 4 .any (Rows.frameFeedsSpec.pre6 enc Try.prog Try.f4 Rows.frameFeedsRow.domain false) (Rows.frameFeedsSpec.post enc Try.prog Try.f4 false true false false) := by
 refine returnsInHanded_of_change (C := Try.checked) own started (by kernel_rfl) Try.func4
  (ChangeSpec.witness6 (enc := enc) (C := Try.checked) false ⟨#[], #[.slice none 0 0, .slice none 0 0], []⟩ 8 (by kernel_rfl) (by kernel_rfl) (by kernel_rfl) (by kernel_rfl)) ?_
 intro W base args ds gs before hval0 hW hcnd _
 have hval : ∀ (j : Nat) t v, Try.f4.params[j]? = some t -> args[j]? = some v -> Value.okWide Try.prog W .any base t v := hval0
 have hW' := hW
 obtain ⟨p, q, hA0, hV, rfl, hfz, hnd⟩ := hW
 have hA : DataW.TrodAll enc Try.prog W 0 (fun _ => true) true Try.f4.params.toList args.toList ds p := hA0
 rw [Try.params4] at hA hval
 obtain ⟨v0, vs0, d0, ds0, p0, q0, hargs, rfl, rfl, h0, r0⟩ := trodAll_cons hA
 obtain ⟨v1, vs1, d1, ds1, p1, q1, rfl, rfl, rfl, h1, r1⟩ := trodAll_cons r0
 obtain ⟨rfl, rfl, rfl⟩ := trodAll_nil r1
 obtain rfl : args = #[v0, v1] := by cases args; simp_all
 obtain ⟨rfl, rfl⟩ := trodVars_none hV
 have k0 := h0
 have lt0 : ∀ x ∈ p0, x.block < W.heap.size := by obtain ⟨m, hm⟩ := k0; exact DataW.trod_lt m _ _ _ hm
 obtain ⟨x0, hx0⟩ := (YM (R := (Rep.slice Rep.byte (by decide))) (by decide) Try.underlying49 (by kernel_rfl) (YM (by decide) Try.underlying29 (by kernel_rfl) (WN Try.underlying5))).value h0
 obtain ⟨A0, l0, c0, hv0⟩ := okWide_slice Try.underlying49 (hval 0 49 v0 rfl rfl)
 have s0 : Sl (Rep.slice Rep.byte (by decide)) W (· < W.heap.size) v0 x0 := by
  obtain ⟨u, hu, hs⟩ := hx0
  rw [hv0] at hu ⊢
  simp [Value.cells] at hu
  rw [hu]; exact hs
 have k1 := h1
 have lt1 : ∀ x ∈ p1, x.block < W.heap.size := by obtain ⟨m, hm⟩ := k1; exact DataW.trod_lt m _ _ _ hm
 obtain ⟨x1, hx1⟩ := (YM (R := Rep.byte) (by decide) Try.underlying29 (by kernel_rfl) (WN Try.underlying5)).value h1
 obtain ⟨A1, l1, c1, hv1⟩ := okWide_slice Try.underlying29 (hval 1 29 v1 rfl rfl)
 have s1 : Sl Rep.byte W (· < W.heap.size) v1 x1 := by
  obtain ⟨u, hu, hs⟩ := hx1
  rw [hv1] at hu ⊢
  simp [Value.cells] at hu
  rw [hu]; exact hs
 clear hA0 hval0
 refine (WC v0 v1 x0 x1 W s0 s1).mono fun e W' ⟨he, bel⟩ => ?_
 subst he
 exact ⟨_, rfl, _, _, _, [], _, [], hW', trodAll_mk1 (shut_bool Try.underlying4 _), (trodAll_cons_mk (Below.trod UP (by kernel_rfl) (of_decide_eq_true (by kernel_rfl)) k0 bel lt0) (trodAll_cons_mk (Below.trod UP (by kernel_rfl) (of_decide_eq_true (by kernel_rfl)) k1 bel lt1) trodAll_mk0)), rfl, bel.frame _, fun h => by cases h⟩

theorem over : Rows.frameFeedsRow.holds Try.pinned (OpenSpec.ofChange Rows.frameFeedsSpec) :=
 OpenClaim.holds_of_wide 4 Try.f4 rfl rfl rfl rfl rfl rfl rfl ⟨rfl, rfl, rfl, rfl, rfl⟩ rfl rfl rfl rfl rfl (by kernel_rfl) Try.func4 (by kernel_rfl)
  (of_decide_eq_true (by kernel_rfl)) (by unfold Func.isWrapper; first | (rw [if_pos (by decide +kernel)]; kernel_rfl) | (rw [if_neg (by decide +kernel)]; exact ⟨rfl, rfl⟩))
  (fun os started H enc _ => JO os started H enc)
end Go.Proofs.Ytkdpfkjlheajhaa.frameFeedsWrap
namespace Go.Proofs.Ytkdpfkjlheajhaa
theorem frameFeeds_holds : Rows.FrameFeedsSaid := frameFeedsWrap.over
#print axioms frameFeeds_holds
end Go.Proofs.Ytkdpfkjlheajhaa
