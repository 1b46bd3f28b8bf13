/- ConnCut: the statement, out of my walk of the law. -/
import Derived.Test.YtkdpfkjlheajhaaGreatDoorCards
import Derived.Test.YtkdpfkjlheajhaaGreatDoorTie
import Derived.ProofKit
import Derived.LaidMore
import Derived.Lay
import Derived.SevenTiedAt
import Derived.Stop.Joined
import Derived.OpenShut
import Derived.ShutString
import Derived.ChangeOld
import Derived.Test.YtkdpfkjlheajhaaGreatDoorC01
import Derived.Test.YtkdpfkjlheajhaaGreatDoorC29
namespace Go.Proofs.YtkdpfkjlheajhaaGreatDoor.connCutWrap
open Go.ChangeShapes Go.WideShapes Go.ChangeAt Go.RowKit Go.Pl
open Go.ChangeMaps (open_string shut_string)
set_option linter.unusedVariables false

theorem own : ownKnob Tryz.prog.godebug = none := by kernel_rfl
theorem Xz : laidOutB Tryz.prog = true := by kernel_rfl

set_option maxRecDepth 100000 in
theorem IF (os : Os) (started : os.Started) (H : Type) (enc : TypeId × Value -> H) :
  ReturnsInHanded {} Tryz.checked os 4 .any (fun w args => (Rows.connCutSpec.pre enc Tryz.prog Tryz.f4 Rows.connCutRow.domain false w args /\ laidMetH Tryz.prog Rows.connCutRow.laid w) /\ sizedMet enc Tryz.prog Tryz.f4 (OpenSpec.ofChange Rows.connCutSpec) false w args) (Rows.connCutSpec.post enc Tryz.prog Tryz.f4 false true false false) := by
 refine returnsInHanded_of_change_and (C := Tryz.checked) (X := fun w _ => laidMetH Tryz.prog Rows.connCutRow.laid w) (fun _ _ _ hh h => h.of_heap hh) own started (by kernel_rfl) Tryz.func4
  (ChangeSpec.witness_shaped (enc := enc) (C := Tryz.checked) (os := os) (X := fun w _ => laidMetH Tryz.prog Rows.connCutRow.laid w) false (World.laidAll Tryz.prog os Rows.connCutRow.laid) #[.slice none 0 0, .slice none 0 0] 8 (World.laidAll_os _ _ _)
   (World.shaped_of_ZipB (by kernel_rfl) (by kernel_rfl)) (by kernel_rfl) (by kernel_rfl) (by kernel_rfl)
   (by rw [MakeChecks.laidMetH_plain _ _ _ (by kernel_rfl)]; exact laidMet_laidAll _ (by kernel_rfl) (by kernel_rfl))) ?_
 intro W base args ds gs before hval0 hW hcnd _ hL _
 have hval : ∀ (j : Nat) t v, Tryz.f4.params[j]? = some t -> args[j]? = some v -> Value.okWide Tryz.prog W .any base t v := hval0
 have hW' := hW
 obtain ⟨p, q, hA0, hV, rfl, hfz, hnd⟩ := hW
 have hA : DataW.TrodAll enc Tryz.prog W 0 (fun _ => true) true Tryz.f4.params.toList args.toList ds p := hA0
 rw [Tryz.params4] at hA hval
 obtain ⟨v0, vs0, d0, ds0, p0, q0, hargs, rfl, rfl, h0, r0⟩ := trodAll_cons hA
 obtain ⟨v1, vs1, d1, ds1, p1, q1, rfl, rfl, rfl, h1, r1⟩ := trodAll_cons r0
 obtain ⟨rfl, rfl, rfl⟩ := trodAll_nil r1
 obtain rfl : args = #[v0, v1] := by cases args; simp_all
 obtain ⟨rfl, rfl⟩ := trodVars_none hV
 have k0 := h0
 have lt0 : ∀ x ∈ p0, x.block < W.heap.size := by obtain ⟨m, hm⟩ := k0; exact DataW.trod_lt m _ _ _ hm
 obtain ⟨x0, hx0⟩ := (Ub (R := Rep.byte) (by decide) Tryz.underlying26 (by kernel_rfl) (Ut Tryz.underlying5)).value h0
 obtain ⟨A0, l0, c0, hv0⟩ := okWide_slice Tryz.underlying26 (hval 0 26 v0 rfl rfl)
 have s0 : Sl Rep.byte W (· < W.heap.size) v0 x0 := by
  obtain ⟨u, hu, hs⟩ := hx0
  rw [hv0] at hu ⊢
  simp [Value.cells] at hu
  rw [hu]; exact hs
 have k1 := h1
 have lt1 : ∀ x ∈ p1, x.block < W.heap.size := by obtain ⟨m, hm⟩ := k1; exact DataW.trod_lt m _ _ _ hm
 obtain ⟨x1, hx1⟩ := (Ub (R := Rep.byte) (by decide) Tryz.underlying26 (by kernel_rfl) (Ut Tryz.underlying5)).value h1
 obtain ⟨A1, l1, c1, hv1⟩ := okWide_slice Tryz.underlying26 (hval 1 26 v1 rfl rfl)
 have s1 : Sl Rep.byte W (· < W.heap.size) v1 x1 := by
  obtain ⟨u, hu, hs⟩ := hx1
  rw [hv1] at hu ⊢
  simp [Value.cells] at hu
  rw [hu]; exact hs
 have hlaid : laidMet Tryz.prog Rows.connCutRow.laid W := by rw [<- MakeChecks.laidMetH_plain _ _ _ (by kernel_rfl)]; exact hL
 clear hA0 hval0
 refine (QQ v0 v1 x0 x1 W s0 s1 hlaid).mono fun e W' ⟨he, bel⟩ => ?_
 subst he
 exact ⟨_, rfl, _, _, _, [], _, [], hW', trodAll_mk1 (shut_bool Tryz.underlying4 _), (trodAll_cons_mk (Below.trod Xz (by kernel_rfl) (of_decide_eq_true (by kernel_rfl)) k0 bel lt0) (trodAll_cons_mk (Below.trod Xz (by kernel_rfl) (of_decide_eq_true (by kernel_rfl)) k1 bel lt1) trodAll_mk0)), rfl, bel.frame _, fun h => by cases h⟩

theorem over : Rows.connCutRow.holds Tryz.pinned (OpenSpec.ofChange Rows.connCutSpec) :=
 OpenClaim.holds_of_wide 4 Tryz.f4 rfl rfl rfl rfl rfl rfl rfl ⟨rfl, rfl, rfl, rfl, rfl⟩ rfl rfl rfl rfl rfl (by kernel_rfl) Tryz.func4 (by kernel_rfl)
  (of_decide_eq_true (by kernel_rfl)) (by unfold Func.isWrapper; first | (rw [if_pos (by decide +kernel)]; kernel_rfl) | (rw [if_neg (by decide +kernel)]; exact ⟨rfl, rfl⟩))
  (fun os started H enc _ => IF os started H enc)
end Go.Proofs.YtkdpfkjlheajhaaGreatDoor.connCutWrap
namespace Go.Proofs.YtkdpfkjlheajhaaGreatDoor
theorem connCut_holds : Rows.ConnCutCardSaid :=
 Claim7.holds_tied_plain_at .later [] [.data, .data, .data, .sentinel, .sentinel] true (true, "e66f05b769c77ad1cae42aad90fef23808f56c75a32aed7a398c66a18d46f057") true connCutWrap.over (fun _ h => by cases h) (by kernel_rfl) (fun _ h => by cases h) connCut_row_tie rfl ⟨rfl, rfl⟩ (by kernel_rfl) rfl
  (fun f fn hf hfn => by
   obtain rfl : f = 4 := Option.some.inj ((show Tryz.prog.funcNamed "pigeonloft/pigeonloftlaw31.ConnCut" = some 4 by kernel_rfl).symm.trans hf) |>.symm
   obtain rfl : fn = Tryz.f4 := (Option.some.inj (Tryz.func4.symm.trans hfn)).symm
   exact ⟨by kernel_rfl, fun j t ht => by
    rw [Tryz.params4] at ht
    have hm : t ∈ [26, 26] := by simpa using Array.mem_of_getElem? ht
    have hall : ([26, 26].all fun u => !Tryz.prog.wantsStandIn u) = true := by kernel_rfl
    exact (show Tryz.prog.wantsStandIn t = false by simpa using List.all_eq_true.1 hall t hm)⟩)
  (by kernel_rfl)
#print axioms connCut_holds
end Go.Proofs.YtkdpfkjlheajhaaGreatDoor
