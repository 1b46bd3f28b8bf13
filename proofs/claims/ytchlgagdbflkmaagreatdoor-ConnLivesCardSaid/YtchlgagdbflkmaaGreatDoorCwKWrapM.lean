/- ConnLives: the statement, out of my walk of the law. -/
import Derived.Test.YtchlgagdbflkmaaGreatDoorCards
import Derived.Test.YtchlgagdbflkmaaGreatDoorTie
import Derived.ProofKit
import Derived.LaidMore
import Derived.Lay
import Derived.SevenTiedAt
import Derived.Stop.Joined
import Derived.OpenShut
import Derived.ShutString
import Derived.ChangeOld
import Derived.Test.YtchlgagdbflkmaaGreatDoorL01
import Derived.Test.YtchlgagdbflkmaaGreatDoorL40
namespace Go.Proofs.YtchlgagdbflkmaaGreatDoor.connLivesWrap
open Go.ChangeShapes Go.WideShapes Go.ChangeAt Go.RowKit Go.Pl
open Go.ChangeMaps (open_string shut_string)
set_option linter.unusedVariables false

theorem own : ownKnob Tryz.prog.godebug = none := by kernel_rfl
theorem HV : laidOutB Tryz.prog = true := by kernel_rfl

set_option maxRecDepth 100000 in
theorem TS (os : Os) (started : os.Started) (H : Type) (enc : TypeId × Value -> H) :
  ReturnsInHanded {} Tryz.checked os 3 .any (fun w args => (Rows.connLivesSpec.pre enc Tryz.prog Tryz.f3 Rows.connLivesRow.domain false w args /\ laidMetH Tryz.prog Rows.connLivesRow.laid w) /\ sizedMet enc Tryz.prog Tryz.f3 (OpenSpec.ofChange Rows.connLivesSpec) false w args) (Rows.connLivesSpec.post enc Tryz.prog Tryz.f3 false true false false) := by
 refine returnsInHanded_of_change_and (C := Tryz.checked) (X := fun w _ => laidMetH Tryz.prog Rows.connLivesRow.laid w) (fun _ _ _ hh h => h.of_heap hh) own started (by kernel_rfl) Tryz.func3
  (ChangeSpec.witness_shaped (enc := enc) (C := Tryz.checked) (os := os) (X := fun w _ => laidMetH Tryz.prog Rows.connLivesRow.laid w) false (World.laidAll Tryz.prog os Rows.connLivesRow.laid) #[.slice none 0 0] 8 (World.laidAll_os _ _ _)
   (World.shaped_of_ZipB (by kernel_rfl) (by kernel_rfl)) (by kernel_rfl) (by kernel_rfl) (by kernel_rfl)
   (by rw [MakeChecks.laidMetH_plain _ _ _ (by kernel_rfl)]; exact laidMet_laidAll _ (by kernel_rfl) (by kernel_rfl))) ?_
 intro W base args ds gs before hval0 hW hcnd _ hL _
 have hval : ∀ (j : Nat) t v, Tryz.f3.params[j]? = some t -> args[j]? = some v -> Value.okWide Tryz.prog W .any base t v := hval0
 have hW' := hW
 obtain ⟨p, q, hA0, hV, rfl, hfz, hnd⟩ := hW
 have hA : DataW.TrodAll enc Tryz.prog W 0 (fun _ => true) true Tryz.f3.params.toList args.toList ds p := hA0
 rw [Tryz.params3] at hA hval
 obtain ⟨v0, vs0, d0, ds0, p0, q0, hargs, rfl, rfl, h0, r0⟩ := trodAll_cons hA
 obtain ⟨rfl, rfl, rfl⟩ := trodAll_nil r0
 obtain rfl : args = #[v0] := by cases args; simp_all
 obtain ⟨rfl, rfl⟩ := trodVars_none hV
 have k0 := h0
 have lt0 : ∀ x ∈ p0, x.block < W.heap.size := by obtain ⟨m, hm⟩ := k0; exact DataW.trod_lt m _ _ _ hm
 obtain ⟨x0, hx0⟩ := (Qn (R := RCo) (by decide) Tryz.underlying22 (by kernel_rfl) TQ).value h0
 obtain ⟨A0, l0, c0, hv0⟩ := okWide_slice Tryz.underlying22 (hval 0 22 v0 rfl rfl)
 have s0 : Sl RCo W (· < W.heap.size) v0 x0 := by
  obtain ⟨u, hu, hs⟩ := hx0
  rw [hv0] at hu ⊢
  simp [Value.cells] at hu
  rw [hu]; exact hs
 have hlaid : laidMet Tryz.prog Rows.connLivesRow.laid W := by rw [<- MakeChecks.laidMetH_plain _ _ _ (by kernel_rfl)]; exact hL
 clear hA0 hval0
 refine (Xy v0 x0 W s0 hlaid).mono fun e W' ⟨he, bel⟩ => ?_
 subst he
 exact ⟨_, rfl, _, _, _, [], _, [], hW', trodAll_mk1 (shut_bool Tryz.underlying4 _), (trodAll_cons_mk (Below.trod HV (by kernel_rfl) (of_decide_eq_true (by kernel_rfl)) k0 bel lt0) trodAll_mk0), rfl, bel.frame _, fun h => by cases h⟩

theorem closed : joinedFacts Tryz.prog 3 Tryz.f3 Rows.connLivesSpec Rows.connLivesRow = true := by kernel_rfl
theorem wrapper : Tryz.f3.isWrapper Tryz.prog Rows.connLivesRow.wrapper Rows.connLivesRow.mainSum := by unfold Func.isWrapper; first | (rw [if_pos (by decide +kernel)]; kernel_rfl) | (rw [if_neg (by decide +kernel)]; exact ⟨rfl, rfl⟩)
theorem over : Rows.connLivesRow.holds Tryz.pinned (OpenSpec.ofChange Rows.connLivesSpec) :=
 OpenClaim.holds_of_wide 3 Tryz.f3 rfl rfl rfl rfl rfl rfl rfl ⟨rfl, rfl, rfl, rfl, rfl⟩ rfl rfl rfl rfl rfl (by kernel_rfl) Tryz.func3 closed
  (of_decide_eq_true (by kernel_rfl)) wrapper
  (fun os started H enc _ => TS os started H enc)
end Go.Proofs.YtchlgagdbflkmaaGreatDoor.connLivesWrap
namespace Go.Proofs.YtchlgagdbflkmaaGreatDoor
theorem connLives_holds : Rows.ConnLivesCardSaid :=
 Claim7.holds_tied_plain_at .later [] [.data, .data, .data, .sentinel, .sentinel] true (true, "97243d7e22484b51d9bb2d0e67b26bbde9b999bd8084cee081c81adf34c32d2c") true connLivesWrap.over (fun _ h => by cases h) (by kernel_rfl) (fun _ h => by cases h) connLives_row_tie rfl ⟨rfl, rfl⟩ (by kernel_rfl) rfl
  (fun f fn hf hfn => by
   obtain rfl : f = 3 := Option.some.inj ((show Tryz.prog.funcNamed "pigeonloft/pigeonloftlaw31.ConnLives" = some 3 by kernel_rfl).symm.trans hf) |>.symm
   obtain rfl : fn = Tryz.f3 := (Option.some.inj (Tryz.func3.symm.trans hfn)).symm
   exact ⟨by kernel_rfl, fun j t ht => by
    rw [Tryz.params3] at ht
    have hm : t ∈ [22] := by simpa using Array.mem_of_getElem? ht
    have hall : ([22].all fun u => !Tryz.prog.wantsStandIn u) = true := by kernel_rfl
    exact (show Tryz.prog.wantsStandIn t = false by simpa using List.all_eq_true.1 hall t hm)⟩)
  (by kernel_rfl)
#print axioms connLives_holds
end Go.Proofs.YtchlgagdbflkmaaGreatDoor
