/- PrimarySums: the statement, out of my walk of the law. -/
import Derived.Test.YtchlgagdbflkmaaDoorCards
import Derived.Test.YtchlgagdbflkmaaDoorTie
import Derived.ProofKit
import Derived.LaidMore
import Derived.Lay
import Derived.SevenTiedAt
import Derived.Stop.Joined
import Derived.OpenShut
import Derived.ShutString
import Derived.ChangeOld
import Derived.Test.YtchlgagdbflkmaaDoorS01
import Derived.Test.YtchlgagdbflkmaaDoorS27
namespace Go.Proofs.YtchlgagdbflkmaaDoor.primarySumsWrap
open Go.ChangeShapes Go.WideShapes Go.ChangeAt Go.RowKit Go.Pl
open Go.ChangeMaps (open_string shut_string)
set_option linter.unusedVariables false

theorem own : ownKnob Tryd.prog.godebug = none := by kernel_rfl
theorem JG : laidOutB Tryd.prog = true := by kernel_rfl

set_option maxRecDepth 100000 in
theorem Hi (os : Os) (started : os.Started) (H : Type) (enc : TypeId × Value -> H) :
  ReturnsInHanded {} Tryd.checked os 3 .any (fun w args => (Rows.primarySumsSpec.pre enc Tryd.prog Tryd.f3 Rows.primarySumsRow.domain false w args /\ laidMetH Tryd.prog Rows.primarySumsRow.laid w) /\ sizedMet enc Tryd.prog Tryd.f3 (OpenSpec.ofChange Rows.primarySumsSpec) false w args) (Rows.primarySumsSpec.post enc Tryd.prog Tryd.f3 false true false false) := by
 refine returnsInHanded_of_change_and (C := Tryd.checked) (X := fun w _ => laidMetH Tryd.prog Rows.primarySumsRow.laid w) (fun _ _ _ hh h => h.of_heap hh) own started (by kernel_rfl) Tryd.func3
  (ChangeSpec.witness_shaped (enc := enc) (C := Tryd.checked) (os := os) (X := fun w _ => laidMetH Tryd.prog Rows.primarySumsRow.laid w) false (World.laidAll Tryd.prog os Rows.primarySumsRow.laid) #[.slice none 0 0, .int .u8 0, .int .u8 0] 8 (World.laidAll_os _ _ _)
   (World.shaped_of_ZipB (by kernel_rfl) (by kernel_rfl)) (by kernel_rfl) (by kernel_rfl) (by kernel_rfl)
   (by rw [MakeChecks.laidMetH_plain _ _ _ (by kernel_rfl)]; exact laidMet_laidAll _ (by kernel_rfl) (by kernel_rfl))) ?_
 intro W base args ds gs before hval0 hW hcnd _ hL _
 have hval : ∀ (j : Nat) t v, Tryd.f3.params[j]? = some t -> args[j]? = some v -> Value.okWide Tryd.prog W .any base t v := hval0
 have hW' := hW
 obtain ⟨p, q, hA0, hV, rfl, hfz, hnd⟩ := hW
 have hA : DataW.TrodAll enc Tryd.prog W 0 (fun _ => true) true Tryd.f3.params.toList args.toList ds p := hA0
 rw [Tryd.params3] at hA hval
 obtain ⟨v0, vs0, d0, ds0, p0, q0, hargs, rfl, rfl, h0, r0⟩ := trodAll_cons hA
 obtain ⟨v1, vs1, d1, ds1, p1, q1, rfl, rfl, rfl, h1, r1⟩ := trodAll_cons r0
 obtain ⟨v2, vs2, d2, ds2, p2, q2, rfl, rfl, rfl, h2, r2⟩ := trodAll_cons r1
 obtain ⟨rfl, rfl, rfl⟩ := trodAll_nil r2
 obtain rfl : args = #[v0, v1, v2] := by cases args; simp_all
 obtain ⟨rfl, rfl⟩ := trodVars_none hV
 have k0 := h0
 have lt0 : ∀ x ∈ p0, x.block < W.heap.size := by obtain ⟨m, hm⟩ := k0; exact DataW.trod_lt m _ _ _ hm
 obtain ⟨f0, hf0⟩ := k0
 obtain ⟨x0, hx0⟩ := Un (R := (RI f0).1) (by rw [(RI f0).2]; decide) Tryd.underlying22 (by rw [(RI f0).2]; kernel_rfl) (fun f cs y hlt h => Kf Tryd.underlying27 rfl (by kernel_rfl) rfl rfl rfl rfl (by kernel_rfl) (by kernel_rfl) (by kernel_rfl) (by kernel_rfl) (KI Tryd.underlying3) (KJ Tryd.underlying24) (JI (R := Rep.byte) (by decide) Tryd.underlying25 (by kernel_rfl) (XH Tryd.underlying5)) Tryd.underlying22 f cs y h f0 (Nat.le_of_lt hlt)) hf0
 obtain ⟨A0, l0, c0, hv0⟩ := okWide_slice Tryd.underlying22 (hval 0 22 v0 rfl rfl)
 have s0 : Sl (RI f0).1 W (· < W.heap.size) v0 x0 := by
  obtain ⟨u, hu, hs⟩ := hx0
  rw [hv0] at hu ⊢
  simp [Value.cells] at hu
  rw [hu]; exact hs
 have k0 := h0
 have k1 := h1
 have lt1 : ∀ x ∈ p1, x.block < W.heap.size := by obtain ⟨m, hm⟩ := k1; exact DataW.trod_lt m _ _ _ hm
 obtain ⟨a1, rfl, _, _, w1⟩ := open_int Tryd.underlying5 (hval 1 5 v1 rfl rfl) h1
 obtain ⟨b1, rfl⟩ : ∃ b : UInt8, a1 = (b.toNat : Int) := by
  have hx : 0 <= a1 /\ a1 <= 255 := by simpa [Lit.wf, IntKind.min, IntKind.max, IntKind.signed, IntKind.bits] using w1
  exact ⟨UInt8.ofNat a1.toNat, by rw [V0 (by omega), Int.toNat_of_nonneg hx.1]⟩
 have k2 := h2
 have lt2 : ∀ x ∈ p2, x.block < W.heap.size := by obtain ⟨m, hm⟩ := k2; exact DataW.trod_lt m _ _ _ hm
 obtain ⟨a2, rfl, _, _, w2⟩ := open_int Tryd.underlying5 (hval 2 5 v2 rfl rfl) h2
 obtain ⟨b2, rfl⟩ : ∃ b : UInt8, a2 = (b.toNat : Int) := by
  have hx : 0 <= a2 /\ a2 <= 255 := by simpa [Lit.wf, IntKind.min, IntKind.max, IntKind.signed, IntKind.bits] using w2
  exact ⟨UInt8.ofNat a2.toNat, by rw [V0 (by omega), Int.toNat_of_nonneg hx.1]⟩
 have hlaid : laidMet Tryd.prog Rows.primarySumsRow.laid W := by rw [<- MakeChecks.laidMetH_plain _ _ _ (by kernel_rfl)]; exact hL
 clear hA0 hval0
 refine (UJ v0 b1 b2 x0 W ⟨f0, s0⟩ hlaid).mono fun e W' ⟨he, bel⟩ => ?_
 subst he
 exact ⟨_, rfl, _, _, _, [], _, [], hW', trodAll_mk1 (shut_bool Tryd.underlying4 _), (trodAll_cons_mk (Below.trod JG (by kernel_rfl) (of_decide_eq_true (by kernel_rfl)) k0 bel lt0) (trodAll_cons_mk (Below.trod JG (by kernel_rfl) (of_decide_eq_true (by kernel_rfl)) k1 bel lt1) (trodAll_cons_mk (Below.trod JG (by kernel_rfl) (of_decide_eq_true (by kernel_rfl)) k2 bel lt2) trodAll_mk0))), rfl, bel.frame _, fun h => by cases h⟩

theorem closed : joinedFacts Tryd.prog 3 Tryd.f3 Rows.primarySumsSpec Rows.primarySumsRow = true := by kernel_rfl
theorem wrapper : Tryd.f3.isWrapper Tryd.prog Rows.primarySumsRow.wrapper Rows.primarySumsRow.mainSum := by unfold Func.isWrapper; first | (rw [if_pos (by decide +kernel)]; kernel_rfl) | (rw [if_neg (by decide +kernel)]; exact ⟨rfl, rfl⟩)
theorem over : Rows.primarySumsRow.holds Tryd.pinned (OpenSpec.ofChange Rows.primarySumsSpec) :=
 OpenClaim.holds_of_wide 3 Tryd.f3 rfl rfl rfl rfl rfl rfl rfl ⟨rfl, rfl, rfl, rfl, rfl⟩ rfl rfl rfl rfl rfl (by kernel_rfl) Tryd.func3 closed
  (of_decide_eq_true (by kernel_rfl)) wrapper
  (fun os started H enc _ => Hi os started H enc)
end Go.Proofs.YtchlgagdbflkmaaDoor.primarySumsWrap
namespace Go.Proofs.YtchlgagdbflkmaaDoor
theorem primarySums_holds : Rows.PrimarySumsCardSaid :=
 Claim7.holds_tied_plain_at .later [] [.data, .pinned] true (true, "9e530c58520b66d157a48bc6ab6f345b2cc2c0586fc96854e4ab299209012788") false primarySumsWrap.over (fun _ h => by cases h) (by kernel_rfl) (fun _ h => by cases h) primarySums_row_tie rfl ⟨rfl, rfl⟩ (by kernel_rfl) rfl
  (fun f fn hf hfn => by
   obtain rfl : f = 3 := Option.some.inj ((show Tryd.prog.funcNamed "pigeonloft/pigeonloftlaw06.PrimarySums" = some 3 by kernel_rfl).symm.trans hf) |>.symm
   obtain rfl : fn = Tryd.f3 := (Option.some.inj (Tryd.func3.symm.trans hfn)).symm
   exact ⟨by kernel_rfl, fun j t ht => by
    rw [Tryd.params3] at ht
    have hm : t ∈ [22, 5, 5] := by simpa using Array.mem_of_getElem? ht
    have hall : ([22, 5, 5].all fun u => !Tryd.prog.wantsStandIn u) = true := by kernel_rfl
    exact (show Tryd.prog.wantsStandIn t = false by simpa using List.all_eq_true.1 hall t hm)⟩)
  (by kernel_rfl)
#print axioms primarySums_holds
end Go.Proofs.YtchlgagdbflkmaaDoor
