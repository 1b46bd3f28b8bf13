/- TopWay: the statement, out of my walk of the law. -/
import Derived.Test.YtmljabhmajehnaaGreatDoorCards
import Derived.Test.YtmljabhmajehnaaGreatDoorTie
import Derived.ProofKit
import Derived.LaidMore
import Derived.Lay
import Derived.SevenTiedAt
import Derived.Stop.Joined
import Derived.OpenShut
import Derived.ShutString
import Derived.ChangeOld
import Derived.Test.YtmljabhmajehnaaGreatDoorT01
import Derived.Test.YtmljabhmajehnaaGreatDoorT34
namespace Go.Proofs.YtmljabhmajehnaaGreatDoor.topWayWrap
open Go.ChangeShapes Go.WideShapes Go.ChangeAt Go.RowKit Go.Pl
open Go.ChangeMaps (open_string shut_string)
set_option linter.unusedVariables false

theorem own : ownKnob Tryz.prog.godebug = none := by kernel_rfl
theorem K9 : laidOutB Tryz.prog = true := by kernel_rfl

set_option maxRecDepth 100000 in
theorem LF (os : Os) (started : os.Started) (H : Type) (enc : TypeId × Value -> H) :
  ReturnsInHanded {} Tryz.checked os 3 .any (fun w args => (Rows.topWaySpec.pre enc Tryz.prog Tryz.f3 Rows.topWayRow.domain false w args /\ laidMetH Tryz.prog Rows.topWayRow.laid w) /\ sizedMet enc Tryz.prog Tryz.f3 (OpenSpec.ofChange Rows.topWaySpec) false w args) (Rows.topWaySpec.post enc Tryz.prog Tryz.f3 false true false false) := by
 refine returnsInHanded_of_change_and (C := Tryz.checked) (X := fun w _ => laidMetH Tryz.prog Rows.topWayRow.laid w) (fun _ _ _ hh h => h.of_heap hh) own started (by kernel_rfl) Tryz.func3
  (ChangeSpec.witness_shaped (enc := enc) (C := Tryz.checked) (os := os) (X := fun w _ => laidMetH Tryz.prog Rows.topWayRow.laid w) false (World.laidAll Tryz.prog os Rows.topWayRow.laid) #[.agg #[.int .u64 0, .int .i64 0, .bool false, .int .u64 0, .int .u64 0, .string ByteArray.empty, .string ByteArray.empty, .bool false, .int .u64 0, .int .u64 0, .string ByteArray.empty, .string ByteArray.empty, .bool false, .int .u64 0, .int .u64 0, .string ByteArray.empty, .string ByteArray.empty, .int .u64 0, .int .u64 0, .int .u64 0, .slice none 0 0], .slice none 0 0, .int .u64 0] 8 (World.laidAll_os _ _ _)
   (World.shaped_of_ZipB (by kernel_rfl) (by kernel_rfl)) (by kernel_rfl) (by kernel_rfl) (by kernel_rfl)
   (by rw [MakeChecks.laidMetH_plain _ _ _ (by kernel_rfl)]; exact laidMet_laidAll _ (by kernel_rfl) (by kernel_rfl))) ?_
 intro W base args ds gs before hval0 hW hcnd hsz hL _
 have hval : ∀ (j : Nat) t v, Tryz.f3.params[j]? = some t -> args[j]? = some v -> Value.okWide Tryz.prog W .any base t v := hval0
 have hW' := hW
 obtain ⟨p, q, hA0, hV, rfl, hfz, hnd⟩ := hW
 have hA : DataW.TrodAll enc Tryz.prog W 0 (fun _ => true) true Tryz.f3.params.toList args.toList ds p := hA0
 rw [Tryz.params3] at hA hval
 obtain ⟨v0, vs0, d0, ds0, p0, q0, hargs, rfl, rfl, h0, r0⟩ := trodAll_cons hA
 obtain ⟨v1, vs1, d1, ds1, p1, q1, rfl, rfl, rfl, h1, r1⟩ := trodAll_cons r0
 obtain ⟨v2, vs2, d2, ds2, p2, q2, rfl, rfl, rfl, h2, r2⟩ := trodAll_cons r1
 obtain ⟨rfl, rfl, rfl⟩ := trodAll_nil r2
 obtain rfl : args = #[v0, v1, v2] := by cases args; simp_all
 obtain ⟨rfl, rfl⟩ := trodVars_none hV
 have k0 := h0
 have lt0 : ∀ x ∈ p0, x.block < W.heap.size := by obtain ⟨m, hm⟩ := k0; exact DataW.trod_lt m _ _ _ hm
 obtain ⟨f0, hf0⟩ := k0
 obtain ⟨x0, hx0, hw0⟩ := HY (p := 20) Tryz.underlying31 rfl (by kernel_rfl) rfl rfl (by kernel_rfl) (by kernel_rfl) LA Tryz.underlying29 (by kernel_rfl) (fun f cs y h hz => HX Tryz.underlying40 rfl (by kernel_rfl) rfl rfl rfl rfl rfl (by kernel_rfl) (by kernel_rfl) (by kernel_rfl) (by kernel_rfl) (by kernel_rfl) (Wc Tryz.underlying22) (Wc Tryz.underlying22) (Wc Tryz.underlying22) (XP Tryz.underlying3) (Jr (R := Rep.byte) (by decide) Tryz.underlying32 (by kernel_rfl) (JQ Tryz.underlying5)) Tryz.underlying32 (by kernel_rfl) f cs y h hz) f0 _ _ hf0 (fun m hm => by have := List.all_eq_true.1 hsz m (DataW.weights_mem_each (j := 0) (t := 31) (d := d0) (by rw [Tryz.params3]; rfl) rfl m hm); simpa using this)
 obtain ⟨⟨cs0⟩, rfl, _⟩ := okWide_struct Tryz.underlying31 (hval 0 31 v0 rfl rfl)
 have k0 := h0
 have k1 := h1
 have lt1 : ∀ x ∈ p1, x.block < W.heap.size := by obtain ⟨m, hm⟩ := k1; exact DataW.trod_lt m _ _ _ hm
 obtain ⟨x1, hx1⟩ := (Jr (R := Rep.byte) (by decide) Tryz.underlying32 (by kernel_rfl) (JQ Tryz.underlying5)).value h1
 obtain ⟨A1, l1, c1, hv1⟩ := okWide_slice Tryz.underlying32 (hval 1 32 v1 rfl rfl)
 have s1 : Sl Rep.byte W (· < W.heap.size) v1 x1 := by
  obtain ⟨u, hu, hs⟩ := hx1
  rw [hv1] at hu ⊢
  simp [Value.cells] at hu
  rw [hu]; exact hs
 have k2 := h2
 have lt2 : ∀ x ∈ p2, x.block < W.heap.size := by obtain ⟨m, hm⟩ := k2; exact DataW.trod_lt m _ _ _ hm
 obtain ⟨a2, rfl, _, _, w2⟩ := open_int Tryz.underlying22 (hval 2 22 v2 rfl rfl) h2
 obtain ⟨n2, rfl, z2⟩ : ∃ n : Nat, a2 = (n : Int) /\ n < 18446744073709551616 := by
  have hx : 0 <= a2 /\ a2 <= 18446744073709551615 := by simpa [Lit.wf, IntKind.min, IntKind.max, IntKind.signed, IntKind.bits] using w2
  exact ⟨a2.toNat, by omega, by omega⟩
 have hlaid : laidMet Tryz.prog Rows.topWayRow.laid W := by rw [<- MakeChecks.laidMetH_plain _ _ _ (by kernel_rfl)]; exact hL
 clear hA0 hval0
 refine (Ir cs0 v1 n2 x0 x1 W hx0 hw0 s1 z2 hlaid).mono fun e W' ⟨he, bel⟩ => ?_
 subst he
 exact ⟨_, rfl, _, _, _, [], _, [], hW', trodAll_mk1 (shut_bool Tryz.underlying4 _), (trodAll_cons_mk (Below.trod K9 (by kernel_rfl) (of_decide_eq_true (by kernel_rfl)) k0 bel lt0) (trodAll_cons_mk (Below.trod K9 (by kernel_rfl) (of_decide_eq_true (by kernel_rfl)) k1 bel lt1) (trodAll_cons_mk (Below.trod K9 (by kernel_rfl) (of_decide_eq_true (by kernel_rfl)) k2 bel lt2) trodAll_mk0))), rfl, bel.frame _, fun h => by cases h⟩

theorem over : Rows.topWayRow.holds Tryz.pinned (OpenSpec.ofChange Rows.topWaySpec) :=
 OpenClaim.holds_of_wide 3 Tryz.f3 rfl rfl rfl rfl rfl rfl rfl ⟨rfl, rfl, rfl, rfl, rfl⟩ rfl rfl rfl rfl rfl (by kernel_rfl) Tryz.func3 (by kernel_rfl)
  (of_decide_eq_true (by kernel_rfl)) (by unfold Func.isWrapper; first | (rw [if_pos (by decide +kernel)]; kernel_rfl) | (rw [if_neg (by decide +kernel)]; exact ⟨rfl, rfl⟩))
  (fun os started H enc _ => LF os started H enc)
end Go.Proofs.YtmljabhmajehnaaGreatDoor.topWayWrap
namespace Go.Proofs.YtmljabhmajehnaaGreatDoor
theorem topWay_holds : Rows.TopWayCardSaid :=
 Claim7.holds_tied_plain_at .later [] [.data, .pinned] true (true, "7b9d37fc62ed3221286d6dce5c0b808a2db869cd53d991aabd481037c03f0170") true topWayWrap.over (fun _ h => by cases h) (by kernel_rfl) (fun _ h => by cases h) topWay_row_tie rfl ⟨rfl, rfl⟩ (by kernel_rfl) rfl
  (fun f fn hf hfn => by
   obtain rfl : f = 3 := Option.some.inj ((show Tryz.prog.funcNamed "pigeonloft/pigeonlofttop.TopWay" = some 3 by kernel_rfl).symm.trans hf) |>.symm
   obtain rfl : fn = Tryz.f3 := (Option.some.inj (Tryz.func3.symm.trans hfn)).symm
   exact ⟨by kernel_rfl, fun j t ht => by
    rw [Tryz.params3] at ht
    have hm : t ∈ [31, 32, 22] := by simpa using Array.mem_of_getElem? ht
    have hall : ([31, 32, 22].all fun u => !Tryz.prog.wantsStandIn u) = true := by kernel_rfl
    exact (show Tryz.prog.wantsStandIn t = false by simpa using List.all_eq_true.1 hall t hm)⟩)
  (by kernel_rfl)
#print axioms topWay_holds
end Go.Proofs.YtmljabhmajehnaaGreatDoor
