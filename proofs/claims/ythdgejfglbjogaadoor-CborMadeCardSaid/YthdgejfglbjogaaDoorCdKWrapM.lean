/- CborMade: the statement, out of my walk of the law. -/
import Derived.Test.YthdgejfglbjogaaDoorCards
import Derived.Test.YthdgejfglbjogaaDoorTie
import Derived.ProofKit
import Derived.LaidMore
import Derived.Lay
import Derived.SevenTiedAt
import Derived.Stop.Joined
import Derived.OpenShut
import Derived.ShutString
import Derived.ChangeOld
import Derived.Test.YthdgejfglbjogaaDoorM01
import Derived.Test.YthdgejfglbjogaaDoorM22
namespace Go.Proofs.YthdgejfglbjogaaDoor.cborMadeWrap
open Go.ChangeShapes Go.WideShapes Go.ChangeAt Go.RowKit Go.Pl
open Go.ChangeMaps (open_string shut_string)
set_option linter.unusedVariables false

theorem own : ownKnob Tryd.prog.godebug = none := by kernel_rfl
theorem QF : laidOutB Tryd.prog = true := by kernel_rfl

set_option maxRecDepth 100000 in
theorem Iq (os : Os) (started : os.Started) (H : Type) (enc : TypeId × Value -> H) :
  ReturnsInHanded {} Tryd.checked os 3 .any (fun w args => (Rows.cborMadeSpec.pre enc Tryd.prog Tryd.f3 Rows.cborMadeRow.domain false w args /\ laidMetH Tryd.prog Rows.cborMadeRow.laid w) /\ sizedMet enc Tryd.prog Tryd.f3 (OpenSpec.ofChange Rows.cborMadeSpec) false w args) (Rows.cborMadeSpec.post enc Tryd.prog Tryd.f3 false true false false) := by
 refine returnsInHanded_of_change_and (C := Tryd.checked) (X := fun w _ => laidMetH Tryd.prog Rows.cborMadeRow.laid w) (fun _ _ _ hh h => h.of_heap hh) own started (by kernel_rfl) Tryd.func3
  (ChangeSpec.witness_shaped (enc := enc) (C := Tryd.checked) (os := os) (X := fun w _ => laidMetH Tryd.prog Rows.cborMadeRow.laid w) false (World.laidAll Tryd.prog os Rows.cborMadeRow.laid) #[.int .u64 0, .slice none 0 0, .string ByteArray.empty] 8 (World.laidAll_os _ _ _)
   (World.shaped_of_ZipB (by kernel_rfl) (by kernel_rfl)) (by kernel_rfl) (by kernel_rfl) (by kernel_rfl)
   (by rw [MakeChecks.laidMetH_plain _ _ _ (by kernel_rfl)]; exact laidMet_laidAll _ (by kernel_rfl) (by kernel_rfl))) ?_
 intro W base args ds gs before hval0 hW hcnd _ hL _
 have hval : ∀ (j : Nat) t v, Tryd.f3.params[j]? = some t -> args[j]? = some v -> Value.okWide Tryd.prog W .any base t v := hval0
 have hW' := hW
 obtain ⟨p, q, hA0, hV, rfl, hfz, hnd⟩ := hW
 have hA : DataW.TrodAll enc Tryd.prog W 0 (fun _ => true) true Tryd.f3.params.toList args.toList ds p := hA0
 rw [Tryd.params3] at hA hval
 obtain ⟨v0, vs0, d0, ds0, p0, q0, hargs, rfl, rfl, h0, r0⟩ := trodAll_cons hA
 obtain ⟨v1, vs1, d1, ds1, p1, q1, rfl, rfl, rfl, h1, r1⟩ := trodAll_cons r0
 obtain ⟨v2, vs2, d2, ds2, p2, q2, rfl, rfl, rfl, h2, r2⟩ := trodAll_cons r1
 obtain ⟨rfl, rfl, rfl⟩ := trodAll_nil r2
 obtain rfl : args = #[v0, v1, v2] := by cases args; simp_all
 obtain ⟨rfl, rfl⟩ := trodVars_none hV
 have k0 := h0
 have lt0 : ∀ x ∈ p0, x.block < W.heap.size := by obtain ⟨m, hm⟩ := k0; exact DataW.trod_lt m _ _ _ hm
 obtain ⟨a0, rfl, _, _, w0⟩ := open_int Tryd.underlying22 (hval 0 22 v0 rfl rfl) h0
 obtain ⟨n0, rfl, z0⟩ : ∃ n : Nat, a0 = (n : Int) /\ n < 18446744073709551616 := by
  have hx : 0 <= a0 /\ a0 <= 18446744073709551615 := by simpa [Lit.wf, IntKind.min, IntKind.max, IntKind.signed, IntKind.bits] using w0
  exact ⟨a0.toNat, by omega, by omega⟩
 have k1 := h1
 have lt1 : ∀ x ∈ p1, x.block < W.heap.size := by obtain ⟨m, hm⟩ := k1; exact DataW.trod_lt m _ _ _ hm
 obtain ⟨x1, hx1⟩ := (QJ (R := Rep.byte) (by decide) Tryd.underlying23 (by kernel_rfl) (Jv Tryd.underlying5)).value h1
 obtain ⟨A1, l1, c1, hv1⟩ := okWide_slice Tryd.underlying23 (hval 1 23 v1 rfl rfl)
 have s1 : Sl Rep.byte W (· < W.heap.size) v1 x1 := by
  obtain ⟨u, hu, hs⟩ := hx1
  rw [hv1] at hu ⊢
  simp [Value.cells] at hu
  rw [hu]; exact hs
 have k2 := h2
 have lt2 : ∀ x ∈ p2, x.block < W.heap.size := by obtain ⟨m, hm⟩ := k2; exact DataW.trod_lt m _ _ _ hm
 obtain ⟨a2, rfl, _, _, w2⟩ := open_string Tryd.underlying9 (hval 2 9 v2 rfl rfl) h2
 have hlaid : laidMet Tryd.prog Rows.cborMadeRow.laid W := by rw [<- MakeChecks.laidMetH_plain _ _ _ (by kernel_rfl)]; exact hL
 clear hA0 hval0
 refine (UL n0 v1 a2 x1 W z0 s1 w2 hlaid).mono fun e W' ⟨he, bel⟩ => ?_
 subst he
 exact ⟨_, rfl, _, _, _, [], _, [], hW', trodAll_mk1 (shut_bool Tryd.underlying4 _), (trodAll_cons_mk (Below.trod QF (by kernel_rfl) (of_decide_eq_true (by kernel_rfl)) k0 bel lt0) (trodAll_cons_mk (Below.trod QF (by kernel_rfl) (of_decide_eq_true (by kernel_rfl)) k1 bel lt1) (trodAll_cons_mk (Below.trod QF (by kernel_rfl) (of_decide_eq_true (by kernel_rfl)) k2 bel lt2) trodAll_mk0))), rfl, bel.frame _, fun h => by cases h⟩

theorem over : Rows.cborMadeRow.holds Tryd.pinned (OpenSpec.ofChange Rows.cborMadeSpec) :=
 OpenClaim.holds_of_wide 3 Tryd.f3 rfl rfl rfl rfl rfl rfl rfl ⟨rfl, rfl, rfl, rfl, rfl⟩ rfl rfl rfl rfl rfl (by kernel_rfl) Tryd.func3 (by kernel_rfl)
  (of_decide_eq_true (by kernel_rfl)) (by unfold Func.isWrapper; first | (rw [if_pos (by decide +kernel)]; kernel_rfl) | (rw [if_neg (by decide +kernel)]; exact ⟨rfl, rfl⟩))
  (fun os started H enc _ => Iq os started H enc)
end Go.Proofs.YthdgejfglbjogaaDoor.cborMadeWrap
namespace Go.Proofs.YthdgejfglbjogaaDoor
theorem cborMade_holds : Rows.CborMadeCardSaid :=
 Claim7.holds_tied_plain_at .later [] [.data, .pinned] true (true, "ac795ec8e850e427e15a5f744e748dec1b3ec56ff7f91de759a79036e7d05021") true cborMadeWrap.over (fun _ h => by cases h) (by kernel_rfl) (fun _ h => by cases h) cborMade_row_tie rfl ⟨rfl, rfl⟩ (by kernel_rfl) rfl
  (fun f fn hf hfn => by
   obtain rfl : f = 3 := Option.some.inj ((show Tryd.prog.funcNamed "pigeonloft/pigeonloftlaw03.CborMade" = some 3 by kernel_rfl).symm.trans hf) |>.symm
   obtain rfl : fn = Tryd.f3 := (Option.some.inj (Tryd.func3.symm.trans hfn)).symm
   exact ⟨by kernel_rfl, fun j t ht => by
    rw [Tryd.params3] at ht
    have hm : t ∈ [22, 23, 9] := by simpa using Array.mem_of_getElem? ht
    have hall : ([22, 23, 9].all fun u => !Tryd.prog.wantsStandIn u) = true := by kernel_rfl
    exact (show Tryd.prog.wantsStandIn t = false by simpa using List.all_eq_true.1 hall t hm)⟩)
  (by kernel_rfl)
#print axioms cborMade_holds
end Go.Proofs.YthdgejfglbjogaaDoor
