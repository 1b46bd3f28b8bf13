/- Behind a loop. -/
import Derived.Test.YteijmldnfjcipaaGreatDoorAv18
open Go.RowKit Go.Pl
namespace Go.Av
set_option linter.unusedSimpArgs false
set_option linter.unusedVariables false
/-- behind a loop -/
theorem AW_joinB {P : Program} {Q : X → St → Prop} {n : Nat} {ee : Nat × Nat} {tm0 : List (Nat × D)} {bx0 : List (List D)} {fr0 : List Fr} {r x y : Code} (t : Nat) (J : List (Nat × D) → List (List D) → List Fr → Prop)
    (hy : ∀ tm bx fr, J tm bx fr → AW P y ⟨n, tm, bx, fr, ee⟩ Q) (hx : AW P (.seq r (.block t x)) ⟨n, tm0, bx0, fr0, ee⟩ (X.then (Lands (fun _ => J) n ee 1) Q)) : AW P (.seq (.seq r (.block t x)) y) ⟨n, tm0, bx0, fr0, ee⟩ Q :=
  AW_seq' (AW_mono hx fun x S h => by
    cases x with
    | norm => exact AW_ofLands h fun _ => hy
    | _ => exact h)
end Go.Av
