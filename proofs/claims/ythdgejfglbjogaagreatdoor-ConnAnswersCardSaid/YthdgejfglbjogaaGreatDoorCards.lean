/-
  DERIVED. GIVEN WITH THE SEED: THE CARDS: each row of YthdgejfglbjogaaGreatDoorRows.lean that lists a variable, with what it lists TIED to the program's text (the seventh form; the later family's looks); each row that meets fmt, with fmt's text TOLD by the authors' own Lean function (tested against real Go, not proved from fmt's source: count such statements apart). THE CARD IS WHAT COUNTS. Prove the row's statement (the work); the ties are given (YthdgejfglbjogaaGreatDoorTie.lean); close each card by the builder's one call (the guide's Derived/Test/ToyasCard.lean, 'card_holds'). Laid BY PROGRAM, IN A SANDBOX (cutbox-door.mjs). By AI agents, Wed Nov 11 2026. No macro, syntax, notation, axiom, sorry.
-/
import Derived.Test.YthdgejfglbjogaaGreatDoorRows
import GoSem.ClaimSeven
namespace Go.Proofs.YthdgejfglbjogaaGreatDoor
namespace Rows

/-- THE TIED CARD OF 'pigeonloftlaw31.ConnAnswers'. -/
def connAnswersCard : Claim7 := { stood := { row := connAnswersRow, standIns := [], harness := (true, "bfdcf0d3b7ef6c5c0d544541d647bf0a5e03f2b1a3a19a16b79edd05e9d024f9"), looks := true }, kinds := [], alts := [], laidByText := true, laidKinds := [.data, .data, .data, .sentinel, .sentinel], laidTests := true, laidLooks := .later }
def ConnAnswersCardSaid : Prop := Claim7.holds Tryz.pinned (.plain (OpenSpec.ofChange connAnswersSpec)) connAnswersCard

/-- THE SECOND FORM's CARD OF 'pigeonloftlaw31.ConnAnswers'. -/
def connAnswersUptoCard : Claim7 := { stood := { row := connAnswersUptoRow, standIns := [], harness := (true, "bfdcf0d3b7ef6c5c0d544541d647bf0a5e03f2b1a3a19a16b79edd05e9d024f9"), looks := true }, kinds := [], alts := [], laidByText := true, laidKinds := [.data, .data, .data, .sentinel, .sentinel], laidTests := true, laidLooks := .later }
def ConnAnswersUptoCardSaid : Prop := Claim7.holds Tryz.pinned (.plain (OpenSpec.upto connAnswersSpec)) connAnswersUptoCard
end Rows
end Go.Proofs.YthdgejfglbjogaaGreatDoor
