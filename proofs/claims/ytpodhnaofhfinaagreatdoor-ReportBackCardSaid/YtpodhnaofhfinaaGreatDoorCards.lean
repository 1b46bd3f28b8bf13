/-
  DERIVED. GIVEN WITH THE SEED: THE CARDS: each row of YtpodhnaofhfinaaGreatDoorRows.lean that lists a variable, with what it lists TIED to the program's text (the seventh form; the later family's looks); each row that meets fmt, with fmt's text TOLD by the authors' own Lean function (tested against real Go, not proved from fmt's source: count such statements apart). THE CARD IS WHAT COUNTS. Prove the row's statement (the work); the ties are given (YtpodhnaofhfinaaGreatDoorTie.lean); close each card by the builder's one call (the guide's Derived/Test/ToyasCard.lean, 'card_holds'). Laid BY PROGRAM, IN A SANDBOX (cutbox-door.mjs). By AI agents, Wed Nov 11 2026. No macro, syntax, notation, axiom, sorry.
-/
import Derived.Test.YtpodhnaofhfinaaGreatDoorRows
import GoSem.ClaimSeven
namespace Go.Proofs.YtpodhnaofhfinaaGreatDoor
namespace Rows

/-- THE TIED CARD OF 'pigeonlofttop.TopWay'. -/
def topWayCard : Claim7 := { stood := { row := topWayRow, standIns := [], harness := (true, "8edd7e731db3f759385b207589cada1aed1364dd3901c2a8f887c87370a32e7a"), looks := true }, kinds := [], alts := [], laidByText := true, laidKinds := [.data, .pinned], laidTests := true, laidLooks := .later }
def TopWayCardSaid : Prop := Claim7.holds Tryz.pinned (.plain (OpenSpec.ofChange topWaySpec)) topWayCard

/-- THE TIED CARD OF 'pigeonloftlaw09.ReportBack'. -/
def reportBackCard : Claim7 := { stood := { row := reportBackRow, standIns := [], harness := (true, "8edd7e731db3f759385b207589cada1aed1364dd3901c2a8f887c87370a32e7a"), looks := true }, kinds := [], alts := [], laidByText := true, laidKinds := [.data, .pinned], laidTests := true, laidLooks := .later }
def ReportBackCardSaid : Prop := Claim7.holds Tryz.pinned (.plain (OpenSpec.ofChange reportBackSpec)) reportBackCard

/-- THE SECOND FORM's CARD OF 'pigeonlofttop.TopWay'. -/
def topWayUptoCard : Claim7 := { stood := { row := topWayUptoRow, standIns := [], harness := (true, "8edd7e731db3f759385b207589cada1aed1364dd3901c2a8f887c87370a32e7a"), looks := true }, kinds := [], alts := [], laidByText := true, laidKinds := [.data, .pinned], laidTests := true, laidLooks := .later }
def TopWayUptoCardSaid : Prop := Claim7.holds Tryz.pinned (.plain (OpenSpec.upto topWaySpec)) topWayUptoCard

/-- THE SECOND FORM's CARD OF 'pigeonloftlaw09.ReportBack'. -/
def reportBackUptoCard : Claim7 := { stood := { row := reportBackUptoRow, standIns := [], harness := (true, "8edd7e731db3f759385b207589cada1aed1364dd3901c2a8f887c87370a32e7a"), looks := true }, kinds := [], alts := [], laidByText := true, laidKinds := [.data, .pinned], laidTests := true, laidLooks := .later }
def ReportBackUptoCardSaid : Prop := Claim7.holds Tryz.pinned (.plain (OpenSpec.upto reportBackSpec)) reportBackUptoCard
end Rows
end Go.Proofs.YtpodhnaofhfinaaGreatDoor
