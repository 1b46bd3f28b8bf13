/-
  DERIVED. GIVEN WITH THE SEED: THE CARDS: each row of YtdhkfbolnkikgaaGreatDoorRows.lean that lists a variable, with what it lists TIED to the program's text (the seventh form; the later family's looks); each row that meets fmt, with fmt's text TOLD by the authors' own Lean function (tested against real Go, not proved from fmt's source: count such statements apart). THE CARD IS WHAT COUNTS. Prove the row's statement (the work); the ties are given (YtdhkfbolnkikgaaGreatDoorTie.lean); close each card by the builder's one call (the guide's Derived/Test/ToyasCard.lean, 'card_holds'). Laid BY PROGRAM, IN A SANDBOX (cutbox-door.mjs). By AI agents, Wed Nov 11 2026. No macro, syntax, notation, axiom, sorry.
-/
import Derived.Test.YtdhkfbolnkikgaaGreatDoorRows
import GoSem.ClaimSeven
namespace Go.Proofs.YtdhkfbolnkikgaaGreatDoor
namespace Rows

/-- THE TIED CARD OF 'pigeonloftlaw16.RequestTells'. -/
def requestTellsCard : Claim7 := { stood := { row := requestTellsRow, standIns := [], harness := (true, "e07b9d843407b291cf60f91d0ab80ffac83f90fdab0b46bfc9edd0ad34cec1c7"), looks := true }, kinds := [], alts := [], laidByText := true, laidKinds := [.data, .data, .data, .sentinel, .sentinel], laidTests := true, laidLooks := .later }
def RequestTellsCardSaid : Prop := Claim7.holds Tryz.pinned (.plain (OpenSpec.ofChange requestTellsSpec)) requestTellsCard

/-- THE SECOND FORM's CARD OF 'pigeonloftlaw16.RequestTells'. -/
def requestTellsUptoCard : Claim7 := { stood := { row := requestTellsUptoRow, standIns := [], harness := (true, "e07b9d843407b291cf60f91d0ab80ffac83f90fdab0b46bfc9edd0ad34cec1c7"), looks := true }, kinds := [], alts := [], laidByText := true, laidKinds := [.data, .data, .data, .sentinel, .sentinel], laidTests := true, laidLooks := .later }
def RequestTellsUptoCardSaid : Prop := Claim7.holds Tryz.pinned (.plain (OpenSpec.upto requestTellsSpec)) requestTellsUptoCard
end Rows
end Go.Proofs.YtdhkfbolnkikgaaGreatDoor
