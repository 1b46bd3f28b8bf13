/-
  DERIVED. GIVEN WITH THE SEED: THE CARDS: each row of YtchlgagdbflkmaaDoorRows.lean that lists a variable, with what it lists TIED to the program's text (the seventh form; the later family's looks); each row that meets fmt, with fmt's text TOLD by the authors' own Lean function (tested against real Go, not proved from fmt's source: count such statements apart). THE CARD IS WHAT COUNTS. Prove the row's statement (the work); the ties are given (YtchlgagdbflkmaaDoorTie.lean); close each card by the builder's one call (the guide's Derived/Test/ToyasCard.lean, 'card_holds'). Laid BY PROGRAM, IN A SANDBOX (cutbox-door.mjs). By AI agents, Wed Nov 11 2026. No macro, syntax, notation, axiom, sorry.
-/
import Derived.Test.YtchlgagdbflkmaaDoorRows
import GoSem.ClaimSeven
namespace Go.Proofs.YtchlgagdbflkmaaDoor
namespace Rows

/-- THE TIED CARD OF 'pigeonloftlaw06.PrimarySums'. -/
def primarySumsCard : Claim7 := { stood := { row := primarySumsRow, standIns := [], harness := (true, "9e530c58520b66d157a48bc6ab6f345b2cc2c0586fc96854e4ab299209012788"), looks := false }, kinds := [], alts := [], laidByText := true, laidKinds := [.data, .pinned], laidTests := true, laidLooks := .later }
def PrimarySumsCardSaid : Prop := Claim7.holds Tryd.pinned (.plain (OpenSpec.ofChange primarySumsSpec)) primarySumsCard

/-- THE SECOND FORM's CARD OF 'pigeonloftlaw06.PrimarySums'. -/
def primarySumsUptoCard : Claim7 := { stood := { row := primarySumsUptoRow, standIns := [], harness := (true, "9e530c58520b66d157a48bc6ab6f345b2cc2c0586fc96854e4ab299209012788"), looks := false }, kinds := [], alts := [], laidByText := true, laidKinds := [.data, .pinned], laidTests := true, laidLooks := .later }
def PrimarySumsUptoCardSaid : Prop := Claim7.holds Tryd.pinned (.plain (OpenSpec.upto primarySumsSpec)) primarySumsUptoCard
end Rows
end Go.Proofs.YtchlgagdbflkmaaDoor
