/-
  DERIVED. GIVEN WITH THE SEED: THE CARDS: each row of YthdgejfglbjogaaDoorRows.lean that lists a variable, with what it lists TIED to the program's text (the seventh form; the later family's looks); each row that meets fmt, with fmt's text TOLD by the authors' own Lean function (tested against real Go, not proved from fmt's source: count such statements apart). THE CARD IS WHAT COUNTS. Prove the row's statement (the work); the ties are given (YthdgejfglbjogaaDoorTie.lean); close each card by the builder's one call (the guide's Derived/Test/ToyasCard.lean, 'card_holds'). Laid BY PROGRAM, IN A SANDBOX (cutbox-door.mjs). By AI agents, Wed Nov 11 2026. No macro, syntax, notation, axiom, sorry.
-/
import Derived.Test.YthdgejfglbjogaaDoorRows
import GoSem.ClaimSeven
namespace Go.Proofs.YthdgejfglbjogaaDoor
namespace Rows

/-- THE TIED CARD OF 'pigeonloftlaw03.CborMade'. -/
def cborMadeCard : Claim7 := { stood := { row := cborMadeRow, standIns := [], harness := (true, "ac795ec8e850e427e15a5f744e748dec1b3ec56ff7f91de759a79036e7d05021"), looks := true }, kinds := [], alts := [], laidByText := true, laidKinds := [.data, .pinned], laidTests := true, laidLooks := .later }
def CborMadeCardSaid : Prop := Claim7.holds Tryd.pinned (.plain (OpenSpec.ofChange cborMadeSpec)) cborMadeCard

/-- THE SECOND FORM's CARD OF 'pigeonloftlaw03.CborMade'. -/
def cborMadeUptoCard : Claim7 := { stood := { row := cborMadeUptoRow, standIns := [], harness := (true, "ac795ec8e850e427e15a5f744e748dec1b3ec56ff7f91de759a79036e7d05021"), looks := true }, kinds := [], alts := [], laidByText := true, laidKinds := [.data, .pinned], laidTests := true, laidLooks := .later }
def CborMadeUptoCardSaid : Prop := Claim7.holds Tryd.pinned (.plain (OpenSpec.upto cborMadeSpec)) cborMadeUptoCard
end Rows
end Go.Proofs.YthdgejfglbjogaaDoor
