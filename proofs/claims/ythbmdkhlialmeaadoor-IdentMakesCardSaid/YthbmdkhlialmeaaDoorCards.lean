/-
  DERIVED. GIVEN WITH THE SEED: THE CARDS: each row of YthbmdkhlialmeaaDoorRows.lean that lists a variable, with what it lists TIED to the program's text (the seventh form; the later family's looks); each row that meets fmt, with fmt's text TOLD by the authors' own Lean function (tested against real Go, not proved from fmt's source: count such statements apart). THE CARD IS WHAT COUNTS. Prove the row's statement (the work); the ties are given (YthbmdkhlialmeaaDoorTie.lean); close each card by the builder's one call (the guide's Derived/Test/ToyasCard.lean, 'card_holds'). Laid BY PROGRAM, IN A SANDBOX (cutbox-door.mjs). By AI agents, Wed Nov 11 2026. No macro, syntax, notation, axiom, sorry.
-/
import Derived.Test.YthbmdkhlialmeaaDoorRows
import GoSem.ClaimSeven
namespace Go.Proofs.YthbmdkhlialmeaaDoor
namespace Rows

/-- THE TIED CARD OF 'pigeonloftlaw05.IdentOrder'. -/
def identOrderCard : Claim7 := { stood := { row := identOrderRow, standIns := [], harness := (true, "b2f787e5bfe7d0a641006689c373ff53c09fdbc676043e86653619ebc1ff1e4b"), looks := false }, kinds := [], alts := [], laidByText := true, laidKinds := [.data, .data, .data], laidTests := true, laidLooks := .later }
def IdentOrderCardSaid : Prop := Claim7.holds Tryd.pinned (.plain (OpenSpec.ofChange identOrderSpec)) identOrderCard

/-- THE TIED CARD OF 'pigeonloftlaw05.IdentRises'. -/
def identRisesCard : Claim7 := { stood := { row := identRisesRow, standIns := [], harness := (true, "b2f787e5bfe7d0a641006689c373ff53c09fdbc676043e86653619ebc1ff1e4b"), looks := false }, kinds := [], alts := [], laidByText := true, laidKinds := [.data, .data, .data], laidTests := true, laidLooks := .later }
def IdentRisesCardSaid : Prop := Claim7.holds Tryd.pinned (.plain (OpenSpec.ofChange identRisesSpec)) identRisesCard

/-- THE TIED CARD OF 'pigeonloftlaw05.IdentMakes'. -/
def identMakesCard : Claim7 := { stood := { row := identMakesRow, standIns := [], harness := (true, "b2f787e5bfe7d0a641006689c373ff53c09fdbc676043e86653619ebc1ff1e4b"), looks := false }, kinds := [], alts := [], laidByText := true, laidKinds := [.data, .data, .data], laidTests := true, laidLooks := .later }
def IdentMakesCardSaid : Prop := Claim7.holds Tryd.pinned (.plain (OpenSpec.ofChange identMakesSpec)) identMakesCard

/-- THE SECOND FORM's CARD OF 'pigeonloftlaw05.IdentOrder'. -/
def identOrderUptoCard : Claim7 := { stood := { row := identOrderUptoRow, standIns := [], harness := (true, "b2f787e5bfe7d0a641006689c373ff53c09fdbc676043e86653619ebc1ff1e4b"), looks := false }, kinds := [], alts := [], laidByText := true, laidKinds := [.data, .data, .data], laidTests := true, laidLooks := .later }
def IdentOrderUptoCardSaid : Prop := Claim7.holds Tryd.pinned (.plain (OpenSpec.upto identOrderSpec)) identOrderUptoCard

/-- THE SECOND FORM's CARD OF 'pigeonloftlaw05.IdentRises'. -/
def identRisesUptoCard : Claim7 := { stood := { row := identRisesUptoRow, standIns := [], harness := (true, "b2f787e5bfe7d0a641006689c373ff53c09fdbc676043e86653619ebc1ff1e4b"), looks := false }, kinds := [], alts := [], laidByText := true, laidKinds := [.data, .data, .data], laidTests := true, laidLooks := .later }
def IdentRisesUptoCardSaid : Prop := Claim7.holds Tryd.pinned (.plain (OpenSpec.upto identRisesSpec)) identRisesUptoCard

/-- THE SECOND FORM's CARD OF 'pigeonloftlaw05.IdentMakes'. -/
def identMakesUptoCard : Claim7 := { stood := { row := identMakesUptoRow, standIns := [], harness := (true, "b2f787e5bfe7d0a641006689c373ff53c09fdbc676043e86653619ebc1ff1e4b"), looks := false }, kinds := [], alts := [], laidByText := true, laidKinds := [.data, .data, .data], laidTests := true, laidLooks := .later }
def IdentMakesUptoCardSaid : Prop := Claim7.holds Tryd.pinned (.plain (OpenSpec.upto identMakesSpec)) identMakesUptoCard
end Rows
end Go.Proofs.YthbmdkhlialmeaaDoor
