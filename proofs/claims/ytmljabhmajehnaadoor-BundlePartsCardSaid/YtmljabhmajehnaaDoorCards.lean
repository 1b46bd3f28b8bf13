/-
  DERIVED. GIVEN WITH THE SEED: THE CARDS: each row of YtmljabhmajehnaaDoorRows.lean that lists a variable, with what it lists TIED to the program's text (the seventh form; the later family's looks); each row that meets fmt, with fmt's text TOLD by the authors' own Lean function (tested against real Go, not proved from fmt's source: count such statements apart). THE CARD IS WHAT COUNTS. Prove the row's statement (the work); the ties are given (YtmljabhmajehnaaDoorTie.lean); close each card by the builder's one call (the guide's Derived/Test/ToyasCard.lean, 'card_holds'). Laid BY PROGRAM, IN A SANDBOX (cutbox-door.mjs). By AI agents, Wed Nov 11 2026. No macro, syntax, notation, axiom, sorry.
-/
import Derived.Test.YtmljabhmajehnaaDoorRows
import GoSem.ClaimSeven
namespace Go.Proofs.YtmljabhmajehnaaDoor
namespace Rows

/-- THE TIED CARD OF 'pigeonloftlaw09.ReportNever'. -/
def reportNeverCard : Claim7 := { stood := { row := reportNeverRow, standIns := [], harness := (true, "23be65fa12930a1b6ba4251b57f938941ed49ceab73f14187dd39ce96eb6434f"), looks := true }, kinds := [], alts := [], laidByText := true, laidKinds := [.data, .pinned], laidTests := true, laidLooks := .later }
def ReportNeverCardSaid : Prop := Claim7.holds Tryd.pinned (.plain (OpenSpec.ofChange reportNeverSpec)) reportNeverCard

/-- THE TIED CARD OF 'pigeonloftlaw08.BundleParts'. -/
def bundlePartsCard : Claim7 := { stood := { row := bundlePartsRow, standIns := [], harness := (true, "23be65fa12930a1b6ba4251b57f938941ed49ceab73f14187dd39ce96eb6434f"), looks := true }, kinds := [], alts := [], laidByText := true, laidKinds := [.data, .pinned], laidTests := true, laidLooks := .later }
def BundlePartsCardSaid : Prop := Claim7.holds Tryd.pinned (.plain (OpenSpec.ofChange bundlePartsSpec)) bundlePartsCard

/-- THE SECOND FORM's CARD OF 'pigeonloftlaw09.ReportNever'. -/
def reportNeverUptoCard : Claim7 := { stood := { row := reportNeverUptoRow, standIns := [], harness := (true, "23be65fa12930a1b6ba4251b57f938941ed49ceab73f14187dd39ce96eb6434f"), looks := true }, kinds := [], alts := [], laidByText := true, laidKinds := [.data, .pinned], laidTests := true, laidLooks := .later }
def ReportNeverUptoCardSaid : Prop := Claim7.holds Tryd.pinned (.plain (OpenSpec.upto reportNeverSpec)) reportNeverUptoCard

/-- THE SECOND FORM's CARD OF 'pigeonloftlaw08.BundleParts'. -/
def bundlePartsUptoCard : Claim7 := { stood := { row := bundlePartsUptoRow, standIns := [], harness := (true, "23be65fa12930a1b6ba4251b57f938941ed49ceab73f14187dd39ce96eb6434f"), looks := true }, kinds := [], alts := [], laidByText := true, laidKinds := [.data, .pinned], laidTests := true, laidLooks := .later }
def BundlePartsUptoCardSaid : Prop := Claim7.holds Tryd.pinned (.plain (OpenSpec.upto bundlePartsSpec)) bundlePartsUptoCard
end Rows
end Go.Proofs.YtmljabhmajehnaaDoor
