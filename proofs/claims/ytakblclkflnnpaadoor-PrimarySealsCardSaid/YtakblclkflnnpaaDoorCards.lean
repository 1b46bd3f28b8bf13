/-
  DERIVED. GIVEN WITH THE SEED: THE CARDS: each row of YtakblclkflnnpaaDoorRows.lean that lists a variable, with what it lists TIED to the program's text (the seventh form; the later family's looks); each row that meets fmt, with fmt's text TOLD by the authors' own Lean function (tested against real Go, not proved from fmt's source: count such statements apart). THE CARD IS WHAT COUNTS. Prove the row's statement (the work); the ties are given (YtakblclkflnnpaaDoorTie.lean); close each card by the builder's one call (the guide's Derived/Test/ToyasCard.lean, 'card_holds'). Laid BY PROGRAM, IN A SANDBOX (cutbox-door.mjs). By AI agents, Wed Nov 11 2026. No macro, syntax, notation, axiom, sorry.
-/
import Derived.Test.YtakblclkflnnpaaDoorRows
import GoSem.ClaimSeven
namespace Go.Proofs.YtakblclkflnnpaaDoor
namespace Rows

/-- THE TIED CARD OF 'pigeonloftlaw06.PrimarySeals'. -/
def primarySealsCard : Claim7 := { stood := { row := primarySealsRow, standIns := [], harness := (true, "6269e5fdc5ffcc8bd205e12ce18a4466ffd4c32d14220813e57aa59b877a300a"), looks := true }, kinds := [], alts := [], laidByText := true, laidKinds := [.data, .pinned], laidTests := true, laidLooks := .later }
def PrimarySealsCardSaid : Prop := Claim7.holds Tryd.pinned (.plain (OpenSpec.ofChange primarySealsSpec)) primarySealsCard

/-- THE TIED CARD OF 'pigeonloftlaw09.ReportNever'. -/
def reportNeverCard : Claim7 := { stood := { row := reportNeverRow, standIns := [], harness := (true, "6269e5fdc5ffcc8bd205e12ce18a4466ffd4c32d14220813e57aa59b877a300a"), looks := true }, kinds := [], alts := [], laidByText := true, laidKinds := [.data, .pinned], laidTests := true, laidLooks := .later }
def ReportNeverCardSaid : Prop := Claim7.holds Tryd.pinned (.plain (OpenSpec.ofChange reportNeverSpec)) reportNeverCard

/-- THE TIED CARD OF 'pigeonloftlaw08.BundleParts'. -/
def bundlePartsCard : Claim7 := { stood := { row := bundlePartsRow, standIns := [], harness := (true, "6269e5fdc5ffcc8bd205e12ce18a4466ffd4c32d14220813e57aa59b877a300a"), looks := true }, kinds := [], alts := [], laidByText := true, laidKinds := [.data, .pinned], laidTests := true, laidLooks := .later }
def BundlePartsCardSaid : Prop := Claim7.holds Tryd.pinned (.plain (OpenSpec.ofChange bundlePartsSpec)) bundlePartsCard

/-- THE SECOND FORM's CARD OF 'pigeonloftlaw06.PrimarySeals'. -/
def primarySealsUptoCard : Claim7 := { stood := { row := primarySealsUptoRow, standIns := [], harness := (true, "6269e5fdc5ffcc8bd205e12ce18a4466ffd4c32d14220813e57aa59b877a300a"), looks := true }, kinds := [], alts := [], laidByText := true, laidKinds := [.data, .pinned], laidTests := true, laidLooks := .later }
def PrimarySealsUptoCardSaid : Prop := Claim7.holds Tryd.pinned (.plain (OpenSpec.upto primarySealsSpec)) primarySealsUptoCard

/-- THE SECOND FORM's CARD OF 'pigeonloftlaw09.ReportNever'. -/
def reportNeverUptoCard : Claim7 := { stood := { row := reportNeverUptoRow, standIns := [], harness := (true, "6269e5fdc5ffcc8bd205e12ce18a4466ffd4c32d14220813e57aa59b877a300a"), looks := true }, kinds := [], alts := [], laidByText := true, laidKinds := [.data, .pinned], laidTests := true, laidLooks := .later }
def ReportNeverUptoCardSaid : Prop := Claim7.holds Tryd.pinned (.plain (OpenSpec.upto reportNeverSpec)) reportNeverUptoCard

/-- THE SECOND FORM's CARD OF 'pigeonloftlaw08.BundleParts'. -/
def bundlePartsUptoCard : Claim7 := { stood := { row := bundlePartsUptoRow, standIns := [], harness := (true, "6269e5fdc5ffcc8bd205e12ce18a4466ffd4c32d14220813e57aa59b877a300a"), looks := true }, kinds := [], alts := [], laidByText := true, laidKinds := [.data, .pinned], laidTests := true, laidLooks := .later }
def BundlePartsUptoCardSaid : Prop := Claim7.holds Tryd.pinned (.plain (OpenSpec.upto bundlePartsSpec)) bundlePartsUptoCard
end Rows
end Go.Proofs.YtakblclkflnnpaaDoor
