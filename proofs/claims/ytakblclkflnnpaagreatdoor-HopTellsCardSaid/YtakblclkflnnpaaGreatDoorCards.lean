/-
  DERIVED. GIVEN WITH THE SEED: THE CARDS: each row of YtakblclkflnnpaaGreatDoorRows.lean that lists a variable, with what it lists TIED to the program's text (the seventh form; the later family's looks); each row that meets fmt, with fmt's text TOLD by the authors' own Lean function (tested against real Go, not proved from fmt's source: count such statements apart). THE CARD IS WHAT COUNTS. Prove the row's statement (the work); the ties are given (YtakblclkflnnpaaGreatDoorTie.lean); close each card by the builder's one call (the guide's Derived/Test/ToyasCard.lean, 'card_holds'). Laid BY PROGRAM, IN A SANDBOX (cutbox-door.mjs). By AI agents, Wed Nov 11 2026. No macro, syntax, notation, axiom, sorry.
-/
import Derived.Test.YtakblclkflnnpaaGreatDoorRows
import GoSem.ClaimSeven
namespace Go.Proofs.YtakblclkflnnpaaGreatDoor
namespace Rows

/-- THE TIED CARD OF 'pigeonloftlaw06.PrimaryBlocks'. -/
def primaryBlocksCard : Claim7 := { stood := { row := primaryBlocksRow, standIns := [], harness := (true, "80c931ee9769055acc77b312b72466b5f13841b472ec8cf02d61af344e556f39"), looks := true }, kinds := [], alts := [], laidByText := true, laidKinds := [.data, .pinned], laidTests := true, laidLooks := .later }
def PrimaryBlocksCardSaid : Prop := Claim7.holds Tryz.pinned (.plain (OpenSpec.ofChange primaryBlocksSpec)) primaryBlocksCard

/-- THE TIED CARD OF 'pigeonloftlaw07.CanonBlocks'. -/
def canonBlocksCard : Claim7 := { stood := { row := canonBlocksRow, standIns := [], harness := (true, "80c931ee9769055acc77b312b72466b5f13841b472ec8cf02d61af344e556f39"), looks := true }, kinds := [], alts := [], laidByText := true, laidKinds := [.data, .pinned], laidTests := true, laidLooks := .later }
def CanonBlocksCardSaid : Prop := Claim7.holds Tryz.pinned (.plain (OpenSpec.ofChange canonBlocksSpec)) canonBlocksCard

/-- THE TIED CARD OF 'pigeonloftlaw07.CanonSays'. -/
def canonSaysCard : Claim7 := { stood := { row := canonSaysRow, standIns := [], harness := (true, "80c931ee9769055acc77b312b72466b5f13841b472ec8cf02d61af344e556f39"), looks := true }, kinds := [], alts := [], laidByText := true, laidKinds := [.data, .pinned], laidTests := true, laidLooks := .later }
def CanonSaysCardSaid : Prop := Claim7.holds Tryz.pinned (.plain (OpenSpec.ofChange canonSaysSpec)) canonSaysCard

/-- THE TIED CARD OF 'pigeonloftlaw07.CanonMakes'. -/
def canonMakesCard : Claim7 := { stood := { row := canonMakesRow, standIns := [], harness := (true, "80c931ee9769055acc77b312b72466b5f13841b472ec8cf02d61af344e556f39"), looks := true }, kinds := [], alts := [], laidByText := true, laidKinds := [.data, .pinned], laidTests := true, laidLooks := .later }
def CanonMakesCardSaid : Prop := Claim7.holds Tryz.pinned (.plain (OpenSpec.ofChange canonMakesSpec)) canonMakesCard

/-- THE TIED CARD OF 'pigeonloftlaw09.ReportWrites'. -/
def reportWritesCard : Claim7 := { stood := { row := reportWritesRow, standIns := [], harness := (true, "80c931ee9769055acc77b312b72466b5f13841b472ec8cf02d61af344e556f39"), looks := true }, kinds := [], alts := [], laidByText := true, laidKinds := [.data, .pinned], laidTests := true, laidLooks := .later }
def ReportWritesCardSaid : Prop := Claim7.holds Tryz.pinned (.plain (OpenSpec.ofChange reportWritesSpec)) reportWritesCard

/-- THE TIED CARD OF 'pigeonloftlaw09.ReportBundles'. -/
def reportBundlesCard : Claim7 := { stood := { row := reportBundlesRow, standIns := [], harness := (true, "80c931ee9769055acc77b312b72466b5f13841b472ec8cf02d61af344e556f39"), looks := true }, kinds := [], alts := [], laidByText := true, laidKinds := [.data, .pinned], laidTests := true, laidLooks := .later }
def ReportBundlesCardSaid : Prop := Claim7.holds Tryz.pinned (.plain (OpenSpec.ofChange reportBundlesSpec)) reportBundlesCard

/-- THE TIED CARD OF 'pigeonloftlaw08.BundleWrites'. -/
def bundleWritesCard : Claim7 := { stood := { row := bundleWritesRow, standIns := [], harness := (true, "80c931ee9769055acc77b312b72466b5f13841b472ec8cf02d61af344e556f39"), looks := true }, kinds := [], alts := [], laidByText := true, laidKinds := [.data, .pinned], laidTests := true, laidLooks := .later }
def BundleWritesCardSaid : Prop := Claim7.holds Tryz.pinned (.plain (OpenSpec.ofChange bundleWritesSpec)) bundleWritesCard

/-- THE TIED CARD OF 'pigeonloftlaw10.HopTells'. -/
def hopTellsCard : Claim7 := { stood := { row := hopTellsRow, standIns := [], harness := (true, "80c931ee9769055acc77b312b72466b5f13841b472ec8cf02d61af344e556f39"), looks := true }, kinds := [], alts := [], laidByText := true, laidKinds := [.data, .pinned], laidTests := true, laidLooks := .later }
def HopTellsCardSaid : Prop := Claim7.holds Tryz.pinned (.plain (OpenSpec.ofChange hopTellsSpec)) hopTellsCard

/-- THE TIED CARD OF 'pigeonloftlaw10.HopOn'. -/
def hopOnCard : Claim7 := { stood := { row := hopOnRow, standIns := [], harness := (true, "80c931ee9769055acc77b312b72466b5f13841b472ec8cf02d61af344e556f39"), looks := true }, kinds := [], alts := [], laidByText := true, laidKinds := [.data, .pinned], laidTests := true, laidLooks := .later }
def HopOnCardSaid : Prop := Claim7.holds Tryz.pinned (.plain (OpenSpec.ofChange hopOnSpec)) hopOnCard

/-- THE SECOND FORM's CARD OF 'pigeonloftlaw06.PrimaryBlocks'. -/
def primaryBlocksUptoCard : Claim7 := { stood := { row := primaryBlocksUptoRow, standIns := [], harness := (true, "80c931ee9769055acc77b312b72466b5f13841b472ec8cf02d61af344e556f39"), looks := true }, kinds := [], alts := [], laidByText := true, laidKinds := [.data, .pinned], laidTests := true, laidLooks := .later }
def PrimaryBlocksUptoCardSaid : Prop := Claim7.holds Tryz.pinned (.plain (OpenSpec.upto primaryBlocksSpec)) primaryBlocksUptoCard

/-- THE SECOND FORM's CARD OF 'pigeonloftlaw07.CanonBlocks'. -/
def canonBlocksUptoCard : Claim7 := { stood := { row := canonBlocksUptoRow, standIns := [], harness := (true, "80c931ee9769055acc77b312b72466b5f13841b472ec8cf02d61af344e556f39"), looks := true }, kinds := [], alts := [], laidByText := true, laidKinds := [.data, .pinned], laidTests := true, laidLooks := .later }
def CanonBlocksUptoCardSaid : Prop := Claim7.holds Tryz.pinned (.plain (OpenSpec.upto canonBlocksSpec)) canonBlocksUptoCard

/-- THE SECOND FORM's CARD OF 'pigeonloftlaw07.CanonSays'. -/
def canonSaysUptoCard : Claim7 := { stood := { row := canonSaysUptoRow, standIns := [], harness := (true, "80c931ee9769055acc77b312b72466b5f13841b472ec8cf02d61af344e556f39"), looks := true }, kinds := [], alts := [], laidByText := true, laidKinds := [.data, .pinned], laidTests := true, laidLooks := .later }
def CanonSaysUptoCardSaid : Prop := Claim7.holds Tryz.pinned (.plain (OpenSpec.upto canonSaysSpec)) canonSaysUptoCard

/-- THE SECOND FORM's CARD OF 'pigeonloftlaw07.CanonMakes'. -/
def canonMakesUptoCard : Claim7 := { stood := { row := canonMakesUptoRow, standIns := [], harness := (true, "80c931ee9769055acc77b312b72466b5f13841b472ec8cf02d61af344e556f39"), looks := true }, kinds := [], alts := [], laidByText := true, laidKinds := [.data, .pinned], laidTests := true, laidLooks := .later }
def CanonMakesUptoCardSaid : Prop := Claim7.holds Tryz.pinned (.plain (OpenSpec.upto canonMakesSpec)) canonMakesUptoCard

/-- THE SECOND FORM's CARD OF 'pigeonloftlaw09.ReportWrites'. -/
def reportWritesUptoCard : Claim7 := { stood := { row := reportWritesUptoRow, standIns := [], harness := (true, "80c931ee9769055acc77b312b72466b5f13841b472ec8cf02d61af344e556f39"), looks := true }, kinds := [], alts := [], laidByText := true, laidKinds := [.data, .pinned], laidTests := true, laidLooks := .later }
def ReportWritesUptoCardSaid : Prop := Claim7.holds Tryz.pinned (.plain (OpenSpec.upto reportWritesSpec)) reportWritesUptoCard

/-- THE SECOND FORM's CARD OF 'pigeonloftlaw09.ReportBundles'. -/
def reportBundlesUptoCard : Claim7 := { stood := { row := reportBundlesUptoRow, standIns := [], harness := (true, "80c931ee9769055acc77b312b72466b5f13841b472ec8cf02d61af344e556f39"), looks := true }, kinds := [], alts := [], laidByText := true, laidKinds := [.data, .pinned], laidTests := true, laidLooks := .later }
def ReportBundlesUptoCardSaid : Prop := Claim7.holds Tryz.pinned (.plain (OpenSpec.upto reportBundlesSpec)) reportBundlesUptoCard

/-- THE SECOND FORM's CARD OF 'pigeonloftlaw08.BundleWrites'. -/
def bundleWritesUptoCard : Claim7 := { stood := { row := bundleWritesUptoRow, standIns := [], harness := (true, "80c931ee9769055acc77b312b72466b5f13841b472ec8cf02d61af344e556f39"), looks := true }, kinds := [], alts := [], laidByText := true, laidKinds := [.data, .pinned], laidTests := true, laidLooks := .later }
def BundleWritesUptoCardSaid : Prop := Claim7.holds Tryz.pinned (.plain (OpenSpec.upto bundleWritesSpec)) bundleWritesUptoCard

/-- THE SECOND FORM's CARD OF 'pigeonloftlaw10.HopTells'. -/
def hopTellsUptoCard : Claim7 := { stood := { row := hopTellsUptoRow, standIns := [], harness := (true, "80c931ee9769055acc77b312b72466b5f13841b472ec8cf02d61af344e556f39"), looks := true }, kinds := [], alts := [], laidByText := true, laidKinds := [.data, .pinned], laidTests := true, laidLooks := .later }
def HopTellsUptoCardSaid : Prop := Claim7.holds Tryz.pinned (.plain (OpenSpec.upto hopTellsSpec)) hopTellsUptoCard

/-- THE SECOND FORM's CARD OF 'pigeonloftlaw10.HopOn'. -/
def hopOnUptoCard : Claim7 := { stood := { row := hopOnUptoRow, standIns := [], harness := (true, "80c931ee9769055acc77b312b72466b5f13841b472ec8cf02d61af344e556f39"), looks := true }, kinds := [], alts := [], laidByText := true, laidKinds := [.data, .pinned], laidTests := true, laidLooks := .later }
def HopOnUptoCardSaid : Prop := Claim7.holds Tryz.pinned (.plain (OpenSpec.upto hopOnSpec)) hopOnUptoCard
end Rows
end Go.Proofs.YtakblclkflnnpaaGreatDoor
