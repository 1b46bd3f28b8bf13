/-
  DERIVED. GIVEN WITH THE SEED: THE CARDS: each row of YtmljabhmajehnaaGreatDoorRows.lean that lists a variable, with what it lists TIED to the program's text (the seventh form; the later family's looks); each row that meets fmt, with fmt's text TOLD by the authors' own Lean function (tested against real Go, not proved from fmt's source: count such statements apart). THE CARD IS WHAT COUNTS. Prove the row's statement (the work); the ties are given (YtmljabhmajehnaaGreatDoorTie.lean); close each card by the builder's one call (the guide's Derived/Test/ToyasCard.lean, 'card_holds'). Laid BY PROGRAM, IN A SANDBOX (cutbox-door.mjs). By AI agents, Wed Nov 11 2026. No macro, syntax, notation, axiom, sorry.
-/
import Derived.Test.YtmljabhmajehnaaGreatDoorRows
import GoSem.ClaimSeven
namespace Go.Proofs.YtmljabhmajehnaaGreatDoor
namespace Rows

/-- THE TIED CARD OF 'pigeonlofttop.TopWay'. -/
def topWayCard : Claim7 := { stood := { row := topWayRow, standIns := [], harness := (true, "7b9d37fc62ed3221286d6dce5c0b808a2db869cd53d991aabd481037c03f0170"), looks := true }, kinds := [], alts := [], laidByText := true, laidKinds := [.data, .pinned], laidTests := true, laidLooks := .later }
def TopWayCardSaid : Prop := Claim7.holds Tryz.pinned (.plain (OpenSpec.ofChange topWaySpec)) topWayCard

/-- THE TIED CARD OF 'pigeonloftlaw09.ReportWrites'. -/
def reportWritesCard : Claim7 := { stood := { row := reportWritesRow, standIns := [], harness := (true, "7b9d37fc62ed3221286d6dce5c0b808a2db869cd53d991aabd481037c03f0170"), looks := true }, kinds := [], alts := [], laidByText := true, laidKinds := [.data, .pinned], laidTests := true, laidLooks := .later }
def ReportWritesCardSaid : Prop := Claim7.holds Tryz.pinned (.plain (OpenSpec.ofChange reportWritesSpec)) reportWritesCard

/-- THE TIED CARD OF 'pigeonloftlaw09.ReportBundles'. -/
def reportBundlesCard : Claim7 := { stood := { row := reportBundlesRow, standIns := [], harness := (true, "7b9d37fc62ed3221286d6dce5c0b808a2db869cd53d991aabd481037c03f0170"), looks := true }, kinds := [], alts := [], laidByText := true, laidKinds := [.data, .pinned], laidTests := true, laidLooks := .later }
def ReportBundlesCardSaid : Prop := Claim7.holds Tryz.pinned (.plain (OpenSpec.ofChange reportBundlesSpec)) reportBundlesCard

/-- THE TIED CARD OF 'pigeonloftlaw08.BundleWrites'. -/
def bundleWritesCard : Claim7 := { stood := { row := bundleWritesRow, standIns := [], harness := (true, "7b9d37fc62ed3221286d6dce5c0b808a2db869cd53d991aabd481037c03f0170"), looks := true }, kinds := [], alts := [], laidByText := true, laidKinds := [.data, .pinned], laidTests := true, laidLooks := .later }
def BundleWritesCardSaid : Prop := Claim7.holds Tryz.pinned (.plain (OpenSpec.ofChange bundleWritesSpec)) bundleWritesCard

/-- THE TIED CARD OF 'pigeonloftlaw10.HopOn'. -/
def hopOnCard : Claim7 := { stood := { row := hopOnRow, standIns := [], harness := (true, "7b9d37fc62ed3221286d6dce5c0b808a2db869cd53d991aabd481037c03f0170"), looks := true }, kinds := [], alts := [], laidByText := true, laidKinds := [.data, .pinned], laidTests := true, laidLooks := .later }
def HopOnCardSaid : Prop := Claim7.holds Tryz.pinned (.plain (OpenSpec.ofChange hopOnSpec)) hopOnCard

/-- THE SECOND FORM's CARD OF 'pigeonlofttop.TopWay'. -/
def topWayUptoCard : Claim7 := { stood := { row := topWayUptoRow, standIns := [], harness := (true, "7b9d37fc62ed3221286d6dce5c0b808a2db869cd53d991aabd481037c03f0170"), looks := true }, kinds := [], alts := [], laidByText := true, laidKinds := [.data, .pinned], laidTests := true, laidLooks := .later }
def TopWayUptoCardSaid : Prop := Claim7.holds Tryz.pinned (.plain (OpenSpec.upto topWaySpec)) topWayUptoCard

/-- THE SECOND FORM's CARD OF 'pigeonloftlaw09.ReportWrites'. -/
def reportWritesUptoCard : Claim7 := { stood := { row := reportWritesUptoRow, standIns := [], harness := (true, "7b9d37fc62ed3221286d6dce5c0b808a2db869cd53d991aabd481037c03f0170"), looks := true }, kinds := [], alts := [], laidByText := true, laidKinds := [.data, .pinned], laidTests := true, laidLooks := .later }
def ReportWritesUptoCardSaid : Prop := Claim7.holds Tryz.pinned (.plain (OpenSpec.upto reportWritesSpec)) reportWritesUptoCard

/-- THE SECOND FORM's CARD OF 'pigeonloftlaw09.ReportBundles'. -/
def reportBundlesUptoCard : Claim7 := { stood := { row := reportBundlesUptoRow, standIns := [], harness := (true, "7b9d37fc62ed3221286d6dce5c0b808a2db869cd53d991aabd481037c03f0170"), looks := true }, kinds := [], alts := [], laidByText := true, laidKinds := [.data, .pinned], laidTests := true, laidLooks := .later }
def ReportBundlesUptoCardSaid : Prop := Claim7.holds Tryz.pinned (.plain (OpenSpec.upto reportBundlesSpec)) reportBundlesUptoCard

/-- THE SECOND FORM's CARD OF 'pigeonloftlaw08.BundleWrites'. -/
def bundleWritesUptoCard : Claim7 := { stood := { row := bundleWritesUptoRow, standIns := [], harness := (true, "7b9d37fc62ed3221286d6dce5c0b808a2db869cd53d991aabd481037c03f0170"), looks := true }, kinds := [], alts := [], laidByText := true, laidKinds := [.data, .pinned], laidTests := true, laidLooks := .later }
def BundleWritesUptoCardSaid : Prop := Claim7.holds Tryz.pinned (.plain (OpenSpec.upto bundleWritesSpec)) bundleWritesUptoCard

/-- THE SECOND FORM's CARD OF 'pigeonloftlaw10.HopOn'. -/
def hopOnUptoCard : Claim7 := { stood := { row := hopOnUptoRow, standIns := [], harness := (true, "7b9d37fc62ed3221286d6dce5c0b808a2db869cd53d991aabd481037c03f0170"), looks := true }, kinds := [], alts := [], laidByText := true, laidKinds := [.data, .pinned], laidTests := true, laidLooks := .later }
def HopOnUptoCardSaid : Prop := Claim7.holds Tryz.pinned (.plain (OpenSpec.upto hopOnSpec)) hopOnUptoCard
end Rows
end Go.Proofs.YtmljabhmajehnaaGreatDoor
