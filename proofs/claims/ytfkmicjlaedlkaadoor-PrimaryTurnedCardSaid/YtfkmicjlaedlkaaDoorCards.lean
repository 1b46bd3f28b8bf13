/-
  DERIVED. GIVEN WITH THE SEED: THE CARDS: each row of YtfkmicjlaedlkaaDoorRows.lean that lists a variable, with what it lists TIED to the program's text (the seventh form; the later family's looks); each row that meets fmt, with fmt's text TOLD by the authors' own Lean function (tested against real Go, not proved from fmt's source: count such statements apart). THE CARD IS WHAT COUNTS. Prove the row's statement (the work); the ties are given (YtfkmicjlaedlkaaDoorTie.lean); close each card by the builder's one call (the guide's Derived/Test/ToyasCard.lean, 'card_holds'). Laid BY PROGRAM, IN A SANDBOX (cutbox-door.mjs). By AI agents, Wed Nov 11 2026. No macro, syntax, notation, axiom, sorry.
-/
import Derived.Test.YtfkmicjlaedlkaaDoorRows
import GoSem.ClaimSeven
namespace Go.Proofs.YtfkmicjlaedlkaaDoor
namespace Rows

/-- THE TIED CARD OF 'pigeonloftlaw03.CborMade'. -/
def cborMadeCard : Claim7 := { stood := { row := cborMadeRow, standIns := [], harness := (true, "768e7106707c093f52a5c6c123154fbd48dbb09e45d1b8509eedf2e17741a088"), looks := true }, kinds := [], alts := [], laidByText := true, laidKinds := [.data, .pinned], laidTests := true, laidLooks := .later }
def CborMadeCardSaid : Prop := Claim7.holds Tryd.pinned (.plain (OpenSpec.ofChange cborMadeSpec)) cborMadeCard

/-- THE TIED CARD OF 'pigeonloftlaw06.PrimarySeals'. -/
def primarySealsCard : Claim7 := { stood := { row := primarySealsRow, standIns := [], harness := (true, "768e7106707c093f52a5c6c123154fbd48dbb09e45d1b8509eedf2e17741a088"), looks := true }, kinds := [], alts := [], laidByText := true, laidKinds := [.data, .pinned], laidTests := true, laidLooks := .later }
def PrimarySealsCardSaid : Prop := Claim7.holds Tryd.pinned (.plain (OpenSpec.ofChange primarySealsSpec)) primarySealsCard

/-- THE TIED CARD OF 'pigeonloftlaw06.PrimaryBack'. -/
def primaryBackCard : Claim7 := { stood := { row := primaryBackRow, standIns := [], harness := (true, "768e7106707c093f52a5c6c123154fbd48dbb09e45d1b8509eedf2e17741a088"), looks := true }, kinds := [], alts := [], laidByText := true, laidKinds := [.data, .pinned], laidTests := true, laidLooks := .later }
def PrimaryBackCardSaid : Prop := Claim7.holds Tryd.pinned (.plain (OpenSpec.ofChange primaryBackSpec)) primaryBackCard

/-- THE TIED CARD OF 'pigeonloftlaw06.PrimaryTurned'. -/
def primaryTurnedCard : Claim7 := { stood := { row := primaryTurnedRow, standIns := [], harness := (true, "768e7106707c093f52a5c6c123154fbd48dbb09e45d1b8509eedf2e17741a088"), looks := true }, kinds := [], alts := [], laidByText := true, laidKinds := [.data, .pinned], laidTests := true, laidLooks := .later }
def PrimaryTurnedCardSaid : Prop := Claim7.holds Tryd.pinned (.plain (OpenSpec.ofChange primaryTurnedSpec)) primaryTurnedCard

/-- THE TIED CARD OF 'pigeonloftlaw06.PrimarySums'. -/
def primarySumsCard : Claim7 := { stood := { row := primarySumsRow, standIns := [], harness := (true, "768e7106707c093f52a5c6c123154fbd48dbb09e45d1b8509eedf2e17741a088"), looks := true }, kinds := [], alts := [], laidByText := true, laidKinds := [.data, .pinned], laidTests := true, laidLooks := .later }
def PrimarySumsCardSaid : Prop := Claim7.holds Tryd.pinned (.plain (OpenSpec.ofChange primarySumsSpec)) primarySumsCard

/-- THE TIED CARD OF 'pigeonloftlaw09.ReportNever'. -/
def reportNeverCard : Claim7 := { stood := { row := reportNeverRow, standIns := [], harness := (true, "768e7106707c093f52a5c6c123154fbd48dbb09e45d1b8509eedf2e17741a088"), looks := true }, kinds := [], alts := [], laidByText := true, laidKinds := [.data, .pinned], laidTests := true, laidLooks := .later }
def ReportNeverCardSaid : Prop := Claim7.holds Tryd.pinned (.plain (OpenSpec.ofChange reportNeverSpec)) reportNeverCard

/-- THE TIED CARD OF 'pigeonloftlaw08.BundleParts'. -/
def bundlePartsCard : Claim7 := { stood := { row := bundlePartsRow, standIns := [], harness := (true, "768e7106707c093f52a5c6c123154fbd48dbb09e45d1b8509eedf2e17741a088"), looks := true }, kinds := [], alts := [], laidByText := true, laidKinds := [.data, .pinned], laidTests := true, laidLooks := .later }
def BundlePartsCardSaid : Prop := Claim7.holds Tryd.pinned (.plain (OpenSpec.ofChange bundlePartsSpec)) bundlePartsCard

/-- THE SECOND FORM's CARD OF 'pigeonloftlaw03.CborMade'. -/
def cborMadeUptoCard : Claim7 := { stood := { row := cborMadeUptoRow, standIns := [], harness := (true, "768e7106707c093f52a5c6c123154fbd48dbb09e45d1b8509eedf2e17741a088"), looks := true }, kinds := [], alts := [], laidByText := true, laidKinds := [.data, .pinned], laidTests := true, laidLooks := .later }
def CborMadeUptoCardSaid : Prop := Claim7.holds Tryd.pinned (.plain (OpenSpec.upto cborMadeSpec)) cborMadeUptoCard

/-- THE SECOND FORM's CARD OF 'pigeonloftlaw06.PrimarySeals'. -/
def primarySealsUptoCard : Claim7 := { stood := { row := primarySealsUptoRow, standIns := [], harness := (true, "768e7106707c093f52a5c6c123154fbd48dbb09e45d1b8509eedf2e17741a088"), looks := true }, kinds := [], alts := [], laidByText := true, laidKinds := [.data, .pinned], laidTests := true, laidLooks := .later }
def PrimarySealsUptoCardSaid : Prop := Claim7.holds Tryd.pinned (.plain (OpenSpec.upto primarySealsSpec)) primarySealsUptoCard

/-- THE SECOND FORM's CARD OF 'pigeonloftlaw06.PrimaryBack'. -/
def primaryBackUptoCard : Claim7 := { stood := { row := primaryBackUptoRow, standIns := [], harness := (true, "768e7106707c093f52a5c6c123154fbd48dbb09e45d1b8509eedf2e17741a088"), looks := true }, kinds := [], alts := [], laidByText := true, laidKinds := [.data, .pinned], laidTests := true, laidLooks := .later }
def PrimaryBackUptoCardSaid : Prop := Claim7.holds Tryd.pinned (.plain (OpenSpec.upto primaryBackSpec)) primaryBackUptoCard

/-- THE SECOND FORM's CARD OF 'pigeonloftlaw06.PrimaryTurned'. -/
def primaryTurnedUptoCard : Claim7 := { stood := { row := primaryTurnedUptoRow, standIns := [], harness := (true, "768e7106707c093f52a5c6c123154fbd48dbb09e45d1b8509eedf2e17741a088"), looks := true }, kinds := [], alts := [], laidByText := true, laidKinds := [.data, .pinned], laidTests := true, laidLooks := .later }
def PrimaryTurnedUptoCardSaid : Prop := Claim7.holds Tryd.pinned (.plain (OpenSpec.upto primaryTurnedSpec)) primaryTurnedUptoCard

/-- THE SECOND FORM's CARD OF 'pigeonloftlaw06.PrimarySums'. -/
def primarySumsUptoCard : Claim7 := { stood := { row := primarySumsUptoRow, standIns := [], harness := (true, "768e7106707c093f52a5c6c123154fbd48dbb09e45d1b8509eedf2e17741a088"), looks := true }, kinds := [], alts := [], laidByText := true, laidKinds := [.data, .pinned], laidTests := true, laidLooks := .later }
def PrimarySumsUptoCardSaid : Prop := Claim7.holds Tryd.pinned (.plain (OpenSpec.upto primarySumsSpec)) primarySumsUptoCard

/-- THE SECOND FORM's CARD OF 'pigeonloftlaw09.ReportNever'. -/
def reportNeverUptoCard : Claim7 := { stood := { row := reportNeverUptoRow, standIns := [], harness := (true, "768e7106707c093f52a5c6c123154fbd48dbb09e45d1b8509eedf2e17741a088"), looks := true }, kinds := [], alts := [], laidByText := true, laidKinds := [.data, .pinned], laidTests := true, laidLooks := .later }
def ReportNeverUptoCardSaid : Prop := Claim7.holds Tryd.pinned (.plain (OpenSpec.upto reportNeverSpec)) reportNeverUptoCard

/-- THE SECOND FORM's CARD OF 'pigeonloftlaw08.BundleParts'. -/
def bundlePartsUptoCard : Claim7 := { stood := { row := bundlePartsUptoRow, standIns := [], harness := (true, "768e7106707c093f52a5c6c123154fbd48dbb09e45d1b8509eedf2e17741a088"), looks := true }, kinds := [], alts := [], laidByText := true, laidKinds := [.data, .pinned], laidTests := true, laidLooks := .later }
def BundlePartsUptoCardSaid : Prop := Claim7.holds Tryd.pinned (.plain (OpenSpec.upto bundlePartsSpec)) bundlePartsUptoCard
end Rows
end Go.Proofs.YtfkmicjlaedlkaaDoor
