/-
  DERIVED. GIVEN WITH THE SEED: THE CARDS: each row of YtihkbilhgbmbhaaDoorRows.lean that lists a variable, with what it lists TIED to the program's text (the seventh form; the later family's looks); each row that meets fmt, with fmt's text TOLD by the authors' own Lean function (tested against real Go, not proved from fmt's source: count such statements apart). THE CARD IS WHAT COUNTS. Prove the row's statement (the work); the ties are given (YtihkbilhgbmbhaaDoorTie.lean); close each card by the builder's one call (the guide's Derived/Test/ToyasCard.lean, 'card_holds'). Laid BY PROGRAM, IN A SANDBOX (cutbox-door.mjs). By AI agents, Wed Nov 11 2026. No macro, syntax, notation, axiom, sorry.
-/
import Derived.Test.YtihkbilhgbmbhaaDoorRows
import GoSem.ClaimSeven
namespace Go.Proofs.YtihkbilhgbmbhaaDoor
namespace Rows

/-- THE TIED CARD OF 'pigeonloftlaw03.CborMade'. -/
def cborMadeCard : Claim7 := { stood := { row := cborMadeRow, standIns := [], harness := (true, "2b9f69847923932479e26a8bc761c5a984d3cf8cc87ce809db08850050cdccc4"), looks := true }, kinds := [], alts := [], laidByText := true, laidKinds := [.data, .pinned], laidTests := true, laidLooks := .later }
def CborMadeCardSaid : Prop := Claim7.holds Tryd.pinned (.plain (OpenSpec.ofChange cborMadeSpec)) cborMadeCard

/-- THE TIED CARD OF 'pigeonloftlaw06.PrimarySeals'. -/
def primarySealsCard : Claim7 := { stood := { row := primarySealsRow, standIns := [], harness := (true, "2b9f69847923932479e26a8bc761c5a984d3cf8cc87ce809db08850050cdccc4"), looks := true }, kinds := [], alts := [], laidByText := true, laidKinds := [.data, .pinned], laidTests := true, laidLooks := .later }
def PrimarySealsCardSaid : Prop := Claim7.holds Tryd.pinned (.plain (OpenSpec.ofChange primarySealsSpec)) primarySealsCard

/-- THE TIED CARD OF 'pigeonloftlaw06.PrimaryBack'. -/
def primaryBackCard : Claim7 := { stood := { row := primaryBackRow, standIns := [], harness := (true, "2b9f69847923932479e26a8bc761c5a984d3cf8cc87ce809db08850050cdccc4"), looks := true }, kinds := [], alts := [], laidByText := true, laidKinds := [.data, .pinned], laidTests := true, laidLooks := .later }
def PrimaryBackCardSaid : Prop := Claim7.holds Tryd.pinned (.plain (OpenSpec.ofChange primaryBackSpec)) primaryBackCard

/-- THE TIED CARD OF 'pigeonloftlaw06.PrimaryTurned'. -/
def primaryTurnedCard : Claim7 := { stood := { row := primaryTurnedRow, standIns := [], harness := (true, "2b9f69847923932479e26a8bc761c5a984d3cf8cc87ce809db08850050cdccc4"), looks := true }, kinds := [], alts := [], laidByText := true, laidKinds := [.data, .pinned], laidTests := true, laidLooks := .later }
def PrimaryTurnedCardSaid : Prop := Claim7.holds Tryd.pinned (.plain (OpenSpec.ofChange primaryTurnedSpec)) primaryTurnedCard

/-- THE TIED CARD OF 'pigeonloftlaw06.PrimarySums'. -/
def primarySumsCard : Claim7 := { stood := { row := primarySumsRow, standIns := [], harness := (true, "2b9f69847923932479e26a8bc761c5a984d3cf8cc87ce809db08850050cdccc4"), looks := true }, kinds := [], alts := [], laidByText := true, laidKinds := [.data, .pinned], laidTests := true, laidLooks := .later }
def PrimarySumsCardSaid : Prop := Claim7.holds Tryd.pinned (.plain (OpenSpec.ofChange primarySumsSpec)) primarySumsCard

/-- THE TIED CARD OF 'pigeonloftlaw07.CanonMore'. -/
def canonMoreCard : Claim7 := { stood := { row := canonMoreRow, standIns := [], harness := (true, "2b9f69847923932479e26a8bc761c5a984d3cf8cc87ce809db08850050cdccc4"), looks := true }, kinds := [], alts := [], laidByText := true, laidKinds := [.data, .pinned], laidTests := true, laidLooks := .later }
def CanonMoreCardSaid : Prop := Claim7.holds Tryd.pinned (.plain (OpenSpec.ofChange canonMoreSpec)) canonMoreCard

/-- THE TIED CARD OF 'pigeonloftlaw07.CanonBack'. -/
def canonBackCard : Claim7 := { stood := { row := canonBackRow, standIns := [], harness := (true, "2b9f69847923932479e26a8bc761c5a984d3cf8cc87ce809db08850050cdccc4"), looks := true }, kinds := [], alts := [], laidByText := true, laidKinds := [.data, .pinned], laidTests := true, laidLooks := .later }
def CanonBackCardSaid : Prop := Claim7.holds Tryd.pinned (.plain (OpenSpec.ofChange canonBackSpec)) canonBackCard

/-- THE SECOND FORM's CARD OF 'pigeonloftlaw03.CborMade'. -/
def cborMadeUptoCard : Claim7 := { stood := { row := cborMadeUptoRow, standIns := [], harness := (true, "2b9f69847923932479e26a8bc761c5a984d3cf8cc87ce809db08850050cdccc4"), looks := true }, kinds := [], alts := [], laidByText := true, laidKinds := [.data, .pinned], laidTests := true, laidLooks := .later }
def CborMadeUptoCardSaid : Prop := Claim7.holds Tryd.pinned (.plain (OpenSpec.upto cborMadeSpec)) cborMadeUptoCard

/-- THE SECOND FORM's CARD OF 'pigeonloftlaw06.PrimarySeals'. -/
def primarySealsUptoCard : Claim7 := { stood := { row := primarySealsUptoRow, standIns := [], harness := (true, "2b9f69847923932479e26a8bc761c5a984d3cf8cc87ce809db08850050cdccc4"), looks := true }, kinds := [], alts := [], laidByText := true, laidKinds := [.data, .pinned], laidTests := true, laidLooks := .later }
def PrimarySealsUptoCardSaid : Prop := Claim7.holds Tryd.pinned (.plain (OpenSpec.upto primarySealsSpec)) primarySealsUptoCard

/-- THE SECOND FORM's CARD OF 'pigeonloftlaw06.PrimaryBack'. -/
def primaryBackUptoCard : Claim7 := { stood := { row := primaryBackUptoRow, standIns := [], harness := (true, "2b9f69847923932479e26a8bc761c5a984d3cf8cc87ce809db08850050cdccc4"), looks := true }, kinds := [], alts := [], laidByText := true, laidKinds := [.data, .pinned], laidTests := true, laidLooks := .later }
def PrimaryBackUptoCardSaid : Prop := Claim7.holds Tryd.pinned (.plain (OpenSpec.upto primaryBackSpec)) primaryBackUptoCard

/-- THE SECOND FORM's CARD OF 'pigeonloftlaw06.PrimaryTurned'. -/
def primaryTurnedUptoCard : Claim7 := { stood := { row := primaryTurnedUptoRow, standIns := [], harness := (true, "2b9f69847923932479e26a8bc761c5a984d3cf8cc87ce809db08850050cdccc4"), looks := true }, kinds := [], alts := [], laidByText := true, laidKinds := [.data, .pinned], laidTests := true, laidLooks := .later }
def PrimaryTurnedUptoCardSaid : Prop := Claim7.holds Tryd.pinned (.plain (OpenSpec.upto primaryTurnedSpec)) primaryTurnedUptoCard

/-- THE SECOND FORM's CARD OF 'pigeonloftlaw06.PrimarySums'. -/
def primarySumsUptoCard : Claim7 := { stood := { row := primarySumsUptoRow, standIns := [], harness := (true, "2b9f69847923932479e26a8bc761c5a984d3cf8cc87ce809db08850050cdccc4"), looks := true }, kinds := [], alts := [], laidByText := true, laidKinds := [.data, .pinned], laidTests := true, laidLooks := .later }
def PrimarySumsUptoCardSaid : Prop := Claim7.holds Tryd.pinned (.plain (OpenSpec.upto primarySumsSpec)) primarySumsUptoCard

/-- THE SECOND FORM's CARD OF 'pigeonloftlaw07.CanonMore'. -/
def canonMoreUptoCard : Claim7 := { stood := { row := canonMoreUptoRow, standIns := [], harness := (true, "2b9f69847923932479e26a8bc761c5a984d3cf8cc87ce809db08850050cdccc4"), looks := true }, kinds := [], alts := [], laidByText := true, laidKinds := [.data, .pinned], laidTests := true, laidLooks := .later }
def CanonMoreUptoCardSaid : Prop := Claim7.holds Tryd.pinned (.plain (OpenSpec.upto canonMoreSpec)) canonMoreUptoCard

/-- THE SECOND FORM's CARD OF 'pigeonloftlaw07.CanonBack'. -/
def canonBackUptoCard : Claim7 := { stood := { row := canonBackUptoRow, standIns := [], harness := (true, "2b9f69847923932479e26a8bc761c5a984d3cf8cc87ce809db08850050cdccc4"), looks := true }, kinds := [], alts := [], laidByText := true, laidKinds := [.data, .pinned], laidTests := true, laidLooks := .later }
def CanonBackUptoCardSaid : Prop := Claim7.holds Tryd.pinned (.plain (OpenSpec.upto canonBackSpec)) canonBackUptoCard
end Rows
end Go.Proofs.YtihkbilhgbmbhaaDoor
