/-
  DERIVED. GIVEN WITH THE SEED: THE CARDS: each row of YtkdpfkjlheajhaaGreatDoorRows.lean that lists a variable, with what it lists TIED to the program's text (the seventh form; the later family's looks); each row that meets fmt, with fmt's text TOLD by the authors' own Lean function (tested against real Go, not proved from fmt's source: count such statements apart). THE CARD IS WHAT COUNTS. Prove the row's statement (the work); the ties are given (YtkdpfkjlheajhaaGreatDoorTie.lean); close each card by the builder's one call (the guide's Derived/Test/ToyasCard.lean, 'card_holds'). Laid BY PROGRAM, IN A SANDBOX (cutbox-door.mjs). By AI agents, Wed Nov 11 2026. No macro, syntax, notation, axiom, sorry.
-/
import Derived.Test.YtkdpfkjlheajhaaGreatDoorRows
import GoSem.ClaimSeven
namespace Go.Proofs.YtkdpfkjlheajhaaGreatDoor
namespace Rows

/-- THE TIED CARD OF 'pigeonloftlaw31.ConnLives'. -/
def connLivesCard : Claim7 := { stood := { row := connLivesRow, standIns := [], harness := (true, "e66f05b769c77ad1cae42aad90fef23808f56c75a32aed7a398c66a18d46f057"), looks := true }, kinds := [], alts := [], laidByText := true, laidKinds := [.data, .data, .data, .sentinel, .sentinel], laidTests := true, laidLooks := .later }
def ConnLivesCardSaid : Prop := Claim7.holds Tryz.pinned (.plain (OpenSpec.ofChange connLivesSpec)) connLivesCard

/-- THE TIED CARD OF 'pigeonloftlaw31.ConnCut'. -/
def connCutCard : Claim7 := { stood := { row := connCutRow, standIns := [], harness := (true, "e66f05b769c77ad1cae42aad90fef23808f56c75a32aed7a398c66a18d46f057"), looks := true }, kinds := [], alts := [], laidByText := true, laidKinds := [.data, .data, .data, .sentinel, .sentinel], laidTests := true, laidLooks := .later }
def ConnCutCardSaid : Prop := Claim7.holds Tryz.pinned (.plain (OpenSpec.ofChange connCutSpec)) connCutCard

/-- THE TIED CARD OF 'pigeonloftlaw34.HistoryKeeps'. -/
def historyKeepsCard : Claim7 := { stood := { row := historyKeepsRow, standIns := [], harness := (true, "e66f05b769c77ad1cae42aad90fef23808f56c75a32aed7a398c66a18d46f057"), looks := true }, kinds := [], alts := [], laidByText := true, laidKinds := [.data, .pinned], laidTests := true, laidLooks := .later }
def HistoryKeepsCardSaid : Prop := Claim7.holds Tryz.pinned (.plain (OpenSpec.ofChange historyKeepsSpec)) historyKeepsCard

/-- THE TIED CARD OF 'pigeonloftlaw34.HistorySafe'. -/
def historySafeCard : Claim7 := { stood := { row := historySafeRow, standIns := [], harness := (true, "e66f05b769c77ad1cae42aad90fef23808f56c75a32aed7a398c66a18d46f057"), looks := true }, kinds := [], alts := [], laidByText := true, laidKinds := [.data, .pinned], laidTests := true, laidLooks := .later }
def HistorySafeCardSaid : Prop := Claim7.holds Tryz.pinned (.plain (OpenSpec.ofChange historySafeSpec)) historySafeCard

/-- THE TIED CARD OF 'pigeonloftlaw18.EventBack'. -/
def eventBackCard : Claim7 := { stood := { row := eventBackRow, standIns := [], harness := (true, "e66f05b769c77ad1cae42aad90fef23808f56c75a32aed7a398c66a18d46f057"), looks := true }, kinds := [], alts := [], laidByText := true, laidKinds := [.data, .data, .data, .data, .sentinel, .sentinel, .pinned], laidTests := true, laidLooks := .later }
def EventBackCardSaid : Prop := Claim7.holds Tryz.pinned (.plain (OpenSpec.ofChange eventBackSpec)) eventBackCard

/-- THE SECOND FORM's CARD OF 'pigeonloftlaw31.ConnLives'. -/
def connLivesUptoCard : Claim7 := { stood := { row := connLivesUptoRow, standIns := [], harness := (true, "e66f05b769c77ad1cae42aad90fef23808f56c75a32aed7a398c66a18d46f057"), looks := true }, kinds := [], alts := [], laidByText := true, laidKinds := [.data, .data, .data, .sentinel, .sentinel], laidTests := true, laidLooks := .later }
def ConnLivesUptoCardSaid : Prop := Claim7.holds Tryz.pinned (.plain (OpenSpec.upto connLivesSpec)) connLivesUptoCard

/-- THE SECOND FORM's CARD OF 'pigeonloftlaw31.ConnCut'. -/
def connCutUptoCard : Claim7 := { stood := { row := connCutUptoRow, standIns := [], harness := (true, "e66f05b769c77ad1cae42aad90fef23808f56c75a32aed7a398c66a18d46f057"), looks := true }, kinds := [], alts := [], laidByText := true, laidKinds := [.data, .data, .data, .sentinel, .sentinel], laidTests := true, laidLooks := .later }
def ConnCutUptoCardSaid : Prop := Claim7.holds Tryz.pinned (.plain (OpenSpec.upto connCutSpec)) connCutUptoCard

/-- THE SECOND FORM's CARD OF 'pigeonloftlaw34.HistoryKeeps'. -/
def historyKeepsUptoCard : Claim7 := { stood := { row := historyKeepsUptoRow, standIns := [], harness := (true, "e66f05b769c77ad1cae42aad90fef23808f56c75a32aed7a398c66a18d46f057"), looks := true }, kinds := [], alts := [], laidByText := true, laidKinds := [.data, .pinned], laidTests := true, laidLooks := .later }
def HistoryKeepsUptoCardSaid : Prop := Claim7.holds Tryz.pinned (.plain (OpenSpec.upto historyKeepsSpec)) historyKeepsUptoCard

/-- THE SECOND FORM's CARD OF 'pigeonloftlaw34.HistorySafe'. -/
def historySafeUptoCard : Claim7 := { stood := { row := historySafeUptoRow, standIns := [], harness := (true, "e66f05b769c77ad1cae42aad90fef23808f56c75a32aed7a398c66a18d46f057"), looks := true }, kinds := [], alts := [], laidByText := true, laidKinds := [.data, .pinned], laidTests := true, laidLooks := .later }
def HistorySafeUptoCardSaid : Prop := Claim7.holds Tryz.pinned (.plain (OpenSpec.upto historySafeSpec)) historySafeUptoCard

/-- THE SECOND FORM's CARD OF 'pigeonloftlaw18.EventBack'. -/
def eventBackUptoCard : Claim7 := { stood := { row := eventBackUptoRow, standIns := [], harness := (true, "e66f05b769c77ad1cae42aad90fef23808f56c75a32aed7a398c66a18d46f057"), looks := true }, kinds := [], alts := [], laidByText := true, laidKinds := [.data, .data, .data, .data, .sentinel, .sentinel, .pinned], laidTests := true, laidLooks := .later }
def EventBackUptoCardSaid : Prop := Claim7.holds Tryz.pinned (.plain (OpenSpec.upto eventBackSpec)) eventBackUptoCard
end Rows
end Go.Proofs.YtkdpfkjlheajhaaGreatDoor
