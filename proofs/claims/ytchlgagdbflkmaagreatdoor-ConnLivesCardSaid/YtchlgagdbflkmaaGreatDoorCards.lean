/-
  DERIVED. GIVEN WITH THE SEED: THE CARDS: each row of YtchlgagdbflkmaaGreatDoorRows.lean that lists a variable, with what it lists TIED to the program's text (the seventh form; the later family's looks); each row that meets fmt, with fmt's text TOLD by the authors' own Lean function (tested against real Go, not proved from fmt's source: count such statements apart). THE CARD IS WHAT COUNTS. Prove the row's statement (the work); the ties are given (YtchlgagdbflkmaaGreatDoorTie.lean); close each card by the builder's one call (the guide's Derived/Test/ToyasCard.lean, 'card_holds'). Laid BY PROGRAM, IN A SANDBOX (cutbox-door.mjs). By AI agents, Wed Nov 11 2026. No macro, syntax, notation, axiom, sorry.
-/
import Derived.Test.YtchlgagdbflkmaaGreatDoorRows
import GoSem.ClaimSeven
namespace Go.Proofs.YtchlgagdbflkmaaGreatDoor
namespace Rows

/-- THE TIED CARD OF 'pigeonloftlaw31.ConnLives'. -/
def connLivesCard : Claim7 := { stood := { row := connLivesRow, standIns := [], harness := (true, "97243d7e22484b51d9bb2d0e67b26bbde9b999bd8084cee081c81adf34c32d2c"), looks := true }, kinds := [], alts := [], laidByText := true, laidKinds := [.data, .data, .data, .sentinel, .sentinel], laidTests := true, laidLooks := .later }
def ConnLivesCardSaid : Prop := Claim7.holds Tryz.pinned (.plain (OpenSpec.ofChange connLivesSpec)) connLivesCard

/-- THE TIED CARD OF 'pigeonloftlaw34.HistoryKeeps'. -/
def historyKeepsCard : Claim7 := { stood := { row := historyKeepsRow, standIns := [], harness := (true, "97243d7e22484b51d9bb2d0e67b26bbde9b999bd8084cee081c81adf34c32d2c"), looks := true }, kinds := [], alts := [], laidByText := true, laidKinds := [.data, .pinned], laidTests := true, laidLooks := .later }
def HistoryKeepsCardSaid : Prop := Claim7.holds Tryz.pinned (.plain (OpenSpec.ofChange historyKeepsSpec)) historyKeepsCard

/-- THE TIED CARD OF 'pigeonloftlaw34.HistorySafe'. -/
def historySafeCard : Claim7 := { stood := { row := historySafeRow, standIns := [], harness := (true, "97243d7e22484b51d9bb2d0e67b26bbde9b999bd8084cee081c81adf34c32d2c"), looks := true }, kinds := [], alts := [], laidByText := true, laidKinds := [.data, .pinned], laidTests := true, laidLooks := .later }
def HistorySafeCardSaid : Prop := Claim7.holds Tryz.pinned (.plain (OpenSpec.ofChange historySafeSpec)) historySafeCard

/-- THE TIED CARD OF 'pigeonloftlaw18.EventTells'. -/
def eventTellsCard : Claim7 := { stood := { row := eventTellsRow, standIns := [], harness := (true, "97243d7e22484b51d9bb2d0e67b26bbde9b999bd8084cee081c81adf34c32d2c"), looks := true }, kinds := [], alts := [], laidByText := true, laidKinds := [.data, .data, .data, .data, .sentinel, .sentinel, .pinned], laidTests := true, laidLooks := .later }
def EventTellsCardSaid : Prop := Claim7.holds Tryz.pinned (.plain (OpenSpec.ofChange eventTellsSpec)) eventTellsCard

/-- THE SECOND FORM's CARD OF 'pigeonloftlaw31.ConnLives'. -/
def connLivesUptoCard : Claim7 := { stood := { row := connLivesUptoRow, standIns := [], harness := (true, "97243d7e22484b51d9bb2d0e67b26bbde9b999bd8084cee081c81adf34c32d2c"), looks := true }, kinds := [], alts := [], laidByText := true, laidKinds := [.data, .data, .data, .sentinel, .sentinel], laidTests := true, laidLooks := .later }
def ConnLivesUptoCardSaid : Prop := Claim7.holds Tryz.pinned (.plain (OpenSpec.upto connLivesSpec)) connLivesUptoCard

/-- THE SECOND FORM's CARD OF 'pigeonloftlaw34.HistoryKeeps'. -/
def historyKeepsUptoCard : Claim7 := { stood := { row := historyKeepsUptoRow, standIns := [], harness := (true, "97243d7e22484b51d9bb2d0e67b26bbde9b999bd8084cee081c81adf34c32d2c"), looks := true }, kinds := [], alts := [], laidByText := true, laidKinds := [.data, .pinned], laidTests := true, laidLooks := .later }
def HistoryKeepsUptoCardSaid : Prop := Claim7.holds Tryz.pinned (.plain (OpenSpec.upto historyKeepsSpec)) historyKeepsUptoCard

/-- THE SECOND FORM's CARD OF 'pigeonloftlaw34.HistorySafe'. -/
def historySafeUptoCard : Claim7 := { stood := { row := historySafeUptoRow, standIns := [], harness := (true, "97243d7e22484b51d9bb2d0e67b26bbde9b999bd8084cee081c81adf34c32d2c"), looks := true }, kinds := [], alts := [], laidByText := true, laidKinds := [.data, .pinned], laidTests := true, laidLooks := .later }
def HistorySafeUptoCardSaid : Prop := Claim7.holds Tryz.pinned (.plain (OpenSpec.upto historySafeSpec)) historySafeUptoCard

/-- THE SECOND FORM's CARD OF 'pigeonloftlaw18.EventTells'. -/
def eventTellsUptoCard : Claim7 := { stood := { row := eventTellsUptoRow, standIns := [], harness := (true, "97243d7e22484b51d9bb2d0e67b26bbde9b999bd8084cee081c81adf34c32d2c"), looks := true }, kinds := [], alts := [], laidByText := true, laidKinds := [.data, .data, .data, .data, .sentinel, .sentinel, .pinned], laidTests := true, laidLooks := .later }
def EventTellsUptoCardSaid : Prop := Claim7.holds Tryz.pinned (.plain (OpenSpec.upto eventTellsSpec)) eventTellsUptoCard
end Rows
end Go.Proofs.YtchlgagdbflkmaaGreatDoor
