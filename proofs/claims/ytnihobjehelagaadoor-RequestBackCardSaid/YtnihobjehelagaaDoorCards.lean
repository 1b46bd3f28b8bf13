/-
  DERIVED. GIVEN WITH THE SEED: THE CARDS: each row of YtnihobjehelagaaDoorRows.lean that lists a variable, with what it lists TIED to the program's text (the seventh form; the later family's looks); each row that meets fmt, with fmt's text TOLD by the authors' own Lean function (tested against real Go, not proved from fmt's source: count such statements apart). THE CARD IS WHAT COUNTS. Prove the row's statement (the work); the ties are given (YtnihobjehelagaaDoorTie.lean); close each card by the builder's one call (the guide's Derived/Test/ToyasCard.lean, 'card_holds'). Laid BY PROGRAM, IN A SANDBOX (cutbox-door.mjs). By AI agents, Wed Nov 11 2026. No macro, syntax, notation, axiom, sorry.
-/
import Derived.Test.YtnihobjehelagaaDoorRows
import GoSem.ClaimSeven
namespace Go.Proofs.YtnihobjehelagaaDoor
namespace Rows

/-- THE TIED CARD OF 'pigeonloftlaw03.CborBack'. -/
def cborBackCard : Claim7 := { stood := { row := cborBackRow, standIns := [], harness := (true, "7d66e5e2882a9a56ee5371a498a37859b00588bfafd16324030a5d2c5b579390"), looks := true }, kinds := [], alts := [], laidByText := true, laidKinds := [.data, .pinned], laidTests := true, laidLooks := .later }
def CborBackCardSaid : Prop := Claim7.holds Tryd.pinned (.plain (OpenSpec.ofChange cborBackSpec)) cborBackCard

/-- THE TIED CARD OF 'pigeonloftlaw03.CborMade'. -/
def cborMadeCard : Claim7 := { stood := { row := cborMadeRow, standIns := [], harness := (true, "7d66e5e2882a9a56ee5371a498a37859b00588bfafd16324030a5d2c5b579390"), looks := true }, kinds := [], alts := [], laidByText := true, laidKinds := [.data, .pinned], laidTests := true, laidLooks := .later }
def CborMadeCardSaid : Prop := Claim7.holds Tryd.pinned (.plain (OpenSpec.ofChange cborMadeSpec)) cborMadeCard

/-- THE TIED CARD OF 'pigeonloftlaw03.CborWrites'. -/
def cborWritesCard : Claim7 := { stood := { row := cborWritesRow, standIns := [], harness := (true, "7d66e5e2882a9a56ee5371a498a37859b00588bfafd16324030a5d2c5b579390"), looks := true }, kinds := [], alts := [], laidByText := true, laidKinds := [.data, .pinned], laidTests := true, laidLooks := .later }
def CborWritesCardSaid : Prop := Claim7.holds Tryd.pinned (.plain (OpenSpec.ofChange cborWritesSpec)) cborWritesCard

/-- THE TIED CARD OF 'pigeonloftlaw03.CborCut'. -/
def cborCutCard : Claim7 := { stood := { row := cborCutRow, standIns := [], harness := (true, "7d66e5e2882a9a56ee5371a498a37859b00588bfafd16324030a5d2c5b579390"), looks := true }, kinds := [], alts := [], laidByText := true, laidKinds := [.data, .pinned], laidTests := true, laidLooks := .later }
def CborCutCardSaid : Prop := Claim7.holds Tryd.pinned (.plain (OpenSpec.ofChange cborCutSpec)) cborCutCard

/-- THE TIED CARD OF 'pigeonloftlaw05.IdentBack'. -/
def identBackCard : Claim7 := { stood := { row := identBackRow, standIns := [], harness := (true, "7d66e5e2882a9a56ee5371a498a37859b00588bfafd16324030a5d2c5b579390"), looks := true }, kinds := [], alts := [], laidByText := true, laidKinds := [.data, .data, .data, .data, .pinned], laidTests := true, laidLooks := .later }
def IdentBackCardSaid : Prop := Claim7.holds Tryd.pinned (.plain (OpenSpec.ofChange identBackSpec)) identBackCard

/-- THE TIED CARD OF 'pigeonloftlaw04.EidOrder'. -/
def eidOrderCard : Claim7 := { stood := { row := eidOrderRow, standIns := [], harness := (true, "7d66e5e2882a9a56ee5371a498a37859b00588bfafd16324030a5d2c5b579390"), looks := true }, kinds := [], alts := [], laidByText := true, laidKinds := [.data, .data, .data, .sentinel, .sentinel], laidTests := true, laidLooks := .later }
def EidOrderCardSaid : Prop := Claim7.holds Tryd.pinned (.plain (OpenSpec.ofChange eidOrderSpec)) eidOrderCard

/-- THE TIED CARD OF 'pigeonloftlaw04.EidTexts'. -/
def eidTextsCard : Claim7 := { stood := { row := eidTextsRow, standIns := [], harness := (true, "7d66e5e2882a9a56ee5371a498a37859b00588bfafd16324030a5d2c5b579390"), looks := true }, kinds := [], alts := [], laidByText := true, laidKinds := [.data, .data, .data, .sentinel, .sentinel], laidTests := true, laidLooks := .later }
def EidTextsCardSaid : Prop := Claim7.holds Tryd.pinned (.plain (OpenSpec.ofChange eidTextsSpec)) eidTextsCard

/-- THE TIED CARD OF 'pigeonloftlaw04.EidReads'. -/
def eidReadsCard : Claim7 := { stood := { row := eidReadsRow, standIns := [], harness := (true, "7d66e5e2882a9a56ee5371a498a37859b00588bfafd16324030a5d2c5b579390"), looks := true }, kinds := [], alts := [], laidByText := true, laidKinds := [.data, .data, .data, .data, .sentinel, .sentinel, .pinned], laidTests := true, laidLooks := .later }
def EidReadsCardSaid : Prop := Claim7.holds Tryd.pinned (.plain (OpenSpec.ofChange eidReadsSpec)) eidReadsCard

/-- THE TIED CARD OF 'pigeonloftlaw04.EidBack'. -/
def eidBackCard : Claim7 := { stood := { row := eidBackRow, standIns := [], harness := (true, "7d66e5e2882a9a56ee5371a498a37859b00588bfafd16324030a5d2c5b579390"), looks := true }, kinds := [], alts := [], laidByText := true, laidKinds := [.data, .data, .data, .data, .sentinel, .sentinel, .pinned], laidTests := true, laidLooks := .later }
def EidBackCardSaid : Prop := Claim7.holds Tryd.pinned (.plain (OpenSpec.ofChange eidBackSpec)) eidBackCard

/-- THE TIED CARD OF 'pigeonloftlaw16.RequestBack'. -/
def requestBackCard : Claim7 := { stood := { row := requestBackRow, standIns := [], harness := (true, "7d66e5e2882a9a56ee5371a498a37859b00588bfafd16324030a5d2c5b579390"), looks := true }, kinds := [], alts := [], laidByText := true, laidKinds := [.data, .data, .data, .sentinel, .sentinel], laidTests := true, laidLooks := .later }
def RequestBackCardSaid : Prop := Claim7.holds Tryd.pinned (.plain (OpenSpec.ofChange requestBackSpec)) requestBackCard

/-- THE TIED CARD OF 'pigeonloftlaw16.RequestOwn'. -/
def requestOwnCard : Claim7 := { stood := { row := requestOwnRow, standIns := [], harness := (true, "7d66e5e2882a9a56ee5371a498a37859b00588bfafd16324030a5d2c5b579390"), looks := true }, kinds := [], alts := [], laidByText := true, laidKinds := [.data, .data, .data, .sentinel, .sentinel], laidTests := true, laidLooks := .later }
def RequestOwnCardSaid : Prop := Claim7.holds Tryd.pinned (.plain (OpenSpec.ofChange requestOwnSpec)) requestOwnCard

/-- THE SECOND FORM's CARD OF 'pigeonloftlaw03.CborBack'. -/
def cborBackUptoCard : Claim7 := { stood := { row := cborBackUptoRow, standIns := [], harness := (true, "7d66e5e2882a9a56ee5371a498a37859b00588bfafd16324030a5d2c5b579390"), looks := true }, kinds := [], alts := [], laidByText := true, laidKinds := [.data, .pinned], laidTests := true, laidLooks := .later }
def CborBackUptoCardSaid : Prop := Claim7.holds Tryd.pinned (.plain (OpenSpec.upto cborBackSpec)) cborBackUptoCard

/-- THE SECOND FORM's CARD OF 'pigeonloftlaw03.CborMade'. -/
def cborMadeUptoCard : Claim7 := { stood := { row := cborMadeUptoRow, standIns := [], harness := (true, "7d66e5e2882a9a56ee5371a498a37859b00588bfafd16324030a5d2c5b579390"), looks := true }, kinds := [], alts := [], laidByText := true, laidKinds := [.data, .pinned], laidTests := true, laidLooks := .later }
def CborMadeUptoCardSaid : Prop := Claim7.holds Tryd.pinned (.plain (OpenSpec.upto cborMadeSpec)) cborMadeUptoCard

/-- THE SECOND FORM's CARD OF 'pigeonloftlaw03.CborWrites'. -/
def cborWritesUptoCard : Claim7 := { stood := { row := cborWritesUptoRow, standIns := [], harness := (true, "7d66e5e2882a9a56ee5371a498a37859b00588bfafd16324030a5d2c5b579390"), looks := true }, kinds := [], alts := [], laidByText := true, laidKinds := [.data, .pinned], laidTests := true, laidLooks := .later }
def CborWritesUptoCardSaid : Prop := Claim7.holds Tryd.pinned (.plain (OpenSpec.upto cborWritesSpec)) cborWritesUptoCard

/-- THE SECOND FORM's CARD OF 'pigeonloftlaw03.CborCut'. -/
def cborCutUptoCard : Claim7 := { stood := { row := cborCutUptoRow, standIns := [], harness := (true, "7d66e5e2882a9a56ee5371a498a37859b00588bfafd16324030a5d2c5b579390"), looks := true }, kinds := [], alts := [], laidByText := true, laidKinds := [.data, .pinned], laidTests := true, laidLooks := .later }
def CborCutUptoCardSaid : Prop := Claim7.holds Tryd.pinned (.plain (OpenSpec.upto cborCutSpec)) cborCutUptoCard

/-- THE SECOND FORM's CARD OF 'pigeonloftlaw05.IdentBack'. -/
def identBackUptoCard : Claim7 := { stood := { row := identBackUptoRow, standIns := [], harness := (true, "7d66e5e2882a9a56ee5371a498a37859b00588bfafd16324030a5d2c5b579390"), looks := true }, kinds := [], alts := [], laidByText := true, laidKinds := [.data, .data, .data, .data, .pinned], laidTests := true, laidLooks := .later }
def IdentBackUptoCardSaid : Prop := Claim7.holds Tryd.pinned (.plain (OpenSpec.upto identBackSpec)) identBackUptoCard

/-- THE SECOND FORM's CARD OF 'pigeonloftlaw04.EidOrder'. -/
def eidOrderUptoCard : Claim7 := { stood := { row := eidOrderUptoRow, standIns := [], harness := (true, "7d66e5e2882a9a56ee5371a498a37859b00588bfafd16324030a5d2c5b579390"), looks := true }, kinds := [], alts := [], laidByText := true, laidKinds := [.data, .data, .data, .sentinel, .sentinel], laidTests := true, laidLooks := .later }
def EidOrderUptoCardSaid : Prop := Claim7.holds Tryd.pinned (.plain (OpenSpec.upto eidOrderSpec)) eidOrderUptoCard

/-- THE SECOND FORM's CARD OF 'pigeonloftlaw04.EidTexts'. -/
def eidTextsUptoCard : Claim7 := { stood := { row := eidTextsUptoRow, standIns := [], harness := (true, "7d66e5e2882a9a56ee5371a498a37859b00588bfafd16324030a5d2c5b579390"), looks := true }, kinds := [], alts := [], laidByText := true, laidKinds := [.data, .data, .data, .sentinel, .sentinel], laidTests := true, laidLooks := .later }
def EidTextsUptoCardSaid : Prop := Claim7.holds Tryd.pinned (.plain (OpenSpec.upto eidTextsSpec)) eidTextsUptoCard

/-- THE SECOND FORM's CARD OF 'pigeonloftlaw04.EidReads'. -/
def eidReadsUptoCard : Claim7 := { stood := { row := eidReadsUptoRow, standIns := [], harness := (true, "7d66e5e2882a9a56ee5371a498a37859b00588bfafd16324030a5d2c5b579390"), looks := true }, kinds := [], alts := [], laidByText := true, laidKinds := [.data, .data, .data, .data, .sentinel, .sentinel, .pinned], laidTests := true, laidLooks := .later }
def EidReadsUptoCardSaid : Prop := Claim7.holds Tryd.pinned (.plain (OpenSpec.upto eidReadsSpec)) eidReadsUptoCard

/-- THE SECOND FORM's CARD OF 'pigeonloftlaw04.EidBack'. -/
def eidBackUptoCard : Claim7 := { stood := { row := eidBackUptoRow, standIns := [], harness := (true, "7d66e5e2882a9a56ee5371a498a37859b00588bfafd16324030a5d2c5b579390"), looks := true }, kinds := [], alts := [], laidByText := true, laidKinds := [.data, .data, .data, .data, .sentinel, .sentinel, .pinned], laidTests := true, laidLooks := .later }
def EidBackUptoCardSaid : Prop := Claim7.holds Tryd.pinned (.plain (OpenSpec.upto eidBackSpec)) eidBackUptoCard

/-- THE SECOND FORM's CARD OF 'pigeonloftlaw16.RequestBack'. -/
def requestBackUptoCard : Claim7 := { stood := { row := requestBackUptoRow, standIns := [], harness := (true, "7d66e5e2882a9a56ee5371a498a37859b00588bfafd16324030a5d2c5b579390"), looks := true }, kinds := [], alts := [], laidByText := true, laidKinds := [.data, .data, .data, .sentinel, .sentinel], laidTests := true, laidLooks := .later }
def RequestBackUptoCardSaid : Prop := Claim7.holds Tryd.pinned (.plain (OpenSpec.upto requestBackSpec)) requestBackUptoCard

/-- THE SECOND FORM's CARD OF 'pigeonloftlaw16.RequestOwn'. -/
def requestOwnUptoCard : Claim7 := { stood := { row := requestOwnUptoRow, standIns := [], harness := (true, "7d66e5e2882a9a56ee5371a498a37859b00588bfafd16324030a5d2c5b579390"), looks := true }, kinds := [], alts := [], laidByText := true, laidKinds := [.data, .data, .data, .sentinel, .sentinel], laidTests := true, laidLooks := .later }
def RequestOwnUptoCardSaid : Prop := Claim7.holds Tryd.pinned (.plain (OpenSpec.upto requestOwnSpec)) requestOwnUptoCard
end Rows
end Go.Proofs.YtnihobjehelagaaDoor
