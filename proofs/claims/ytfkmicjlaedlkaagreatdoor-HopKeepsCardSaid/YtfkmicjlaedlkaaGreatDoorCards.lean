/-
  DERIVED. GIVEN WITH THE SEED: THE CARDS: each row of YtfkmicjlaedlkaaGreatDoorRows.lean that lists a variable, with what it lists TIED to the program's text (the seventh form; the later family's looks); each row that meets fmt, with fmt's text TOLD by the authors' own Lean function (tested against real Go, not proved from fmt's source: count such statements apart). THE CARD IS WHAT COUNTS. Prove the row's statement (the work); the ties are given (YtfkmicjlaedlkaaGreatDoorTie.lean); close each card by the builder's one call (the guide's Derived/Test/ToyasCard.lean, 'card_holds'). Laid BY PROGRAM, IN A SANDBOX (cutbox-door.mjs). By AI agents, Wed Nov 11 2026. No macro, syntax, notation, axiom, sorry.
-/
import Derived.Test.YtfkmicjlaedlkaaGreatDoorRows
import GoSem.ClaimSeven
namespace Go.Proofs.YtfkmicjlaedlkaaGreatDoor
namespace Rows

/-- THE TIED CARD OF 'pigeonloftlaw06.PrimaryBlocks'. -/
def primaryBlocksCard : Claim7 := { stood := { row := primaryBlocksRow, standIns := [], harness := (true, "d5d9e89352c9e013471f91abe30537585245947490f643f494bf0a38bf915a18"), looks := true }, kinds := [], alts := [], laidByText := true, laidKinds := [.data, .pinned], laidTests := true, laidLooks := .later }
def PrimaryBlocksCardSaid : Prop := Claim7.holds Tryz.pinned (.plain (OpenSpec.ofChange primaryBlocksSpec)) primaryBlocksCard

/-- THE TIED CARD OF 'pigeonloftlaw08.BundleBack'. -/
def bundleBackCard : Claim7 := { stood := { row := bundleBackRow, standIns := [], harness := (true, "d5d9e89352c9e013471f91abe30537585245947490f643f494bf0a38bf915a18"), looks := true }, kinds := [], alts := [], laidByText := true, laidKinds := [.data, .pinned], laidTests := true, laidLooks := .later }
def BundleBackCardSaid : Prop := Claim7.holds Tryz.pinned (.plain (OpenSpec.ofChange bundleBackSpec)) bundleBackCard

/-- THE TIED CARD OF 'pigeonloftlaw10.HopEnds'. -/
def hopEndsCard : Claim7 := { stood := { row := hopEndsRow, standIns := [], harness := (true, "d5d9e89352c9e013471f91abe30537585245947490f643f494bf0a38bf915a18"), looks := true }, kinds := [], alts := [], laidByText := true, laidKinds := [.data, .pinned], laidTests := true, laidLooks := .later }
def HopEndsCardSaid : Prop := Claim7.holds Tryz.pinned (.plain (OpenSpec.ofChange hopEndsSpec)) hopEndsCard

/-- THE TIED CARD OF 'pigeonloftlaw10.HopPasses'. -/
def hopPassesCard : Claim7 := { stood := { row := hopPassesRow, standIns := [], harness := (true, "d5d9e89352c9e013471f91abe30537585245947490f643f494bf0a38bf915a18"), looks := true }, kinds := [], alts := [], laidByText := true, laidKinds := [.data, .pinned], laidTests := true, laidLooks := .later }
def HopPassesCardSaid : Prop := Claim7.holds Tryz.pinned (.plain (OpenSpec.ofChange hopPassesSpec)) hopPassesCard

/-- THE TIED CARD OF 'pigeonloftlaw10.HopKeeps'. -/
def hopKeepsCard : Claim7 := { stood := { row := hopKeepsRow, standIns := [], harness := (true, "d5d9e89352c9e013471f91abe30537585245947490f643f494bf0a38bf915a18"), looks := true }, kinds := [], alts := [], laidByText := true, laidKinds := [.data, .pinned], laidTests := true, laidLooks := .later }
def HopKeepsCardSaid : Prop := Claim7.holds Tryz.pinned (.plain (OpenSpec.ofChange hopKeepsSpec)) hopKeepsCard

/-- THE SECOND FORM's CARD OF 'pigeonloftlaw06.PrimaryBlocks'. -/
def primaryBlocksUptoCard : Claim7 := { stood := { row := primaryBlocksUptoRow, standIns := [], harness := (true, "d5d9e89352c9e013471f91abe30537585245947490f643f494bf0a38bf915a18"), looks := true }, kinds := [], alts := [], laidByText := true, laidKinds := [.data, .pinned], laidTests := true, laidLooks := .later }
def PrimaryBlocksUptoCardSaid : Prop := Claim7.holds Tryz.pinned (.plain (OpenSpec.upto primaryBlocksSpec)) primaryBlocksUptoCard

/-- THE SECOND FORM's CARD OF 'pigeonloftlaw08.BundleBack'. -/
def bundleBackUptoCard : Claim7 := { stood := { row := bundleBackUptoRow, standIns := [], harness := (true, "d5d9e89352c9e013471f91abe30537585245947490f643f494bf0a38bf915a18"), looks := true }, kinds := [], alts := [], laidByText := true, laidKinds := [.data, .pinned], laidTests := true, laidLooks := .later }
def BundleBackUptoCardSaid : Prop := Claim7.holds Tryz.pinned (.plain (OpenSpec.upto bundleBackSpec)) bundleBackUptoCard

/-- THE SECOND FORM's CARD OF 'pigeonloftlaw10.HopEnds'. -/
def hopEndsUptoCard : Claim7 := { stood := { row := hopEndsUptoRow, standIns := [], harness := (true, "d5d9e89352c9e013471f91abe30537585245947490f643f494bf0a38bf915a18"), looks := true }, kinds := [], alts := [], laidByText := true, laidKinds := [.data, .pinned], laidTests := true, laidLooks := .later }
def HopEndsUptoCardSaid : Prop := Claim7.holds Tryz.pinned (.plain (OpenSpec.upto hopEndsSpec)) hopEndsUptoCard

/-- THE SECOND FORM's CARD OF 'pigeonloftlaw10.HopPasses'. -/
def hopPassesUptoCard : Claim7 := { stood := { row := hopPassesUptoRow, standIns := [], harness := (true, "d5d9e89352c9e013471f91abe30537585245947490f643f494bf0a38bf915a18"), looks := true }, kinds := [], alts := [], laidByText := true, laidKinds := [.data, .pinned], laidTests := true, laidLooks := .later }
def HopPassesUptoCardSaid : Prop := Claim7.holds Tryz.pinned (.plain (OpenSpec.upto hopPassesSpec)) hopPassesUptoCard

/-- THE SECOND FORM's CARD OF 'pigeonloftlaw10.HopKeeps'. -/
def hopKeepsUptoCard : Claim7 := { stood := { row := hopKeepsUptoRow, standIns := [], harness := (true, "d5d9e89352c9e013471f91abe30537585245947490f643f494bf0a38bf915a18"), looks := true }, kinds := [], alts := [], laidByText := true, laidKinds := [.data, .pinned], laidTests := true, laidLooks := .later }
def HopKeepsUptoCardSaid : Prop := Claim7.holds Tryz.pinned (.plain (OpenSpec.upto hopKeepsSpec)) hopKeepsUptoCard
end Rows
end Go.Proofs.YtfkmicjlaedlkaaGreatDoor
