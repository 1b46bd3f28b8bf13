/-
  NARROWER THAN 'FOR EVERY INPUT', by the rows' own cells (each row's printed sentence says how): PrimaryBlocks: loops, laid · BundleBack: laid · HopEnds: laid · HopPasses: laid · HopKeeps: laid.
  DERIVED. THE GIVEN ROWS OF THIS SEAT. 5 by the template 'for every input the law returns true; each argument reads behind the call as it read before'; 0 by the template 'total and deterministic' (their statements: YtfkmicjlaedlkaaGreatDoorTotals.lean).
  GIVEN WITH THE SEED: the statements are not yours to turn. If you find one false, say at which input.
  Laid BY PROGRAM, IN A SANDBOX (cutbox-rows.mjs): the forced cells as the released guide's own fill.sh prints them over the translation 3cac4b5340c88cee… (all of the seat's roots in one cut). By AI agents, Wed Nov 11 2026. No macro, syntax, notation, axiom, sorry.
-/
import Derived.Test.YtfkmicjlaedlkaaGreatDoorChecked
import GoSem.PinnedTables
import GoSem.Claim
import GoSem.ClaimJoined
import GoSem.ClaimMapViews
import Derived.JoinedTies
import Derived.KernelRfl
namespace Go.Proofs.YtfkmicjlaedlkaaGreatDoor
/- THE CELL 'sum', in the pinned program and in every row, IS THE sha256 OF THE DUMP (.gsa) THAT YtfkmicjlaedlkaaGreatDoorProg.lean LOADS. Nothing in Lean hashes anything: it is a label: what it is worth is what the hold of that sum in a sandbox is worth. -/
noncomputable def Tryz.pinned : Pinned := { name := "ytfkmicjlaedlkaagreatdoor", sum := "3cac4b5340c88cee7595866a30fb70f04e0037e5d9cd298e9f1f9f418b5037bb", checked := Tryz.checked }
namespace Rows
def none {H : Type} : Left H := { results := [], args := [] }

/- WHAT THE LISTED PACKAGE-LEVEL VARIABLES READ AS WHEN THE CALL BEGINS. Each datum BY PROGRAM (the guide's laid-datum.mjs) off the statement by which the dump's own 'gosem.cut.vars' lays the variable. In a bare row this is a premise. The card (YtfkmicjlaedlkaaGreatDoorCards.lean) ties it to the program's text. -/
def laid_unicode_utf8_acceptRanges {H : Type} : DataW H := .agg [.agg [.lit (.int .u8 128), .lit (.int .u8 191)], .agg [.lit (.int .u8 160), .lit (.int .u8 191)], .agg [.lit (.int .u8 128), .lit (.int .u8 159)], .agg [.lit (.int .u8 144), .lit (.int .u8 191)], .agg [.lit (.int .u8 128), .lit (.int .u8 143)], .agg [.lit (.int .u8 0), .lit (.int .u8 0)], .agg [.lit (.int .u8 0), .lit (.int .u8 0)], .agg [.lit (.int .u8 0), .lit (.int .u8 0)], .agg [.lit (.int .u8 0), .lit (.int .u8 0)], .agg [.lit (.int .u8 0), .lit (.int .u8 0)], .agg [.lit (.int .u8 0), .lit (.int .u8 0)], .agg [.lit (.int .u8 0), .lit (.int .u8 0)], .agg [.lit (.int .u8 0), .lit (.int .u8 0)], .agg [.lit (.int .u8 0), .lit (.int .u8 0)], .agg [.lit (.int .u8 0), .lit (.int .u8 0)], .agg [.lit (.int .u8 0), .lit (.int .u8 0)]]
/-- One of Go's own tables, pinned by name: the form's constant. -/
def laid_unicode_utf8_first : DataW Unit := Go.Pinned.utf8First

/-- 'pigeonloftlaw06.PrimaryBlocks': WHATEVER THE INPUT: true; the input reads as it did. -/
def primaryBlocksSpec : ChangeSpec := { name := "primaryBlocks", fn := fun _ => fun
  | [d1, d2] => { results := [.lit (.bool true)], args := [d1, d2] }
  | _ => none }
def primaryBlocksRow : OpenClaim := { program := "ytfkmicjlaedlkaagreatdoor", sum := "3cac4b5340c88cee7595866a30fb70f04e0037e5d9cd298e9f1f9f418b5037bb", func := "pigeonloft/pigeonloftlaw06.PrimaryBlocks", spec := "primaryBlocks", inPlace := ["internal/bytealg.IndexByteString", "internal/bytealg.IndexString"], unfollowed := true, recurses := true, named := ["unicode/utf8.first", "unicode/utf8.acceptRanges", "internal/bytealg.MaxLen"], loops := true, apart := false, laid := [("unicode/utf8.acceptRanges", laid_unicode_utf8_acceptRanges), ("unicode/utf8.first", laid_unicode_utf8_first)] }
def PrimaryBlocksSaid : Prop := primaryBlocksRow.holds Tryz.pinned (OpenSpec.ofChange primaryBlocksSpec)

/-- ITS FALSE NEIGHBOUR: 'it returns false'. Refute it at one input. -/
def primaryBlocksWrong : ChangeSpec := { name := "primaryBlocks", fn := fun _ => fun
  | [d1, d2] => { results := [.lit (.bool false)], args := [d1, d2] }
  | _ => none }
def PrimaryBlocksWrongFalsely : Prop := primaryBlocksRow.holds Tryz.pinned (OpenSpec.ofChange primaryBlocksWrong)

/-- 'pigeonloftlaw08.BundleBack': WHATEVER THE INPUT: true; the input reads as it did. -/
def bundleBackSpec : ChangeSpec := { name := "bundleBack", fn := fun _ => fun
  | [d1, d2] => { results := [.lit (.bool true)], args := [d1, d2] }
  | _ => none }
def bundleBackRow : OpenClaim := { program := "ytfkmicjlaedlkaagreatdoor", sum := "3cac4b5340c88cee7595866a30fb70f04e0037e5d9cd298e9f1f9f418b5037bb", func := "pigeonloft/pigeonloftlaw08.BundleBack", spec := "bundleBack", inPlace := ["internal/bytealg.IndexByteString", "internal/bytealg.IndexString"], unfollowed := true, recurses := true, named := ["unicode/utf8.first", "unicode/utf8.acceptRanges", "internal/bytealg.MaxLen"], apart := false, laid := [("unicode/utf8.acceptRanges", laid_unicode_utf8_acceptRanges), ("unicode/utf8.first", laid_unicode_utf8_first)] }
def BundleBackSaid : Prop := bundleBackRow.holds Tryz.pinned (OpenSpec.ofChange bundleBackSpec)

/-- ITS FALSE NEIGHBOUR: 'it returns false'. Refute it at one input. -/
def bundleBackWrong : ChangeSpec := { name := "bundleBack", fn := fun _ => fun
  | [d1, d2] => { results := [.lit (.bool false)], args := [d1, d2] }
  | _ => none }
def BundleBackWrongFalsely : Prop := bundleBackRow.holds Tryz.pinned (OpenSpec.ofChange bundleBackWrong)

/-- 'pigeonloftlaw10.HopEnds': WHATEVER THE INPUT: true; the input reads as it did. -/
def hopEndsSpec : ChangeSpec := { name := "hopEnds", fn := fun _ => fun
  | [d1, d2, d3] => { results := [.lit (.bool true)], args := [d1, d2, d3] }
  | _ => none }
def hopEndsRow : OpenClaim := { program := "ytfkmicjlaedlkaagreatdoor", sum := "3cac4b5340c88cee7595866a30fb70f04e0037e5d9cd298e9f1f9f418b5037bb", func := "pigeonloft/pigeonloftlaw10.HopEnds", spec := "hopEnds", inPlace := ["internal/bytealg.IndexByteString", "internal/bytealg.IndexString"], unfollowed := true, recurses := true, named := ["unicode/utf8.first", "unicode/utf8.acceptRanges", "internal/bytealg.MaxLen"], apart := false, laid := [("unicode/utf8.acceptRanges", laid_unicode_utf8_acceptRanges), ("unicode/utf8.first", laid_unicode_utf8_first)] }
def HopEndsSaid : Prop := hopEndsRow.holds Tryz.pinned (OpenSpec.ofChange hopEndsSpec)

/-- ITS FALSE NEIGHBOUR: 'it returns false'. Refute it at one input. -/
def hopEndsWrong : ChangeSpec := { name := "hopEnds", fn := fun _ => fun
  | [d1, d2, d3] => { results := [.lit (.bool false)], args := [d1, d2, d3] }
  | _ => none }
def HopEndsWrongFalsely : Prop := hopEndsRow.holds Tryz.pinned (OpenSpec.ofChange hopEndsWrong)

/-- 'pigeonloftlaw10.HopPasses': WHATEVER THE INPUT: true; the input reads as it did. -/
def hopPassesSpec : ChangeSpec := { name := "hopPasses", fn := fun _ => fun
  | [d1, d2, d3, d4] => { results := [.lit (.bool true)], args := [d1, d2, d3, d4] }
  | _ => none }
def hopPassesRow : OpenClaim := { program := "ytfkmicjlaedlkaagreatdoor", sum := "3cac4b5340c88cee7595866a30fb70f04e0037e5d9cd298e9f1f9f418b5037bb", func := "pigeonloft/pigeonloftlaw10.HopPasses", spec := "hopPasses", inPlace := ["internal/bytealg.IndexByteString", "internal/bytealg.IndexString"], unfollowed := true, recurses := true, named := ["unicode/utf8.first", "unicode/utf8.acceptRanges", "internal/bytealg.MaxLen"], apart := false, laid := [("unicode/utf8.acceptRanges", laid_unicode_utf8_acceptRanges), ("unicode/utf8.first", laid_unicode_utf8_first)] }
def HopPassesSaid : Prop := hopPassesRow.holds Tryz.pinned (OpenSpec.ofChange hopPassesSpec)

/-- ITS FALSE NEIGHBOUR: 'it returns false'. Refute it at one input. -/
def hopPassesWrong : ChangeSpec := { name := "hopPasses", fn := fun _ => fun
  | [d1, d2, d3, d4] => { results := [.lit (.bool false)], args := [d1, d2, d3, d4] }
  | _ => none }
def HopPassesWrongFalsely : Prop := hopPassesRow.holds Tryz.pinned (OpenSpec.ofChange hopPassesWrong)

/-- 'pigeonloftlaw10.HopKeeps': WHATEVER THE INPUT: true; the input reads as it did. -/
def hopKeepsSpec : ChangeSpec := { name := "hopKeeps", fn := fun _ => fun
  | [d1, d2, d3, d4] => { results := [.lit (.bool true)], args := [d1, d2, d3, d4] }
  | _ => none }
def hopKeepsRow : OpenClaim := { program := "ytfkmicjlaedlkaagreatdoor", sum := "3cac4b5340c88cee7595866a30fb70f04e0037e5d9cd298e9f1f9f418b5037bb", func := "pigeonloft/pigeonloftlaw10.HopKeeps", spec := "hopKeeps", inPlace := ["internal/bytealg.IndexByteString", "internal/bytealg.IndexString"], unfollowed := true, recurses := true, named := ["unicode/utf8.first", "unicode/utf8.acceptRanges", "internal/bytealg.MaxLen"], apart := false, laid := [("unicode/utf8.acceptRanges", laid_unicode_utf8_acceptRanges), ("unicode/utf8.first", laid_unicode_utf8_first)] }
def HopKeepsSaid : Prop := hopKeepsRow.holds Tryz.pinned (OpenSpec.ofChange hopKeepsSpec)

/-- ITS FALSE NEIGHBOUR: 'it returns false'. Refute it at one input. -/
def hopKeepsWrong : ChangeSpec := { name := "hopKeeps", fn := fun _ => fun
  | [d1, d2, d3, d4] => { results := [.lit (.bool false)], args := [d1, d2, d3, d4] }
  | _ => none }
def HopKeepsWrongFalsely : Prop := hopKeepsRow.holds Tryz.pinned (OpenSpec.ofChange hopKeepsWrong)

/- THE SECOND FORM. 'bulk': how many values and letters a reading holds, each counted each time it is reached (what is shared counts as often as it is met; a slice's spare places count too). A statement '..UptoSaid' is the law's where the arguments, and the package variables that the reading takes, are together of bulk at most 1048576: NARROWER than '..Said'. Prove '..Said' where nothing that the law and all that it calls make is longer than what came in: it says more and counts as full. Else prove '..UptoSaid'. A law counts once. -/
mutual
def uptoBulk {H : Type} : DataW H → Nat
  | .lit (.string bytes) => bytes.length + 1
  | .lit _ => 1
  | .nil => 1
  | .ptr d => uptoBulk d + 1
  | .slice elems spare => uptoBulkAll elems + uptoBulkAll spare + 1
  | .agg parts => uptoBulkAll parts + 1
  | .iface _ d => uptoBulk d + 1
  | .map entries => uptoBulkEntries entries + 1
  | .held _ => 1
def uptoBulkAll {H : Type} : List (DataW H) → Nat
  | [] => 0
  | d :: r => uptoBulk d + uptoBulkAll r
def uptoBulkEntries {H : Type} : List (Lit × DataW H) → Nat
  | [] => 0
  | x :: r => uptoBulkEntry x + uptoBulkEntries r
def uptoBulkEntry {H : Type} : Lit × DataW H → Nat
  | (.string bytes, d) => bytes.length + uptoBulk d + 1
  | (_, d) => uptoBulk d + 1
 end
def uptoSmall : (H : Type) → List (DataW H) → Bool := fun _ ds => decide (uptoBulkAll ds ≤ 1048576)
def OpenSpec.upto (s : _root_.Go.ChangeSpec) : _root_.Go.OpenSpec := { _root_.Go.OpenSpec.ofChange s with cond := some uptoSmall }

/-- 'pigeonloftlaw06.PrimaryBlocks', WHERE WHAT IT READS IS OF BULK AT MOST 1048576: true; the input reads as it did. -/
def primaryBlocksUptoRow : OpenClaim := { program := "ytfkmicjlaedlkaagreatdoor", sum := "3cac4b5340c88cee7595866a30fb70f04e0037e5d9cd298e9f1f9f418b5037bb", func := "pigeonloft/pigeonloftlaw06.PrimaryBlocks", spec := "primaryBlocks", inPlace := ["internal/bytealg.IndexByteString", "internal/bytealg.IndexString"], unfollowed := true, recurses := true, named := ["unicode/utf8.first", "unicode/utf8.acceptRanges", "internal/bytealg.MaxLen"], loops := true, apart := false, laid := [("unicode/utf8.acceptRanges", laid_unicode_utf8_acceptRanges), ("unicode/utf8.first", laid_unicode_utf8_first)], narrowed := true }
def PrimaryBlocksUptoSaid : Prop := primaryBlocksUptoRow.holds Tryz.pinned (OpenSpec.upto primaryBlocksSpec)

/-- 'pigeonloftlaw08.BundleBack', WHERE WHAT IT READS IS OF BULK AT MOST 1048576: true; the input reads as it did. -/
def bundleBackUptoRow : OpenClaim := { program := "ytfkmicjlaedlkaagreatdoor", sum := "3cac4b5340c88cee7595866a30fb70f04e0037e5d9cd298e9f1f9f418b5037bb", func := "pigeonloft/pigeonloftlaw08.BundleBack", spec := "bundleBack", inPlace := ["internal/bytealg.IndexByteString", "internal/bytealg.IndexString"], unfollowed := true, recurses := true, named := ["unicode/utf8.first", "unicode/utf8.acceptRanges", "internal/bytealg.MaxLen"], apart := false, laid := [("unicode/utf8.acceptRanges", laid_unicode_utf8_acceptRanges), ("unicode/utf8.first", laid_unicode_utf8_first)], narrowed := true }
def BundleBackUptoSaid : Prop := bundleBackUptoRow.holds Tryz.pinned (OpenSpec.upto bundleBackSpec)

/-- 'pigeonloftlaw10.HopEnds', WHERE WHAT IT READS IS OF BULK AT MOST 1048576: true; the input reads as it did. -/
def hopEndsUptoRow : OpenClaim := { program := "ytfkmicjlaedlkaagreatdoor", sum := "3cac4b5340c88cee7595866a30fb70f04e0037e5d9cd298e9f1f9f418b5037bb", func := "pigeonloft/pigeonloftlaw10.HopEnds", spec := "hopEnds", inPlace := ["internal/bytealg.IndexByteString", "internal/bytealg.IndexString"], unfollowed := true, recurses := true, named := ["unicode/utf8.first", "unicode/utf8.acceptRanges", "internal/bytealg.MaxLen"], apart := false, laid := [("unicode/utf8.acceptRanges", laid_unicode_utf8_acceptRanges), ("unicode/utf8.first", laid_unicode_utf8_first)], narrowed := true }
def HopEndsUptoSaid : Prop := hopEndsUptoRow.holds Tryz.pinned (OpenSpec.upto hopEndsSpec)

/-- 'pigeonloftlaw10.HopPasses', WHERE WHAT IT READS IS OF BULK AT MOST 1048576: true; the input reads as it did. -/
def hopPassesUptoRow : OpenClaim := { program := "ytfkmicjlaedlkaagreatdoor", sum := "3cac4b5340c88cee7595866a30fb70f04e0037e5d9cd298e9f1f9f418b5037bb", func := "pigeonloft/pigeonloftlaw10.HopPasses", spec := "hopPasses", inPlace := ["internal/bytealg.IndexByteString", "internal/bytealg.IndexString"], unfollowed := true, recurses := true, named := ["unicode/utf8.first", "unicode/utf8.acceptRanges", "internal/bytealg.MaxLen"], apart := false, laid := [("unicode/utf8.acceptRanges", laid_unicode_utf8_acceptRanges), ("unicode/utf8.first", laid_unicode_utf8_first)], narrowed := true }
def HopPassesUptoSaid : Prop := hopPassesUptoRow.holds Tryz.pinned (OpenSpec.upto hopPassesSpec)

/-- 'pigeonloftlaw10.HopKeeps', WHERE WHAT IT READS IS OF BULK AT MOST 1048576: true; the input reads as it did. -/
def hopKeepsUptoRow : OpenClaim := { program := "ytfkmicjlaedlkaagreatdoor", sum := "3cac4b5340c88cee7595866a30fb70f04e0037e5d9cd298e9f1f9f418b5037bb", func := "pigeonloft/pigeonloftlaw10.HopKeeps", spec := "hopKeeps", inPlace := ["internal/bytealg.IndexByteString", "internal/bytealg.IndexString"], unfollowed := true, recurses := true, named := ["unicode/utf8.first", "unicode/utf8.acceptRanges", "internal/bytealg.MaxLen"], apart := false, laid := [("unicode/utf8.acceptRanges", laid_unicode_utf8_acceptRanges), ("unicode/utf8.first", laid_unicode_utf8_first)], narrowed := true }
def HopKeepsUptoSaid : Prop := hopKeepsUptoRow.holds Tryz.pinned (OpenSpec.upto hopKeepsSpec)

end Rows
end Go.Proofs.YtfkmicjlaedlkaaGreatDoor
