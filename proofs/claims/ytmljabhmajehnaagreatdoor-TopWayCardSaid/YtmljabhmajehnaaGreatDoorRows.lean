/-
  NARROWER THAN 'FOR EVERY INPUT', by the rows' own cells (each row's printed sentence says how): TopWay: laid · ReportWrites: laid · ReportBundles: laid · BundleWrites: laid · HopOn: laid.
  DERIVED. THE GIVEN ROWS OF THIS SEAT. 5 by the template 'for every input the law returns true; each argument reads behind the call as it read before'; 0 by the template 'total and deterministic' (their statements: YtmljabhmajehnaaGreatDoorTotals.lean).
  GIVEN WITH THE SEED: the statements are not yours to turn. If you find one false, say at which input.
  Laid BY PROGRAM, IN A SANDBOX (cutbox-rows.mjs): the forced cells as the released guide's own fill.sh prints them over the translation 02e3c0d5122aea3b… (all of the seat's roots in one cut). By AI agents, Wed Nov 11 2026. No macro, syntax, notation, axiom, sorry.
-/
import Derived.Test.YtmljabhmajehnaaGreatDoorChecked
import GoSem.PinnedTables
import GoSem.Claim
import GoSem.ClaimJoined
import GoSem.ClaimMapViews
import Derived.JoinedTies
import Derived.KernelRfl
namespace Go.Proofs.YtmljabhmajehnaaGreatDoor
/- THE CELL 'sum', in the pinned program and in every row, IS THE sha256 OF THE DUMP (.gsa) THAT YtmljabhmajehnaaGreatDoorProg.lean LOADS. Nothing in Lean hashes anything: it is a label: what it is worth is what the hold of that sum in a sandbox is worth. -/
noncomputable def Tryz.pinned : Pinned := { name := "ytmljabhmajehnaagreatdoor", sum := "02e3c0d5122aea3b2d3ee05f30ede1a9377d081999e5534bc4b1cc3ede846ca8", checked := Tryz.checked }
namespace Rows
def none {H : Type} : Left H := { results := [], args := [] }

/- WHAT THE LISTED PACKAGE-LEVEL VARIABLES READ AS WHEN THE CALL BEGINS. Each datum BY PROGRAM (the guide's laid-datum.mjs) off the statement by which the dump's own 'gosem.cut.vars' lays the variable. In a bare row this is a premise. The card (YtmljabhmajehnaaGreatDoorCards.lean) ties it to the program's text. -/
def laid_unicode_utf8_acceptRanges {H : Type} : DataW H := .agg [.agg [.lit (.int .u8 128), .lit (.int .u8 191)], .agg [.lit (.int .u8 160), .lit (.int .u8 191)], .agg [.lit (.int .u8 128), .lit (.int .u8 159)], .agg [.lit (.int .u8 144), .lit (.int .u8 191)], .agg [.lit (.int .u8 128), .lit (.int .u8 143)], .agg [.lit (.int .u8 0), .lit (.int .u8 0)], .agg [.lit (.int .u8 0), .lit (.int .u8 0)], .agg [.lit (.int .u8 0), .lit (.int .u8 0)], .agg [.lit (.int .u8 0), .lit (.int .u8 0)], .agg [.lit (.int .u8 0), .lit (.int .u8 0)], .agg [.lit (.int .u8 0), .lit (.int .u8 0)], .agg [.lit (.int .u8 0), .lit (.int .u8 0)], .agg [.lit (.int .u8 0), .lit (.int .u8 0)], .agg [.lit (.int .u8 0), .lit (.int .u8 0)], .agg [.lit (.int .u8 0), .lit (.int .u8 0)], .agg [.lit (.int .u8 0), .lit (.int .u8 0)]]
/-- One of Go's own tables, pinned by name: the form's constant. -/
def laid_unicode_utf8_first : DataW Unit := Go.Pinned.utf8First

/-- 'pigeonlofttop.TopWay': WHATEVER THE INPUT: true; the input reads as it did. -/
def topWaySpec : ChangeSpec := { name := "topWay", fn := fun _ => fun
  | [d1, d2, d3] => { results := [.lit (.bool true)], args := [d1, d2, d3] }
  | _ => none }
def topWayRow : OpenClaim := { program := "ytmljabhmajehnaagreatdoor", sum := "02e3c0d5122aea3b2d3ee05f30ede1a9377d081999e5534bc4b1cc3ede846ca8", func := "pigeonloft/pigeonlofttop.TopWay", spec := "topWay", inPlace := ["internal/bytealg.IndexByteString", "internal/bytealg.IndexString"], unfollowed := true, recurses := true, named := ["unicode/utf8.first", "unicode/utf8.acceptRanges", "internal/bytealg.MaxLen"], apart := false, laid := [("unicode/utf8.acceptRanges", laid_unicode_utf8_acceptRanges), ("unicode/utf8.first", laid_unicode_utf8_first)] }
def TopWaySaid : Prop := topWayRow.holds Tryz.pinned (OpenSpec.ofChange topWaySpec)

/-- ITS FALSE NEIGHBOUR: 'it returns false'. Refute it at one input. -/
def topWayWrong : ChangeSpec := { name := "topWay", fn := fun _ => fun
  | [d1, d2, d3] => { results := [.lit (.bool false)], args := [d1, d2, d3] }
  | _ => none }
def TopWayWrongFalsely : Prop := topWayRow.holds Tryz.pinned (OpenSpec.ofChange topWayWrong)

/-- 'pigeonloftlaw09.ReportWrites': WHATEVER THE INPUT: true; the input reads as it did. -/
def reportWritesSpec : ChangeSpec := { name := "reportWrites", fn := fun _ => fun
  | [d1, d2] => { results := [.lit (.bool true)], args := [d1, d2] }
  | _ => none }
def reportWritesRow : OpenClaim := { program := "ytmljabhmajehnaagreatdoor", sum := "02e3c0d5122aea3b2d3ee05f30ede1a9377d081999e5534bc4b1cc3ede846ca8", func := "pigeonloft/pigeonloftlaw09.ReportWrites", spec := "reportWrites", inPlace := ["internal/bytealg.IndexByteString", "internal/bytealg.IndexString"], unfollowed := true, recurses := true, named := ["unicode/utf8.first", "unicode/utf8.acceptRanges", "internal/bytealg.MaxLen"], apart := false, laid := [("unicode/utf8.acceptRanges", laid_unicode_utf8_acceptRanges), ("unicode/utf8.first", laid_unicode_utf8_first)] }
def ReportWritesSaid : Prop := reportWritesRow.holds Tryz.pinned (OpenSpec.ofChange reportWritesSpec)

/-- ITS FALSE NEIGHBOUR: 'it returns false'. Refute it at one input. -/
def reportWritesWrong : ChangeSpec := { name := "reportWrites", fn := fun _ => fun
  | [d1, d2] => { results := [.lit (.bool false)], args := [d1, d2] }
  | _ => none }
def ReportWritesWrongFalsely : Prop := reportWritesRow.holds Tryz.pinned (OpenSpec.ofChange reportWritesWrong)

/-- 'pigeonloftlaw09.ReportBundles': WHATEVER THE INPUT: true; the input reads as it did. -/
def reportBundlesSpec : ChangeSpec := { name := "reportBundles", fn := fun _ => fun
  | [d1, d2, d3, d4, d5] => { results := [.lit (.bool true)], args := [d1, d2, d3, d4, d5] }
  | _ => none }
def reportBundlesRow : OpenClaim := { program := "ytmljabhmajehnaagreatdoor", sum := "02e3c0d5122aea3b2d3ee05f30ede1a9377d081999e5534bc4b1cc3ede846ca8", func := "pigeonloft/pigeonloftlaw09.ReportBundles", spec := "reportBundles", inPlace := ["internal/bytealg.IndexByteString", "internal/bytealg.IndexString"], unfollowed := true, recurses := true, named := ["unicode/utf8.first", "unicode/utf8.acceptRanges", "internal/bytealg.MaxLen"], apart := false, laid := [("unicode/utf8.acceptRanges", laid_unicode_utf8_acceptRanges), ("unicode/utf8.first", laid_unicode_utf8_first)] }
def ReportBundlesSaid : Prop := reportBundlesRow.holds Tryz.pinned (OpenSpec.ofChange reportBundlesSpec)

/-- ITS FALSE NEIGHBOUR: 'it returns false'. Refute it at one input. -/
def reportBundlesWrong : ChangeSpec := { name := "reportBundles", fn := fun _ => fun
  | [d1, d2, d3, d4, d5] => { results := [.lit (.bool false)], args := [d1, d2, d3, d4, d5] }
  | _ => none }
def ReportBundlesWrongFalsely : Prop := reportBundlesRow.holds Tryz.pinned (OpenSpec.ofChange reportBundlesWrong)

/-- 'pigeonloftlaw08.BundleWrites': WHATEVER THE INPUT: true; the input reads as it did. -/
def bundleWritesSpec : ChangeSpec := { name := "bundleWrites", fn := fun _ => fun
  | [d1, d2, d3] => { results := [.lit (.bool true)], args := [d1, d2, d3] }
  | _ => none }
def bundleWritesRow : OpenClaim := { program := "ytmljabhmajehnaagreatdoor", sum := "02e3c0d5122aea3b2d3ee05f30ede1a9377d081999e5534bc4b1cc3ede846ca8", func := "pigeonloft/pigeonloftlaw08.BundleWrites", spec := "bundleWrites", inPlace := ["internal/bytealg.IndexByteString", "internal/bytealg.IndexString"], unfollowed := true, recurses := true, named := ["unicode/utf8.first", "unicode/utf8.acceptRanges", "internal/bytealg.MaxLen"], apart := false, laid := [("unicode/utf8.acceptRanges", laid_unicode_utf8_acceptRanges), ("unicode/utf8.first", laid_unicode_utf8_first)] }
def BundleWritesSaid : Prop := bundleWritesRow.holds Tryz.pinned (OpenSpec.ofChange bundleWritesSpec)

/-- ITS FALSE NEIGHBOUR: 'it returns false'. Refute it at one input. -/
def bundleWritesWrong : ChangeSpec := { name := "bundleWrites", fn := fun _ => fun
  | [d1, d2, d3] => { results := [.lit (.bool false)], args := [d1, d2, d3] }
  | _ => none }
def BundleWritesWrongFalsely : Prop := bundleWritesRow.holds Tryz.pinned (OpenSpec.ofChange bundleWritesWrong)

/-- 'pigeonloftlaw10.HopOn': WHATEVER THE INPUT: true; the input reads as it did. -/
def hopOnSpec : ChangeSpec := { name := "hopOn", fn := fun _ => fun
  | [d1, d2, d3, d4] => { results := [.lit (.bool true)], args := [d1, d2, d3, d4] }
  | _ => none }
def hopOnRow : OpenClaim := { program := "ytmljabhmajehnaagreatdoor", sum := "02e3c0d5122aea3b2d3ee05f30ede1a9377d081999e5534bc4b1cc3ede846ca8", func := "pigeonloft/pigeonloftlaw10.HopOn", spec := "hopOn", inPlace := ["internal/bytealg.IndexByteString", "internal/bytealg.IndexString"], unfollowed := true, recurses := true, named := ["unicode/utf8.first", "unicode/utf8.acceptRanges", "internal/bytealg.MaxLen"], apart := false, laid := [("unicode/utf8.acceptRanges", laid_unicode_utf8_acceptRanges), ("unicode/utf8.first", laid_unicode_utf8_first)] }
def HopOnSaid : Prop := hopOnRow.holds Tryz.pinned (OpenSpec.ofChange hopOnSpec)

/-- ITS FALSE NEIGHBOUR: 'it returns false'. Refute it at one input. -/
def hopOnWrong : ChangeSpec := { name := "hopOn", fn := fun _ => fun
  | [d1, d2, d3, d4] => { results := [.lit (.bool false)], args := [d1, d2, d3, d4] }
  | _ => none }
def HopOnWrongFalsely : Prop := hopOnRow.holds Tryz.pinned (OpenSpec.ofChange hopOnWrong)

/- THE SECOND FORM. 'bulk': how many values and letters a reading holds, each counted each time it is reached (what is shared counts as often as it is met; a slice's spare places count too). A statement '..UptoSaid' is the law's where the arguments, and the package variables that the reading takes, are together of bulk at most 1048576: NARROWER than '..Said'. Prove '..Said' where nothing that the law and all that it calls make is longer than what came in: it says more and counts as full. Else prove '..UptoSaid'. A law counts once. -/
mutual
def uptoBulk {H : Type} : DataW H → Nat
  | .lit (.string bytes) => bytes.length + 1
  | .lit _ => 1
  | .nil => 1
  | .ptr d => uptoBulk d + 1
  | .slice elems spare => uptoBulkAll elems + uptoBulkAll spare + 1
  | .agg parts => uptoBulkAll parts + 1
  | .iface _ d => uptoBulk d + 1
  | .map entries => uptoBulkEntries entries + 1
  | .held _ => 1
def uptoBulkAll {H : Type} : List (DataW H) → Nat
  | [] => 0
  | d :: r => uptoBulk d + uptoBulkAll r
def uptoBulkEntries {H : Type} : List (Lit × DataW H) → Nat
  | [] => 0
  | x :: r => uptoBulkEntry x + uptoBulkEntries r
def uptoBulkEntry {H : Type} : Lit × DataW H → Nat
  | (.string bytes, d) => bytes.length + uptoBulk d + 1
  | (_, d) => uptoBulk d + 1
 end
def uptoSmall : (H : Type) → List (DataW H) → Bool := fun _ ds => decide (uptoBulkAll ds ≤ 1048576)
def OpenSpec.upto (s : _root_.Go.ChangeSpec) : _root_.Go.OpenSpec := { _root_.Go.OpenSpec.ofChange s with cond := some uptoSmall }

/-- 'pigeonlofttop.TopWay', WHERE WHAT IT READS IS OF BULK AT MOST 1048576: true; the input reads as it did. -/
def topWayUptoRow : OpenClaim := { program := "ytmljabhmajehnaagreatdoor", sum := "02e3c0d5122aea3b2d3ee05f30ede1a9377d081999e5534bc4b1cc3ede846ca8", func := "pigeonloft/pigeonlofttop.TopWay", spec := "topWay", inPlace := ["internal/bytealg.IndexByteString", "internal/bytealg.IndexString"], unfollowed := true, recurses := true, named := ["unicode/utf8.first", "unicode/utf8.acceptRanges", "internal/bytealg.MaxLen"], apart := false, laid := [("unicode/utf8.acceptRanges", laid_unicode_utf8_acceptRanges), ("unicode/utf8.first", laid_unicode_utf8_first)], narrowed := true }
def TopWayUptoSaid : Prop := topWayUptoRow.holds Tryz.pinned (OpenSpec.upto topWaySpec)

/-- 'pigeonloftlaw09.ReportWrites', WHERE WHAT IT READS IS OF BULK AT MOST 1048576: true; the input reads as it did. -/
def reportWritesUptoRow : OpenClaim := { program := "ytmljabhmajehnaagreatdoor", sum := "02e3c0d5122aea3b2d3ee05f30ede1a9377d081999e5534bc4b1cc3ede846ca8", func := "pigeonloft/pigeonloftlaw09.ReportWrites", spec := "reportWrites", inPlace := ["internal/bytealg.IndexByteString", "internal/bytealg.IndexString"], unfollowed := true, recurses := true, named := ["unicode/utf8.first", "unicode/utf8.acceptRanges", "internal/bytealg.MaxLen"], apart := false, laid := [("unicode/utf8.acceptRanges", laid_unicode_utf8_acceptRanges), ("unicode/utf8.first", laid_unicode_utf8_first)], narrowed := true }
def ReportWritesUptoSaid : Prop := reportWritesUptoRow.holds Tryz.pinned (OpenSpec.upto reportWritesSpec)

/-- 'pigeonloftlaw09.ReportBundles', WHERE WHAT IT READS IS OF BULK AT MOST 1048576: true; the input reads as it did. -/
def reportBundlesUptoRow : OpenClaim := { program := "ytmljabhmajehnaagreatdoor", sum := "02e3c0d5122aea3b2d3ee05f30ede1a9377d081999e5534bc4b1cc3ede846ca8", func := "pigeonloft/pigeonloftlaw09.ReportBundles", spec := "reportBundles", inPlace := ["internal/bytealg.IndexByteString", "internal/bytealg.IndexString"], unfollowed := true, recurses := true, named := ["unicode/utf8.first", "unicode/utf8.acceptRanges", "internal/bytealg.MaxLen"], apart := false, laid := [("unicode/utf8.acceptRanges", laid_unicode_utf8_acceptRanges), ("unicode/utf8.first", laid_unicode_utf8_first)], narrowed := true }
def ReportBundlesUptoSaid : Prop := reportBundlesUptoRow.holds Tryz.pinned (OpenSpec.upto reportBundlesSpec)

/-- 'pigeonloftlaw08.BundleWrites', WHERE WHAT IT READS IS OF BULK AT MOST 1048576: true; the input reads as it did. -/
def bundleWritesUptoRow : OpenClaim := { program := "ytmljabhmajehnaagreatdoor", sum := "02e3c0d5122aea3b2d3ee05f30ede1a9377d081999e5534bc4b1cc3ede846ca8", func := "pigeonloft/pigeonloftlaw08.BundleWrites", spec := "bundleWrites", inPlace := ["internal/bytealg.IndexByteString", "internal/bytealg.IndexString"], unfollowed := true, recurses := true, named := ["unicode/utf8.first", "unicode/utf8.acceptRanges", "internal/bytealg.MaxLen"], apart := false, laid := [("unicode/utf8.acceptRanges", laid_unicode_utf8_acceptRanges), ("unicode/utf8.first", laid_unicode_utf8_first)], narrowed := true }
def BundleWritesUptoSaid : Prop := bundleWritesUptoRow.holds Tryz.pinned (OpenSpec.upto bundleWritesSpec)

/-- 'pigeonloftlaw10.HopOn', WHERE WHAT IT READS IS OF BULK AT MOST 1048576: true; the input reads as it did. -/
def hopOnUptoRow : OpenClaim := { program := "ytmljabhmajehnaagreatdoor", sum := "02e3c0d5122aea3b2d3ee05f30ede1a9377d081999e5534bc4b1cc3ede846ca8", func := "pigeonloft/pigeonloftlaw10.HopOn", spec := "hopOn", inPlace := ["internal/bytealg.IndexByteString", "internal/bytealg.IndexString"], unfollowed := true, recurses := true, named := ["unicode/utf8.first", "unicode/utf8.acceptRanges", "internal/bytealg.MaxLen"], apart := false, laid := [("unicode/utf8.acceptRanges", laid_unicode_utf8_acceptRanges), ("unicode/utf8.first", laid_unicode_utf8_first)], narrowed := true }
def HopOnUptoSaid : Prop := hopOnUptoRow.holds Tryz.pinned (OpenSpec.upto hopOnSpec)

end Rows
end Go.Proofs.YtmljabhmajehnaaGreatDoor
