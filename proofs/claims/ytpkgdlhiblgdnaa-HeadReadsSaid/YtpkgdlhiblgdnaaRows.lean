/-
  No cell of these rows narrows 'for every input' (looked for: loops, veiled, ifaces, maps, wideKeys, modest, calm, conditions, laid).
  DERIVED. THE GIVEN ROWS OF THIS SEAT. 11 by the template 'for every input the law returns true; each argument reads behind the call as it read before'; 0 by the template 'total and deterministic' (their statements: YtpkgdlhiblgdnaaTotals.lean).
  GIVEN WITH THE SEED: the statements are not yours to turn. If you find one false, say at which input.
  Laid BY PROGRAM, IN A SANDBOX (cutbox-rows.mjs): the forced cells as the released guide's own fill.sh prints them over the translation 32fd453725c64061… (all of the seat's roots in one cut). By AI agents, Wed Nov 11 2026. No macro, syntax, notation, axiom, sorry.
-/
import Derived.Test.YtpkgdlhiblgdnaaChecked
import GoSem.Claim
import GoSem.ClaimJoined
import GoSem.ClaimMapViews
import Derived.JoinedTies
import Derived.KernelRfl
namespace Go.Proofs.Ytpkgdlhiblgdnaa
/- THE CELL 'sum', in the pinned program and in every row, IS THE sha256 OF THE DUMP (.gsa) THAT YtpkgdlhiblgdnaaProg.lean LOADS. Nothing in Lean hashes anything: it is a label: what it is worth is what the hold of that sum in a sandbox is worth. -/
noncomputable def Try.pinned : Pinned := { name := "ytpkgdlhiblgdnaa", sum := "32fd453725c64061dfa519926abea90f4d1fd9c043a3b1a6f96a32788e48e3b5", checked := Try.checked }
namespace Rows
def none {H : Type} : Left H := { results := [], args := [] }

/-- 'pigeonloftlaw29.PendOrder': WHATEVER THE INPUT: true; the input reads as it did. -/
def pendOrderSpec : ChangeSpec := { name := "pendOrder", fn := fun _ => fun
  | [d1, d2] => { results := [.lit (.bool true)], args := [d1, d2] }
  | _ => none }
def pendOrderRow : OpenClaim := { program := "ytpkgdlhiblgdnaa", sum := "32fd453725c64061dfa519926abea90f4d1fd9c043a3b1a6f96a32788e48e3b5", func := "pigeonloft/pigeonloftlaw29.PendOrder", spec := "pendOrder", unfollowed := true, recurses := true, apart := false }
def PendOrderSaid : Prop := pendOrderRow.holds Try.pinned (OpenSpec.ofChange pendOrderSpec)

/-- ITS FALSE NEIGHBOUR: 'it returns false'. Refute it at one input. -/
def pendOrderWrong : ChangeSpec := { name := "pendOrder", fn := fun _ => fun
  | [d1, d2] => { results := [.lit (.bool false)], args := [d1, d2] }
  | _ => none }
def PendOrderWrongFalsely : Prop := pendOrderRow.holds Try.pinned (OpenSpec.ofChange pendOrderWrong)

/-- 'pigeonloftlaw29.PendDrops': WHATEVER THE INPUT: true; the input reads as it did. -/
def pendDropsSpec : ChangeSpec := { name := "pendDrops", fn := fun _ => fun
  | [d1, d2] => { results := [.lit (.bool true)], args := [d1, d2] }
  | _ => none }
def pendDropsRow : OpenClaim := { program := "ytpkgdlhiblgdnaa", sum := "32fd453725c64061dfa519926abea90f4d1fd9c043a3b1a6f96a32788e48e3b5", func := "pigeonloft/pigeonloftlaw29.PendDrops", spec := "pendDrops", unfollowed := true, recurses := true, apart := false }
def PendDropsSaid : Prop := pendDropsRow.holds Try.pinned (OpenSpec.ofChange pendDropsSpec)

/-- ITS FALSE NEIGHBOUR: 'it returns false'. Refute it at one input. -/
def pendDropsWrong : ChangeSpec := { name := "pendDrops", fn := fun _ => fun
  | [d1, d2] => { results := [.lit (.bool false)], args := [d1, d2] }
  | _ => none }
def PendDropsWrongFalsely : Prop := pendDropsRow.holds Try.pinned (OpenSpec.ofChange pendDropsWrong)

/-- 'pigeonloftlaw29.PendLives': WHATEVER THE INPUT: true; the input reads as it did. -/
def pendLivesSpec : ChangeSpec := { name := "pendLives", fn := fun _ => fun
  | [d] => { results := [.lit (.bool true)], args := [d] }
  | _ => none }
def pendLivesRow : OpenClaim := { program := "ytpkgdlhiblgdnaa", sum := "32fd453725c64061dfa519926abea90f4d1fd9c043a3b1a6f96a32788e48e3b5", func := "pigeonloft/pigeonloftlaw29.PendLives", spec := "pendLives", unfollowed := true, recurses := true, apart := false }
def PendLivesSaid : Prop := pendLivesRow.holds Try.pinned (OpenSpec.ofChange pendLivesSpec)

/-- ITS FALSE NEIGHBOUR: 'it returns false'. Refute it at one input. -/
def pendLivesWrong : ChangeSpec := { name := "pendLives", fn := fun _ => fun
  | [d] => { results := [.lit (.bool false)], args := [d] }
  | _ => none }
def PendLivesWrongFalsely : Prop := pendLivesRow.holds Try.pinned (OpenSpec.ofChange pendLivesWrong)

/-- 'pigeonloftlaw19.FrameFeeds': WHATEVER THE INPUT: true; the input reads as it did. -/
def frameFeedsSpec : ChangeSpec := { name := "frameFeeds", fn := fun _ => fun
  | [d1, d2] => { results := [.lit (.bool true)], args := [d1, d2] }
  | _ => none }
def frameFeedsRow : OpenClaim := { program := "ytpkgdlhiblgdnaa", sum := "32fd453725c64061dfa519926abea90f4d1fd9c043a3b1a6f96a32788e48e3b5", func := "pigeonloft/pigeonloftlaw19.FrameFeeds", spec := "frameFeeds", apart := false }
def FrameFeedsSaid : Prop := frameFeedsRow.holds Try.pinned (OpenSpec.ofChange frameFeedsSpec)

/-- ITS FALSE NEIGHBOUR: 'it returns false'. Refute it at one input. -/
def frameFeedsWrong : ChangeSpec := { name := "frameFeeds", fn := fun _ => fun
  | [d1, d2] => { results := [.lit (.bool false)], args := [d1, d2] }
  | _ => none }
def FrameFeedsWrongFalsely : Prop := frameFeedsRow.holds Try.pinned (OpenSpec.ofChange frameFeedsWrong)

/-- 'pigeonloftlaw19.FrameCut': WHATEVER THE INPUT: true; the input reads as it did. -/
def frameCutSpec : ChangeSpec := { name := "frameCut", fn := fun _ => fun
  | [d1, d2] => { results := [.lit (.bool true)], args := [d1, d2] }
  | _ => none }
def frameCutRow : OpenClaim := { program := "ytpkgdlhiblgdnaa", sum := "32fd453725c64061dfa519926abea90f4d1fd9c043a3b1a6f96a32788e48e3b5", func := "pigeonloft/pigeonloftlaw19.FrameCut", spec := "frameCut", apart := false }
def FrameCutSaid : Prop := frameCutRow.holds Try.pinned (OpenSpec.ofChange frameCutSpec)

/-- ITS FALSE NEIGHBOUR: 'it returns false'. Refute it at one input. -/
def frameCutWrong : ChangeSpec := { name := "frameCut", fn := fun _ => fun
  | [d1, d2] => { results := [.lit (.bool false)], args := [d1, d2] }
  | _ => none }
def FrameCutWrongFalsely : Prop := frameCutRow.holds Try.pinned (OpenSpec.ofChange frameCutWrong)

/-- 'pigeonloftlaw19.FrameBack': WHATEVER THE INPUT: true; the input reads as it did. -/
def frameBackSpec : ChangeSpec := { name := "frameBack", fn := fun _ => fun
  | [d1, d2] => { results := [.lit (.bool true)], args := [d1, d2] }
  | _ => none }
def frameBackRow : OpenClaim := { program := "ytpkgdlhiblgdnaa", sum := "32fd453725c64061dfa519926abea90f4d1fd9c043a3b1a6f96a32788e48e3b5", func := "pigeonloft/pigeonloftlaw19.FrameBack", spec := "frameBack", apart := false }
def FrameBackSaid : Prop := frameBackRow.holds Try.pinned (OpenSpec.ofChange frameBackSpec)

/-- ITS FALSE NEIGHBOUR: 'it returns false'. Refute it at one input. -/
def frameBackWrong : ChangeSpec := { name := "frameBack", fn := fun _ => fun
  | [d1, d2] => { results := [.lit (.bool false)], args := [d1, d2] }
  | _ => none }
def FrameBackWrongFalsely : Prop := frameBackRow.holds Try.pinned (OpenSpec.ofChange frameBackWrong)

/-- 'pigeonloftlaw19.FrameBytes': WHATEVER THE INPUT: true; the input reads as it did. -/
def frameBytesSpec : ChangeSpec := { name := "frameBytes", fn := fun _ => fun
  | [d1, d2] => { results := [.lit (.bool true)], args := [d1, d2] }
  | _ => none }
def frameBytesRow : OpenClaim := { program := "ytpkgdlhiblgdnaa", sum := "32fd453725c64061dfa519926abea90f4d1fd9c043a3b1a6f96a32788e48e3b5", func := "pigeonloft/pigeonloftlaw19.FrameBytes", spec := "frameBytes", apart := false }
def FrameBytesSaid : Prop := frameBytesRow.holds Try.pinned (OpenSpec.ofChange frameBytesSpec)

/-- ITS FALSE NEIGHBOUR: 'it returns false'. Refute it at one input. -/
def frameBytesWrong : ChangeSpec := { name := "frameBytes", fn := fun _ => fun
  | [d1, d2] => { results := [.lit (.bool false)], args := [d1, d2] }
  | _ => none }
def FrameBytesWrongFalsely : Prop := frameBytesRow.holds Try.pinned (OpenSpec.ofChange frameBytesWrong)

/-- 'pigeonloftlaw02.HeadWrites': WHATEVER THE INPUT: true; the input reads as it did. -/
def headWritesSpec : ChangeSpec := { name := "headWrites", fn := fun _ => fun
  | [d] => { results := [.lit (.bool true)], args := [d] }
  | _ => none }
def headWritesRow : OpenClaim := { program := "ytpkgdlhiblgdnaa", sum := "32fd453725c64061dfa519926abea90f4d1fd9c043a3b1a6f96a32788e48e3b5", func := "pigeonloft/pigeonloftlaw02.HeadWrites", spec := "headWrites", apart := false }
def HeadWritesSaid : Prop := headWritesRow.holds Try.pinned (OpenSpec.ofChange headWritesSpec)

/-- ITS FALSE NEIGHBOUR: 'it returns false'. Refute it at one input. -/
def headWritesWrong : ChangeSpec := { name := "headWrites", fn := fun _ => fun
  | [d] => { results := [.lit (.bool false)], args := [d] }
  | _ => none }
def HeadWritesWrongFalsely : Prop := headWritesRow.holds Try.pinned (OpenSpec.ofChange headWritesWrong)

/-- 'pigeonloftlaw02.HeadReads': WHATEVER THE INPUT: true; the input reads as it did. -/
def headReadsSpec : ChangeSpec := { name := "headReads", fn := fun _ => fun
  | [d1, d2] => { results := [.lit (.bool true)], args := [d1, d2] }
  | _ => none }
def headReadsRow : OpenClaim := { program := "ytpkgdlhiblgdnaa", sum := "32fd453725c64061dfa519926abea90f4d1fd9c043a3b1a6f96a32788e48e3b5", func := "pigeonloft/pigeonloftlaw02.HeadReads", spec := "headReads", apart := false }
def HeadReadsSaid : Prop := headReadsRow.holds Try.pinned (OpenSpec.ofChange headReadsSpec)

/-- ITS FALSE NEIGHBOUR: 'it returns false'. Refute it at one input. -/
def headReadsWrong : ChangeSpec := { name := "headReads", fn := fun _ => fun
  | [d1, d2] => { results := [.lit (.bool false)], args := [d1, d2] }
  | _ => none }
def HeadReadsWrongFalsely : Prop := headReadsRow.holds Try.pinned (OpenSpec.ofChange headReadsWrong)

/-- 'pigeonloftlaw02.HeadBack': WHATEVER THE INPUT: true; the input reads as it did. -/
def headBackSpec : ChangeSpec := { name := "headBack", fn := fun _ => fun
  | [d1, d2, d3, d4] => { results := [.lit (.bool true)], args := [d1, d2, d3, d4] }
  | _ => none }
def headBackRow : OpenClaim := { program := "ytpkgdlhiblgdnaa", sum := "32fd453725c64061dfa519926abea90f4d1fd9c043a3b1a6f96a32788e48e3b5", func := "pigeonloft/pigeonloftlaw02.HeadBack", spec := "headBack", apart := false }
def HeadBackSaid : Prop := headBackRow.holds Try.pinned (OpenSpec.ofChange headBackSpec)

/-- ITS FALSE NEIGHBOUR: 'it returns false'. Refute it at one input. -/
def headBackWrong : ChangeSpec := { name := "headBack", fn := fun _ => fun
  | [d1, d2, d3, d4] => { results := [.lit (.bool false)], args := [d1, d2, d3, d4] }
  | _ => none }
def HeadBackWrongFalsely : Prop := headBackRow.holds Try.pinned (OpenSpec.ofChange headBackWrong)

/-- 'pigeonloftlaw02.HeadRises': WHATEVER THE INPUT: true; the input reads as it did. -/
def headRisesSpec : ChangeSpec := { name := "headRises", fn := fun _ => fun
  | [d1, d2, d3] => { results := [.lit (.bool true)], args := [d1, d2, d3] }
  | _ => none }
def headRisesRow : OpenClaim := { program := "ytpkgdlhiblgdnaa", sum := "32fd453725c64061dfa519926abea90f4d1fd9c043a3b1a6f96a32788e48e3b5", func := "pigeonloft/pigeonloftlaw02.HeadRises", spec := "headRises", apart := false }
def HeadRisesSaid : Prop := headRisesRow.holds Try.pinned (OpenSpec.ofChange headRisesSpec)

/-- ITS FALSE NEIGHBOUR: 'it returns false'. Refute it at one input. -/
def headRisesWrong : ChangeSpec := { name := "headRises", fn := fun _ => fun
  | [d1, d2, d3] => { results := [.lit (.bool false)], args := [d1, d2, d3] }
  | _ => none }
def HeadRisesWrongFalsely : Prop := headRisesRow.holds Try.pinned (OpenSpec.ofChange headRisesWrong)

/- THE SECOND FORM. 'bulk': how many values and letters a reading holds, each counted each time it is reached (what is shared counts as often as it is met; a slice's spare places count too). A statement '..UptoSaid' is the law's where the arguments, and the package variables that the reading takes, are together of bulk at most 1048576: NARROWER than '..Said'. Prove '..Said' where nothing that the law and all that it calls make is longer than what came in: it says more and counts as full. Else prove '..UptoSaid'. A law counts once. -/
mutual
def uptoBulk {H : Type} : DataW H → Nat
  | .lit (.string bytes) => bytes.length + 1
  | .lit _ => 1
  | .nil => 1
  | .ptr d => uptoBulk d + 1
  | .slice elems spare => uptoBulkAll elems + uptoBulkAll spare + 1
  | .agg parts => uptoBulkAll parts + 1
  | .iface _ d => uptoBulk d + 1
  | .map entries => uptoBulkEntries entries + 1
  | .held _ => 1
def uptoBulkAll {H : Type} : List (DataW H) → Nat
  | [] => 0
  | d :: r => uptoBulk d + uptoBulkAll r
def uptoBulkEntries {H : Type} : List (Lit × DataW H) → Nat
  | [] => 0
  | x :: r => uptoBulkEntry x + uptoBulkEntries r
def uptoBulkEntry {H : Type} : Lit × DataW H → Nat
  | (.string bytes, d) => bytes.length + uptoBulk d + 1
  | (_, d) => uptoBulk d + 1
 end
def uptoSmall : (H : Type) → List (DataW H) → Bool := fun _ ds => decide (uptoBulkAll ds ≤ 1048576)
def OpenSpec.upto (s : _root_.Go.ChangeSpec) : _root_.Go.OpenSpec := { _root_.Go.OpenSpec.ofChange s with cond := some uptoSmall }

/-- 'pigeonloftlaw29.PendOrder', WHERE WHAT IT READS IS OF BULK AT MOST 1048576: true; the input reads as it did. -/
def pendOrderUptoRow : OpenClaim := { program := "ytpkgdlhiblgdnaa", sum := "32fd453725c64061dfa519926abea90f4d1fd9c043a3b1a6f96a32788e48e3b5", func := "pigeonloft/pigeonloftlaw29.PendOrder", spec := "pendOrder", unfollowed := true, recurses := true, apart := false, narrowed := true }
def PendOrderUptoSaid : Prop := pendOrderUptoRow.holds Try.pinned (OpenSpec.upto pendOrderSpec)

/-- 'pigeonloftlaw29.PendDrops', WHERE WHAT IT READS IS OF BULK AT MOST 1048576: true; the input reads as it did. -/
def pendDropsUptoRow : OpenClaim := { program := "ytpkgdlhiblgdnaa", sum := "32fd453725c64061dfa519926abea90f4d1fd9c043a3b1a6f96a32788e48e3b5", func := "pigeonloft/pigeonloftlaw29.PendDrops", spec := "pendDrops", unfollowed := true, recurses := true, apart := false, narrowed := true }
def PendDropsUptoSaid : Prop := pendDropsUptoRow.holds Try.pinned (OpenSpec.upto pendDropsSpec)

/-- 'pigeonloftlaw29.PendLives', WHERE WHAT IT READS IS OF BULK AT MOST 1048576: true; the input reads as it did. -/
def pendLivesUptoRow : OpenClaim := { program := "ytpkgdlhiblgdnaa", sum := "32fd453725c64061dfa519926abea90f4d1fd9c043a3b1a6f96a32788e48e3b5", func := "pigeonloft/pigeonloftlaw29.PendLives", spec := "pendLives", unfollowed := true, recurses := true, apart := false, narrowed := true }
def PendLivesUptoSaid : Prop := pendLivesUptoRow.holds Try.pinned (OpenSpec.upto pendLivesSpec)

/-- 'pigeonloftlaw19.FrameFeeds', WHERE WHAT IT READS IS OF BULK AT MOST 1048576: true; the input reads as it did. -/
def frameFeedsUptoRow : OpenClaim := { program := "ytpkgdlhiblgdnaa", sum := "32fd453725c64061dfa519926abea90f4d1fd9c043a3b1a6f96a32788e48e3b5", func := "pigeonloft/pigeonloftlaw19.FrameFeeds", spec := "frameFeeds", apart := false, narrowed := true }
def FrameFeedsUptoSaid : Prop := frameFeedsUptoRow.holds Try.pinned (OpenSpec.upto frameFeedsSpec)

/-- 'pigeonloftlaw19.FrameCut', WHERE WHAT IT READS IS OF BULK AT MOST 1048576: true; the input reads as it did. -/
def frameCutUptoRow : OpenClaim := { program := "ytpkgdlhiblgdnaa", sum := "32fd453725c64061dfa519926abea90f4d1fd9c043a3b1a6f96a32788e48e3b5", func := "pigeonloft/pigeonloftlaw19.FrameCut", spec := "frameCut", apart := false, narrowed := true }
def FrameCutUptoSaid : Prop := frameCutUptoRow.holds Try.pinned (OpenSpec.upto frameCutSpec)

/-- 'pigeonloftlaw19.FrameBack', WHERE WHAT IT READS IS OF BULK AT MOST 1048576: true; the input reads as it did. -/
def frameBackUptoRow : OpenClaim := { program := "ytpkgdlhiblgdnaa", sum := "32fd453725c64061dfa519926abea90f4d1fd9c043a3b1a6f96a32788e48e3b5", func := "pigeonloft/pigeonloftlaw19.FrameBack", spec := "frameBack", apart := false, narrowed := true }
def FrameBackUptoSaid : Prop := frameBackUptoRow.holds Try.pinned (OpenSpec.upto frameBackSpec)

/-- 'pigeonloftlaw19.FrameBytes', WHERE WHAT IT READS IS OF BULK AT MOST 1048576: true; the input reads as it did. -/
def frameBytesUptoRow : OpenClaim := { program := "ytpkgdlhiblgdnaa", sum := "32fd453725c64061dfa519926abea90f4d1fd9c043a3b1a6f96a32788e48e3b5", func := "pigeonloft/pigeonloftlaw19.FrameBytes", spec := "frameBytes", apart := false, narrowed := true }
def FrameBytesUptoSaid : Prop := frameBytesUptoRow.holds Try.pinned (OpenSpec.upto frameBytesSpec)

/-- 'pigeonloftlaw02.HeadWrites', WHERE WHAT IT READS IS OF BULK AT MOST 1048576: true; the input reads as it did. -/
def headWritesUptoRow : OpenClaim := { program := "ytpkgdlhiblgdnaa", sum := "32fd453725c64061dfa519926abea90f4d1fd9c043a3b1a6f96a32788e48e3b5", func := "pigeonloft/pigeonloftlaw02.HeadWrites", spec := "headWrites", apart := false, narrowed := true }
def HeadWritesUptoSaid : Prop := headWritesUptoRow.holds Try.pinned (OpenSpec.upto headWritesSpec)

/-- 'pigeonloftlaw02.HeadReads', WHERE WHAT IT READS IS OF BULK AT MOST 1048576: true; the input reads as it did. -/
def headReadsUptoRow : OpenClaim := { program := "ytpkgdlhiblgdnaa", sum := "32fd453725c64061dfa519926abea90f4d1fd9c043a3b1a6f96a32788e48e3b5", func := "pigeonloft/pigeonloftlaw02.HeadReads", spec := "headReads", apart := false, narrowed := true }
def HeadReadsUptoSaid : Prop := headReadsUptoRow.holds Try.pinned (OpenSpec.upto headReadsSpec)

/-- 'pigeonloftlaw02.HeadBack', WHERE WHAT IT READS IS OF BULK AT MOST 1048576: true; the input reads as it did. -/
def headBackUptoRow : OpenClaim := { program := "ytpkgdlhiblgdnaa", sum := "32fd453725c64061dfa519926abea90f4d1fd9c043a3b1a6f96a32788e48e3b5", func := "pigeonloft/pigeonloftlaw02.HeadBack", spec := "headBack", apart := false, narrowed := true }
def HeadBackUptoSaid : Prop := headBackUptoRow.holds Try.pinned (OpenSpec.upto headBackSpec)

/-- 'pigeonloftlaw02.HeadRises', WHERE WHAT IT READS IS OF BULK AT MOST 1048576: true; the input reads as it did. -/
def headRisesUptoRow : OpenClaim := { program := "ytpkgdlhiblgdnaa", sum := "32fd453725c64061dfa519926abea90f4d1fd9c043a3b1a6f96a32788e48e3b5", func := "pigeonloft/pigeonloftlaw02.HeadRises", spec := "headRises", apart := false, narrowed := true }
def HeadRisesUptoSaid : Prop := headRisesUptoRow.holds Try.pinned (OpenSpec.upto headRisesSpec)

end Rows
end Go.Proofs.Ytpkgdlhiblgdnaa
