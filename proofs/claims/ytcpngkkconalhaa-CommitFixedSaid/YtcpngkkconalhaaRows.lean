/-
  No cell of these rows narrows 'for every input' (looked for: loops, veiled, ifaces, maps, wideKeys, modest, calm, conditions, laid).
  DERIVED. THE GIVEN ROWS OF THIS SEAT. 16 by the template 'for every input the law returns true; each argument reads behind the call as it read before'; 0 by the template 'total and deterministic' (their statements: YtcpngkkconalhaaTotals.lean).
  GIVEN WITH THE SEED: the statements are not yours to turn. If you find one false, say at which input.
  Laid BY PROGRAM, IN A SANDBOX (cutbox-rows.mjs): the forced cells as the released guide's own fill.sh prints them over the translation 52edcfa6c3d36262… (all of the seat's roots in one cut). By AI agents, Wed Nov 11 2026. No macro, syntax, notation, axiom, sorry.
-/
import Derived.Test.YtcpngkkconalhaaChecked
import GoSem.Claim
import GoSem.ClaimJoined
import GoSem.ClaimMapViews
import Derived.JoinedTies
import Derived.KernelRfl
namespace Go.Proofs.Ytcpngkkconalhaa
/- THE CELL 'sum', in the pinned program and in every row, IS THE sha256 OF THE DUMP (.gsa) THAT YtcpngkkconalhaaProg.lean LOADS. Nothing in Lean hashes anything: it is a label: what it is worth is what the hold of that sum in a sandbox is worth. -/
noncomputable def Try.pinned : Pinned := { name := "ytcpngkkconalhaa", sum := "52edcfa6c3d362621778057597bf4e3a7a8bc74649c3a48a490135087aeb82ac", checked := Try.checked }
namespace Rows
def none {H : Type} : Left H := { results := [], args := [] }

/-- 'canopykeep.GetModel': WHATEVER THE INPUT: true; the input reads as it did. -/
def getModelSpec : ChangeSpec := { name := "getModel", fn := fun _ => fun
  | [d] => { results := [.lit (.bool true)], args := [d] }
  | _ => none }
def getModelRow : OpenClaim := { program := "ytcpngkkconalhaa", sum := "52edcfa6c3d362621778057597bf4e3a7a8bc74649c3a48a490135087aeb82ac", func := "canopy/canopykeep.GetModel", spec := "getModel", inPlace := ["internal/bytealg.Compare", "slices.overlaps[canopy/api.Pair]"], unfollowed := true, recurses := true, apart := false }
def GetModelSaid : Prop := getModelRow.holds Try.pinned (OpenSpec.ofChange getModelSpec)

/-- ITS FALSE NEIGHBOUR: 'it returns false'. Refute it at one input. -/
def getModelWrong : ChangeSpec := { name := "getModel", fn := fun _ => fun
  | [d] => { results := [.lit (.bool false)], args := [d] }
  | _ => none }
def GetModelWrongFalsely : Prop := getModelRow.holds Try.pinned (OpenSpec.ofChange getModelWrong)

/-- 'canopykeep.CommitSize': WHATEVER THE INPUT: true; the input reads as it did. -/
def commitSizeSpec : ChangeSpec := { name := "commitSize", fn := fun _ => fun
  | [d1, d2] => { results := [.lit (.bool true)], args := [d1, d2] }
  | _ => none }
def commitSizeRow : OpenClaim := { program := "ytcpngkkconalhaa", sum := "52edcfa6c3d362621778057597bf4e3a7a8bc74649c3a48a490135087aeb82ac", func := "canopy/canopykeep.CommitSize", spec := "commitSize", inPlace := ["internal/bytealg.Compare", "slices.overlaps[canopy/api.Pair]", "slices.overlaps[canopy/api.Tenant]"], unfollowed := true, recurses := true, apart := false }
def CommitSizeSaid : Prop := commitSizeRow.holds Try.pinned (OpenSpec.ofChange commitSizeSpec)

/-- ITS FALSE NEIGHBOUR: 'it returns false'. Refute it at one input. -/
def commitSizeWrong : ChangeSpec := { name := "commitSize", fn := fun _ => fun
  | [d1, d2] => { results := [.lit (.bool false)], args := [d1, d2] }
  | _ => none }
def CommitSizeWrongFalsely : Prop := commitSizeRow.holds Try.pinned (OpenSpec.ofChange commitSizeWrong)

/-- 'canopykeep.ForestRange': WHATEVER THE INPUT: true; the input reads as it did. -/
def forestRangeSpec : ChangeSpec := { name := "forestRange", fn := fun _ => fun
  | [d1, d2, d3] => { results := [.lit (.bool true)], args := [d1, d2, d3] }
  | _ => none }
def forestRangeRow : OpenClaim := { program := "ytcpngkkconalhaa", sum := "52edcfa6c3d362621778057597bf4e3a7a8bc74649c3a48a490135087aeb82ac", func := "canopy/canopykeep.ForestRange", spec := "forestRange", inPlace := ["internal/bytealg.Compare", "slices.overlaps[canopy/api.Pair]", "slices.overlaps[canopy/api.Tenant]"], unfollowed := true, recurses := true, apart := false }
def ForestRangeSaid : Prop := forestRangeRow.holds Try.pinned (OpenSpec.ofChange forestRangeSpec)

/-- ITS FALSE NEIGHBOUR: 'it returns false'. Refute it at one input. -/
def forestRangeWrong : ChangeSpec := { name := "forestRange", fn := fun _ => fun
  | [d1, d2, d3] => { results := [.lit (.bool false)], args := [d1, d2, d3] }
  | _ => none }
def ForestRangeWrongFalsely : Prop := forestRangeRow.holds Try.pinned (OpenSpec.ofChange forestRangeWrong)

/-- 'canopykeep.FoldNext': WHATEVER THE INPUT: true; the input reads as it did. -/
def foldNextSpec : ChangeSpec := { name := "foldNext", fn := fun _ => fun
  | [d1, d2] => { results := [.lit (.bool true)], args := [d1, d2] }
  | _ => none }
def foldNextRow : OpenClaim := { program := "ytcpngkkconalhaa", sum := "52edcfa6c3d362621778057597bf4e3a7a8bc74649c3a48a490135087aeb82ac", func := "canopy/canopykeep.FoldNext", spec := "foldNext", inPlace := ["internal/bytealg.Compare", "slices.overlaps[canopy/api.Pair]", "slices.overlaps[canopy/api.Tenant]"], unfollowed := true, recurses := true, apart := false }
def FoldNextSaid : Prop := foldNextRow.holds Try.pinned (OpenSpec.ofChange foldNextSpec)

/-- ITS FALSE NEIGHBOUR: 'it returns false'. Refute it at one input. -/
def foldNextWrong : ChangeSpec := { name := "foldNext", fn := fun _ => fun
  | [d1, d2] => { results := [.lit (.bool false)], args := [d1, d2] }
  | _ => none }
def FoldNextWrongFalsely : Prop := foldNextRow.holds Try.pinned (OpenSpec.ofChange foldNextWrong)

/-- 'canopykeep.CommitBack': WHATEVER THE INPUT: true; the input reads as it did. -/
def commitBackSpec : ChangeSpec := { name := "commitBack", fn := fun _ => fun
  | [d1, d2] => { results := [.lit (.bool true)], args := [d1, d2] }
  | _ => none }
def commitBackRow : OpenClaim := { program := "ytcpngkkconalhaa", sum := "52edcfa6c3d362621778057597bf4e3a7a8bc74649c3a48a490135087aeb82ac", func := "canopy/canopykeep.CommitBack", spec := "commitBack", inPlace := ["internal/bytealg.Compare", "slices.overlaps[canopy/api.Pair]", "slices.overlaps[canopy/api.Tenant]"], unfollowed := true, recurses := true, apart := false }
def CommitBackSaid : Prop := commitBackRow.holds Try.pinned (OpenSpec.ofChange commitBackSpec)

/-- ITS FALSE NEIGHBOUR: 'it returns false'. Refute it at one input. -/
def commitBackWrong : ChangeSpec := { name := "commitBack", fn := fun _ => fun
  | [d1, d2] => { results := [.lit (.bool false)], args := [d1, d2] }
  | _ => none }
def CommitBackWrongFalsely : Prop := commitBackRow.holds Try.pinned (OpenSpec.ofChange commitBackWrong)

/-- 'canopykeep.CommitFixed': WHATEVER THE INPUT: true; the input reads as it did. -/
def commitFixedSpec : ChangeSpec := { name := "commitFixed", fn := fun _ => fun
  | [d] => { results := [.lit (.bool true)], args := [d] }
  | _ => none }
def commitFixedRow : OpenClaim := { program := "ytcpngkkconalhaa", sum := "52edcfa6c3d362621778057597bf4e3a7a8bc74649c3a48a490135087aeb82ac", func := "canopy/canopykeep.CommitFixed", spec := "commitFixed", inPlace := ["internal/bytealg.Compare", "slices.overlaps[canopy/api.Pair]", "slices.overlaps[canopy/api.Tenant]"], unfollowed := true, recurses := true, apart := false }
def CommitFixedSaid : Prop := commitFixedRow.holds Try.pinned (OpenSpec.ofChange commitFixedSpec)

/-- ITS FALSE NEIGHBOUR: 'it returns false'. Refute it at one input. -/
def commitFixedWrong : ChangeSpec := { name := "commitFixed", fn := fun _ => fun
  | [d] => { results := [.lit (.bool false)], args := [d] }
  | _ => none }
def CommitFixedWrongFalsely : Prop := commitFixedRow.holds Try.pinned (OpenSpec.ofChange commitFixedWrong)

/-- 'canopykeep.CommitTorn': WHATEVER THE INPUT: true; the input reads as it did. -/
def commitTornSpec : ChangeSpec := { name := "commitTorn", fn := fun _ => fun
  | [d1, d2] => { results := [.lit (.bool true)], args := [d1, d2] }
  | _ => none }
def commitTornRow : OpenClaim := { program := "ytcpngkkconalhaa", sum := "52edcfa6c3d362621778057597bf4e3a7a8bc74649c3a48a490135087aeb82ac", func := "canopy/canopykeep.CommitTorn", spec := "commitTorn", inPlace := ["internal/bytealg.Compare", "slices.overlaps[canopy/api.Pair]", "slices.overlaps[canopy/api.Tenant]"], unfollowed := true, recurses := true, apart := false }
def CommitTornSaid : Prop := commitTornRow.holds Try.pinned (OpenSpec.ofChange commitTornSpec)

/-- ITS FALSE NEIGHBOUR: 'it returns false'. Refute it at one input. -/
def commitTornWrong : ChangeSpec := { name := "commitTorn", fn := fun _ => fun
  | [d1, d2] => { results := [.lit (.bool false)], args := [d1, d2] }
  | _ => none }
def CommitTornWrongFalsely : Prop := commitTornRow.holds Try.pinned (OpenSpec.ofChange commitTornWrong)

/-- 'canopykeep.WriteAgain': WHATEVER THE INPUT: true; the input reads as it did. -/
def writeAgainSpec : ChangeSpec := { name := "writeAgain", fn := fun _ => fun
  | [d1, d2, d3] => { results := [.lit (.bool true)], args := [d1, d2, d3] }
  | _ => none }
def writeAgainRow : OpenClaim := { program := "ytcpngkkconalhaa", sum := "52edcfa6c3d362621778057597bf4e3a7a8bc74649c3a48a490135087aeb82ac", func := "canopy/canopykeep.WriteAgain", spec := "writeAgain", inPlace := ["internal/bytealg.Compare", "slices.overlaps[canopy/api.Pair]", "slices.overlaps[canopy/api.Tenant]"], unfollowed := true, recurses := true, apart := false }
def WriteAgainSaid : Prop := writeAgainRow.holds Try.pinned (OpenSpec.ofChange writeAgainSpec)

/-- ITS FALSE NEIGHBOUR: 'it returns false'. Refute it at one input. -/
def writeAgainWrong : ChangeSpec := { name := "writeAgain", fn := fun _ => fun
  | [d1, d2, d3] => { results := [.lit (.bool false)], args := [d1, d2, d3] }
  | _ => none }
def WriteAgainWrongFalsely : Prop := writeAgainRow.holds Try.pinned (OpenSpec.ofChange writeAgainWrong)

/-- 'canopykeep.NoteOnce': WHATEVER THE INPUT: true; the input reads as it did. -/
def noteOnceSpec : ChangeSpec := { name := "noteOnce", fn := fun _ => fun
  | [d1, d2] => { results := [.lit (.bool true)], args := [d1, d2] }
  | _ => none }
def noteOnceRow : OpenClaim := { program := "ytcpngkkconalhaa", sum := "52edcfa6c3d362621778057597bf4e3a7a8bc74649c3a48a490135087aeb82ac", func := "canopy/canopykeep.NoteOnce", spec := "noteOnce", inPlace := ["internal/bytealg.Compare", "slices.overlaps[canopy/api.Pair]", "slices.overlaps[canopy/api.Tenant]"], unfollowed := true, recurses := true, apart := false }
def NoteOnceSaid : Prop := noteOnceRow.holds Try.pinned (OpenSpec.ofChange noteOnceSpec)

/-- ITS FALSE NEIGHBOUR: 'it returns false'. Refute it at one input. -/
def noteOnceWrong : ChangeSpec := { name := "noteOnce", fn := fun _ => fun
  | [d1, d2] => { results := [.lit (.bool false)], args := [d1, d2] }
  | _ => none }
def NoteOnceWrongFalsely : Prop := noteOnceRow.holds Try.pinned (OpenSpec.ofChange noteOnceWrong)

/-- 'canopykeep.NoteFull': WHATEVER THE INPUT: true; the input reads as it did. -/
def noteFullSpec : ChangeSpec := { name := "noteFull", fn := fun _ => fun
  | [d] => { results := [.lit (.bool true)], args := [d] }
  | _ => none }
def noteFullRow : OpenClaim := { program := "ytcpngkkconalhaa", sum := "52edcfa6c3d362621778057597bf4e3a7a8bc74649c3a48a490135087aeb82ac", func := "canopy/canopykeep.NoteFull", spec := "noteFull", inPlace := ["internal/bytealg.Compare", "slices.overlaps[canopy/api.Pair]", "slices.overlaps[canopy/api.Tenant]"], unfollowed := true, recurses := true, apart := false }
def NoteFullSaid : Prop := noteFullRow.holds Try.pinned (OpenSpec.ofChange noteFullSpec)

/-- ITS FALSE NEIGHBOUR: 'it returns false'. Refute it at one input. -/
def noteFullWrong : ChangeSpec := { name := "noteFull", fn := fun _ => fun
  | [d] => { results := [.lit (.bool false)], args := [d] }
  | _ => none }
def NoteFullWrongFalsely : Prop := noteFullRow.holds Try.pinned (OpenSpec.ofChange noteFullWrong)

/-- 'canopykeep.ClashMore': WHATEVER THE INPUT: true; the input reads as it did. -/
def clashMoreSpec : ChangeSpec := { name := "clashMore", fn := fun _ => fun
  | [d1, d2, d3, d4] => { results := [.lit (.bool true)], args := [d1, d2, d3, d4] }
  | _ => none }
def clashMoreRow : OpenClaim := { program := "ytcpngkkconalhaa", sum := "52edcfa6c3d362621778057597bf4e3a7a8bc74649c3a48a490135087aeb82ac", func := "canopy/canopykeep.ClashMore", spec := "clashMore", inPlace := ["internal/bytealg.Compare", "slices.overlaps[canopy/api.Pair]", "slices.overlaps[canopy/api.Tenant]"], unfollowed := true, recurses := true, apart := false }
def ClashMoreSaid : Prop := clashMoreRow.holds Try.pinned (OpenSpec.ofChange clashMoreSpec)

/-- ITS FALSE NEIGHBOUR: 'it returns false'. Refute it at one input. -/
def clashMoreWrong : ChangeSpec := { name := "clashMore", fn := fun _ => fun
  | [d1, d2, d3, d4] => { results := [.lit (.bool false)], args := [d1, d2, d3, d4] }
  | _ => none }
def ClashMoreWrongFalsely : Prop := clashMoreRow.holds Try.pinned (OpenSpec.ofChange clashMoreWrong)

/-- 'canopykeep.WriteSeen': WHATEVER THE INPUT: true; the input reads as it did. -/
def writeSeenSpec : ChangeSpec := { name := "writeSeen", fn := fun _ => fun
  | [d1, d2, d3, d4] => { results := [.lit (.bool true)], args := [d1, d2, d3, d4] }
  | _ => none }
def writeSeenRow : OpenClaim := { program := "ytcpngkkconalhaa", sum := "52edcfa6c3d362621778057597bf4e3a7a8bc74649c3a48a490135087aeb82ac", func := "canopy/canopykeep.WriteSeen", spec := "writeSeen", inPlace := ["internal/bytealg.Compare", "slices.overlaps[canopy/api.Pair]", "slices.overlaps[canopy/api.Tenant]"], unfollowed := true, recurses := true, apart := false }
def WriteSeenSaid : Prop := writeSeenRow.holds Try.pinned (OpenSpec.ofChange writeSeenSpec)

/-- ITS FALSE NEIGHBOUR: 'it returns false'. Refute it at one input. -/
def writeSeenWrong : ChangeSpec := { name := "writeSeen", fn := fun _ => fun
  | [d1, d2, d3, d4] => { results := [.lit (.bool false)], args := [d1, d2, d3, d4] }
  | _ => none }
def WriteSeenWrongFalsely : Prop := writeSeenRow.holds Try.pinned (OpenSpec.ofChange writeSeenWrong)

/-- 'canopykeep.LookApplied': WHATEVER THE INPUT: true; the input reads as it did. -/
def lookAppliedSpec : ChangeSpec := { name := "lookApplied", fn := fun _ => fun
  | [d1, d2, d3] => { results := [.lit (.bool true)], args := [d1, d2, d3] }
  | _ => none }
def lookAppliedRow : OpenClaim := { program := "ytcpngkkconalhaa", sum := "52edcfa6c3d362621778057597bf4e3a7a8bc74649c3a48a490135087aeb82ac", func := "canopy/canopykeep.LookApplied", spec := "lookApplied", inPlace := ["internal/bytealg.Compare", "slices.overlaps[canopy/api.Pair]", "slices.overlaps[canopy/api.Tenant]"], unfollowed := true, recurses := true, apart := false }
def LookAppliedSaid : Prop := lookAppliedRow.holds Try.pinned (OpenSpec.ofChange lookAppliedSpec)

/-- ITS FALSE NEIGHBOUR: 'it returns false'. Refute it at one input. -/
def lookAppliedWrong : ChangeSpec := { name := "lookApplied", fn := fun _ => fun
  | [d1, d2, d3] => { results := [.lit (.bool false)], args := [d1, d2, d3] }
  | _ => none }
def LookAppliedWrongFalsely : Prop := lookAppliedRow.holds Try.pinned (OpenSpec.ofChange lookAppliedWrong)

/-- 'canopykeep.ScanApplied': WHATEVER THE INPUT: true; the input reads as it did. -/
def scanAppliedSpec : ChangeSpec := { name := "scanApplied", fn := fun _ => fun
  | [d1, d2, d3, d4] => { results := [.lit (.bool true)], args := [d1, d2, d3, d4] }
  | _ => none }
def scanAppliedRow : OpenClaim := { program := "ytcpngkkconalhaa", sum := "52edcfa6c3d362621778057597bf4e3a7a8bc74649c3a48a490135087aeb82ac", func := "canopy/canopykeep.ScanApplied", spec := "scanApplied", inPlace := ["internal/bytealg.Compare", "slices.overlaps[canopy/api.Pair]", "slices.overlaps[canopy/api.Tenant]"], unfollowed := true, recurses := true, apart := false }
def ScanAppliedSaid : Prop := scanAppliedRow.holds Try.pinned (OpenSpec.ofChange scanAppliedSpec)

/-- ITS FALSE NEIGHBOUR: 'it returns false'. Refute it at one input. -/
def scanAppliedWrong : ChangeSpec := { name := "scanApplied", fn := fun _ => fun
  | [d1, d2, d3, d4] => { results := [.lit (.bool false)], args := [d1, d2, d3, d4] }
  | _ => none }
def ScanAppliedWrongFalsely : Prop := scanAppliedRow.holds Try.pinned (OpenSpec.ofChange scanAppliedWrong)

/-- 'canopykeep.TxnTwice': WHATEVER THE INPUT: true; the input reads as it did. -/
def txnTwiceSpec : ChangeSpec := { name := "txnTwice", fn := fun _ => fun
  | [d1, d2, d3] => { results := [.lit (.bool true)], args := [d1, d2, d3] }
  | _ => none }
def txnTwiceRow : OpenClaim := { program := "ytcpngkkconalhaa", sum := "52edcfa6c3d362621778057597bf4e3a7a8bc74649c3a48a490135087aeb82ac", func := "canopy/canopykeep.TxnTwice", spec := "txnTwice", inPlace := ["internal/bytealg.Compare", "slices.overlaps[canopy/api.Pair]", "slices.overlaps[canopy/api.Tenant]"], unfollowed := true, recurses := true, apart := false }
def TxnTwiceSaid : Prop := txnTwiceRow.holds Try.pinned (OpenSpec.ofChange txnTwiceSpec)

/-- ITS FALSE NEIGHBOUR: 'it returns false'. Refute it at one input. -/
def txnTwiceWrong : ChangeSpec := { name := "txnTwice", fn := fun _ => fun
  | [d1, d2, d3] => { results := [.lit (.bool false)], args := [d1, d2, d3] }
  | _ => none }
def TxnTwiceWrongFalsely : Prop := txnTwiceRow.holds Try.pinned (OpenSpec.ofChange txnTwiceWrong)

/-- 'canopykeep.ClashSeen': WHATEVER THE INPUT: true; the input reads as it did. -/
def clashSeenSpec : ChangeSpec := { name := "clashSeen", fn := fun _ => fun
  | [d1, d2, d3] => { results := [.lit (.bool true)], args := [d1, d2, d3] }
  | _ => none }
def clashSeenRow : OpenClaim := { program := "ytcpngkkconalhaa", sum := "52edcfa6c3d362621778057597bf4e3a7a8bc74649c3a48a490135087aeb82ac", func := "canopy/canopykeep.ClashSeen", spec := "clashSeen", inPlace := ["internal/bytealg.Compare", "slices.overlaps[canopy/api.Pair]", "slices.overlaps[canopy/api.Tenant]"], unfollowed := true, recurses := true, apart := false }
def ClashSeenSaid : Prop := clashSeenRow.holds Try.pinned (OpenSpec.ofChange clashSeenSpec)

/-- ITS FALSE NEIGHBOUR: 'it returns false'. Refute it at one input. -/
def clashSeenWrong : ChangeSpec := { name := "clashSeen", fn := fun _ => fun
  | [d1, d2, d3] => { results := [.lit (.bool false)], args := [d1, d2, d3] }
  | _ => none }
def ClashSeenWrongFalsely : Prop := clashSeenRow.holds Try.pinned (OpenSpec.ofChange clashSeenWrong)

/- THE SECOND FORM. 'bulk': how many values and letters a reading holds, each counted each time it is reached (what is shared counts as often as it is met; a slice's spare places count too). A statement '..UptoSaid' is the law's where the arguments, and the package variables that the reading takes, are together of bulk at most 1048576: NARROWER than '..Said'. Prove '..Said' where nothing that the law and all that it calls make is longer than what came in: it says more and counts as full. Else prove '..UptoSaid'. A law counts once. -/
mutual
def uptoBulk {H : Type} : DataW H → Nat
  | .lit (.string bytes) => bytes.length + 1
  | .lit _ => 1
  | .nil => 1
  | .ptr d => uptoBulk d + 1
  | .slice elems spare => uptoBulkAll elems + uptoBulkAll spare + 1
  | .agg parts => uptoBulkAll parts + 1
  | .iface _ d => uptoBulk d + 1
  | .map entries => uptoBulkEntries entries + 1
  | .held _ => 1
def uptoBulkAll {H : Type} : List (DataW H) → Nat
  | [] => 0
  | d :: r => uptoBulk d + uptoBulkAll r
def uptoBulkEntries {H : Type} : List (Lit × DataW H) → Nat
  | [] => 0
  | x :: r => uptoBulkEntry x + uptoBulkEntries r
def uptoBulkEntry {H : Type} : Lit × DataW H → Nat
  | (.string bytes, d) => bytes.length + uptoBulk d + 1
  | (_, d) => uptoBulk d + 1
 end
def uptoSmall : (H : Type) → List (DataW H) → Bool := fun _ ds => decide (uptoBulkAll ds ≤ 1048576)
def OpenSpec.upto (s : _root_.Go.ChangeSpec) : _root_.Go.OpenSpec := { _root_.Go.OpenSpec.ofChange s with cond := some uptoSmall }

/-- 'canopykeep.GetModel', WHERE WHAT IT READS IS OF BULK AT MOST 1048576: true; the input reads as it did. -/
def getModelUptoRow : OpenClaim := { program := "ytcpngkkconalhaa", sum := "52edcfa6c3d362621778057597bf4e3a7a8bc74649c3a48a490135087aeb82ac", func := "canopy/canopykeep.GetModel", spec := "getModel", inPlace := ["internal/bytealg.Compare", "slices.overlaps[canopy/api.Pair]"], unfollowed := true, recurses := true, apart := false, narrowed := true }
def GetModelUptoSaid : Prop := getModelUptoRow.holds Try.pinned (OpenSpec.upto getModelSpec)

/-- 'canopykeep.CommitSize', WHERE WHAT IT READS IS OF BULK AT MOST 1048576: true; the input reads as it did. -/
def commitSizeUptoRow : OpenClaim := { program := "ytcpngkkconalhaa", sum := "52edcfa6c3d362621778057597bf4e3a7a8bc74649c3a48a490135087aeb82ac", func := "canopy/canopykeep.CommitSize", spec := "commitSize", inPlace := ["internal/bytealg.Compare", "slices.overlaps[canopy/api.Pair]", "slices.overlaps[canopy/api.Tenant]"], unfollowed := true, recurses := true, apart := false, narrowed := true }
def CommitSizeUptoSaid : Prop := commitSizeUptoRow.holds Try.pinned (OpenSpec.upto commitSizeSpec)

/-- 'canopykeep.ForestRange', WHERE WHAT IT READS IS OF BULK AT MOST 1048576: true; the input reads as it did. -/
def forestRangeUptoRow : OpenClaim := { program := "ytcpngkkconalhaa", sum := "52edcfa6c3d362621778057597bf4e3a7a8bc74649c3a48a490135087aeb82ac", func := "canopy/canopykeep.ForestRange", spec := "forestRange", inPlace := ["internal/bytealg.Compare", "slices.overlaps[canopy/api.Pair]", "slices.overlaps[canopy/api.Tenant]"], unfollowed := true, recurses := true, apart := false, narrowed := true }
def ForestRangeUptoSaid : Prop := forestRangeUptoRow.holds Try.pinned (OpenSpec.upto forestRangeSpec)

/-- 'canopykeep.FoldNext', WHERE WHAT IT READS IS OF BULK AT MOST 1048576: true; the input reads as it did. -/
def foldNextUptoRow : OpenClaim := { program := "ytcpngkkconalhaa", sum := "52edcfa6c3d362621778057597bf4e3a7a8bc74649c3a48a490135087aeb82ac", func := "canopy/canopykeep.FoldNext", spec := "foldNext", inPlace := ["internal/bytealg.Compare", "slices.overlaps[canopy/api.Pair]", "slices.overlaps[canopy/api.Tenant]"], unfollowed := true, recurses := true, apart := false, narrowed := true }
def FoldNextUptoSaid : Prop := foldNextUptoRow.holds Try.pinned (OpenSpec.upto foldNextSpec)

/-- 'canopykeep.CommitBack', WHERE WHAT IT READS IS OF BULK AT MOST 1048576: true; the input reads as it did. -/
def commitBackUptoRow : OpenClaim := { program := "ytcpngkkconalhaa", sum := "52edcfa6c3d362621778057597bf4e3a7a8bc74649c3a48a490135087aeb82ac", func := "canopy/canopykeep.CommitBack", spec := "commitBack", inPlace := ["internal/bytealg.Compare", "slices.overlaps[canopy/api.Pair]", "slices.overlaps[canopy/api.Tenant]"], unfollowed := true, recurses := true, apart := false, narrowed := true }
def CommitBackUptoSaid : Prop := commitBackUptoRow.holds Try.pinned (OpenSpec.upto commitBackSpec)

/-- 'canopykeep.CommitFixed', WHERE WHAT IT READS IS OF BULK AT MOST 1048576: true; the input reads as it did. -/
def commitFixedUptoRow : OpenClaim := { program := "ytcpngkkconalhaa", sum := "52edcfa6c3d362621778057597bf4e3a7a8bc74649c3a48a490135087aeb82ac", func := "canopy/canopykeep.CommitFixed", spec := "commitFixed", inPlace := ["internal/bytealg.Compare", "slices.overlaps[canopy/api.Pair]", "slices.overlaps[canopy/api.Tenant]"], unfollowed := true, recurses := true, apart := false, narrowed := true }
def CommitFixedUptoSaid : Prop := commitFixedUptoRow.holds Try.pinned (OpenSpec.upto commitFixedSpec)

/-- 'canopykeep.CommitTorn', WHERE WHAT IT READS IS OF BULK AT MOST 1048576: true; the input reads as it did. -/
def commitTornUptoRow : OpenClaim := { program := "ytcpngkkconalhaa", sum := "52edcfa6c3d362621778057597bf4e3a7a8bc74649c3a48a490135087aeb82ac", func := "canopy/canopykeep.CommitTorn", spec := "commitTorn", inPlace := ["internal/bytealg.Compare", "slices.overlaps[canopy/api.Pair]", "slices.overlaps[canopy/api.Tenant]"], unfollowed := true, recurses := true, apart := false, narrowed := true }
def CommitTornUptoSaid : Prop := commitTornUptoRow.holds Try.pinned (OpenSpec.upto commitTornSpec)

/-- 'canopykeep.WriteAgain', WHERE WHAT IT READS IS OF BULK AT MOST 1048576: true; the input reads as it did. -/
def writeAgainUptoRow : OpenClaim := { program := "ytcpngkkconalhaa", sum := "52edcfa6c3d362621778057597bf4e3a7a8bc74649c3a48a490135087aeb82ac", func := "canopy/canopykeep.WriteAgain", spec := "writeAgain", inPlace := ["internal/bytealg.Compare", "slices.overlaps[canopy/api.Pair]", "slices.overlaps[canopy/api.Tenant]"], unfollowed := true, recurses := true, apart := false, narrowed := true }
def WriteAgainUptoSaid : Prop := writeAgainUptoRow.holds Try.pinned (OpenSpec.upto writeAgainSpec)

/-- 'canopykeep.NoteOnce', WHERE WHAT IT READS IS OF BULK AT MOST 1048576: true; the input reads as it did. -/
def noteOnceUptoRow : OpenClaim := { program := "ytcpngkkconalhaa", sum := "52edcfa6c3d362621778057597bf4e3a7a8bc74649c3a48a490135087aeb82ac", func := "canopy/canopykeep.NoteOnce", spec := "noteOnce", inPlace := ["internal/bytealg.Compare", "slices.overlaps[canopy/api.Pair]", "slices.overlaps[canopy/api.Tenant]"], unfollowed := true, recurses := true, apart := false, narrowed := true }
def NoteOnceUptoSaid : Prop := noteOnceUptoRow.holds Try.pinned (OpenSpec.upto noteOnceSpec)

/-- 'canopykeep.NoteFull', WHERE WHAT IT READS IS OF BULK AT MOST 1048576: true; the input reads as it did. -/
def noteFullUptoRow : OpenClaim := { program := "ytcpngkkconalhaa", sum := "52edcfa6c3d362621778057597bf4e3a7a8bc74649c3a48a490135087aeb82ac", func := "canopy/canopykeep.NoteFull", spec := "noteFull", inPlace := ["internal/bytealg.Compare", "slices.overlaps[canopy/api.Pair]", "slices.overlaps[canopy/api.Tenant]"], unfollowed := true, recurses := true, apart := false, narrowed := true }
def NoteFullUptoSaid : Prop := noteFullUptoRow.holds Try.pinned (OpenSpec.upto noteFullSpec)

/-- 'canopykeep.ClashMore', WHERE WHAT IT READS IS OF BULK AT MOST 1048576: true; the input reads as it did. -/
def clashMoreUptoRow : OpenClaim := { program := "ytcpngkkconalhaa", sum := "52edcfa6c3d362621778057597bf4e3a7a8bc74649c3a48a490135087aeb82ac", func := "canopy/canopykeep.ClashMore", spec := "clashMore", inPlace := ["internal/bytealg.Compare", "slices.overlaps[canopy/api.Pair]", "slices.overlaps[canopy/api.Tenant]"], unfollowed := true, recurses := true, apart := false, narrowed := true }
def ClashMoreUptoSaid : Prop := clashMoreUptoRow.holds Try.pinned (OpenSpec.upto clashMoreSpec)

/-- 'canopykeep.WriteSeen', WHERE WHAT IT READS IS OF BULK AT MOST 1048576: true; the input reads as it did. -/
def writeSeenUptoRow : OpenClaim := { program := "ytcpngkkconalhaa", sum := "52edcfa6c3d362621778057597bf4e3a7a8bc74649c3a48a490135087aeb82ac", func := "canopy/canopykeep.WriteSeen", spec := "writeSeen", inPlace := ["internal/bytealg.Compare", "slices.overlaps[canopy/api.Pair]", "slices.overlaps[canopy/api.Tenant]"], unfollowed := true, recurses := true, apart := false, narrowed := true }
def WriteSeenUptoSaid : Prop := writeSeenUptoRow.holds Try.pinned (OpenSpec.upto writeSeenSpec)

/-- 'canopykeep.LookApplied', WHERE WHAT IT READS IS OF BULK AT MOST 1048576: true; the input reads as it did. -/
def lookAppliedUptoRow : OpenClaim := { program := "ytcpngkkconalhaa", sum := "52edcfa6c3d362621778057597bf4e3a7a8bc74649c3a48a490135087aeb82ac", func := "canopy/canopykeep.LookApplied", spec := "lookApplied", inPlace := ["internal/bytealg.Compare", "slices.overlaps[canopy/api.Pair]", "slices.overlaps[canopy/api.Tenant]"], unfollowed := true, recurses := true, apart := false, narrowed := true }
def LookAppliedUptoSaid : Prop := lookAppliedUptoRow.holds Try.pinned (OpenSpec.upto lookAppliedSpec)

/-- 'canopykeep.ScanApplied', WHERE WHAT IT READS IS OF BULK AT MOST 1048576: true; the input reads as it did. -/
def scanAppliedUptoRow : OpenClaim := { program := "ytcpngkkconalhaa", sum := "52edcfa6c3d362621778057597bf4e3a7a8bc74649c3a48a490135087aeb82ac", func := "canopy/canopykeep.ScanApplied", spec := "scanApplied", inPlace := ["internal/bytealg.Compare", "slices.overlaps[canopy/api.Pair]", "slices.overlaps[canopy/api.Tenant]"], unfollowed := true, recurses := true, apart := false, narrowed := true }
def ScanAppliedUptoSaid : Prop := scanAppliedUptoRow.holds Try.pinned (OpenSpec.upto scanAppliedSpec)

/-- 'canopykeep.TxnTwice', WHERE WHAT IT READS IS OF BULK AT MOST 1048576: true; the input reads as it did. -/
def txnTwiceUptoRow : OpenClaim := { program := "ytcpngkkconalhaa", sum := "52edcfa6c3d362621778057597bf4e3a7a8bc74649c3a48a490135087aeb82ac", func := "canopy/canopykeep.TxnTwice", spec := "txnTwice", inPlace := ["internal/bytealg.Compare", "slices.overlaps[canopy/api.Pair]", "slices.overlaps[canopy/api.Tenant]"], unfollowed := true, recurses := true, apart := false, narrowed := true }
def TxnTwiceUptoSaid : Prop := txnTwiceUptoRow.holds Try.pinned (OpenSpec.upto txnTwiceSpec)

/-- 'canopykeep.ClashSeen', WHERE WHAT IT READS IS OF BULK AT MOST 1048576: true; the input reads as it did. -/
def clashSeenUptoRow : OpenClaim := { program := "ytcpngkkconalhaa", sum := "52edcfa6c3d362621778057597bf4e3a7a8bc74649c3a48a490135087aeb82ac", func := "canopy/canopykeep.ClashSeen", spec := "clashSeen", inPlace := ["internal/bytealg.Compare", "slices.overlaps[canopy/api.Pair]", "slices.overlaps[canopy/api.Tenant]"], unfollowed := true, recurses := true, apart := false, narrowed := true }
def ClashSeenUptoSaid : Prop := clashSeenUptoRow.holds Try.pinned (OpenSpec.upto clashSeenSpec)

end Rows
end Go.Proofs.Ytcpngkkconalhaa
