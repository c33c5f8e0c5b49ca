/-
  NARROWER THAN 'FOR EVERY INPUT', by the rows' own cells (each row's printed sentence says how): ForestEmpty: laid · RootNames: laid · ForestHolds: laid · ForestApart: laid · FoldCut: laid · TapeMany: laid · TapeBack: laid · TapeTorn: laid · TapeTurns: laid · TapeOn: laid · TapeKeeps: laid.
  DERIVED. THE GIVEN ROWS OF THIS SEAT. 11 by the template 'for every input the law returns true; each argument reads behind the call as it read before'; 0 by the template 'total and deterministic' (their statements: YtikklmjengkliaaDoorTotals.lean).
  GIVEN WITH THE SEED: the statements are not yours to turn. If you find one false, say at which input.
  Laid BY PROGRAM, IN A SANDBOX (cutbox-rows.mjs): the forced cells as the released guide's own fill.sh prints them over the translation 2e6654ec4a43ac6e… (all of the seat's roots in one cut). By AI agents, Wed Nov 11 2026. No macro, syntax, notation, axiom, sorry.
-/
import Derived.Test.YtikklmjengkliaaDoorChecked
import GoSem.Claim
import GoSem.ClaimJoined
import GoSem.ClaimMapViews
import Derived.JoinedTies
import Derived.KernelRfl
namespace Go.Proofs.YtikklmjengkliaaDoor
/- THE CELL 'sum', in the pinned program and in every row, IS THE sha256 OF THE DUMP (.gsa) THAT YtikklmjengkliaaDoorProg.lean LOADS. Nothing in Lean hashes anything: it is a label: what it is worth is what the hold of that sum in a sandbox is worth. -/
noncomputable def Tryd.pinned : Pinned := { name := "ytikklmjengkliaadoor", sum := "2e6654ec4a43ac6eb97d920884a7383b65aa078593cbdecef9dba18a5b905b2e", checked := Tryd.checked }
namespace Rows
def none {H : Type} : Left H := { results := [], args := [] }

/- WHAT THE LISTED PACKAGE-LEVEL VARIABLES READ AS WHEN THE CALL BEGINS. Each datum BY PROGRAM (the guide's laid-datum.mjs) off the statement by which the dump's own 'gosem.cut.vars' lays the variable. In a bare row this is a premise. The card (YtikklmjengkliaaDoorCards.lean) ties it to the program's text. -/
def laid_canopy_digest_rounds {H : Type} : DataW H := .agg [.lit (.int .u64 1), .lit (.int .u64 32898), .lit (.int .u64 9223372036854808714), .lit (.int .u64 9223372039002292224), .lit (.int .u64 32907), .lit (.int .u64 2147483649), .lit (.int .u64 9223372039002292353), .lit (.int .u64 9223372036854808585), .lit (.int .u64 138), .lit (.int .u64 136), .lit (.int .u64 2147516425), .lit (.int .u64 2147483658), .lit (.int .u64 2147516555), .lit (.int .u64 9223372036854775947), .lit (.int .u64 9223372036854808713), .lit (.int .u64 9223372036854808579), .lit (.int .u64 9223372036854808578), .lit (.int .u64 9223372036854775936), .lit (.int .u64 32778), .lit (.int .u64 9223372039002259466), .lit (.int .u64 9223372039002292353), .lit (.int .u64 9223372036854808704), .lit (.int .u64 2147483649), .lit (.int .u64 9223372039002292232)]
def laid_canopy_digest_goes {H : Type} : DataW H := .agg [.lit (.int .i64 10), .lit (.int .i64 7), .lit (.int .i64 11), .lit (.int .i64 17), .lit (.int .i64 18), .lit (.int .i64 3), .lit (.int .i64 5), .lit (.int .i64 16), .lit (.int .i64 8), .lit (.int .i64 21), .lit (.int .i64 24), .lit (.int .i64 4), .lit (.int .i64 15), .lit (.int .i64 23), .lit (.int .i64 19), .lit (.int .i64 13), .lit (.int .i64 12), .lit (.int .i64 2), .lit (.int .i64 20), .lit (.int .i64 14), .lit (.int .i64 22), .lit (.int .i64 9), .lit (.int .i64 6), .lit (.int .i64 1)]
def laid_canopy_digest_turns {H : Type} : DataW H := .agg [.lit (.int .i64 1), .lit (.int .i64 3), .lit (.int .i64 6), .lit (.int .i64 10), .lit (.int .i64 15), .lit (.int .i64 21), .lit (.int .i64 28), .lit (.int .i64 36), .lit (.int .i64 45), .lit (.int .i64 55), .lit (.int .i64 2), .lit (.int .i64 14), .lit (.int .i64 27), .lit (.int .i64 41), .lit (.int .i64 56), .lit (.int .i64 8), .lit (.int .i64 25), .lit (.int .i64 43), .lit (.int .i64 62), .lit (.int .i64 18), .lit (.int .i64 39), .lit (.int .i64 61), .lit (.int .i64 20), .lit (.int .i64 44)]

/-- 'canopykeep.ForestEmpty': WHATEVER THE INPUT: true; the input reads as it did. -/
def forestEmptySpec : ChangeSpec := { name := "forestEmpty", fn := fun _ => fun
  | [d1, d2] => { results := [.lit (.bool true)], args := [d1, d2] }
  | _ => none }
def forestEmptyRow : OpenClaim := { program := "ytikklmjengkliaadoor", sum := "2e6654ec4a43ac6eb97d920884a7383b65aa078593cbdecef9dba18a5b905b2e", func := "canopy/canopykeep.ForestEmpty", spec := "forestEmpty", inPlace := ["internal/bytealg.Compare", "slices.overlaps[canopy/api.Pair]", "slices.overlaps[canopy/api.Tenant]"], unfollowed := true, recurses := true, named := ["canopy/digest.goes", "canopy/digest.turns", "canopy/digest.rounds"], apart := false, laid := [("canopy/digest.rounds", laid_canopy_digest_rounds), ("canopy/digest.goes", laid_canopy_digest_goes), ("canopy/digest.turns", laid_canopy_digest_turns)] }
def ForestEmptySaid : Prop := forestEmptyRow.holds Tryd.pinned (OpenSpec.ofChange forestEmptySpec)

/-- ITS FALSE NEIGHBOUR: 'it returns false'. Refute it at one input. -/
def forestEmptyWrong : ChangeSpec := { name := "forestEmpty", fn := fun _ => fun
  | [d1, d2] => { results := [.lit (.bool false)], args := [d1, d2] }
  | _ => none }
def ForestEmptyWrongFalsely : Prop := forestEmptyRow.holds Tryd.pinned (OpenSpec.ofChange forestEmptyWrong)

/-- 'canopykeep.RootNames': WHATEVER THE INPUT: true; the input reads as it did. -/
def rootNamesSpec : ChangeSpec := { name := "rootNames", fn := fun _ => fun
  | [d] => { results := [.lit (.bool true)], args := [d] }
  | _ => none }
def rootNamesRow : OpenClaim := { program := "ytikklmjengkliaadoor", sum := "2e6654ec4a43ac6eb97d920884a7383b65aa078593cbdecef9dba18a5b905b2e", func := "canopy/canopykeep.RootNames", spec := "rootNames", inPlace := ["internal/bytealg.Compare", "slices.overlaps[canopy/api.Pair]", "slices.overlaps[canopy/api.Tenant]"], unfollowed := true, recurses := true, named := ["canopy/digest.goes", "canopy/digest.turns", "canopy/digest.rounds"], apart := false, laid := [("canopy/digest.rounds", laid_canopy_digest_rounds), ("canopy/digest.goes", laid_canopy_digest_goes), ("canopy/digest.turns", laid_canopy_digest_turns)] }
def RootNamesSaid : Prop := rootNamesRow.holds Tryd.pinned (OpenSpec.ofChange rootNamesSpec)

/-- ITS FALSE NEIGHBOUR: 'it returns false'. Refute it at one input. -/
def rootNamesWrong : ChangeSpec := { name := "rootNames", fn := fun _ => fun
  | [d] => { results := [.lit (.bool false)], args := [d] }
  | _ => none }
def RootNamesWrongFalsely : Prop := rootNamesRow.holds Tryd.pinned (OpenSpec.ofChange rootNamesWrong)

/-- 'canopykeep.ForestHolds': WHATEVER THE INPUT: true; the input reads as it did. -/
def forestHoldsSpec : ChangeSpec := { name := "forestHolds", fn := fun _ => fun
  | [d1, d2] => { results := [.lit (.bool true)], args := [d1, d2] }
  | _ => none }
def forestHoldsRow : OpenClaim := { program := "ytikklmjengkliaadoor", sum := "2e6654ec4a43ac6eb97d920884a7383b65aa078593cbdecef9dba18a5b905b2e", func := "canopy/canopykeep.ForestHolds", spec := "forestHolds", inPlace := ["internal/bytealg.Compare", "slices.overlaps[canopy/api.Pair]", "slices.overlaps[canopy/api.Tenant]"], unfollowed := true, recurses := true, named := ["canopy/digest.goes", "canopy/digest.turns", "canopy/digest.rounds"], apart := false, laid := [("canopy/digest.rounds", laid_canopy_digest_rounds), ("canopy/digest.goes", laid_canopy_digest_goes), ("canopy/digest.turns", laid_canopy_digest_turns)] }
def ForestHoldsSaid : Prop := forestHoldsRow.holds Tryd.pinned (OpenSpec.ofChange forestHoldsSpec)

/-- ITS FALSE NEIGHBOUR: 'it returns false'. Refute it at one input. -/
def forestHoldsWrong : ChangeSpec := { name := "forestHolds", fn := fun _ => fun
  | [d1, d2] => { results := [.lit (.bool false)], args := [d1, d2] }
  | _ => none }
def ForestHoldsWrongFalsely : Prop := forestHoldsRow.holds Tryd.pinned (OpenSpec.ofChange forestHoldsWrong)

/-- 'canopykeep.ForestApart': WHATEVER THE INPUT: true; the input reads as it did. -/
def forestApartSpec : ChangeSpec := { name := "forestApart", fn := fun _ => fun
  | [d1, d2, d3] => { results := [.lit (.bool true)], args := [d1, d2, d3] }
  | _ => none }
def forestApartRow : OpenClaim := { program := "ytikklmjengkliaadoor", sum := "2e6654ec4a43ac6eb97d920884a7383b65aa078593cbdecef9dba18a5b905b2e", func := "canopy/canopykeep.ForestApart", spec := "forestApart", inPlace := ["internal/bytealg.Compare", "slices.overlaps[canopy/api.Pair]", "slices.overlaps[canopy/api.Tenant]"], unfollowed := true, recurses := true, named := ["canopy/digest.goes", "canopy/digest.turns", "canopy/digest.rounds"], apart := false, laid := [("canopy/digest.rounds", laid_canopy_digest_rounds), ("canopy/digest.goes", laid_canopy_digest_goes), ("canopy/digest.turns", laid_canopy_digest_turns)] }
def ForestApartSaid : Prop := forestApartRow.holds Tryd.pinned (OpenSpec.ofChange forestApartSpec)

/-- ITS FALSE NEIGHBOUR: 'it returns false'. Refute it at one input. -/
def forestApartWrong : ChangeSpec := { name := "forestApart", fn := fun _ => fun
  | [d1, d2, d3] => { results := [.lit (.bool false)], args := [d1, d2, d3] }
  | _ => none }
def ForestApartWrongFalsely : Prop := forestApartRow.holds Tryd.pinned (OpenSpec.ofChange forestApartWrong)

/-- 'canopykeep.FoldCut': WHATEVER THE INPUT: true; the input reads as it did. -/
def foldCutSpec : ChangeSpec := { name := "foldCut", fn := fun _ => fun
  | [d1, d2, d3] => { results := [.lit (.bool true)], args := [d1, d2, d3] }
  | _ => none }
def foldCutRow : OpenClaim := { program := "ytikklmjengkliaadoor", sum := "2e6654ec4a43ac6eb97d920884a7383b65aa078593cbdecef9dba18a5b905b2e", func := "canopy/canopykeep.FoldCut", spec := "foldCut", inPlace := ["internal/bytealg.Compare", "slices.overlaps[canopy/api.Pair]", "slices.overlaps[canopy/api.Tenant]"], unfollowed := true, recurses := true, named := ["canopy/digest.goes", "canopy/digest.turns", "canopy/digest.rounds"], apart := false, laid := [("canopy/digest.rounds", laid_canopy_digest_rounds), ("canopy/digest.goes", laid_canopy_digest_goes), ("canopy/digest.turns", laid_canopy_digest_turns)] }
def FoldCutSaid : Prop := foldCutRow.holds Tryd.pinned (OpenSpec.ofChange foldCutSpec)

/-- ITS FALSE NEIGHBOUR: 'it returns false'. Refute it at one input. -/
def foldCutWrong : ChangeSpec := { name := "foldCut", fn := fun _ => fun
  | [d1, d2, d3] => { results := [.lit (.bool false)], args := [d1, d2, d3] }
  | _ => none }
def FoldCutWrongFalsely : Prop := foldCutRow.holds Tryd.pinned (OpenSpec.ofChange foldCutWrong)

/-- 'canopykeep.TapeMany': WHATEVER THE INPUT: true; the input reads as it did. -/
def tapeManySpec : ChangeSpec := { name := "tapeMany", fn := fun _ => fun
  | [d] => { results := [.lit (.bool true)], args := [d] }
  | _ => none }
def tapeManyRow : OpenClaim := { program := "ytikklmjengkliaadoor", sum := "2e6654ec4a43ac6eb97d920884a7383b65aa078593cbdecef9dba18a5b905b2e", func := "canopy/canopykeep.TapeMany", spec := "tapeMany", inPlace := ["internal/bytealg.Compare", "slices.overlaps[canopy/api.Pair]", "slices.overlaps[canopy/api.Tenant]"], unfollowed := true, recurses := true, named := ["canopy/digest.goes", "canopy/digest.turns", "canopy/digest.rounds"], apart := false, laid := [("canopy/digest.rounds", laid_canopy_digest_rounds), ("canopy/digest.goes", laid_canopy_digest_goes), ("canopy/digest.turns", laid_canopy_digest_turns)] }
def TapeManySaid : Prop := tapeManyRow.holds Tryd.pinned (OpenSpec.ofChange tapeManySpec)

/-- ITS FALSE NEIGHBOUR: 'it returns false'. Refute it at one input. -/
def tapeManyWrong : ChangeSpec := { name := "tapeMany", fn := fun _ => fun
  | [d] => { results := [.lit (.bool false)], args := [d] }
  | _ => none }
def TapeManyWrongFalsely : Prop := tapeManyRow.holds Tryd.pinned (OpenSpec.ofChange tapeManyWrong)

/-- 'canopykeep.TapeBack': WHATEVER THE INPUT: true; the input reads as it did. -/
def tapeBackSpec : ChangeSpec := { name := "tapeBack", fn := fun _ => fun
  | [d] => { results := [.lit (.bool true)], args := [d] }
  | _ => none }
def tapeBackRow : OpenClaim := { program := "ytikklmjengkliaadoor", sum := "2e6654ec4a43ac6eb97d920884a7383b65aa078593cbdecef9dba18a5b905b2e", func := "canopy/canopykeep.TapeBack", spec := "tapeBack", inPlace := ["internal/bytealg.Compare", "slices.overlaps[canopy/api.Pair]", "slices.overlaps[canopy/api.Tenant]"], unfollowed := true, recurses := true, named := ["canopy/digest.goes", "canopy/digest.turns", "canopy/digest.rounds"], apart := false, laid := [("canopy/digest.rounds", laid_canopy_digest_rounds), ("canopy/digest.goes", laid_canopy_digest_goes), ("canopy/digest.turns", laid_canopy_digest_turns)] }
def TapeBackSaid : Prop := tapeBackRow.holds Tryd.pinned (OpenSpec.ofChange tapeBackSpec)

/-- ITS FALSE NEIGHBOUR: 'it returns false'. Refute it at one input. -/
def tapeBackWrong : ChangeSpec := { name := "tapeBack", fn := fun _ => fun
  | [d] => { results := [.lit (.bool false)], args := [d] }
  | _ => none }
def TapeBackWrongFalsely : Prop := tapeBackRow.holds Tryd.pinned (OpenSpec.ofChange tapeBackWrong)

/-- 'canopykeep.TapeTorn': WHATEVER THE INPUT: true; the input reads as it did. -/
def tapeTornSpec : ChangeSpec := { name := "tapeTorn", fn := fun _ => fun
  | [d1, d2, d3] => { results := [.lit (.bool true)], args := [d1, d2, d3] }
  | _ => none }
def tapeTornRow : OpenClaim := { program := "ytikklmjengkliaadoor", sum := "2e6654ec4a43ac6eb97d920884a7383b65aa078593cbdecef9dba18a5b905b2e", func := "canopy/canopykeep.TapeTorn", spec := "tapeTorn", inPlace := ["internal/bytealg.Compare", "slices.overlaps[canopy/api.Pair]", "slices.overlaps[canopy/api.Tenant]"], unfollowed := true, recurses := true, named := ["canopy/digest.goes", "canopy/digest.turns", "canopy/digest.rounds"], apart := false, laid := [("canopy/digest.rounds", laid_canopy_digest_rounds), ("canopy/digest.goes", laid_canopy_digest_goes), ("canopy/digest.turns", laid_canopy_digest_turns)] }
def TapeTornSaid : Prop := tapeTornRow.holds Tryd.pinned (OpenSpec.ofChange tapeTornSpec)

/-- ITS FALSE NEIGHBOUR: 'it returns false'. Refute it at one input. -/
def tapeTornWrong : ChangeSpec := { name := "tapeTorn", fn := fun _ => fun
  | [d1, d2, d3] => { results := [.lit (.bool false)], args := [d1, d2, d3] }
  | _ => none }
def TapeTornWrongFalsely : Prop := tapeTornRow.holds Tryd.pinned (OpenSpec.ofChange tapeTornWrong)

/-- 'canopykeep.TapeTurns': WHATEVER THE INPUT: true; the input reads as it did. -/
def tapeTurnsSpec : ChangeSpec := { name := "tapeTurns", fn := fun _ => fun
  | [d1, d2, d3] => { results := [.lit (.bool true)], args := [d1, d2, d3] }
  | _ => none }
def tapeTurnsRow : OpenClaim := { program := "ytikklmjengkliaadoor", sum := "2e6654ec4a43ac6eb97d920884a7383b65aa078593cbdecef9dba18a5b905b2e", func := "canopy/canopykeep.TapeTurns", spec := "tapeTurns", inPlace := ["internal/bytealg.Compare", "slices.overlaps[canopy/api.Pair]", "slices.overlaps[canopy/api.Tenant]"], unfollowed := true, recurses := true, named := ["canopy/digest.goes", "canopy/digest.turns", "canopy/digest.rounds"], apart := false, laid := [("canopy/digest.rounds", laid_canopy_digest_rounds), ("canopy/digest.goes", laid_canopy_digest_goes), ("canopy/digest.turns", laid_canopy_digest_turns)] }
def TapeTurnsSaid : Prop := tapeTurnsRow.holds Tryd.pinned (OpenSpec.ofChange tapeTurnsSpec)

/-- ITS FALSE NEIGHBOUR: 'it returns false'. Refute it at one input. -/
def tapeTurnsWrong : ChangeSpec := { name := "tapeTurns", fn := fun _ => fun
  | [d1, d2, d3] => { results := [.lit (.bool false)], args := [d1, d2, d3] }
  | _ => none }
def TapeTurnsWrongFalsely : Prop := tapeTurnsRow.holds Tryd.pinned (OpenSpec.ofChange tapeTurnsWrong)

/-- 'canopykeep.TapeOn': WHATEVER THE INPUT: true; the input reads as it did. -/
def tapeOnSpec : ChangeSpec := { name := "tapeOn", fn := fun _ => fun
  | [d1, d2, d3] => { results := [.lit (.bool true)], args := [d1, d2, d3] }
  | _ => none }
def tapeOnRow : OpenClaim := { program := "ytikklmjengkliaadoor", sum := "2e6654ec4a43ac6eb97d920884a7383b65aa078593cbdecef9dba18a5b905b2e", func := "canopy/canopykeep.TapeOn", spec := "tapeOn", inPlace := ["internal/bytealg.Compare", "slices.overlaps[canopy/api.Pair]", "slices.overlaps[canopy/api.Tenant]"], unfollowed := true, recurses := true, named := ["canopy/digest.goes", "canopy/digest.turns", "canopy/digest.rounds"], apart := false, laid := [("canopy/digest.rounds", laid_canopy_digest_rounds), ("canopy/digest.goes", laid_canopy_digest_goes), ("canopy/digest.turns", laid_canopy_digest_turns)] }
def TapeOnSaid : Prop := tapeOnRow.holds Tryd.pinned (OpenSpec.ofChange tapeOnSpec)

/-- ITS FALSE NEIGHBOUR: 'it returns false'. Refute it at one input. -/
def tapeOnWrong : ChangeSpec := { name := "tapeOn", fn := fun _ => fun
  | [d1, d2, d3] => { results := [.lit (.bool false)], args := [d1, d2, d3] }
  | _ => none }
def TapeOnWrongFalsely : Prop := tapeOnRow.holds Tryd.pinned (OpenSpec.ofChange tapeOnWrong)

/-- 'canopykeep.TapeKeeps': WHATEVER THE INPUT: true; the input reads as it did. -/
def tapeKeepsSpec : ChangeSpec := { name := "tapeKeeps", fn := fun _ => fun
  | [d1, d2, d3] => { results := [.lit (.bool true)], args := [d1, d2, d3] }
  | _ => none }
def tapeKeepsRow : OpenClaim := { program := "ytikklmjengkliaadoor", sum := "2e6654ec4a43ac6eb97d920884a7383b65aa078593cbdecef9dba18a5b905b2e", func := "canopy/canopykeep.TapeKeeps", spec := "tapeKeeps", inPlace := ["internal/bytealg.Compare", "slices.overlaps[canopy/api.Pair]", "slices.overlaps[canopy/api.Tenant]"], unfollowed := true, recurses := true, named := ["canopy/digest.goes", "canopy/digest.turns", "canopy/digest.rounds"], apart := false, laid := [("canopy/digest.rounds", laid_canopy_digest_rounds), ("canopy/digest.goes", laid_canopy_digest_goes), ("canopy/digest.turns", laid_canopy_digest_turns)] }
def TapeKeepsSaid : Prop := tapeKeepsRow.holds Tryd.pinned (OpenSpec.ofChange tapeKeepsSpec)

/-- ITS FALSE NEIGHBOUR: 'it returns false'. Refute it at one input. -/
def tapeKeepsWrong : ChangeSpec := { name := "tapeKeeps", fn := fun _ => fun
  | [d1, d2, d3] => { results := [.lit (.bool false)], args := [d1, d2, d3] }
  | _ => none }
def TapeKeepsWrongFalsely : Prop := tapeKeepsRow.holds Tryd.pinned (OpenSpec.ofChange tapeKeepsWrong)

/- THE SECOND FORM. 'bulk': how many values and letters a reading holds, each counted each time it is reached (what is shared counts as often as it is met; a slice's spare places count too). A statement '..UptoSaid' is the law's where the arguments, and the package variables that the reading takes, are together of bulk at most 1048576: NARROWER than '..Said'. Prove '..Said' where nothing that the law and all that it calls make is longer than what came in: it says more and counts as full. Else prove '..UptoSaid'. A law counts once. -/
mutual
def uptoBulk {H : Type} : DataW H → Nat
  | .lit (.string bytes) => bytes.length + 1
  | .lit _ => 1
  | .nil => 1
  | .ptr d => uptoBulk d + 1
  | .slice elems spare => uptoBulkAll elems + uptoBulkAll spare + 1
  | .agg parts => uptoBulkAll parts + 1
  | .iface _ d => uptoBulk d + 1
  | .map entries => uptoBulkEntries entries + 1
  | .held _ => 1
def uptoBulkAll {H : Type} : List (DataW H) → Nat
  | [] => 0
  | d :: r => uptoBulk d + uptoBulkAll r
def uptoBulkEntries {H : Type} : List (Lit × DataW H) → Nat
  | [] => 0
  | x :: r => uptoBulkEntry x + uptoBulkEntries r
def uptoBulkEntry {H : Type} : Lit × DataW H → Nat
  | (.string bytes, d) => bytes.length + uptoBulk d + 1
  | (_, d) => uptoBulk d + 1
 end
def uptoSmall : (H : Type) → List (DataW H) → Bool := fun _ ds => decide (uptoBulkAll ds ≤ 1048576)
def OpenSpec.upto (s : _root_.Go.ChangeSpec) : _root_.Go.OpenSpec := { _root_.Go.OpenSpec.ofChange s with cond := some uptoSmall }

/-- 'canopykeep.ForestEmpty', WHERE WHAT IT READS IS OF BULK AT MOST 1048576: true; the input reads as it did. -/
def forestEmptyUptoRow : OpenClaim := { program := "ytikklmjengkliaadoor", sum := "2e6654ec4a43ac6eb97d920884a7383b65aa078593cbdecef9dba18a5b905b2e", func := "canopy/canopykeep.ForestEmpty", spec := "forestEmpty", inPlace := ["internal/bytealg.Compare", "slices.overlaps[canopy/api.Pair]", "slices.overlaps[canopy/api.Tenant]"], unfollowed := true, recurses := true, named := ["canopy/digest.goes", "canopy/digest.turns", "canopy/digest.rounds"], apart := false, laid := [("canopy/digest.rounds", laid_canopy_digest_rounds), ("canopy/digest.goes", laid_canopy_digest_goes), ("canopy/digest.turns", laid_canopy_digest_turns)], narrowed := true }
def ForestEmptyUptoSaid : Prop := forestEmptyUptoRow.holds Tryd.pinned (OpenSpec.upto forestEmptySpec)

/-- 'canopykeep.RootNames', WHERE WHAT IT READS IS OF BULK AT MOST 1048576: true; the input reads as it did. -/
def rootNamesUptoRow : OpenClaim := { program := "ytikklmjengkliaadoor", sum := "2e6654ec4a43ac6eb97d920884a7383b65aa078593cbdecef9dba18a5b905b2e", func := "canopy/canopykeep.RootNames", spec := "rootNames", inPlace := ["internal/bytealg.Compare", "slices.overlaps[canopy/api.Pair]", "slices.overlaps[canopy/api.Tenant]"], unfollowed := true, recurses := true, named := ["canopy/digest.goes", "canopy/digest.turns", "canopy/digest.rounds"], apart := false, laid := [("canopy/digest.rounds", laid_canopy_digest_rounds), ("canopy/digest.goes", laid_canopy_digest_goes), ("canopy/digest.turns", laid_canopy_digest_turns)], narrowed := true }
def RootNamesUptoSaid : Prop := rootNamesUptoRow.holds Tryd.pinned (OpenSpec.upto rootNamesSpec)

/-- 'canopykeep.ForestHolds', WHERE WHAT IT READS IS OF BULK AT MOST 1048576: true; the input reads as it did. -/
def forestHoldsUptoRow : OpenClaim := { program := "ytikklmjengkliaadoor", sum := "2e6654ec4a43ac6eb97d920884a7383b65aa078593cbdecef9dba18a5b905b2e", func := "canopy/canopykeep.ForestHolds", spec := "forestHolds", inPlace := ["internal/bytealg.Compare", "slices.overlaps[canopy/api.Pair]", "slices.overlaps[canopy/api.Tenant]"], unfollowed := true, recurses := true, named := ["canopy/digest.goes", "canopy/digest.turns", "canopy/digest.rounds"], apart := false, laid := [("canopy/digest.rounds", laid_canopy_digest_rounds), ("canopy/digest.goes", laid_canopy_digest_goes), ("canopy/digest.turns", laid_canopy_digest_turns)], narrowed := true }
def ForestHoldsUptoSaid : Prop := forestHoldsUptoRow.holds Tryd.pinned (OpenSpec.upto forestHoldsSpec)

/-- 'canopykeep.ForestApart', WHERE WHAT IT READS IS OF BULK AT MOST 1048576: true; the input reads as it did. -/
def forestApartUptoRow : OpenClaim := { program := "ytikklmjengkliaadoor", sum := "2e6654ec4a43ac6eb97d920884a7383b65aa078593cbdecef9dba18a5b905b2e", func := "canopy/canopykeep.ForestApart", spec := "forestApart", inPlace := ["internal/bytealg.Compare", "slices.overlaps[canopy/api.Pair]", "slices.overlaps[canopy/api.Tenant]"], unfollowed := true, recurses := true, named := ["canopy/digest.goes", "canopy/digest.turns", "canopy/digest.rounds"], apart := false, laid := [("canopy/digest.rounds", laid_canopy_digest_rounds), ("canopy/digest.goes", laid_canopy_digest_goes), ("canopy/digest.turns", laid_canopy_digest_turns)], narrowed := true }
def ForestApartUptoSaid : Prop := forestApartUptoRow.holds Tryd.pinned (OpenSpec.upto forestApartSpec)

/-- 'canopykeep.FoldCut', WHERE WHAT IT READS IS OF BULK AT MOST 1048576: true; the input reads as it did. -/
def foldCutUptoRow : OpenClaim := { program := "ytikklmjengkliaadoor", sum := "2e6654ec4a43ac6eb97d920884a7383b65aa078593cbdecef9dba18a5b905b2e", func := "canopy/canopykeep.FoldCut", spec := "foldCut", inPlace := ["internal/bytealg.Compare", "slices.overlaps[canopy/api.Pair]", "slices.overlaps[canopy/api.Tenant]"], unfollowed := true, recurses := true, named := ["canopy/digest.goes", "canopy/digest.turns", "canopy/digest.rounds"], apart := false, laid := [("canopy/digest.rounds", laid_canopy_digest_rounds), ("canopy/digest.goes", laid_canopy_digest_goes), ("canopy/digest.turns", laid_canopy_digest_turns)], narrowed := true }
def FoldCutUptoSaid : Prop := foldCutUptoRow.holds Tryd.pinned (OpenSpec.upto foldCutSpec)

/-- 'canopykeep.TapeMany', WHERE WHAT IT READS IS OF BULK AT MOST 1048576: true; the input reads as it did. -/
def tapeManyUptoRow : OpenClaim := { program := "ytikklmjengkliaadoor", sum := "2e6654ec4a43ac6eb97d920884a7383b65aa078593cbdecef9dba18a5b905b2e", func := "canopy/canopykeep.TapeMany", spec := "tapeMany", inPlace := ["internal/bytealg.Compare", "slices.overlaps[canopy/api.Pair]", "slices.overlaps[canopy/api.Tenant]"], unfollowed := true, recurses := true, named := ["canopy/digest.goes", "canopy/digest.turns", "canopy/digest.rounds"], apart := false, laid := [("canopy/digest.rounds", laid_canopy_digest_rounds), ("canopy/digest.goes", laid_canopy_digest_goes), ("canopy/digest.turns", laid_canopy_digest_turns)], narrowed := true }
def TapeManyUptoSaid : Prop := tapeManyUptoRow.holds Tryd.pinned (OpenSpec.upto tapeManySpec)

/-- 'canopykeep.TapeBack', WHERE WHAT IT READS IS OF BULK AT MOST 1048576: true; the input reads as it did. -/
def tapeBackUptoRow : OpenClaim := { program := "ytikklmjengkliaadoor", sum := "2e6654ec4a43ac6eb97d920884a7383b65aa078593cbdecef9dba18a5b905b2e", func := "canopy/canopykeep.TapeBack", spec := "tapeBack", inPlace := ["internal/bytealg.Compare", "slices.overlaps[canopy/api.Pair]", "slices.overlaps[canopy/api.Tenant]"], unfollowed := true, recurses := true, named := ["canopy/digest.goes", "canopy/digest.turns", "canopy/digest.rounds"], apart := false, laid := [("canopy/digest.rounds", laid_canopy_digest_rounds), ("canopy/digest.goes", laid_canopy_digest_goes), ("canopy/digest.turns", laid_canopy_digest_turns)], narrowed := true }
def TapeBackUptoSaid : Prop := tapeBackUptoRow.holds Tryd.pinned (OpenSpec.upto tapeBackSpec)

/-- 'canopykeep.TapeTorn', WHERE WHAT IT READS IS OF BULK AT MOST 1048576: true; the input reads as it did. -/
def tapeTornUptoRow : OpenClaim := { program := "ytikklmjengkliaadoor", sum := "2e6654ec4a43ac6eb97d920884a7383b65aa078593cbdecef9dba18a5b905b2e", func := "canopy/canopykeep.TapeTorn", spec := "tapeTorn", inPlace := ["internal/bytealg.Compare", "slices.overlaps[canopy/api.Pair]", "slices.overlaps[canopy/api.Tenant]"], unfollowed := true, recurses := true, named := ["canopy/digest.goes", "canopy/digest.turns", "canopy/digest.rounds"], apart := false, laid := [("canopy/digest.rounds", laid_canopy_digest_rounds), ("canopy/digest.goes", laid_canopy_digest_goes), ("canopy/digest.turns", laid_canopy_digest_turns)], narrowed := true }
def TapeTornUptoSaid : Prop := tapeTornUptoRow.holds Tryd.pinned (OpenSpec.upto tapeTornSpec)

/-- 'canopykeep.TapeTurns', WHERE WHAT IT READS IS OF BULK AT MOST 1048576: true; the input reads as it did. -/
def tapeTurnsUptoRow : OpenClaim := { program := "ytikklmjengkliaadoor", sum := "2e6654ec4a43ac6eb97d920884a7383b65aa078593cbdecef9dba18a5b905b2e", func := "canopy/canopykeep.TapeTurns", spec := "tapeTurns", inPlace := ["internal/bytealg.Compare", "slices.overlaps[canopy/api.Pair]", "slices.overlaps[canopy/api.Tenant]"], unfollowed := true, recurses := true, named := ["canopy/digest.goes", "canopy/digest.turns", "canopy/digest.rounds"], apart := false, laid := [("canopy/digest.rounds", laid_canopy_digest_rounds), ("canopy/digest.goes", laid_canopy_digest_goes), ("canopy/digest.turns", laid_canopy_digest_turns)], narrowed := true }
def TapeTurnsUptoSaid : Prop := tapeTurnsUptoRow.holds Tryd.pinned (OpenSpec.upto tapeTurnsSpec)

/-- 'canopykeep.TapeOn', WHERE WHAT IT READS IS OF BULK AT MOST 1048576: true; the input reads as it did. -/
def tapeOnUptoRow : OpenClaim := { program := "ytikklmjengkliaadoor", sum := "2e6654ec4a43ac6eb97d920884a7383b65aa078593cbdecef9dba18a5b905b2e", func := "canopy/canopykeep.TapeOn", spec := "tapeOn", inPlace := ["internal/bytealg.Compare", "slices.overlaps[canopy/api.Pair]", "slices.overlaps[canopy/api.Tenant]"], unfollowed := true, recurses := true, named := ["canopy/digest.goes", "canopy/digest.turns", "canopy/digest.rounds"], apart := false, laid := [("canopy/digest.rounds", laid_canopy_digest_rounds), ("canopy/digest.goes", laid_canopy_digest_goes), ("canopy/digest.turns", laid_canopy_digest_turns)], narrowed := true }
def TapeOnUptoSaid : Prop := tapeOnUptoRow.holds Tryd.pinned (OpenSpec.upto tapeOnSpec)

/-- 'canopykeep.TapeKeeps', WHERE WHAT IT READS IS OF BULK AT MOST 1048576: true; the input reads as it did. -/
def tapeKeepsUptoRow : OpenClaim := { program := "ytikklmjengkliaadoor", sum := "2e6654ec4a43ac6eb97d920884a7383b65aa078593cbdecef9dba18a5b905b2e", func := "canopy/canopykeep.TapeKeeps", spec := "tapeKeeps", inPlace := ["internal/bytealg.Compare", "slices.overlaps[canopy/api.Pair]", "slices.overlaps[canopy/api.Tenant]"], unfollowed := true, recurses := true, named := ["canopy/digest.goes", "canopy/digest.turns", "canopy/digest.rounds"], apart := false, laid := [("canopy/digest.rounds", laid_canopy_digest_rounds), ("canopy/digest.goes", laid_canopy_digest_goes), ("canopy/digest.turns", laid_canopy_digest_turns)], narrowed := true }
def TapeKeepsUptoSaid : Prop := tapeKeepsUptoRow.holds Tryd.pinned (OpenSpec.upto tapeKeepsSpec)

end Rows
end Go.Proofs.YtikklmjengkliaaDoor
