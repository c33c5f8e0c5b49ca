/-
  NARROWER THAN 'FOR EVERY INPUT', by the rows' own cells (each row's printed sentence says how): KnownSums: laid · SumLong: laid · PartsMade: laid · RootMade: laid · RootSides: laid · PairsOrder: laid · RootSame: laid · ProveHolds: laid · ProveAll: laid · ProofParts: laid · ProofElse: laid · ProofForm: laid.
  DERIVED. THE GIVEN ROWS OF THIS SEAT. 12 by the template 'for every input the law returns true; each argument reads behind the call as it read before'; 0 by the template 'total and deterministic' (their statements: YtcanckliggcllaaDoorTotals.lean).
  GIVEN WITH THE SEED: the statements are not yours to turn. If you find one false, say at which input.
  Laid BY PROGRAM, IN A SANDBOX (cutbox-rows.mjs): the forced cells as the released guide's own fill.sh prints them over the translation fd4242413592de45… (all of the seat's roots in one cut). By AI agents, Wed Nov 11 2026. No macro, syntax, notation, axiom, sorry.
-/
import Derived.Test.YtcanckliggcllaaDoorChecked
import GoSem.Claim
import GoSem.ClaimJoined
import GoSem.ClaimMapViews
import Derived.JoinedTies
import Derived.KernelRfl
namespace Go.Proofs.YtcanckliggcllaaDoor
/- THE CELL 'sum', in the pinned program and in every row, IS THE sha256 OF THE DUMP (.gsa) THAT YtcanckliggcllaaDoorProg.lean LOADS. Nothing in Lean hashes anything: it is a label: what it is worth is what the hold of that sum in a sandbox is worth. -/
noncomputable def Tryd.pinned : Pinned := { name := "ytcanckliggcllaadoor", sum := "fd4242413592de45682f490c77f3525a48db0700b5d6caaf6e725dacc9317f10", checked := Tryd.checked }
namespace Rows
def none {H : Type} : Left H := { results := [], args := [] }

/- WHAT THE LISTED PACKAGE-LEVEL VARIABLES READ AS WHEN THE CALL BEGINS. Each datum BY PROGRAM (the guide's laid-datum.mjs) off the statement by which the dump's own 'gosem.cut.vars' lays the variable. In a bare row this is a premise. The card (YtcanckliggcllaaDoorCards.lean) ties it to the program's text. -/
def laid_canopy_digest_rounds {H : Type} : DataW H := .agg [.lit (.int .u64 1), .lit (.int .u64 32898), .lit (.int .u64 9223372036854808714), .lit (.int .u64 9223372039002292224), .lit (.int .u64 32907), .lit (.int .u64 2147483649), .lit (.int .u64 9223372039002292353), .lit (.int .u64 9223372036854808585), .lit (.int .u64 138), .lit (.int .u64 136), .lit (.int .u64 2147516425), .lit (.int .u64 2147483658), .lit (.int .u64 2147516555), .lit (.int .u64 9223372036854775947), .lit (.int .u64 9223372036854808713), .lit (.int .u64 9223372036854808579), .lit (.int .u64 9223372036854808578), .lit (.int .u64 9223372036854775936), .lit (.int .u64 32778), .lit (.int .u64 9223372039002259466), .lit (.int .u64 9223372039002292353), .lit (.int .u64 9223372036854808704), .lit (.int .u64 2147483649), .lit (.int .u64 9223372039002292232)]
def laid_canopy_digest_goes {H : Type} : DataW H := .agg [.lit (.int .i64 10), .lit (.int .i64 7), .lit (.int .i64 11), .lit (.int .i64 17), .lit (.int .i64 18), .lit (.int .i64 3), .lit (.int .i64 5), .lit (.int .i64 16), .lit (.int .i64 8), .lit (.int .i64 21), .lit (.int .i64 24), .lit (.int .i64 4), .lit (.int .i64 15), .lit (.int .i64 23), .lit (.int .i64 19), .lit (.int .i64 13), .lit (.int .i64 12), .lit (.int .i64 2), .lit (.int .i64 20), .lit (.int .i64 14), .lit (.int .i64 22), .lit (.int .i64 9), .lit (.int .i64 6), .lit (.int .i64 1)]
def laid_canopy_digest_turns {H : Type} : DataW H := .agg [.lit (.int .i64 1), .lit (.int .i64 3), .lit (.int .i64 6), .lit (.int .i64 10), .lit (.int .i64 15), .lit (.int .i64 21), .lit (.int .i64 28), .lit (.int .i64 36), .lit (.int .i64 45), .lit (.int .i64 55), .lit (.int .i64 2), .lit (.int .i64 14), .lit (.int .i64 27), .lit (.int .i64 41), .lit (.int .i64 56), .lit (.int .i64 8), .lit (.int .i64 25), .lit (.int .i64 43), .lit (.int .i64 62), .lit (.int .i64 18), .lit (.int .i64 39), .lit (.int .i64 61), .lit (.int .i64 20), .lit (.int .i64 44)]

/-- 'canopykeep.KnownSums': WHATEVER THE INPUT: true; the input reads as it did. -/
def knownSumsSpec : ChangeSpec := { name := "knownSums", fn := fun _ => fun
  | [] => { results := [.lit (.bool true)], args := [] }
  | _ => none }
def knownSumsRow : OpenClaim := { program := "ytcanckliggcllaadoor", sum := "fd4242413592de45682f490c77f3525a48db0700b5d6caaf6e725dacc9317f10", func := "canopy/canopykeep.KnownSums", spec := "knownSums", named := ["canopy/digest.goes", "canopy/digest.turns", "canopy/digest.rounds"], apart := false, laid := [("canopy/digest.rounds", laid_canopy_digest_rounds), ("canopy/digest.goes", laid_canopy_digest_goes), ("canopy/digest.turns", laid_canopy_digest_turns)] }
def KnownSumsSaid : Prop := knownSumsRow.holds Tryd.pinned (OpenSpec.ofChange knownSumsSpec)

/-- ITS FALSE NEIGHBOUR: 'it returns false'. Refute it at one input. -/
def knownSumsWrong : ChangeSpec := { name := "knownSums", fn := fun _ => fun
  | [] => { results := [.lit (.bool false)], args := [] }
  | _ => none }
def KnownSumsWrongFalsely : Prop := knownSumsRow.holds Tryd.pinned (OpenSpec.ofChange knownSumsWrong)

/-- 'canopykeep.SumLong': WHATEVER THE INPUT: true; the input reads as it did. -/
def sumLongSpec : ChangeSpec := { name := "sumLong", fn := fun _ => fun
  | [d1, d2] => { results := [.lit (.bool true)], args := [d1, d2] }
  | _ => none }
def sumLongRow : OpenClaim := { program := "ytcanckliggcllaadoor", sum := "fd4242413592de45682f490c77f3525a48db0700b5d6caaf6e725dacc9317f10", func := "canopy/canopykeep.SumLong", spec := "sumLong", named := ["canopy/digest.goes", "canopy/digest.turns", "canopy/digest.rounds"], apart := false, laid := [("canopy/digest.rounds", laid_canopy_digest_rounds), ("canopy/digest.goes", laid_canopy_digest_goes), ("canopy/digest.turns", laid_canopy_digest_turns)] }
def SumLongSaid : Prop := sumLongRow.holds Tryd.pinned (OpenSpec.ofChange sumLongSpec)

/-- ITS FALSE NEIGHBOUR: 'it returns false'. Refute it at one input. -/
def sumLongWrong : ChangeSpec := { name := "sumLong", fn := fun _ => fun
  | [d1, d2] => { results := [.lit (.bool false)], args := [d1, d2] }
  | _ => none }
def SumLongWrongFalsely : Prop := sumLongRow.holds Tryd.pinned (OpenSpec.ofChange sumLongWrong)

/-- 'canopykeep.PartsMade': WHATEVER THE INPUT: true; the input reads as it did. -/
def partsMadeSpec : ChangeSpec := { name := "partsMade", fn := fun _ => fun
  | [d1, d2, d3] => { results := [.lit (.bool true)], args := [d1, d2, d3] }
  | _ => none }
def partsMadeRow : OpenClaim := { program := "ytcanckliggcllaadoor", sum := "fd4242413592de45682f490c77f3525a48db0700b5d6caaf6e725dacc9317f10", func := "canopy/canopykeep.PartsMade", spec := "partsMade", named := ["canopy/digest.goes", "canopy/digest.turns", "canopy/digest.rounds"], apart := false, laid := [("canopy/digest.rounds", laid_canopy_digest_rounds), ("canopy/digest.goes", laid_canopy_digest_goes), ("canopy/digest.turns", laid_canopy_digest_turns)] }
def PartsMadeSaid : Prop := partsMadeRow.holds Tryd.pinned (OpenSpec.ofChange partsMadeSpec)

/-- ITS FALSE NEIGHBOUR: 'it returns false'. Refute it at one input. -/
def partsMadeWrong : ChangeSpec := { name := "partsMade", fn := fun _ => fun
  | [d1, d2, d3] => { results := [.lit (.bool false)], args := [d1, d2, d3] }
  | _ => none }
def PartsMadeWrongFalsely : Prop := partsMadeRow.holds Tryd.pinned (OpenSpec.ofChange partsMadeWrong)

/-- 'canopykeep.RootMade': WHATEVER THE INPUT: true; the input reads as it did. -/
def rootMadeSpec : ChangeSpec := { name := "rootMade", fn := fun _ => fun
  | [d1, d2] => { results := [.lit (.bool true)], args := [d1, d2] }
  | _ => none }
def rootMadeRow : OpenClaim := { program := "ytcanckliggcllaadoor", sum := "fd4242413592de45682f490c77f3525a48db0700b5d6caaf6e725dacc9317f10", func := "canopy/canopykeep.RootMade", spec := "rootMade", inPlace := ["internal/bytealg.Compare"], recurses := true, named := ["canopy/digest.goes", "canopy/digest.turns", "canopy/digest.rounds"], apart := false, laid := [("canopy/digest.rounds", laid_canopy_digest_rounds), ("canopy/digest.goes", laid_canopy_digest_goes), ("canopy/digest.turns", laid_canopy_digest_turns)] }
def RootMadeSaid : Prop := rootMadeRow.holds Tryd.pinned (OpenSpec.ofChange rootMadeSpec)

/-- ITS FALSE NEIGHBOUR: 'it returns false'. Refute it at one input. -/
def rootMadeWrong : ChangeSpec := { name := "rootMade", fn := fun _ => fun
  | [d1, d2] => { results := [.lit (.bool false)], args := [d1, d2] }
  | _ => none }
def RootMadeWrongFalsely : Prop := rootMadeRow.holds Tryd.pinned (OpenSpec.ofChange rootMadeWrong)

/-- 'canopykeep.RootSides': WHATEVER THE INPUT: true; the input reads as it did. -/
def rootSidesSpec : ChangeSpec := { name := "rootSides", fn := fun _ => fun
  | [d] => { results := [.lit (.bool true)], args := [d] }
  | _ => none }
def rootSidesRow : OpenClaim := { program := "ytcanckliggcllaadoor", sum := "fd4242413592de45682f490c77f3525a48db0700b5d6caaf6e725dacc9317f10", func := "canopy/canopykeep.RootSides", spec := "rootSides", inPlace := ["internal/bytealg.Compare"], recurses := true, named := ["canopy/digest.goes", "canopy/digest.turns", "canopy/digest.rounds"], apart := false, laid := [("canopy/digest.rounds", laid_canopy_digest_rounds), ("canopy/digest.goes", laid_canopy_digest_goes), ("canopy/digest.turns", laid_canopy_digest_turns)] }
def RootSidesSaid : Prop := rootSidesRow.holds Tryd.pinned (OpenSpec.ofChange rootSidesSpec)

/-- ITS FALSE NEIGHBOUR: 'it returns false'. Refute it at one input. -/
def rootSidesWrong : ChangeSpec := { name := "rootSides", fn := fun _ => fun
  | [d] => { results := [.lit (.bool false)], args := [d] }
  | _ => none }
def RootSidesWrongFalsely : Prop := rootSidesRow.holds Tryd.pinned (OpenSpec.ofChange rootSidesWrong)

/-- 'canopykeep.PairsOrder': WHATEVER THE INPUT: true; the input reads as it did. -/
def pairsOrderSpec : ChangeSpec := { name := "pairsOrder", fn := fun _ => fun
  | [d1, d2] => { results := [.lit (.bool true)], args := [d1, d2] }
  | _ => none }
def pairsOrderRow : OpenClaim := { program := "ytcanckliggcllaadoor", sum := "fd4242413592de45682f490c77f3525a48db0700b5d6caaf6e725dacc9317f10", func := "canopy/canopykeep.PairsOrder", spec := "pairsOrder", inPlace := ["internal/bytealg.Compare"], unfollowed := true, recurses := true, named := ["canopy/digest.goes", "canopy/digest.turns", "canopy/digest.rounds"], apart := false, laid := [("canopy/digest.rounds", laid_canopy_digest_rounds), ("canopy/digest.goes", laid_canopy_digest_goes), ("canopy/digest.turns", laid_canopy_digest_turns)] }
def PairsOrderSaid : Prop := pairsOrderRow.holds Tryd.pinned (OpenSpec.ofChange pairsOrderSpec)

/-- ITS FALSE NEIGHBOUR: 'it returns false'. Refute it at one input. -/
def pairsOrderWrong : ChangeSpec := { name := "pairsOrder", fn := fun _ => fun
  | [d1, d2] => { results := [.lit (.bool false)], args := [d1, d2] }
  | _ => none }
def PairsOrderWrongFalsely : Prop := pairsOrderRow.holds Tryd.pinned (OpenSpec.ofChange pairsOrderWrong)

/-- 'canopykeep.RootSame': WHATEVER THE INPUT: true; the input reads as it did. -/
def rootSameSpec : ChangeSpec := { name := "rootSame", fn := fun _ => fun
  | [d1, d2, d3] => { results := [.lit (.bool true)], args := [d1, d2, d3] }
  | _ => none }
def rootSameRow : OpenClaim := { program := "ytcanckliggcllaadoor", sum := "fd4242413592de45682f490c77f3525a48db0700b5d6caaf6e725dacc9317f10", func := "canopy/canopykeep.RootSame", spec := "rootSame", inPlace := ["internal/bytealg.Compare", "slices.overlaps[canopy/api.Pair]"], unfollowed := true, recurses := true, named := ["canopy/digest.goes", "canopy/digest.turns", "canopy/digest.rounds"], apart := false, laid := [("canopy/digest.rounds", laid_canopy_digest_rounds), ("canopy/digest.goes", laid_canopy_digest_goes), ("canopy/digest.turns", laid_canopy_digest_turns)] }
def RootSameSaid : Prop := rootSameRow.holds Tryd.pinned (OpenSpec.ofChange rootSameSpec)

/-- ITS FALSE NEIGHBOUR: 'it returns false'. Refute it at one input. -/
def rootSameWrong : ChangeSpec := { name := "rootSame", fn := fun _ => fun
  | [d1, d2, d3] => { results := [.lit (.bool false)], args := [d1, d2, d3] }
  | _ => none }
def RootSameWrongFalsely : Prop := rootSameRow.holds Tryd.pinned (OpenSpec.ofChange rootSameWrong)

/-- 'canopykeep.ProveHolds': WHATEVER THE INPUT: true; the input reads as it did. -/
def proveHoldsSpec : ChangeSpec := { name := "proveHolds", fn := fun _ => fun
  | [d1, d2] => { results := [.lit (.bool true)], args := [d1, d2] }
  | _ => none }
def proveHoldsRow : OpenClaim := { program := "ytcanckliggcllaadoor", sum := "fd4242413592de45682f490c77f3525a48db0700b5d6caaf6e725dacc9317f10", func := "canopy/canopykeep.ProveHolds", spec := "proveHolds", inPlace := ["internal/bytealg.Compare"], unfollowed := true, recurses := true, named := ["canopy/digest.goes", "canopy/digest.turns", "canopy/digest.rounds"], apart := false, laid := [("canopy/digest.rounds", laid_canopy_digest_rounds), ("canopy/digest.goes", laid_canopy_digest_goes), ("canopy/digest.turns", laid_canopy_digest_turns)] }
def ProveHoldsSaid : Prop := proveHoldsRow.holds Tryd.pinned (OpenSpec.ofChange proveHoldsSpec)

/-- ITS FALSE NEIGHBOUR: 'it returns false'. Refute it at one input. -/
def proveHoldsWrong : ChangeSpec := { name := "proveHolds", fn := fun _ => fun
  | [d1, d2] => { results := [.lit (.bool false)], args := [d1, d2] }
  | _ => none }
def ProveHoldsWrongFalsely : Prop := proveHoldsRow.holds Tryd.pinned (OpenSpec.ofChange proveHoldsWrong)

/-- 'canopykeep.ProveAll': WHATEVER THE INPUT: true; the input reads as it did. -/
def proveAllSpec : ChangeSpec := { name := "proveAll", fn := fun _ => fun
  | [d] => { results := [.lit (.bool true)], args := [d] }
  | _ => none }
def proveAllRow : OpenClaim := { program := "ytcanckliggcllaadoor", sum := "fd4242413592de45682f490c77f3525a48db0700b5d6caaf6e725dacc9317f10", func := "canopy/canopykeep.ProveAll", spec := "proveAll", inPlace := ["internal/bytealg.Compare"], unfollowed := true, recurses := true, named := ["canopy/digest.goes", "canopy/digest.turns", "canopy/digest.rounds"], apart := false, laid := [("canopy/digest.rounds", laid_canopy_digest_rounds), ("canopy/digest.goes", laid_canopy_digest_goes), ("canopy/digest.turns", laid_canopy_digest_turns)] }
def ProveAllSaid : Prop := proveAllRow.holds Tryd.pinned (OpenSpec.ofChange proveAllSpec)

/-- ITS FALSE NEIGHBOUR: 'it returns false'. Refute it at one input. -/
def proveAllWrong : ChangeSpec := { name := "proveAll", fn := fun _ => fun
  | [d] => { results := [.lit (.bool false)], args := [d] }
  | _ => none }
def ProveAllWrongFalsely : Prop := proveAllRow.holds Tryd.pinned (OpenSpec.ofChange proveAllWrong)

/-- 'canopykeep.ProofParts': WHATEVER THE INPUT: true; the input reads as it did. -/
def proofPartsSpec : ChangeSpec := { name := "proofParts", fn := fun _ => fun
  | [d1, d2] => { results := [.lit (.bool true)], args := [d1, d2] }
  | _ => none }
def proofPartsRow : OpenClaim := { program := "ytcanckliggcllaadoor", sum := "fd4242413592de45682f490c77f3525a48db0700b5d6caaf6e725dacc9317f10", func := "canopy/canopykeep.ProofParts", spec := "proofParts", inPlace := ["internal/bytealg.Compare"], unfollowed := true, recurses := true, named := ["canopy/digest.goes", "canopy/digest.turns", "canopy/digest.rounds"], apart := false, laid := [("canopy/digest.rounds", laid_canopy_digest_rounds), ("canopy/digest.goes", laid_canopy_digest_goes), ("canopy/digest.turns", laid_canopy_digest_turns)] }
def ProofPartsSaid : Prop := proofPartsRow.holds Tryd.pinned (OpenSpec.ofChange proofPartsSpec)

/-- ITS FALSE NEIGHBOUR: 'it returns false'. Refute it at one input. -/
def proofPartsWrong : ChangeSpec := { name := "proofParts", fn := fun _ => fun
  | [d1, d2] => { results := [.lit (.bool false)], args := [d1, d2] }
  | _ => none }
def ProofPartsWrongFalsely : Prop := proofPartsRow.holds Tryd.pinned (OpenSpec.ofChange proofPartsWrong)

/-- 'canopykeep.ProofElse': WHATEVER THE INPUT: true; the input reads as it did. -/
def proofElseSpec : ChangeSpec := { name := "proofElse", fn := fun _ => fun
  | [d1, d2, d3] => { results := [.lit (.bool true)], args := [d1, d2, d3] }
  | _ => none }
def proofElseRow : OpenClaim := { program := "ytcanckliggcllaadoor", sum := "fd4242413592de45682f490c77f3525a48db0700b5d6caaf6e725dacc9317f10", func := "canopy/canopykeep.ProofElse", spec := "proofElse", inPlace := ["internal/bytealg.Compare"], unfollowed := true, recurses := true, named := ["canopy/digest.goes", "canopy/digest.turns", "canopy/digest.rounds"], apart := false, laid := [("canopy/digest.rounds", laid_canopy_digest_rounds), ("canopy/digest.goes", laid_canopy_digest_goes), ("canopy/digest.turns", laid_canopy_digest_turns)] }
def ProofElseSaid : Prop := proofElseRow.holds Tryd.pinned (OpenSpec.ofChange proofElseSpec)

/-- ITS FALSE NEIGHBOUR: 'it returns false'. Refute it at one input. -/
def proofElseWrong : ChangeSpec := { name := "proofElse", fn := fun _ => fun
  | [d1, d2, d3] => { results := [.lit (.bool false)], args := [d1, d2, d3] }
  | _ => none }
def ProofElseWrongFalsely : Prop := proofElseRow.holds Tryd.pinned (OpenSpec.ofChange proofElseWrong)

/-- 'canopykeep.ProofForm': WHATEVER THE INPUT: true; the input reads as it did. -/
def proofFormSpec : ChangeSpec := { name := "proofForm", fn := fun _ => fun
  | [d1, d2, d3] => { results := [.lit (.bool true)], args := [d1, d2, d3] }
  | _ => none }
def proofFormRow : OpenClaim := { program := "ytcanckliggcllaadoor", sum := "fd4242413592de45682f490c77f3525a48db0700b5d6caaf6e725dacc9317f10", func := "canopy/canopykeep.ProofForm", spec := "proofForm", inPlace := ["internal/bytealg.Compare"], unfollowed := true, recurses := true, named := ["canopy/digest.goes", "canopy/digest.turns", "canopy/digest.rounds"], apart := false, laid := [("canopy/digest.rounds", laid_canopy_digest_rounds), ("canopy/digest.goes", laid_canopy_digest_goes), ("canopy/digest.turns", laid_canopy_digest_turns)] }
def ProofFormSaid : Prop := proofFormRow.holds Tryd.pinned (OpenSpec.ofChange proofFormSpec)

/-- ITS FALSE NEIGHBOUR: 'it returns false'. Refute it at one input. -/
def proofFormWrong : ChangeSpec := { name := "proofForm", fn := fun _ => fun
  | [d1, d2, d3] => { results := [.lit (.bool false)], args := [d1, d2, d3] }
  | _ => none }
def ProofFormWrongFalsely : Prop := proofFormRow.holds Tryd.pinned (OpenSpec.ofChange proofFormWrong)

/- THE SECOND FORM. 'bulk': how many values and letters a reading holds, each counted each time it is reached (what is shared counts as often as it is met; a slice's spare places count too). A statement '..UptoSaid' is the law's where the arguments, and the package variables that the reading takes, are together of bulk at most 1048576: NARROWER than '..Said'. Prove '..Said' where nothing that the law and all that it calls make is longer than what came in: it says more and counts as full. Else prove '..UptoSaid'. A law counts once. -/
mutual
def uptoBulk {H : Type} : DataW H → Nat
  | .lit (.string bytes) => bytes.length + 1
  | .lit _ => 1
  | .nil => 1
  | .ptr d => uptoBulk d + 1
  | .slice elems spare => uptoBulkAll elems + uptoBulkAll spare + 1
  | .agg parts => uptoBulkAll parts + 1
  | .iface _ d => uptoBulk d + 1
  | .map entries => uptoBulkEntries entries + 1
  | .held _ => 1
def uptoBulkAll {H : Type} : List (DataW H) → Nat
  | [] => 0
  | d :: r => uptoBulk d + uptoBulkAll r
def uptoBulkEntries {H : Type} : List (Lit × DataW H) → Nat
  | [] => 0
  | x :: r => uptoBulkEntry x + uptoBulkEntries r
def uptoBulkEntry {H : Type} : Lit × DataW H → Nat
  | (.string bytes, d) => bytes.length + uptoBulk d + 1
  | (_, d) => uptoBulk d + 1
 end
def uptoSmall : (H : Type) → List (DataW H) → Bool := fun _ ds => decide (uptoBulkAll ds ≤ 1048576)
def OpenSpec.upto (s : _root_.Go.ChangeSpec) : _root_.Go.OpenSpec := { _root_.Go.OpenSpec.ofChange s with cond := some uptoSmall }

/-- 'canopykeep.KnownSums', WHERE WHAT IT READS IS OF BULK AT MOST 1048576: true; the input reads as it did. -/
def knownSumsUptoRow : OpenClaim := { program := "ytcanckliggcllaadoor", sum := "fd4242413592de45682f490c77f3525a48db0700b5d6caaf6e725dacc9317f10", func := "canopy/canopykeep.KnownSums", spec := "knownSums", named := ["canopy/digest.goes", "canopy/digest.turns", "canopy/digest.rounds"], apart := false, laid := [("canopy/digest.rounds", laid_canopy_digest_rounds), ("canopy/digest.goes", laid_canopy_digest_goes), ("canopy/digest.turns", laid_canopy_digest_turns)], narrowed := true }
def KnownSumsUptoSaid : Prop := knownSumsUptoRow.holds Tryd.pinned (OpenSpec.upto knownSumsSpec)

/-- 'canopykeep.SumLong', WHERE WHAT IT READS IS OF BULK AT MOST 1048576: true; the input reads as it did. -/
def sumLongUptoRow : OpenClaim := { program := "ytcanckliggcllaadoor", sum := "fd4242413592de45682f490c77f3525a48db0700b5d6caaf6e725dacc9317f10", func := "canopy/canopykeep.SumLong", spec := "sumLong", named := ["canopy/digest.goes", "canopy/digest.turns", "canopy/digest.rounds"], apart := false, laid := [("canopy/digest.rounds", laid_canopy_digest_rounds), ("canopy/digest.goes", laid_canopy_digest_goes), ("canopy/digest.turns", laid_canopy_digest_turns)], narrowed := true }
def SumLongUptoSaid : Prop := sumLongUptoRow.holds Tryd.pinned (OpenSpec.upto sumLongSpec)

/-- 'canopykeep.PartsMade', WHERE WHAT IT READS IS OF BULK AT MOST 1048576: true; the input reads as it did. -/
def partsMadeUptoRow : OpenClaim := { program := "ytcanckliggcllaadoor", sum := "fd4242413592de45682f490c77f3525a48db0700b5d6caaf6e725dacc9317f10", func := "canopy/canopykeep.PartsMade", spec := "partsMade", named := ["canopy/digest.goes", "canopy/digest.turns", "canopy/digest.rounds"], apart := false, laid := [("canopy/digest.rounds", laid_canopy_digest_rounds), ("canopy/digest.goes", laid_canopy_digest_goes), ("canopy/digest.turns", laid_canopy_digest_turns)], narrowed := true }
def PartsMadeUptoSaid : Prop := partsMadeUptoRow.holds Tryd.pinned (OpenSpec.upto partsMadeSpec)

/-- 'canopykeep.RootMade', WHERE WHAT IT READS IS OF BULK AT MOST 1048576: true; the input reads as it did. -/
def rootMadeUptoRow : OpenClaim := { program := "ytcanckliggcllaadoor", sum := "fd4242413592de45682f490c77f3525a48db0700b5d6caaf6e725dacc9317f10", func := "canopy/canopykeep.RootMade", spec := "rootMade", inPlace := ["internal/bytealg.Compare"], recurses := true, named := ["canopy/digest.goes", "canopy/digest.turns", "canopy/digest.rounds"], apart := false, laid := [("canopy/digest.rounds", laid_canopy_digest_rounds), ("canopy/digest.goes", laid_canopy_digest_goes), ("canopy/digest.turns", laid_canopy_digest_turns)], narrowed := true }
def RootMadeUptoSaid : Prop := rootMadeUptoRow.holds Tryd.pinned (OpenSpec.upto rootMadeSpec)

/-- 'canopykeep.RootSides', WHERE WHAT IT READS IS OF BULK AT MOST 1048576: true; the input reads as it did. -/
def rootSidesUptoRow : OpenClaim := { program := "ytcanckliggcllaadoor", sum := "fd4242413592de45682f490c77f3525a48db0700b5d6caaf6e725dacc9317f10", func := "canopy/canopykeep.RootSides", spec := "rootSides", inPlace := ["internal/bytealg.Compare"], recurses := true, named := ["canopy/digest.goes", "canopy/digest.turns", "canopy/digest.rounds"], apart := false, laid := [("canopy/digest.rounds", laid_canopy_digest_rounds), ("canopy/digest.goes", laid_canopy_digest_goes), ("canopy/digest.turns", laid_canopy_digest_turns)], narrowed := true }
def RootSidesUptoSaid : Prop := rootSidesUptoRow.holds Tryd.pinned (OpenSpec.upto rootSidesSpec)

/-- 'canopykeep.PairsOrder', WHERE WHAT IT READS IS OF BULK AT MOST 1048576: true; the input reads as it did. -/
def pairsOrderUptoRow : OpenClaim := { program := "ytcanckliggcllaadoor", sum := "fd4242413592de45682f490c77f3525a48db0700b5d6caaf6e725dacc9317f10", func := "canopy/canopykeep.PairsOrder", spec := "pairsOrder", inPlace := ["internal/bytealg.Compare"], unfollowed := true, recurses := true, named := ["canopy/digest.goes", "canopy/digest.turns", "canopy/digest.rounds"], apart := false, laid := [("canopy/digest.rounds", laid_canopy_digest_rounds), ("canopy/digest.goes", laid_canopy_digest_goes), ("canopy/digest.turns", laid_canopy_digest_turns)], narrowed := true }
def PairsOrderUptoSaid : Prop := pairsOrderUptoRow.holds Tryd.pinned (OpenSpec.upto pairsOrderSpec)

/-- 'canopykeep.RootSame', WHERE WHAT IT READS IS OF BULK AT MOST 1048576: true; the input reads as it did. -/
def rootSameUptoRow : OpenClaim := { program := "ytcanckliggcllaadoor", sum := "fd4242413592de45682f490c77f3525a48db0700b5d6caaf6e725dacc9317f10", func := "canopy/canopykeep.RootSame", spec := "rootSame", inPlace := ["internal/bytealg.Compare", "slices.overlaps[canopy/api.Pair]"], unfollowed := true, recurses := true, named := ["canopy/digest.goes", "canopy/digest.turns", "canopy/digest.rounds"], apart := false, laid := [("canopy/digest.rounds", laid_canopy_digest_rounds), ("canopy/digest.goes", laid_canopy_digest_goes), ("canopy/digest.turns", laid_canopy_digest_turns)], narrowed := true }
def RootSameUptoSaid : Prop := rootSameUptoRow.holds Tryd.pinned (OpenSpec.upto rootSameSpec)

/-- 'canopykeep.ProveHolds', WHERE WHAT IT READS IS OF BULK AT MOST 1048576: true; the input reads as it did. -/
def proveHoldsUptoRow : OpenClaim := { program := "ytcanckliggcllaadoor", sum := "fd4242413592de45682f490c77f3525a48db0700b5d6caaf6e725dacc9317f10", func := "canopy/canopykeep.ProveHolds", spec := "proveHolds", inPlace := ["internal/bytealg.Compare"], unfollowed := true, recurses := true, named := ["canopy/digest.goes", "canopy/digest.turns", "canopy/digest.rounds"], apart := false, laid := [("canopy/digest.rounds", laid_canopy_digest_rounds), ("canopy/digest.goes", laid_canopy_digest_goes), ("canopy/digest.turns", laid_canopy_digest_turns)], narrowed := true }
def ProveHoldsUptoSaid : Prop := proveHoldsUptoRow.holds Tryd.pinned (OpenSpec.upto proveHoldsSpec)

/-- 'canopykeep.ProveAll', WHERE WHAT IT READS IS OF BULK AT MOST 1048576: true; the input reads as it did. -/
def proveAllUptoRow : OpenClaim := { program := "ytcanckliggcllaadoor", sum := "fd4242413592de45682f490c77f3525a48db0700b5d6caaf6e725dacc9317f10", func := "canopy/canopykeep.ProveAll", spec := "proveAll", inPlace := ["internal/bytealg.Compare"], unfollowed := true, recurses := true, named := ["canopy/digest.goes", "canopy/digest.turns", "canopy/digest.rounds"], apart := false, laid := [("canopy/digest.rounds", laid_canopy_digest_rounds), ("canopy/digest.goes", laid_canopy_digest_goes), ("canopy/digest.turns", laid_canopy_digest_turns)], narrowed := true }
def ProveAllUptoSaid : Prop := proveAllUptoRow.holds Tryd.pinned (OpenSpec.upto proveAllSpec)

/-- 'canopykeep.ProofParts', WHERE WHAT IT READS IS OF BULK AT MOST 1048576: true; the input reads as it did. -/
def proofPartsUptoRow : OpenClaim := { program := "ytcanckliggcllaadoor", sum := "fd4242413592de45682f490c77f3525a48db0700b5d6caaf6e725dacc9317f10", func := "canopy/canopykeep.ProofParts", spec := "proofParts", inPlace := ["internal/bytealg.Compare"], unfollowed := true, recurses := true, named := ["canopy/digest.goes", "canopy/digest.turns", "canopy/digest.rounds"], apart := false, laid := [("canopy/digest.rounds", laid_canopy_digest_rounds), ("canopy/digest.goes", laid_canopy_digest_goes), ("canopy/digest.turns", laid_canopy_digest_turns)], narrowed := true }
def ProofPartsUptoSaid : Prop := proofPartsUptoRow.holds Tryd.pinned (OpenSpec.upto proofPartsSpec)

/-- 'canopykeep.ProofElse', WHERE WHAT IT READS IS OF BULK AT MOST 1048576: true; the input reads as it did. -/
def proofElseUptoRow : OpenClaim := { program := "ytcanckliggcllaadoor", sum := "fd4242413592de45682f490c77f3525a48db0700b5d6caaf6e725dacc9317f10", func := "canopy/canopykeep.ProofElse", spec := "proofElse", inPlace := ["internal/bytealg.Compare"], unfollowed := true, recurses := true, named := ["canopy/digest.goes", "canopy/digest.turns", "canopy/digest.rounds"], apart := false, laid := [("canopy/digest.rounds", laid_canopy_digest_rounds), ("canopy/digest.goes", laid_canopy_digest_goes), ("canopy/digest.turns", laid_canopy_digest_turns)], narrowed := true }
def ProofElseUptoSaid : Prop := proofElseUptoRow.holds Tryd.pinned (OpenSpec.upto proofElseSpec)

/-- 'canopykeep.ProofForm', WHERE WHAT IT READS IS OF BULK AT MOST 1048576: true; the input reads as it did. -/
def proofFormUptoRow : OpenClaim := { program := "ytcanckliggcllaadoor", sum := "fd4242413592de45682f490c77f3525a48db0700b5d6caaf6e725dacc9317f10", func := "canopy/canopykeep.ProofForm", spec := "proofForm", inPlace := ["internal/bytealg.Compare"], unfollowed := true, recurses := true, named := ["canopy/digest.goes", "canopy/digest.turns", "canopy/digest.rounds"], apart := false, laid := [("canopy/digest.rounds", laid_canopy_digest_rounds), ("canopy/digest.goes", laid_canopy_digest_goes), ("canopy/digest.turns", laid_canopy_digest_turns)], narrowed := true }
def ProofFormUptoSaid : Prop := proofFormUptoRow.holds Tryd.pinned (OpenSpec.upto proofFormSpec)

end Rows
end Go.Proofs.YtcanckliggcllaaDoor
