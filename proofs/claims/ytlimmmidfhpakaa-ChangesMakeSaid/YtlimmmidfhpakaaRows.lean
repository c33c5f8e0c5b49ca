/-
  No cell of these rows narrows 'for every input' (looked for: loops, veiled, ifaces, maps, wideKeys, modest, calm, conditions, laid).
  DERIVED. THE GIVEN ROWS OF THIS SEAT. 3 by the template 'for every input the law returns true; each argument reads behind the call as it read before'; 0 by the template 'total and deterministic' (their statements: YtlimmmidfhpakaaTotals.lean).
  GIVEN WITH THE SEED: the statements are not yours to turn. If you find one false, say at which input.
  Laid BY PROGRAM, IN A SANDBOX (cutbox-rows.mjs): the forced cells as the released guide's own fill.sh prints them over the translation 86032014991528dc… (all of the seat's roots in one cut). By AI agents, Wed Nov 11 2026. No macro, syntax, notation, axiom, sorry.
-/
import Derived.Test.YtlimmmidfhpakaaChecked
import GoSem.Claim
import GoSem.ClaimJoined
import GoSem.ClaimMapViews
import Derived.JoinedTies
import Derived.KernelRfl
namespace Go.Proofs.Ytlimmmidfhpakaa
/- THE CELL 'sum', in the pinned program and in every row, IS THE sha256 OF THE DUMP (.gsa) THAT YtlimmmidfhpakaaProg.lean LOADS. Nothing in Lean hashes anything: it is a label: what it is worth is what the hold of that sum in a sandbox is worth. -/
noncomputable def Try.pinned : Pinned := { name := "ytlimmmidfhpakaa", sum := "86032014991528dc10d2f08d40c2cc3e3bb812c6f86dfd64c49700b3cb8cfae1", checked := Try.checked }
namespace Rows
def none {H : Type} : Left H := { results := [], args := [] }

/-- 'canopykeep.GetModel': WHATEVER THE INPUT: true; the input reads as it did. -/
def getModelSpec : ChangeSpec := { name := "getModel", fn := fun _ => fun
  | [d] => { results := [.lit (.bool true)], args := [d] }
  | _ => none }
def getModelRow : OpenClaim := { program := "ytlimmmidfhpakaa", sum := "86032014991528dc10d2f08d40c2cc3e3bb812c6f86dfd64c49700b3cb8cfae1", func := "canopy/canopykeep.GetModel", spec := "getModel", inPlace := ["internal/bytealg.Compare", "slices.overlaps[canopy/api.Pair]"], unfollowed := true, recurses := true, apart := false }
def GetModelSaid : Prop := getModelRow.holds Try.pinned (OpenSpec.ofChange getModelSpec)

/-- ITS FALSE NEIGHBOUR: 'it returns false'. Refute it at one input. -/
def getModelWrong : ChangeSpec := { name := "getModel", fn := fun _ => fun
  | [d] => { results := [.lit (.bool false)], args := [d] }
  | _ => none }
def GetModelWrongFalsely : Prop := getModelRow.holds Try.pinned (OpenSpec.ofChange getModelWrong)

/-- 'canopykeep.ChangesBack': WHATEVER THE INPUT: true; the input reads as it did. -/
def changesBackSpec : ChangeSpec := { name := "changesBack", fn := fun _ => fun
  | [d1, d2, d3] => { results := [.lit (.bool true)], args := [d1, d2, d3] }
  | _ => none }
def changesBackRow : OpenClaim := { program := "ytlimmmidfhpakaa", sum := "86032014991528dc10d2f08d40c2cc3e3bb812c6f86dfd64c49700b3cb8cfae1", func := "canopy/canopykeep.ChangesBack", spec := "changesBack", inPlace := ["internal/bytealg.Compare", "slices.overlaps[canopy/api.Pair]", "slices.overlaps[canopy/api.Tenant]"], unfollowed := true, recurses := true, apart := false }
def ChangesBackSaid : Prop := changesBackRow.holds Try.pinned (OpenSpec.ofChange changesBackSpec)

/-- ITS FALSE NEIGHBOUR: 'it returns false'. Refute it at one input. -/
def changesBackWrong : ChangeSpec := { name := "changesBack", fn := fun _ => fun
  | [d1, d2, d3] => { results := [.lit (.bool false)], args := [d1, d2, d3] }
  | _ => none }
def ChangesBackWrongFalsely : Prop := changesBackRow.holds Try.pinned (OpenSpec.ofChange changesBackWrong)

/-- 'canopykeep.ChangesMake': WHATEVER THE INPUT: true; the input reads as it did. -/
def changesMakeSpec : ChangeSpec := { name := "changesMake", fn := fun _ => fun
  | [d1, d2, d3] => { results := [.lit (.bool true)], args := [d1, d2, d3] }
  | _ => none }
def changesMakeRow : OpenClaim := { program := "ytlimmmidfhpakaa", sum := "86032014991528dc10d2f08d40c2cc3e3bb812c6f86dfd64c49700b3cb8cfae1", func := "canopy/canopykeep.ChangesMake", spec := "changesMake", inPlace := ["internal/bytealg.Compare", "slices.overlaps[canopy/api.Pair]", "slices.overlaps[canopy/api.Tenant]"], unfollowed := true, recurses := true, apart := false }
def ChangesMakeSaid : Prop := changesMakeRow.holds Try.pinned (OpenSpec.ofChange changesMakeSpec)

/-- ITS FALSE NEIGHBOUR: 'it returns false'. Refute it at one input. -/
def changesMakeWrong : ChangeSpec := { name := "changesMake", fn := fun _ => fun
  | [d1, d2, d3] => { results := [.lit (.bool false)], args := [d1, d2, d3] }
  | _ => none }
def ChangesMakeWrongFalsely : Prop := changesMakeRow.holds Try.pinned (OpenSpec.ofChange changesMakeWrong)

/- THE SECOND FORM. 'bulk': how many values and letters a reading holds, each counted each time it is reached (what is shared counts as often as it is met; a slice's spare places count too). A statement '..UptoSaid' is the law's where the arguments, and the package variables that the reading takes, are together of bulk at most 1048576: NARROWER than '..Said'. Prove '..Said' where nothing that the law and all that it calls make is longer than what came in: it says more and counts as full. Else prove '..UptoSaid'. A law counts once. -/
mutual
def uptoBulk {H : Type} : DataW H → Nat
  | .lit (.string bytes) => bytes.length + 1
  | .lit _ => 1
  | .nil => 1
  | .ptr d => uptoBulk d + 1
  | .slice elems spare => uptoBulkAll elems + uptoBulkAll spare + 1
  | .agg parts => uptoBulkAll parts + 1
  | .iface _ d => uptoBulk d + 1
  | .map entries => uptoBulkEntries entries + 1
  | .held _ => 1
def uptoBulkAll {H : Type} : List (DataW H) → Nat
  | [] => 0
  | d :: r => uptoBulk d + uptoBulkAll r
def uptoBulkEntries {H : Type} : List (Lit × DataW H) → Nat
  | [] => 0
  | x :: r => uptoBulkEntry x + uptoBulkEntries r
def uptoBulkEntry {H : Type} : Lit × DataW H → Nat
  | (.string bytes, d) => bytes.length + uptoBulk d + 1
  | (_, d) => uptoBulk d + 1
 end
def uptoSmall : (H : Type) → List (DataW H) → Bool := fun _ ds => decide (uptoBulkAll ds ≤ 1048576)
def OpenSpec.upto (s : _root_.Go.ChangeSpec) : _root_.Go.OpenSpec := { _root_.Go.OpenSpec.ofChange s with cond := some uptoSmall }

/-- 'canopykeep.GetModel', WHERE WHAT IT READS IS OF BULK AT MOST 1048576: true; the input reads as it did. -/
def getModelUptoRow : OpenClaim := { program := "ytlimmmidfhpakaa", sum := "86032014991528dc10d2f08d40c2cc3e3bb812c6f86dfd64c49700b3cb8cfae1", func := "canopy/canopykeep.GetModel", spec := "getModel", inPlace := ["internal/bytealg.Compare", "slices.overlaps[canopy/api.Pair]"], unfollowed := true, recurses := true, apart := false, narrowed := true }
def GetModelUptoSaid : Prop := getModelUptoRow.holds Try.pinned (OpenSpec.upto getModelSpec)

/-- 'canopykeep.ChangesBack', WHERE WHAT IT READS IS OF BULK AT MOST 1048576: true; the input reads as it did. -/
def changesBackUptoRow : OpenClaim := { program := "ytlimmmidfhpakaa", sum := "86032014991528dc10d2f08d40c2cc3e3bb812c6f86dfd64c49700b3cb8cfae1", func := "canopy/canopykeep.ChangesBack", spec := "changesBack", inPlace := ["internal/bytealg.Compare", "slices.overlaps[canopy/api.Pair]", "slices.overlaps[canopy/api.Tenant]"], unfollowed := true, recurses := true, apart := false, narrowed := true }
def ChangesBackUptoSaid : Prop := changesBackUptoRow.holds Try.pinned (OpenSpec.upto changesBackSpec)

/-- 'canopykeep.ChangesMake', WHERE WHAT IT READS IS OF BULK AT MOST 1048576: true; the input reads as it did. -/
def changesMakeUptoRow : OpenClaim := { program := "ytlimmmidfhpakaa", sum := "86032014991528dc10d2f08d40c2cc3e3bb812c6f86dfd64c49700b3cb8cfae1", func := "canopy/canopykeep.ChangesMake", spec := "changesMake", inPlace := ["internal/bytealg.Compare", "slices.overlaps[canopy/api.Pair]", "slices.overlaps[canopy/api.Tenant]"], unfollowed := true, recurses := true, apart := false, narrowed := true }
def ChangesMakeUptoSaid : Prop := changesMakeUptoRow.holds Try.pinned (OpenSpec.upto changesMakeSpec)

end Rows
end Go.Proofs.Ytlimmmidfhpakaa
