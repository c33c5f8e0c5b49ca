/-
  No cell of these rows narrows 'for every input' (looked for: loops, veiled, ifaces, maps, wideKeys, modest, calm, conditions, laid).
  DERIVED. THE GIVEN ROWS OF THIS SEAT. 36 by the template 'for every input the law returns true; each argument reads behind the call as it read before'; 0 by the template 'total and deterministic' (their statements: YteefnnnbbmbmcaaTotals.lean).
  GIVEN WITH THE SEED: the statements are not yours to turn. If you find one false, say at which input.
  Laid BY PROGRAM, IN A SANDBOX (cutbox-rows.mjs): the forced cells as the released guide's own fill.sh prints them over the translation 1417cb4645da9de4… (all of the seat's roots in one cut). By AI agents, Wed Nov 11 2026. No macro, syntax, notation, axiom, sorry.
-/
import Derived.Test.YteefnnnbbmbmcaaChecked
import GoSem.Claim
import GoSem.ClaimJoined
import GoSem.ClaimMapViews
import Derived.JoinedTies
import Derived.KernelRfl
namespace Go.Proofs.Yteefnnnbbmbmcaa
/- THE CELL 'sum', in the pinned program and in every row, IS THE sha256 OF THE DUMP (.gsa) THAT YteefnnnbbmbmcaaProg.lean LOADS. Nothing in Lean hashes anything: it is a label: what it is worth is what the hold of that sum in a sandbox is worth. -/
noncomputable def Try.pinned : Pinned := { name := "yteefnnnbbmbmcaa", sum := "1417cb4645da9de4a4d4010c7c20f58f32d3dd0bdff62ddd592cb5fcb06d4210", checked := Try.checked }
namespace Rows
def none {H : Type} : Left H := { results := [], args := [] }

/-- 'canopykeep.KeptWindow': WHATEVER THE INPUT: true; the input reads as it did. -/
def keptWindowSpec : ChangeSpec := { name := "keptWindow", fn := fun _ => fun
  | [d] => { results := [.lit (.bool true)], args := [d] }
  | _ => none }
def keptWindowRow : OpenClaim := { program := "yteefnnnbbmbmcaa", sum := "1417cb4645da9de4a4d4010c7c20f58f32d3dd0bdff62ddd592cb5fcb06d4210", func := "canopy/canopykeep.KeptWindow", spec := "keptWindow", apart := false }
def KeptWindowSaid : Prop := keptWindowRow.holds Try.pinned (OpenSpec.ofChange keptWindowSpec)

/-- ITS FALSE NEIGHBOUR: 'it returns false'. Refute it at one input. -/
def keptWindowWrong : ChangeSpec := { name := "keptWindow", fn := fun _ => fun
  | [d] => { results := [.lit (.bool false)], args := [d] }
  | _ => none }
def KeptWindowWrongFalsely : Prop := keptWindowRow.holds Try.pinned (OpenSpec.ofChange keptWindowWrong)

/-- 'canopykeep.KeyLong': WHATEVER THE INPUT: true; the input reads as it did. -/
def keyLongSpec : ChangeSpec := { name := "keyLong", fn := fun _ => fun
  | [d] => { results := [.lit (.bool true)], args := [d] }
  | _ => none }
def keyLongRow : OpenClaim := { program := "yteefnnnbbmbmcaa", sum := "1417cb4645da9de4a4d4010c7c20f58f32d3dd0bdff62ddd592cb5fcb06d4210", func := "canopy/canopykeep.KeyLong", spec := "keyLong", apart := false }
def KeyLongSaid : Prop := keyLongRow.holds Try.pinned (OpenSpec.ofChange keyLongSpec)

/-- ITS FALSE NEIGHBOUR: 'it returns false'. Refute it at one input. -/
def keyLongWrong : ChangeSpec := { name := "keyLong", fn := fun _ => fun
  | [d] => { results := [.lit (.bool false)], args := [d] }
  | _ => none }
def KeyLongWrongFalsely : Prop := keyLongRow.holds Try.pinned (OpenSpec.ofChange keyLongWrong)

/-- 'canopykeep.ActBare': WHATEVER THE INPUT: true; the input reads as it did. -/
def actBareSpec : ChangeSpec := { name := "actBare", fn := fun _ => fun
  | [d1, d2] => { results := [.lit (.bool true)], args := [d1, d2] }
  | _ => none }
def actBareRow : OpenClaim := { program := "yteefnnnbbmbmcaa", sum := "1417cb4645da9de4a4d4010c7c20f58f32d3dd0bdff62ddd592cb5fcb06d4210", func := "canopy/canopykeep.ActBare", spec := "actBare", apart := false }
def ActBareSaid : Prop := actBareRow.holds Try.pinned (OpenSpec.ofChange actBareSpec)

/-- ITS FALSE NEIGHBOUR: 'it returns false'. Refute it at one input. -/
def actBareWrong : ChangeSpec := { name := "actBare", fn := fun _ => fun
  | [d1, d2] => { results := [.lit (.bool false)], args := [d1, d2] }
  | _ => none }
def ActBareWrongFalsely : Prop := actBareRow.holds Try.pinned (OpenSpec.ofChange actBareWrong)

/-- 'canopykeep.BitsTell': WHATEVER THE INPUT: true; the input reads as it did. -/
def bitsTellSpec : ChangeSpec := { name := "bitsTell", fn := fun _ => fun
  | [d] => { results := [.lit (.bool true)], args := [d] }
  | _ => none }
def bitsTellRow : OpenClaim := { program := "yteefnnnbbmbmcaa", sum := "1417cb4645da9de4a4d4010c7c20f58f32d3dd0bdff62ddd592cb5fcb06d4210", func := "canopy/canopykeep.BitsTell", spec := "bitsTell", apart := false }
def BitsTellSaid : Prop := bitsTellRow.holds Try.pinned (OpenSpec.ofChange bitsTellSpec)

/-- ITS FALSE NEIGHBOUR: 'it returns false'. Refute it at one input. -/
def bitsTellWrong : ChangeSpec := { name := "bitsTell", fn := fun _ => fun
  | [d] => { results := [.lit (.bool false)], args := [d] }
  | _ => none }
def BitsTellWrongFalsely : Prop := bitsTellRow.holds Try.pinned (OpenSpec.ofChange bitsTellWrong)

/-- 'canopykeep.PartThree': WHATEVER THE INPUT: true; the input reads as it did. -/
def partThreeSpec : ChangeSpec := { name := "partThree", fn := fun _ => fun
  | [d1, d2, d3] => { results := [.lit (.bool true)], args := [d1, d2, d3] }
  | _ => none }
def partThreeRow : OpenClaim := { program := "yteefnnnbbmbmcaa", sum := "1417cb4645da9de4a4d4010c7c20f58f32d3dd0bdff62ddd592cb5fcb06d4210", func := "canopy/canopykeep.PartThree", spec := "partThree", apart := false }
def PartThreeSaid : Prop := partThreeRow.holds Try.pinned (OpenSpec.ofChange partThreeSpec)

/-- ITS FALSE NEIGHBOUR: 'it returns false'. Refute it at one input. -/
def partThreeWrong : ChangeSpec := { name := "partThree", fn := fun _ => fun
  | [d1, d2, d3] => { results := [.lit (.bool false)], args := [d1, d2, d3] }
  | _ => none }
def PartThreeWrongFalsely : Prop := partThreeRow.holds Try.pinned (OpenSpec.ofChange partThreeWrong)

/-- 'canopykeep.PartFirst': WHATEVER THE INPUT: true; the input reads as it did. -/
def partFirstSpec : ChangeSpec := { name := "partFirst", fn := fun _ => fun
  | [d1, d2] => { results := [.lit (.bool true)], args := [d1, d2] }
  | _ => none }
def partFirstRow : OpenClaim := { program := "yteefnnnbbmbmcaa", sum := "1417cb4645da9de4a4d4010c7c20f58f32d3dd0bdff62ddd592cb5fcb06d4210", func := "canopy/canopykeep.PartFirst", spec := "partFirst", apart := false }
def PartFirstSaid : Prop := partFirstRow.holds Try.pinned (OpenSpec.ofChange partFirstSpec)

/-- ITS FALSE NEIGHBOUR: 'it returns false'. Refute it at one input. -/
def partFirstWrong : ChangeSpec := { name := "partFirst", fn := fun _ => fun
  | [d1, d2] => { results := [.lit (.bool false)], args := [d1, d2] }
  | _ => none }
def PartFirstWrongFalsely : Prop := partFirstRow.holds Try.pinned (OpenSpec.ofChange partFirstWrong)

/-- 'canopykeep.PartOrder': WHATEVER THE INPUT: true; the input reads as it did. -/
def partOrderSpec : ChangeSpec := { name := "partOrder", fn := fun _ => fun
  | [d1, d2] => { results := [.lit (.bool true)], args := [d1, d2] }
  | _ => none }
def partOrderRow : OpenClaim := { program := "yteefnnnbbmbmcaa", sum := "1417cb4645da9de4a4d4010c7c20f58f32d3dd0bdff62ddd592cb5fcb06d4210", func := "canopy/canopykeep.PartOrder", spec := "partOrder", apart := false }
def PartOrderSaid : Prop := partOrderRow.holds Try.pinned (OpenSpec.ofChange partOrderSpec)

/-- ITS FALSE NEIGHBOUR: 'it returns false'. Refute it at one input. -/
def partOrderWrong : ChangeSpec := { name := "partOrder", fn := fun _ => fun
  | [d1, d2] => { results := [.lit (.bool false)], args := [d1, d2] }
  | _ => none }
def PartOrderWrongFalsely : Prop := partOrderRow.holds Try.pinned (OpenSpec.ofChange partOrderWrong)

/-- 'canopykeep.RangeAll': WHATEVER THE INPUT: true; the input reads as it did. -/
def rangeAllSpec : ChangeSpec := { name := "rangeAll", fn := fun _ => fun
  | [d1, d2, d3] => { results := [.lit (.bool true)], args := [d1, d2, d3] }
  | _ => none }
def rangeAllRow : OpenClaim := { program := "yteefnnnbbmbmcaa", sum := "1417cb4645da9de4a4d4010c7c20f58f32d3dd0bdff62ddd592cb5fcb06d4210", func := "canopy/canopykeep.RangeAll", spec := "rangeAll", inPlace := ["internal/bytealg.Compare"], unfollowed := true, recurses := true, apart := false }
def RangeAllSaid : Prop := rangeAllRow.holds Try.pinned (OpenSpec.ofChange rangeAllSpec)

/-- ITS FALSE NEIGHBOUR: 'it returns false'. Refute it at one input. -/
def rangeAllWrong : ChangeSpec := { name := "rangeAll", fn := fun _ => fun
  | [d1, d2, d3] => { results := [.lit (.bool false)], args := [d1, d2, d3] }
  | _ => none }
def RangeAllWrongFalsely : Prop := rangeAllRow.holds Try.pinned (OpenSpec.ofChange rangeAllWrong)

/-- 'canopykeep.RangeParts': WHATEVER THE INPUT: true; the input reads as it did. -/
def rangePartsSpec : ChangeSpec := { name := "rangeParts", fn := fun _ => fun
  | [d1, d2, d3, d4] => { results := [.lit (.bool true)], args := [d1, d2, d3, d4] }
  | _ => none }
def rangePartsRow : OpenClaim := { program := "yteefnnnbbmbmcaa", sum := "1417cb4645da9de4a4d4010c7c20f58f32d3dd0bdff62ddd592cb5fcb06d4210", func := "canopy/canopykeep.RangeParts", spec := "rangeParts", inPlace := ["internal/bytealg.Compare"], unfollowed := true, recurses := true, apart := false }
def RangePartsSaid : Prop := rangePartsRow.holds Try.pinned (OpenSpec.ofChange rangePartsSpec)

/-- ITS FALSE NEIGHBOUR: 'it returns false'. Refute it at one input. -/
def rangePartsWrong : ChangeSpec := { name := "rangeParts", fn := fun _ => fun
  | [d1, d2, d3, d4] => { results := [.lit (.bool false)], args := [d1, d2, d3, d4] }
  | _ => none }
def RangePartsWrongFalsely : Prop := rangePartsRow.holds Try.pinned (OpenSpec.ofChange rangePartsWrong)

/-- 'canopykeep.PutTurns': WHATEVER THE INPUT: true; the input reads as it did. -/
def putTurnsSpec : ChangeSpec := { name := "putTurns", fn := fun _ => fun
  | [d1, d2, d3] => { results := [.lit (.bool true)], args := [d1, d2, d3] }
  | _ => none }
def putTurnsRow : OpenClaim := { program := "yteefnnnbbmbmcaa", sum := "1417cb4645da9de4a4d4010c7c20f58f32d3dd0bdff62ddd592cb5fcb06d4210", func := "canopy/canopykeep.PutTurns", spec := "putTurns", inPlace := ["internal/bytealg.Compare", "slices.overlaps[canopy/api.Pair]"], unfollowed := true, recurses := true, apart := false }
def PutTurnsSaid : Prop := putTurnsRow.holds Try.pinned (OpenSpec.ofChange putTurnsSpec)

/-- ITS FALSE NEIGHBOUR: 'it returns false'. Refute it at one input. -/
def putTurnsWrong : ChangeSpec := { name := "putTurns", fn := fun _ => fun
  | [d1, d2, d3] => { results := [.lit (.bool false)], args := [d1, d2, d3] }
  | _ => none }
def PutTurnsWrongFalsely : Prop := putTurnsRow.holds Try.pinned (OpenSpec.ofChange putTurnsWrong)

/-- 'canopykeep.TreeFull': WHATEVER THE INPUT: true; the input reads as it did. -/
def treeFullSpec : ChangeSpec := { name := "treeFull", fn := fun _ => fun
  | [d1, d2] => { results := [.lit (.bool true)], args := [d1, d2] }
  | _ => none }
def treeFullRow : OpenClaim := { program := "yteefnnnbbmbmcaa", sum := "1417cb4645da9de4a4d4010c7c20f58f32d3dd0bdff62ddd592cb5fcb06d4210", func := "canopy/canopykeep.TreeFull", spec := "treeFull", inPlace := ["internal/bytealg.Compare", "slices.overlaps[canopy/api.Pair]"], unfollowed := true, recurses := true, apart := false }
def TreeFullSaid : Prop := treeFullRow.holds Try.pinned (OpenSpec.ofChange treeFullSpec)

/-- ITS FALSE NEIGHBOUR: 'it returns false'. Refute it at one input. -/
def treeFullWrong : ChangeSpec := { name := "treeFull", fn := fun _ => fun
  | [d1, d2] => { results := [.lit (.bool false)], args := [d1, d2] }
  | _ => none }
def TreeFullWrongFalsely : Prop := treeFullRow.holds Try.pinned (OpenSpec.ofChange treeFullWrong)

/-- 'canopykeep.PutGet': WHATEVER THE INPUT: true; the input reads as it did. -/
def putGetSpec : ChangeSpec := { name := "putGet", fn := fun _ => fun
  | [d1, d2, d3, d4] => { results := [.lit (.bool true)], args := [d1, d2, d3, d4] }
  | _ => none }
def putGetRow : OpenClaim := { program := "yteefnnnbbmbmcaa", sum := "1417cb4645da9de4a4d4010c7c20f58f32d3dd0bdff62ddd592cb5fcb06d4210", func := "canopy/canopykeep.PutGet", spec := "putGet", inPlace := ["internal/bytealg.Compare", "slices.overlaps[canopy/api.Pair]"], unfollowed := true, recurses := true, apart := false }
def PutGetSaid : Prop := putGetRow.holds Try.pinned (OpenSpec.ofChange putGetSpec)

/-- ITS FALSE NEIGHBOUR: 'it returns false'. Refute it at one input. -/
def putGetWrong : ChangeSpec := { name := "putGet", fn := fun _ => fun
  | [d1, d2, d3, d4] => { results := [.lit (.bool false)], args := [d1, d2, d3, d4] }
  | _ => none }
def PutGetWrongFalsely : Prop := putGetRow.holds Try.pinned (OpenSpec.ofChange putGetWrong)

/-- 'canopykeep.DeleteGone': WHATEVER THE INPUT: true; the input reads as it did. -/
def deleteGoneSpec : ChangeSpec := { name := "deleteGone", fn := fun _ => fun
  | [d1, d2, d3] => { results := [.lit (.bool true)], args := [d1, d2, d3] }
  | _ => none }
def deleteGoneRow : OpenClaim := { program := "yteefnnnbbmbmcaa", sum := "1417cb4645da9de4a4d4010c7c20f58f32d3dd0bdff62ddd592cb5fcb06d4210", func := "canopy/canopykeep.DeleteGone", spec := "deleteGone", inPlace := ["internal/bytealg.Compare", "slices.overlaps[canopy/api.Pair]"], unfollowed := true, recurses := true, apart := false }
def DeleteGoneSaid : Prop := deleteGoneRow.holds Try.pinned (OpenSpec.ofChange deleteGoneSpec)

/-- ITS FALSE NEIGHBOUR: 'it returns false'. Refute it at one input. -/
def deleteGoneWrong : ChangeSpec := { name := "deleteGone", fn := fun _ => fun
  | [d1, d2, d3] => { results := [.lit (.bool false)], args := [d1, d2, d3] }
  | _ => none }
def DeleteGoneWrongFalsely : Prop := deleteGoneRow.holds Try.pinned (OpenSpec.ofChange deleteGoneWrong)

/-- 'canopykeep.GetModel': WHATEVER THE INPUT: true; the input reads as it did. -/
def getModelSpec : ChangeSpec := { name := "getModel", fn := fun _ => fun
  | [d] => { results := [.lit (.bool true)], args := [d] }
  | _ => none }
def getModelRow : OpenClaim := { program := "yteefnnnbbmbmcaa", sum := "1417cb4645da9de4a4d4010c7c20f58f32d3dd0bdff62ddd592cb5fcb06d4210", func := "canopy/canopykeep.GetModel", spec := "getModel", inPlace := ["internal/bytealg.Compare", "slices.overlaps[canopy/api.Pair]"], unfollowed := true, recurses := true, apart := false }
def GetModelSaid : Prop := getModelRow.holds Try.pinned (OpenSpec.ofChange getModelSpec)

/-- ITS FALSE NEIGHBOUR: 'it returns false'. Refute it at one input. -/
def getModelWrong : ChangeSpec := { name := "getModel", fn := fun _ => fun
  | [d] => { results := [.lit (.bool false)], args := [d] }
  | _ => none }
def GetModelWrongFalsely : Prop := getModelRow.holds Try.pinned (OpenSpec.ofChange getModelWrong)

/-- 'canopykeep.ApplyParts': WHATEVER THE INPUT: true; the input reads as it did. -/
def applyPartsSpec : ChangeSpec := { name := "applyParts", fn := fun _ => fun
  | [d1, d2, d3] => { results := [.lit (.bool true)], args := [d1, d2, d3] }
  | _ => none }
def applyPartsRow : OpenClaim := { program := "yteefnnnbbmbmcaa", sum := "1417cb4645da9de4a4d4010c7c20f58f32d3dd0bdff62ddd592cb5fcb06d4210", func := "canopy/canopykeep.ApplyParts", spec := "applyParts", inPlace := ["internal/bytealg.Compare", "slices.overlaps[canopy/api.Pair]", "slices.overlaps[canopy/api.Tenant]"], unfollowed := true, recurses := true, apart := false }
def ApplyPartsSaid : Prop := applyPartsRow.holds Try.pinned (OpenSpec.ofChange applyPartsSpec)

/-- ITS FALSE NEIGHBOUR: 'it returns false'. Refute it at one input. -/
def applyPartsWrong : ChangeSpec := { name := "applyParts", fn := fun _ => fun
  | [d1, d2, d3] => { results := [.lit (.bool false)], args := [d1, d2, d3] }
  | _ => none }
def ApplyPartsWrongFalsely : Prop := applyPartsRow.holds Try.pinned (OpenSpec.ofChange applyPartsWrong)

/-- 'canopykeep.ApplyTurns': WHATEVER THE INPUT: true; the input reads as it did. -/
def applyTurnsSpec : ChangeSpec := { name := "applyTurns", fn := fun _ => fun
  | [d1, d2, d3] => { results := [.lit (.bool true)], args := [d1, d2, d3] }
  | _ => none }
def applyTurnsRow : OpenClaim := { program := "yteefnnnbbmbmcaa", sum := "1417cb4645da9de4a4d4010c7c20f58f32d3dd0bdff62ddd592cb5fcb06d4210", func := "canopy/canopykeep.ApplyTurns", spec := "applyTurns", inPlace := ["internal/bytealg.Compare", "slices.overlaps[canopy/api.Pair]", "slices.overlaps[canopy/api.Tenant]"], unfollowed := true, recurses := true, apart := false }
def ApplyTurnsSaid : Prop := applyTurnsRow.holds Try.pinned (OpenSpec.ofChange applyTurnsSpec)

/-- ITS FALSE NEIGHBOUR: 'it returns false'. Refute it at one input. -/
def applyTurnsWrong : ChangeSpec := { name := "applyTurns", fn := fun _ => fun
  | [d1, d2, d3] => { results := [.lit (.bool false)], args := [d1, d2, d3] }
  | _ => none }
def ApplyTurnsWrongFalsely : Prop := applyTurnsRow.holds Try.pinned (OpenSpec.ofChange applyTurnsWrong)

/-- 'canopykeep.ForestFull': WHATEVER THE INPUT: true; the input reads as it did. -/
def forestFullSpec : ChangeSpec := { name := "forestFull", fn := fun _ => fun
  | [d] => { results := [.lit (.bool true)], args := [d] }
  | _ => none }
def forestFullRow : OpenClaim := { program := "yteefnnnbbmbmcaa", sum := "1417cb4645da9de4a4d4010c7c20f58f32d3dd0bdff62ddd592cb5fcb06d4210", func := "canopy/canopykeep.ForestFull", spec := "forestFull", inPlace := ["internal/bytealg.Compare", "slices.overlaps[canopy/api.Pair]", "slices.overlaps[canopy/api.Tenant]"], unfollowed := true, recurses := true, apart := false }
def ForestFullSaid : Prop := forestFullRow.holds Try.pinned (OpenSpec.ofChange forestFullSpec)

/-- ITS FALSE NEIGHBOUR: 'it returns false'. Refute it at one input. -/
def forestFullWrong : ChangeSpec := { name := "forestFull", fn := fun _ => fun
  | [d] => { results := [.lit (.bool false)], args := [d] }
  | _ => none }
def ForestFullWrongFalsely : Prop := forestFullRow.holds Try.pinned (OpenSpec.ofChange forestFullWrong)

/-- 'canopykeep.ApplyAgain': WHATEVER THE INPUT: true; the input reads as it did. -/
def applyAgainSpec : ChangeSpec := { name := "applyAgain", fn := fun _ => fun
  | [d1, d2, d3] => { results := [.lit (.bool true)], args := [d1, d2, d3] }
  | _ => none }
def applyAgainRow : OpenClaim := { program := "yteefnnnbbmbmcaa", sum := "1417cb4645da9de4a4d4010c7c20f58f32d3dd0bdff62ddd592cb5fcb06d4210", func := "canopy/canopykeep.ApplyAgain", spec := "applyAgain", inPlace := ["internal/bytealg.Compare", "slices.overlaps[canopy/api.Pair]", "slices.overlaps[canopy/api.Tenant]"], unfollowed := true, recurses := true, apart := false }
def ApplyAgainSaid : Prop := applyAgainRow.holds Try.pinned (OpenSpec.ofChange applyAgainSpec)

/-- ITS FALSE NEIGHBOUR: 'it returns false'. Refute it at one input. -/
def applyAgainWrong : ChangeSpec := { name := "applyAgain", fn := fun _ => fun
  | [d1, d2, d3] => { results := [.lit (.bool false)], args := [d1, d2, d3] }
  | _ => none }
def ApplyAgainWrongFalsely : Prop := applyAgainRow.holds Try.pinned (OpenSpec.ofChange applyAgainWrong)

/-- 'canopykeep.ApplyGet': WHATEVER THE INPUT: true; the input reads as it did. -/
def applyGetSpec : ChangeSpec := { name := "applyGet", fn := fun _ => fun
  | [d1, d2, d3] => { results := [.lit (.bool true)], args := [d1, d2, d3] }
  | _ => none }
def applyGetRow : OpenClaim := { program := "yteefnnnbbmbmcaa", sum := "1417cb4645da9de4a4d4010c7c20f58f32d3dd0bdff62ddd592cb5fcb06d4210", func := "canopy/canopykeep.ApplyGet", spec := "applyGet", inPlace := ["internal/bytealg.Compare", "slices.overlaps[canopy/api.Pair]", "slices.overlaps[canopy/api.Tenant]"], unfollowed := true, recurses := true, apart := false }
def ApplyGetSaid : Prop := applyGetRow.holds Try.pinned (OpenSpec.ofChange applyGetSpec)

/-- ITS FALSE NEIGHBOUR: 'it returns false'. Refute it at one input. -/
def applyGetWrong : ChangeSpec := { name := "applyGet", fn := fun _ => fun
  | [d1, d2, d3] => { results := [.lit (.bool false)], args := [d1, d2, d3] }
  | _ => none }
def ApplyGetWrongFalsely : Prop := applyGetRow.holds Try.pinned (OpenSpec.ofChange applyGetWrong)

/-- 'canopykeep.CommitSize': WHATEVER THE INPUT: true; the input reads as it did. -/
def commitSizeSpec : ChangeSpec := { name := "commitSize", fn := fun _ => fun
  | [d1, d2] => { results := [.lit (.bool true)], args := [d1, d2] }
  | _ => none }
def commitSizeRow : OpenClaim := { program := "yteefnnnbbmbmcaa", sum := "1417cb4645da9de4a4d4010c7c20f58f32d3dd0bdff62ddd592cb5fcb06d4210", func := "canopy/canopykeep.CommitSize", spec := "commitSize", inPlace := ["internal/bytealg.Compare", "slices.overlaps[canopy/api.Pair]", "slices.overlaps[canopy/api.Tenant]"], unfollowed := true, recurses := true, apart := false }
def CommitSizeSaid : Prop := commitSizeRow.holds Try.pinned (OpenSpec.ofChange commitSizeSpec)

/-- ITS FALSE NEIGHBOUR: 'it returns false'. Refute it at one input. -/
def commitSizeWrong : ChangeSpec := { name := "commitSize", fn := fun _ => fun
  | [d1, d2] => { results := [.lit (.bool false)], args := [d1, d2] }
  | _ => none }
def CommitSizeWrongFalsely : Prop := commitSizeRow.holds Try.pinned (OpenSpec.ofChange commitSizeWrong)

/-- 'canopykeep.ForestRange': WHATEVER THE INPUT: true; the input reads as it did. -/
def forestRangeSpec : ChangeSpec := { name := "forestRange", fn := fun _ => fun
  | [d1, d2, d3] => { results := [.lit (.bool true)], args := [d1, d2, d3] }
  | _ => none }
def forestRangeRow : OpenClaim := { program := "yteefnnnbbmbmcaa", sum := "1417cb4645da9de4a4d4010c7c20f58f32d3dd0bdff62ddd592cb5fcb06d4210", func := "canopy/canopykeep.ForestRange", spec := "forestRange", inPlace := ["internal/bytealg.Compare", "slices.overlaps[canopy/api.Pair]", "slices.overlaps[canopy/api.Tenant]"], unfollowed := true, recurses := true, apart := false }
def ForestRangeSaid : Prop := forestRangeRow.holds Try.pinned (OpenSpec.ofChange forestRangeSpec)

/-- ITS FALSE NEIGHBOUR: 'it returns false'. Refute it at one input. -/
def forestRangeWrong : ChangeSpec := { name := "forestRange", fn := fun _ => fun
  | [d1, d2, d3] => { results := [.lit (.bool false)], args := [d1, d2, d3] }
  | _ => none }
def ForestRangeWrongFalsely : Prop := forestRangeRow.holds Try.pinned (OpenSpec.ofChange forestRangeWrong)

/-- 'canopykeep.FoldNext': WHATEVER THE INPUT: true; the input reads as it did. -/
def foldNextSpec : ChangeSpec := { name := "foldNext", fn := fun _ => fun
  | [d1, d2] => { results := [.lit (.bool true)], args := [d1, d2] }
  | _ => none }
def foldNextRow : OpenClaim := { program := "yteefnnnbbmbmcaa", sum := "1417cb4645da9de4a4d4010c7c20f58f32d3dd0bdff62ddd592cb5fcb06d4210", func := "canopy/canopykeep.FoldNext", spec := "foldNext", inPlace := ["internal/bytealg.Compare", "slices.overlaps[canopy/api.Pair]", "slices.overlaps[canopy/api.Tenant]"], unfollowed := true, recurses := true, apart := false }
def FoldNextSaid : Prop := foldNextRow.holds Try.pinned (OpenSpec.ofChange foldNextSpec)

/-- ITS FALSE NEIGHBOUR: 'it returns false'. Refute it at one input. -/
def foldNextWrong : ChangeSpec := { name := "foldNext", fn := fun _ => fun
  | [d1, d2] => { results := [.lit (.bool false)], args := [d1, d2] }
  | _ => none }
def FoldNextWrongFalsely : Prop := foldNextRow.holds Try.pinned (OpenSpec.ofChange foldNextWrong)

/-- 'canopykeep.CommitBack': WHATEVER THE INPUT: true; the input reads as it did. -/
def commitBackSpec : ChangeSpec := { name := "commitBack", fn := fun _ => fun
  | [d1, d2] => { results := [.lit (.bool true)], args := [d1, d2] }
  | _ => none }
def commitBackRow : OpenClaim := { program := "yteefnnnbbmbmcaa", sum := "1417cb4645da9de4a4d4010c7c20f58f32d3dd0bdff62ddd592cb5fcb06d4210", func := "canopy/canopykeep.CommitBack", spec := "commitBack", inPlace := ["internal/bytealg.Compare", "slices.overlaps[canopy/api.Pair]", "slices.overlaps[canopy/api.Tenant]"], unfollowed := true, recurses := true, apart := false }
def CommitBackSaid : Prop := commitBackRow.holds Try.pinned (OpenSpec.ofChange commitBackSpec)

/-- ITS FALSE NEIGHBOUR: 'it returns false'. Refute it at one input. -/
def commitBackWrong : ChangeSpec := { name := "commitBack", fn := fun _ => fun
  | [d1, d2] => { results := [.lit (.bool false)], args := [d1, d2] }
  | _ => none }
def CommitBackWrongFalsely : Prop := commitBackRow.holds Try.pinned (OpenSpec.ofChange commitBackWrong)

/-- 'canopykeep.CommitFixed': WHATEVER THE INPUT: true; the input reads as it did. -/
def commitFixedSpec : ChangeSpec := { name := "commitFixed", fn := fun _ => fun
  | [d] => { results := [.lit (.bool true)], args := [d] }
  | _ => none }
def commitFixedRow : OpenClaim := { program := "yteefnnnbbmbmcaa", sum := "1417cb4645da9de4a4d4010c7c20f58f32d3dd0bdff62ddd592cb5fcb06d4210", func := "canopy/canopykeep.CommitFixed", spec := "commitFixed", inPlace := ["internal/bytealg.Compare", "slices.overlaps[canopy/api.Pair]", "slices.overlaps[canopy/api.Tenant]"], unfollowed := true, recurses := true, apart := false }
def CommitFixedSaid : Prop := commitFixedRow.holds Try.pinned (OpenSpec.ofChange commitFixedSpec)

/-- ITS FALSE NEIGHBOUR: 'it returns false'. Refute it at one input. -/
def commitFixedWrong : ChangeSpec := { name := "commitFixed", fn := fun _ => fun
  | [d] => { results := [.lit (.bool false)], args := [d] }
  | _ => none }
def CommitFixedWrongFalsely : Prop := commitFixedRow.holds Try.pinned (OpenSpec.ofChange commitFixedWrong)

/-- 'canopykeep.CommitTorn': WHATEVER THE INPUT: true; the input reads as it did. -/
def commitTornSpec : ChangeSpec := { name := "commitTorn", fn := fun _ => fun
  | [d1, d2] => { results := [.lit (.bool true)], args := [d1, d2] }
  | _ => none }
def commitTornRow : OpenClaim := { program := "yteefnnnbbmbmcaa", sum := "1417cb4645da9de4a4d4010c7c20f58f32d3dd0bdff62ddd592cb5fcb06d4210", func := "canopy/canopykeep.CommitTorn", spec := "commitTorn", inPlace := ["internal/bytealg.Compare", "slices.overlaps[canopy/api.Pair]", "slices.overlaps[canopy/api.Tenant]"], unfollowed := true, recurses := true, apart := false }
def CommitTornSaid : Prop := commitTornRow.holds Try.pinned (OpenSpec.ofChange commitTornSpec)

/-- ITS FALSE NEIGHBOUR: 'it returns false'. Refute it at one input. -/
def commitTornWrong : ChangeSpec := { name := "commitTorn", fn := fun _ => fun
  | [d1, d2] => { results := [.lit (.bool false)], args := [d1, d2] }
  | _ => none }
def CommitTornWrongFalsely : Prop := commitTornRow.holds Try.pinned (OpenSpec.ofChange commitTornWrong)

/-- 'canopykeep.WriteAgain': WHATEVER THE INPUT: true; the input reads as it did. -/
def writeAgainSpec : ChangeSpec := { name := "writeAgain", fn := fun _ => fun
  | [d1, d2, d3] => { results := [.lit (.bool true)], args := [d1, d2, d3] }
  | _ => none }
def writeAgainRow : OpenClaim := { program := "yteefnnnbbmbmcaa", sum := "1417cb4645da9de4a4d4010c7c20f58f32d3dd0bdff62ddd592cb5fcb06d4210", func := "canopy/canopykeep.WriteAgain", spec := "writeAgain", inPlace := ["internal/bytealg.Compare", "slices.overlaps[canopy/api.Pair]", "slices.overlaps[canopy/api.Tenant]"], unfollowed := true, recurses := true, apart := false }
def WriteAgainSaid : Prop := writeAgainRow.holds Try.pinned (OpenSpec.ofChange writeAgainSpec)

/-- ITS FALSE NEIGHBOUR: 'it returns false'. Refute it at one input. -/
def writeAgainWrong : ChangeSpec := { name := "writeAgain", fn := fun _ => fun
  | [d1, d2, d3] => { results := [.lit (.bool false)], args := [d1, d2, d3] }
  | _ => none }
def WriteAgainWrongFalsely : Prop := writeAgainRow.holds Try.pinned (OpenSpec.ofChange writeAgainWrong)

/-- 'canopykeep.NoteOnce': WHATEVER THE INPUT: true; the input reads as it did. -/
def noteOnceSpec : ChangeSpec := { name := "noteOnce", fn := fun _ => fun
  | [d1, d2] => { results := [.lit (.bool true)], args := [d1, d2] }
  | _ => none }
def noteOnceRow : OpenClaim := { program := "yteefnnnbbmbmcaa", sum := "1417cb4645da9de4a4d4010c7c20f58f32d3dd0bdff62ddd592cb5fcb06d4210", func := "canopy/canopykeep.NoteOnce", spec := "noteOnce", inPlace := ["internal/bytealg.Compare", "slices.overlaps[canopy/api.Pair]", "slices.overlaps[canopy/api.Tenant]"], unfollowed := true, recurses := true, apart := false }
def NoteOnceSaid : Prop := noteOnceRow.holds Try.pinned (OpenSpec.ofChange noteOnceSpec)

/-- ITS FALSE NEIGHBOUR: 'it returns false'. Refute it at one input. -/
def noteOnceWrong : ChangeSpec := { name := "noteOnce", fn := fun _ => fun
  | [d1, d2] => { results := [.lit (.bool false)], args := [d1, d2] }
  | _ => none }
def NoteOnceWrongFalsely : Prop := noteOnceRow.holds Try.pinned (OpenSpec.ofChange noteOnceWrong)

/-- 'canopykeep.NoteFull': WHATEVER THE INPUT: true; the input reads as it did. -/
def noteFullSpec : ChangeSpec := { name := "noteFull", fn := fun _ => fun
  | [d] => { results := [.lit (.bool true)], args := [d] }
  | _ => none }
def noteFullRow : OpenClaim := { program := "yteefnnnbbmbmcaa", sum := "1417cb4645da9de4a4d4010c7c20f58f32d3dd0bdff62ddd592cb5fcb06d4210", func := "canopy/canopykeep.NoteFull", spec := "noteFull", inPlace := ["internal/bytealg.Compare", "slices.overlaps[canopy/api.Pair]", "slices.overlaps[canopy/api.Tenant]"], unfollowed := true, recurses := true, apart := false }
def NoteFullSaid : Prop := noteFullRow.holds Try.pinned (OpenSpec.ofChange noteFullSpec)

/-- ITS FALSE NEIGHBOUR: 'it returns false'. Refute it at one input. -/
def noteFullWrong : ChangeSpec := { name := "noteFull", fn := fun _ => fun
  | [d] => { results := [.lit (.bool false)], args := [d] }
  | _ => none }
def NoteFullWrongFalsely : Prop := noteFullRow.holds Try.pinned (OpenSpec.ofChange noteFullWrong)

/-- 'canopykeep.ClashMore': WHATEVER THE INPUT: true; the input reads as it did. -/
def clashMoreSpec : ChangeSpec := { name := "clashMore", fn := fun _ => fun
  | [d1, d2, d3, d4] => { results := [.lit (.bool true)], args := [d1, d2, d3, d4] }
  | _ => none }
def clashMoreRow : OpenClaim := { program := "yteefnnnbbmbmcaa", sum := "1417cb4645da9de4a4d4010c7c20f58f32d3dd0bdff62ddd592cb5fcb06d4210", func := "canopy/canopykeep.ClashMore", spec := "clashMore", inPlace := ["internal/bytealg.Compare", "slices.overlaps[canopy/api.Pair]", "slices.overlaps[canopy/api.Tenant]"], unfollowed := true, recurses := true, apart := false }
def ClashMoreSaid : Prop := clashMoreRow.holds Try.pinned (OpenSpec.ofChange clashMoreSpec)

/-- ITS FALSE NEIGHBOUR: 'it returns false'. Refute it at one input. -/
def clashMoreWrong : ChangeSpec := { name := "clashMore", fn := fun _ => fun
  | [d1, d2, d3, d4] => { results := [.lit (.bool false)], args := [d1, d2, d3, d4] }
  | _ => none }
def ClashMoreWrongFalsely : Prop := clashMoreRow.holds Try.pinned (OpenSpec.ofChange clashMoreWrong)

/-- 'canopykeep.WriteSeen': WHATEVER THE INPUT: true; the input reads as it did. -/
def writeSeenSpec : ChangeSpec := { name := "writeSeen", fn := fun _ => fun
  | [d1, d2, d3, d4] => { results := [.lit (.bool true)], args := [d1, d2, d3, d4] }
  | _ => none }
def writeSeenRow : OpenClaim := { program := "yteefnnnbbmbmcaa", sum := "1417cb4645da9de4a4d4010c7c20f58f32d3dd0bdff62ddd592cb5fcb06d4210", func := "canopy/canopykeep.WriteSeen", spec := "writeSeen", inPlace := ["internal/bytealg.Compare", "slices.overlaps[canopy/api.Pair]", "slices.overlaps[canopy/api.Tenant]"], unfollowed := true, recurses := true, apart := false }
def WriteSeenSaid : Prop := writeSeenRow.holds Try.pinned (OpenSpec.ofChange writeSeenSpec)

/-- ITS FALSE NEIGHBOUR: 'it returns false'. Refute it at one input. -/
def writeSeenWrong : ChangeSpec := { name := "writeSeen", fn := fun _ => fun
  | [d1, d2, d3, d4] => { results := [.lit (.bool false)], args := [d1, d2, d3, d4] }
  | _ => none }
def WriteSeenWrongFalsely : Prop := writeSeenRow.holds Try.pinned (OpenSpec.ofChange writeSeenWrong)

/-- 'canopykeep.LookApplied': WHATEVER THE INPUT: true; the input reads as it did. -/
def lookAppliedSpec : ChangeSpec := { name := "lookApplied", fn := fun _ => fun
  | [d1, d2, d3] => { results := [.lit (.bool true)], args := [d1, d2, d3] }
  | _ => none }
def lookAppliedRow : OpenClaim := { program := "yteefnnnbbmbmcaa", sum := "1417cb4645da9de4a4d4010c7c20f58f32d3dd0bdff62ddd592cb5fcb06d4210", func := "canopy/canopykeep.LookApplied", spec := "lookApplied", inPlace := ["internal/bytealg.Compare", "slices.overlaps[canopy/api.Pair]", "slices.overlaps[canopy/api.Tenant]"], unfollowed := true, recurses := true, apart := false }
def LookAppliedSaid : Prop := lookAppliedRow.holds Try.pinned (OpenSpec.ofChange lookAppliedSpec)

/-- ITS FALSE NEIGHBOUR: 'it returns false'. Refute it at one input. -/
def lookAppliedWrong : ChangeSpec := { name := "lookApplied", fn := fun _ => fun
  | [d1, d2, d3] => { results := [.lit (.bool false)], args := [d1, d2, d3] }
  | _ => none }
def LookAppliedWrongFalsely : Prop := lookAppliedRow.holds Try.pinned (OpenSpec.ofChange lookAppliedWrong)

/-- 'canopykeep.ScanApplied': WHATEVER THE INPUT: true; the input reads as it did. -/
def scanAppliedSpec : ChangeSpec := { name := "scanApplied", fn := fun _ => fun
  | [d1, d2, d3, d4] => { results := [.lit (.bool true)], args := [d1, d2, d3, d4] }
  | _ => none }
def scanAppliedRow : OpenClaim := { program := "yteefnnnbbmbmcaa", sum := "1417cb4645da9de4a4d4010c7c20f58f32d3dd0bdff62ddd592cb5fcb06d4210", func := "canopy/canopykeep.ScanApplied", spec := "scanApplied", inPlace := ["internal/bytealg.Compare", "slices.overlaps[canopy/api.Pair]", "slices.overlaps[canopy/api.Tenant]"], unfollowed := true, recurses := true, apart := false }
def ScanAppliedSaid : Prop := scanAppliedRow.holds Try.pinned (OpenSpec.ofChange scanAppliedSpec)

/-- ITS FALSE NEIGHBOUR: 'it returns false'. Refute it at one input. -/
def scanAppliedWrong : ChangeSpec := { name := "scanApplied", fn := fun _ => fun
  | [d1, d2, d3, d4] => { results := [.lit (.bool false)], args := [d1, d2, d3, d4] }
  | _ => none }
def ScanAppliedWrongFalsely : Prop := scanAppliedRow.holds Try.pinned (OpenSpec.ofChange scanAppliedWrong)

/-- 'canopykeep.TxnTwice': WHATEVER THE INPUT: true; the input reads as it did. -/
def txnTwiceSpec : ChangeSpec := { name := "txnTwice", fn := fun _ => fun
  | [d1, d2, d3] => { results := [.lit (.bool true)], args := [d1, d2, d3] }
  | _ => none }
def txnTwiceRow : OpenClaim := { program := "yteefnnnbbmbmcaa", sum := "1417cb4645da9de4a4d4010c7c20f58f32d3dd0bdff62ddd592cb5fcb06d4210", func := "canopy/canopykeep.TxnTwice", spec := "txnTwice", inPlace := ["internal/bytealg.Compare", "slices.overlaps[canopy/api.Pair]", "slices.overlaps[canopy/api.Tenant]"], unfollowed := true, recurses := true, apart := false }
def TxnTwiceSaid : Prop := txnTwiceRow.holds Try.pinned (OpenSpec.ofChange txnTwiceSpec)

/-- ITS FALSE NEIGHBOUR: 'it returns false'. Refute it at one input. -/
def txnTwiceWrong : ChangeSpec := { name := "txnTwice", fn := fun _ => fun
  | [d1, d2, d3] => { results := [.lit (.bool false)], args := [d1, d2, d3] }
  | _ => none }
def TxnTwiceWrongFalsely : Prop := txnTwiceRow.holds Try.pinned (OpenSpec.ofChange txnTwiceWrong)

/-- 'canopykeep.ClashSeen': WHATEVER THE INPUT: true; the input reads as it did. -/
def clashSeenSpec : ChangeSpec := { name := "clashSeen", fn := fun _ => fun
  | [d1, d2, d3] => { results := [.lit (.bool true)], args := [d1, d2, d3] }
  | _ => none }
def clashSeenRow : OpenClaim := { program := "yteefnnnbbmbmcaa", sum := "1417cb4645da9de4a4d4010c7c20f58f32d3dd0bdff62ddd592cb5fcb06d4210", func := "canopy/canopykeep.ClashSeen", spec := "clashSeen", inPlace := ["internal/bytealg.Compare", "slices.overlaps[canopy/api.Pair]", "slices.overlaps[canopy/api.Tenant]"], unfollowed := true, recurses := true, apart := false }
def ClashSeenSaid : Prop := clashSeenRow.holds Try.pinned (OpenSpec.ofChange clashSeenSpec)

/-- ITS FALSE NEIGHBOUR: 'it returns false'. Refute it at one input. -/
def clashSeenWrong : ChangeSpec := { name := "clashSeen", fn := fun _ => fun
  | [d1, d2, d3] => { results := [.lit (.bool false)], args := [d1, d2, d3] }
  | _ => none }
def ClashSeenWrongFalsely : Prop := clashSeenRow.holds Try.pinned (OpenSpec.ofChange clashSeenWrong)

/-- 'canopykeep.ChangesBack': WHATEVER THE INPUT: true; the input reads as it did. -/
def changesBackSpec : ChangeSpec := { name := "changesBack", fn := fun _ => fun
  | [d1, d2, d3] => { results := [.lit (.bool true)], args := [d1, d2, d3] }
  | _ => none }
def changesBackRow : OpenClaim := { program := "yteefnnnbbmbmcaa", sum := "1417cb4645da9de4a4d4010c7c20f58f32d3dd0bdff62ddd592cb5fcb06d4210", func := "canopy/canopykeep.ChangesBack", spec := "changesBack", inPlace := ["internal/bytealg.Compare", "slices.overlaps[canopy/api.Pair]", "slices.overlaps[canopy/api.Tenant]"], unfollowed := true, recurses := true, apart := false }
def ChangesBackSaid : Prop := changesBackRow.holds Try.pinned (OpenSpec.ofChange changesBackSpec)

/-- ITS FALSE NEIGHBOUR: 'it returns false'. Refute it at one input. -/
def changesBackWrong : ChangeSpec := { name := "changesBack", fn := fun _ => fun
  | [d1, d2, d3] => { results := [.lit (.bool false)], args := [d1, d2, d3] }
  | _ => none }
def ChangesBackWrongFalsely : Prop := changesBackRow.holds Try.pinned (OpenSpec.ofChange changesBackWrong)

/-- 'canopykeep.ChangesMake': WHATEVER THE INPUT: true; the input reads as it did. -/
def changesMakeSpec : ChangeSpec := { name := "changesMake", fn := fun _ => fun
  | [d1, d2, d3] => { results := [.lit (.bool true)], args := [d1, d2, d3] }
  | _ => none }
def changesMakeRow : OpenClaim := { program := "yteefnnnbbmbmcaa", sum := "1417cb4645da9de4a4d4010c7c20f58f32d3dd0bdff62ddd592cb5fcb06d4210", func := "canopy/canopykeep.ChangesMake", spec := "changesMake", inPlace := ["internal/bytealg.Compare", "slices.overlaps[canopy/api.Pair]", "slices.overlaps[canopy/api.Tenant]"], unfollowed := true, recurses := true, apart := false }
def ChangesMakeSaid : Prop := changesMakeRow.holds Try.pinned (OpenSpec.ofChange changesMakeSpec)

/-- ITS FALSE NEIGHBOUR: 'it returns false'. Refute it at one input. -/
def changesMakeWrong : ChangeSpec := { name := "changesMake", fn := fun _ => fun
  | [d1, d2, d3] => { results := [.lit (.bool false)], args := [d1, d2, d3] }
  | _ => none }
def ChangesMakeWrongFalsely : Prop := changesMakeRow.holds Try.pinned (OpenSpec.ofChange changesMakeWrong)

/- THE SECOND FORM. 'bulk': how many values and letters a reading holds, each counted each time it is reached (what is shared counts as often as it is met; a slice's spare places count too). A statement '..UptoSaid' is the law's where the arguments, and the package variables that the reading takes, are together of bulk at most 1048576: NARROWER than '..Said'. Prove '..Said' where nothing that the law and all that it calls make is longer than what came in: it says more and counts as full. Else prove '..UptoSaid'. A law counts once. -/
mutual
def uptoBulk {H : Type} : DataW H → Nat
  | .lit (.string bytes) => bytes.length + 1
  | .lit _ => 1
  | .nil => 1
  | .ptr d => uptoBulk d + 1
  | .slice elems spare => uptoBulkAll elems + uptoBulkAll spare + 1
  | .agg parts => uptoBulkAll parts + 1
  | .iface _ d => uptoBulk d + 1
  | .map entries => uptoBulkEntries entries + 1
  | .held _ => 1
def uptoBulkAll {H : Type} : List (DataW H) → Nat
  | [] => 0
  | d :: r => uptoBulk d + uptoBulkAll r
def uptoBulkEntries {H : Type} : List (Lit × DataW H) → Nat
  | [] => 0
  | x :: r => uptoBulkEntry x + uptoBulkEntries r
def uptoBulkEntry {H : Type} : Lit × DataW H → Nat
  | (.string bytes, d) => bytes.length + uptoBulk d + 1
  | (_, d) => uptoBulk d + 1
 end
def uptoSmall : (H : Type) → List (DataW H) → Bool := fun _ ds => decide (uptoBulkAll ds ≤ 1048576)
def OpenSpec.upto (s : _root_.Go.ChangeSpec) : _root_.Go.OpenSpec := { _root_.Go.OpenSpec.ofChange s with cond := some uptoSmall }

/-- 'canopykeep.KeptWindow', WHERE WHAT IT READS IS OF BULK AT MOST 1048576: true; the input reads as it did. -/
def keptWindowUptoRow : OpenClaim := { program := "yteefnnnbbmbmcaa", sum := "1417cb4645da9de4a4d4010c7c20f58f32d3dd0bdff62ddd592cb5fcb06d4210", func := "canopy/canopykeep.KeptWindow", spec := "keptWindow", apart := false, narrowed := true }
def KeptWindowUptoSaid : Prop := keptWindowUptoRow.holds Try.pinned (OpenSpec.upto keptWindowSpec)

/-- 'canopykeep.KeyLong', WHERE WHAT IT READS IS OF BULK AT MOST 1048576: true; the input reads as it did. -/
def keyLongUptoRow : OpenClaim := { program := "yteefnnnbbmbmcaa", sum := "1417cb4645da9de4a4d4010c7c20f58f32d3dd0bdff62ddd592cb5fcb06d4210", func := "canopy/canopykeep.KeyLong", spec := "keyLong", apart := false, narrowed := true }
def KeyLongUptoSaid : Prop := keyLongUptoRow.holds Try.pinned (OpenSpec.upto keyLongSpec)

/-- 'canopykeep.ActBare', WHERE WHAT IT READS IS OF BULK AT MOST 1048576: true; the input reads as it did. -/
def actBareUptoRow : OpenClaim := { program := "yteefnnnbbmbmcaa", sum := "1417cb4645da9de4a4d4010c7c20f58f32d3dd0bdff62ddd592cb5fcb06d4210", func := "canopy/canopykeep.ActBare", spec := "actBare", apart := false, narrowed := true }
def ActBareUptoSaid : Prop := actBareUptoRow.holds Try.pinned (OpenSpec.upto actBareSpec)

/-- 'canopykeep.BitsTell', WHERE WHAT IT READS IS OF BULK AT MOST 1048576: true; the input reads as it did. -/
def bitsTellUptoRow : OpenClaim := { program := "yteefnnnbbmbmcaa", sum := "1417cb4645da9de4a4d4010c7c20f58f32d3dd0bdff62ddd592cb5fcb06d4210", func := "canopy/canopykeep.BitsTell", spec := "bitsTell", apart := false, narrowed := true }
def BitsTellUptoSaid : Prop := bitsTellUptoRow.holds Try.pinned (OpenSpec.upto bitsTellSpec)

/-- 'canopykeep.PartThree', WHERE WHAT IT READS IS OF BULK AT MOST 1048576: true; the input reads as it did. -/
def partThreeUptoRow : OpenClaim := { program := "yteefnnnbbmbmcaa", sum := "1417cb4645da9de4a4d4010c7c20f58f32d3dd0bdff62ddd592cb5fcb06d4210", func := "canopy/canopykeep.PartThree", spec := "partThree", apart := false, narrowed := true }
def PartThreeUptoSaid : Prop := partThreeUptoRow.holds Try.pinned (OpenSpec.upto partThreeSpec)

/-- 'canopykeep.PartFirst', WHERE WHAT IT READS IS OF BULK AT MOST 1048576: true; the input reads as it did. -/
def partFirstUptoRow : OpenClaim := { program := "yteefnnnbbmbmcaa", sum := "1417cb4645da9de4a4d4010c7c20f58f32d3dd0bdff62ddd592cb5fcb06d4210", func := "canopy/canopykeep.PartFirst", spec := "partFirst", apart := false, narrowed := true }
def PartFirstUptoSaid : Prop := partFirstUptoRow.holds Try.pinned (OpenSpec.upto partFirstSpec)

/-- 'canopykeep.PartOrder', WHERE WHAT IT READS IS OF BULK AT MOST 1048576: true; the input reads as it did. -/
def partOrderUptoRow : OpenClaim := { program := "yteefnnnbbmbmcaa", sum := "1417cb4645da9de4a4d4010c7c20f58f32d3dd0bdff62ddd592cb5fcb06d4210", func := "canopy/canopykeep.PartOrder", spec := "partOrder", apart := false, narrowed := true }
def PartOrderUptoSaid : Prop := partOrderUptoRow.holds Try.pinned (OpenSpec.upto partOrderSpec)

/-- 'canopykeep.RangeAll', WHERE WHAT IT READS IS OF BULK AT MOST 1048576: true; the input reads as it did. -/
def rangeAllUptoRow : OpenClaim := { program := "yteefnnnbbmbmcaa", sum := "1417cb4645da9de4a4d4010c7c20f58f32d3dd0bdff62ddd592cb5fcb06d4210", func := "canopy/canopykeep.RangeAll", spec := "rangeAll", inPlace := ["internal/bytealg.Compare"], unfollowed := true, recurses := true, apart := false, narrowed := true }
def RangeAllUptoSaid : Prop := rangeAllUptoRow.holds Try.pinned (OpenSpec.upto rangeAllSpec)

/-- 'canopykeep.RangeParts', WHERE WHAT IT READS IS OF BULK AT MOST 1048576: true; the input reads as it did. -/
def rangePartsUptoRow : OpenClaim := { program := "yteefnnnbbmbmcaa", sum := "1417cb4645da9de4a4d4010c7c20f58f32d3dd0bdff62ddd592cb5fcb06d4210", func := "canopy/canopykeep.RangeParts", spec := "rangeParts", inPlace := ["internal/bytealg.Compare"], unfollowed := true, recurses := true, apart := false, narrowed := true }
def RangePartsUptoSaid : Prop := rangePartsUptoRow.holds Try.pinned (OpenSpec.upto rangePartsSpec)

/-- 'canopykeep.PutTurns', WHERE WHAT IT READS IS OF BULK AT MOST 1048576: true; the input reads as it did. -/
def putTurnsUptoRow : OpenClaim := { program := "yteefnnnbbmbmcaa", sum := "1417cb4645da9de4a4d4010c7c20f58f32d3dd0bdff62ddd592cb5fcb06d4210", func := "canopy/canopykeep.PutTurns", spec := "putTurns", inPlace := ["internal/bytealg.Compare", "slices.overlaps[canopy/api.Pair]"], unfollowed := true, recurses := true, apart := false, narrowed := true }
def PutTurnsUptoSaid : Prop := putTurnsUptoRow.holds Try.pinned (OpenSpec.upto putTurnsSpec)

/-- 'canopykeep.TreeFull', WHERE WHAT IT READS IS OF BULK AT MOST 1048576: true; the input reads as it did. -/
def treeFullUptoRow : OpenClaim := { program := "yteefnnnbbmbmcaa", sum := "1417cb4645da9de4a4d4010c7c20f58f32d3dd0bdff62ddd592cb5fcb06d4210", func := "canopy/canopykeep.TreeFull", spec := "treeFull", inPlace := ["internal/bytealg.Compare", "slices.overlaps[canopy/api.Pair]"], unfollowed := true, recurses := true, apart := false, narrowed := true }
def TreeFullUptoSaid : Prop := treeFullUptoRow.holds Try.pinned (OpenSpec.upto treeFullSpec)

/-- 'canopykeep.PutGet', WHERE WHAT IT READS IS OF BULK AT MOST 1048576: true; the input reads as it did. -/
def putGetUptoRow : OpenClaim := { program := "yteefnnnbbmbmcaa", sum := "1417cb4645da9de4a4d4010c7c20f58f32d3dd0bdff62ddd592cb5fcb06d4210", func := "canopy/canopykeep.PutGet", spec := "putGet", inPlace := ["internal/bytealg.Compare", "slices.overlaps[canopy/api.Pair]"], unfollowed := true, recurses := true, apart := false, narrowed := true }
def PutGetUptoSaid : Prop := putGetUptoRow.holds Try.pinned (OpenSpec.upto putGetSpec)

/-- 'canopykeep.DeleteGone', WHERE WHAT IT READS IS OF BULK AT MOST 1048576: true; the input reads as it did. -/
def deleteGoneUptoRow : OpenClaim := { program := "yteefnnnbbmbmcaa", sum := "1417cb4645da9de4a4d4010c7c20f58f32d3dd0bdff62ddd592cb5fcb06d4210", func := "canopy/canopykeep.DeleteGone", spec := "deleteGone", inPlace := ["internal/bytealg.Compare", "slices.overlaps[canopy/api.Pair]"], unfollowed := true, recurses := true, apart := false, narrowed := true }
def DeleteGoneUptoSaid : Prop := deleteGoneUptoRow.holds Try.pinned (OpenSpec.upto deleteGoneSpec)

/-- 'canopykeep.GetModel', WHERE WHAT IT READS IS OF BULK AT MOST 1048576: true; the input reads as it did. -/
def getModelUptoRow : OpenClaim := { program := "yteefnnnbbmbmcaa", sum := "1417cb4645da9de4a4d4010c7c20f58f32d3dd0bdff62ddd592cb5fcb06d4210", func := "canopy/canopykeep.GetModel", spec := "getModel", inPlace := ["internal/bytealg.Compare", "slices.overlaps[canopy/api.Pair]"], unfollowed := true, recurses := true, apart := false, narrowed := true }
def GetModelUptoSaid : Prop := getModelUptoRow.holds Try.pinned (OpenSpec.upto getModelSpec)

/-- 'canopykeep.ApplyParts', WHERE WHAT IT READS IS OF BULK AT MOST 1048576: true; the input reads as it did. -/
def applyPartsUptoRow : OpenClaim := { program := "yteefnnnbbmbmcaa", sum := "1417cb4645da9de4a4d4010c7c20f58f32d3dd0bdff62ddd592cb5fcb06d4210", func := "canopy/canopykeep.ApplyParts", spec := "applyParts", inPlace := ["internal/bytealg.Compare", "slices.overlaps[canopy/api.Pair]", "slices.overlaps[canopy/api.Tenant]"], unfollowed := true, recurses := true, apart := false, narrowed := true }
def ApplyPartsUptoSaid : Prop := applyPartsUptoRow.holds Try.pinned (OpenSpec.upto applyPartsSpec)

/-- 'canopykeep.ApplyTurns', WHERE WHAT IT READS IS OF BULK AT MOST 1048576: true; the input reads as it did. -/
def applyTurnsUptoRow : OpenClaim := { program := "yteefnnnbbmbmcaa", sum := "1417cb4645da9de4a4d4010c7c20f58f32d3dd0bdff62ddd592cb5fcb06d4210", func := "canopy/canopykeep.ApplyTurns", spec := "applyTurns", inPlace := ["internal/bytealg.Compare", "slices.overlaps[canopy/api.Pair]", "slices.overlaps[canopy/api.Tenant]"], unfollowed := true, recurses := true, apart := false, narrowed := true }
def ApplyTurnsUptoSaid : Prop := applyTurnsUptoRow.holds Try.pinned (OpenSpec.upto applyTurnsSpec)

/-- 'canopykeep.ForestFull', WHERE WHAT IT READS IS OF BULK AT MOST 1048576: true; the input reads as it did. -/
def forestFullUptoRow : OpenClaim := { program := "yteefnnnbbmbmcaa", sum := "1417cb4645da9de4a4d4010c7c20f58f32d3dd0bdff62ddd592cb5fcb06d4210", func := "canopy/canopykeep.ForestFull", spec := "forestFull", inPlace := ["internal/bytealg.Compare", "slices.overlaps[canopy/api.Pair]", "slices.overlaps[canopy/api.Tenant]"], unfollowed := true, recurses := true, apart := false, narrowed := true }
def ForestFullUptoSaid : Prop := forestFullUptoRow.holds Try.pinned (OpenSpec.upto forestFullSpec)

/-- 'canopykeep.ApplyAgain', WHERE WHAT IT READS IS OF BULK AT MOST 1048576: true; the input reads as it did. -/
def applyAgainUptoRow : OpenClaim := { program := "yteefnnnbbmbmcaa", sum := "1417cb4645da9de4a4d4010c7c20f58f32d3dd0bdff62ddd592cb5fcb06d4210", func := "canopy/canopykeep.ApplyAgain", spec := "applyAgain", inPlace := ["internal/bytealg.Compare", "slices.overlaps[canopy/api.Pair]", "slices.overlaps[canopy/api.Tenant]"], unfollowed := true, recurses := true, apart := false, narrowed := true }
def ApplyAgainUptoSaid : Prop := applyAgainUptoRow.holds Try.pinned (OpenSpec.upto applyAgainSpec)

/-- 'canopykeep.ApplyGet', WHERE WHAT IT READS IS OF BULK AT MOST 1048576: true; the input reads as it did. -/
def applyGetUptoRow : OpenClaim := { program := "yteefnnnbbmbmcaa", sum := "1417cb4645da9de4a4d4010c7c20f58f32d3dd0bdff62ddd592cb5fcb06d4210", func := "canopy/canopykeep.ApplyGet", spec := "applyGet", inPlace := ["internal/bytealg.Compare", "slices.overlaps[canopy/api.Pair]", "slices.overlaps[canopy/api.Tenant]"], unfollowed := true, recurses := true, apart := false, narrowed := true }
def ApplyGetUptoSaid : Prop := applyGetUptoRow.holds Try.pinned (OpenSpec.upto applyGetSpec)

/-- 'canopykeep.CommitSize', WHERE WHAT IT READS IS OF BULK AT MOST 1048576: true; the input reads as it did. -/
def commitSizeUptoRow : OpenClaim := { program := "yteefnnnbbmbmcaa", sum := "1417cb4645da9de4a4d4010c7c20f58f32d3dd0bdff62ddd592cb5fcb06d4210", func := "canopy/canopykeep.CommitSize", spec := "commitSize", inPlace := ["internal/bytealg.Compare", "slices.overlaps[canopy/api.Pair]", "slices.overlaps[canopy/api.Tenant]"], unfollowed := true, recurses := true, apart := false, narrowed := true }
def CommitSizeUptoSaid : Prop := commitSizeUptoRow.holds Try.pinned (OpenSpec.upto commitSizeSpec)

/-- 'canopykeep.ForestRange', WHERE WHAT IT READS IS OF BULK AT MOST 1048576: true; the input reads as it did. -/
def forestRangeUptoRow : OpenClaim := { program := "yteefnnnbbmbmcaa", sum := "1417cb4645da9de4a4d4010c7c20f58f32d3dd0bdff62ddd592cb5fcb06d4210", func := "canopy/canopykeep.ForestRange", spec := "forestRange", inPlace := ["internal/bytealg.Compare", "slices.overlaps[canopy/api.Pair]", "slices.overlaps[canopy/api.Tenant]"], unfollowed := true, recurses := true, apart := false, narrowed := true }
def ForestRangeUptoSaid : Prop := forestRangeUptoRow.holds Try.pinned (OpenSpec.upto forestRangeSpec)

/-- 'canopykeep.FoldNext', WHERE WHAT IT READS IS OF BULK AT MOST 1048576: true; the input reads as it did. -/
def foldNextUptoRow : OpenClaim := { program := "yteefnnnbbmbmcaa", sum := "1417cb4645da9de4a4d4010c7c20f58f32d3dd0bdff62ddd592cb5fcb06d4210", func := "canopy/canopykeep.FoldNext", spec := "foldNext", inPlace := ["internal/bytealg.Compare", "slices.overlaps[canopy/api.Pair]", "slices.overlaps[canopy/api.Tenant]"], unfollowed := true, recurses := true, apart := false, narrowed := true }
def FoldNextUptoSaid : Prop := foldNextUptoRow.holds Try.pinned (OpenSpec.upto foldNextSpec)

/-- 'canopykeep.CommitBack', WHERE WHAT IT READS IS OF BULK AT MOST 1048576: true; the input reads as it did. -/
def commitBackUptoRow : OpenClaim := { program := "yteefnnnbbmbmcaa", sum := "1417cb4645da9de4a4d4010c7c20f58f32d3dd0bdff62ddd592cb5fcb06d4210", func := "canopy/canopykeep.CommitBack", spec := "commitBack", inPlace := ["internal/bytealg.Compare", "slices.overlaps[canopy/api.Pair]", "slices.overlaps[canopy/api.Tenant]"], unfollowed := true, recurses := true, apart := false, narrowed := true }
def CommitBackUptoSaid : Prop := commitBackUptoRow.holds Try.pinned (OpenSpec.upto commitBackSpec)

/-- 'canopykeep.CommitFixed', WHERE WHAT IT READS IS OF BULK AT MOST 1048576: true; the input reads as it did. -/
def commitFixedUptoRow : OpenClaim := { program := "yteefnnnbbmbmcaa", sum := "1417cb4645da9de4a4d4010c7c20f58f32d3dd0bdff62ddd592cb5fcb06d4210", func := "canopy/canopykeep.CommitFixed", spec := "commitFixed", inPlace := ["internal/bytealg.Compare", "slices.overlaps[canopy/api.Pair]", "slices.overlaps[canopy/api.Tenant]"], unfollowed := true, recurses := true, apart := false, narrowed := true }
def CommitFixedUptoSaid : Prop := commitFixedUptoRow.holds Try.pinned (OpenSpec.upto commitFixedSpec)

/-- 'canopykeep.CommitTorn', WHERE WHAT IT READS IS OF BULK AT MOST 1048576: true; the input reads as it did. -/
def commitTornUptoRow : OpenClaim := { program := "yteefnnnbbmbmcaa", sum := "1417cb4645da9de4a4d4010c7c20f58f32d3dd0bdff62ddd592cb5fcb06d4210", func := "canopy/canopykeep.CommitTorn", spec := "commitTorn", inPlace := ["internal/bytealg.Compare", "slices.overlaps[canopy/api.Pair]", "slices.overlaps[canopy/api.Tenant]"], unfollowed := true, recurses := true, apart := false, narrowed := true }
def CommitTornUptoSaid : Prop := commitTornUptoRow.holds Try.pinned (OpenSpec.upto commitTornSpec)

/-- 'canopykeep.WriteAgain', WHERE WHAT IT READS IS OF BULK AT MOST 1048576: true; the input reads as it did. -/
def writeAgainUptoRow : OpenClaim := { program := "yteefnnnbbmbmcaa", sum := "1417cb4645da9de4a4d4010c7c20f58f32d3dd0bdff62ddd592cb5fcb06d4210", func := "canopy/canopykeep.WriteAgain", spec := "writeAgain", inPlace := ["internal/bytealg.Compare", "slices.overlaps[canopy/api.Pair]", "slices.overlaps[canopy/api.Tenant]"], unfollowed := true, recurses := true, apart := false, narrowed := true }
def WriteAgainUptoSaid : Prop := writeAgainUptoRow.holds Try.pinned (OpenSpec.upto writeAgainSpec)

/-- 'canopykeep.NoteOnce', WHERE WHAT IT READS IS OF BULK AT MOST 1048576: true; the input reads as it did. -/
def noteOnceUptoRow : OpenClaim := { program := "yteefnnnbbmbmcaa", sum := "1417cb4645da9de4a4d4010c7c20f58f32d3dd0bdff62ddd592cb5fcb06d4210", func := "canopy/canopykeep.NoteOnce", spec := "noteOnce", inPlace := ["internal/bytealg.Compare", "slices.overlaps[canopy/api.Pair]", "slices.overlaps[canopy/api.Tenant]"], unfollowed := true, recurses := true, apart := false, narrowed := true }
def NoteOnceUptoSaid : Prop := noteOnceUptoRow.holds Try.pinned (OpenSpec.upto noteOnceSpec)

/-- 'canopykeep.NoteFull', WHERE WHAT IT READS IS OF BULK AT MOST 1048576: true; the input reads as it did. -/
def noteFullUptoRow : OpenClaim := { program := "yteefnnnbbmbmcaa", sum := "1417cb4645da9de4a4d4010c7c20f58f32d3dd0bdff62ddd592cb5fcb06d4210", func := "canopy/canopykeep.NoteFull", spec := "noteFull", inPlace := ["internal/bytealg.Compare", "slices.overlaps[canopy/api.Pair]", "slices.overlaps[canopy/api.Tenant]"], unfollowed := true, recurses := true, apart := false, narrowed := true }
def NoteFullUptoSaid : Prop := noteFullUptoRow.holds Try.pinned (OpenSpec.upto noteFullSpec)

/-- 'canopykeep.ClashMore', WHERE WHAT IT READS IS OF BULK AT MOST 1048576: true; the input reads as it did. -/
def clashMoreUptoRow : OpenClaim := { program := "yteefnnnbbmbmcaa", sum := "1417cb4645da9de4a4d4010c7c20f58f32d3dd0bdff62ddd592cb5fcb06d4210", func := "canopy/canopykeep.ClashMore", spec := "clashMore", inPlace := ["internal/bytealg.Compare", "slices.overlaps[canopy/api.Pair]", "slices.overlaps[canopy/api.Tenant]"], unfollowed := true, recurses := true, apart := false, narrowed := true }
def ClashMoreUptoSaid : Prop := clashMoreUptoRow.holds Try.pinned (OpenSpec.upto clashMoreSpec)

/-- 'canopykeep.WriteSeen', WHERE WHAT IT READS IS OF BULK AT MOST 1048576: true; the input reads as it did. -/
def writeSeenUptoRow : OpenClaim := { program := "yteefnnnbbmbmcaa", sum := "1417cb4645da9de4a4d4010c7c20f58f32d3dd0bdff62ddd592cb5fcb06d4210", func := "canopy/canopykeep.WriteSeen", spec := "writeSeen", inPlace := ["internal/bytealg.Compare", "slices.overlaps[canopy/api.Pair]", "slices.overlaps[canopy/api.Tenant]"], unfollowed := true, recurses := true, apart := false, narrowed := true }
def WriteSeenUptoSaid : Prop := writeSeenUptoRow.holds Try.pinned (OpenSpec.upto writeSeenSpec)

/-- 'canopykeep.LookApplied', WHERE WHAT IT READS IS OF BULK AT MOST 1048576: true; the input reads as it did. -/
def lookAppliedUptoRow : OpenClaim := { program := "yteefnnnbbmbmcaa", sum := "1417cb4645da9de4a4d4010c7c20f58f32d3dd0bdff62ddd592cb5fcb06d4210", func := "canopy/canopykeep.LookApplied", spec := "lookApplied", inPlace := ["internal/bytealg.Compare", "slices.overlaps[canopy/api.Pair]", "slices.overlaps[canopy/api.Tenant]"], unfollowed := true, recurses := true, apart := false, narrowed := true }
def LookAppliedUptoSaid : Prop := lookAppliedUptoRow.holds Try.pinned (OpenSpec.upto lookAppliedSpec)

/-- 'canopykeep.ScanApplied', WHERE WHAT IT READS IS OF BULK AT MOST 1048576: true; the input reads as it did. -/
def scanAppliedUptoRow : OpenClaim := { program := "yteefnnnbbmbmcaa", sum := "1417cb4645da9de4a4d4010c7c20f58f32d3dd0bdff62ddd592cb5fcb06d4210", func := "canopy/canopykeep.ScanApplied", spec := "scanApplied", inPlace := ["internal/bytealg.Compare", "slices.overlaps[canopy/api.Pair]", "slices.overlaps[canopy/api.Tenant]"], unfollowed := true, recurses := true, apart := false, narrowed := true }
def ScanAppliedUptoSaid : Prop := scanAppliedUptoRow.holds Try.pinned (OpenSpec.upto scanAppliedSpec)

/-- 'canopykeep.TxnTwice', WHERE WHAT IT READS IS OF BULK AT MOST 1048576: true; the input reads as it did. -/
def txnTwiceUptoRow : OpenClaim := { program := "yteefnnnbbmbmcaa", sum := "1417cb4645da9de4a4d4010c7c20f58f32d3dd0bdff62ddd592cb5fcb06d4210", func := "canopy/canopykeep.TxnTwice", spec := "txnTwice", inPlace := ["internal/bytealg.Compare", "slices.overlaps[canopy/api.Pair]", "slices.overlaps[canopy/api.Tenant]"], unfollowed := true, recurses := true, apart := false, narrowed := true }
def TxnTwiceUptoSaid : Prop := txnTwiceUptoRow.holds Try.pinned (OpenSpec.upto txnTwiceSpec)

/-- 'canopykeep.ClashSeen', WHERE WHAT IT READS IS OF BULK AT MOST 1048576: true; the input reads as it did. -/
def clashSeenUptoRow : OpenClaim := { program := "yteefnnnbbmbmcaa", sum := "1417cb4645da9de4a4d4010c7c20f58f32d3dd0bdff62ddd592cb5fcb06d4210", func := "canopy/canopykeep.ClashSeen", spec := "clashSeen", inPlace := ["internal/bytealg.Compare", "slices.overlaps[canopy/api.Pair]", "slices.overlaps[canopy/api.Tenant]"], unfollowed := true, recurses := true, apart := false, narrowed := true }
def ClashSeenUptoSaid : Prop := clashSeenUptoRow.holds Try.pinned (OpenSpec.upto clashSeenSpec)

/-- 'canopykeep.ChangesBack', WHERE WHAT IT READS IS OF BULK AT MOST 1048576: true; the input reads as it did. -/
def changesBackUptoRow : OpenClaim := { program := "yteefnnnbbmbmcaa", sum := "1417cb4645da9de4a4d4010c7c20f58f32d3dd0bdff62ddd592cb5fcb06d4210", func := "canopy/canopykeep.ChangesBack", spec := "changesBack", inPlace := ["internal/bytealg.Compare", "slices.overlaps[canopy/api.Pair]", "slices.overlaps[canopy/api.Tenant]"], unfollowed := true, recurses := true, apart := false, narrowed := true }
def ChangesBackUptoSaid : Prop := changesBackUptoRow.holds Try.pinned (OpenSpec.upto changesBackSpec)

/-- 'canopykeep.ChangesMake', WHERE WHAT IT READS IS OF BULK AT MOST 1048576: true; the input reads as it did. -/
def changesMakeUptoRow : OpenClaim := { program := "yteefnnnbbmbmcaa", sum := "1417cb4645da9de4a4d4010c7c20f58f32d3dd0bdff62ddd592cb5fcb06d4210", func := "canopy/canopykeep.ChangesMake", spec := "changesMake", inPlace := ["internal/bytealg.Compare", "slices.overlaps[canopy/api.Pair]", "slices.overlaps[canopy/api.Tenant]"], unfollowed := true, recurses := true, apart := false, narrowed := true }
def ChangesMakeUptoSaid : Prop := changesMakeUptoRow.holds Try.pinned (OpenSpec.upto changesMakeSpec)

end Rows
end Go.Proofs.Yteefnnnbbmbmcaa
