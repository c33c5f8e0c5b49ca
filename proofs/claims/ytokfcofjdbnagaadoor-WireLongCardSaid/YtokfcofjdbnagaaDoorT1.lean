/- The table wire.has, and a world that holds it. -/
import Derived.Test.YtokfcofjdbnagaaDoorW1
import Derived.Test.YtokfcofjdbnagaaDoorT0
namespace Go.Proofs.YtokfcofjdbnagaaDoor
open Go.ChangeShapes Go.WideShapes Go.ChangeAt Go.RowKit
set_option maxRecDepth 100000
theorem gHas : Tryd.prog.globalNamed "canopy/wire.has" = some 0 := by kernel_rfl
theorem gHasType : (Tryd.prog.globals[(0 : Nat)]?).map (·.type) = some 84 := by kernel_rfl
theorem gHasCells : Tryd.prog.cellsOf 84 = 9 := by kernel_rfl
theorem intCells : Tryd.prog.cellsOf 3 = 1 := by kernel_rfl
theorem has_met {W : World} (h : laidMetH Tryd.prog [("canopy/wire.has", Rows.laid_canopy_wire_has)] W) : Has W := by
  have ht : Lib.TabIs Tryd.prog W "canopy/wire.has" .i64 hasL :=
    tabIs_at (l := [("canopy/wire.has", Rows.laid_canopy_wire_has)]) h 0 _ _ _ rfl gHas gHasType Tryd.underlying84 Tryd.underlying3 intCells gHasCells
  intro i hi
  have := ht.cell gHas i hi
  rw [this]
  simp [List.getD, hi]
noncomputable def hasWorld (os : Os) : World :=
  { World.holding Tryd.prog os ⟨#[], #[], []⟩ with heap := (World.holding Tryd.prog os ⟨#[], #[], []⟩).heap.modify 0 fun
      | .cells _ t frozen => .cells #[.int .i64 0, .int .i64 0, .int .i64 3, .int .i64 7, .int .i64 11, .int .i64 3, .int .i64 0, .int .i64 0, .int .i64 3] t frozen
      | o => o }
end Go.Proofs.YtokfcofjdbnagaaDoor
