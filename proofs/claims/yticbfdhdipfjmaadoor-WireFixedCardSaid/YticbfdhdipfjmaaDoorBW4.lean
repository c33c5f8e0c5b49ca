/- Rules, plain laws and walks: TY N1 S7 S8 S9 S10 T0 W1 -/
import Derived.Test.YticbfdhdipfjmaaDoorBW3
import Derived.Test.YticbfdhdipfjmaaDoorBW1
import Derived.OrdersHeld
import Derived.Test.YticbfdhdipfjmaaDoorCards
import Derived.Test.YticbfdhdipfjmaaDoorTie
import Derived.WalkKit
import Derived.ProofKit
import Derived.OpenShut
import Derived.Deep.DeepHandedRow
import Derived.Lib.LaidTab
import Derived.Lib.SmallJoins
namespace Go.Proofs.YticbfdhdipfjmaaDoor
open Go.RowKit
set_option maxRecDepth 100000
theorem nagg_3 (w : World) : (isAgg 3).run Tryd.prog w = .ok false w := by kernel_rfl
theorem size_3 : (Tryd.prog.info? 3).map (·.size) = some 1 := by kernel_rfl
theorem zero_3 (w : World) : (zeroValue 3).run Tryd.prog w = .ok (.int .i64 0) w := by kernel_rfl
theorem sizeof_3 (w : World) : (sizeOf 3).run Tryd.prog w = .ok 1 w := by kernel_rfl
theorem nagg_4 (w : World) : (isAgg 4).run Tryd.prog w = .ok false w := by kernel_rfl
theorem size_4 : (Tryd.prog.info? 4).map (·.size) = some 1 := by kernel_rfl
theorem zero_4 (w : World) : (zeroValue 4).run Tryd.prog w = .ok (.bool false) w := by kernel_rfl
theorem sizeof_4 (w : World) : (sizeOf 4).run Tryd.prog w = .ok 1 w := by kernel_rfl
theorem nagg_5 (w : World) : (isAgg 5).run Tryd.prog w = .ok false w := by kernel_rfl
theorem size_5 : (Tryd.prog.info? 5).map (·.size) = some 1 := by kernel_rfl
theorem zero_5 (w : World) : (zeroValue 5).run Tryd.prog w = .ok (.int .u8 0) w := by kernel_rfl
theorem sizeof_5 (w : World) : (sizeOf 5).run Tryd.prog w = .ok 1 w := by kernel_rfl
theorem nagg_22 (w : World) : (isAgg 22).run Tryd.prog w = .ok false w := by kernel_rfl
theorem size_22 : (Tryd.prog.info? 22).map (·.size) = some 1 := by kernel_rfl
theorem zero_22 (w : World) : (zeroValue 22).run Tryd.prog w = .ok (.slice none 0 0) w := by kernel_rfl
theorem sizeof_22 (w : World) : (sizeOf 22).run Tryd.prog w = .ok 1 w := by kernel_rfl
theorem nagg_27 (w : World) : (isAgg 27).run Tryd.prog w = .ok false w := by kernel_rfl
theorem size_27 : (Tryd.prog.info? 27).map (·.size) = some 1 := by kernel_rfl
theorem zero_27 (w : World) : (zeroValue 27).run Tryd.prog w = .ok (.int .i64 0) w := by kernel_rfl
theorem sizeof_27 (w : World) : (sizeOf 27).run Tryd.prog w = .ok 1 w := by kernel_rfl
theorem nagg_60 (w : World) : (isAgg 60).run Tryd.prog w = .ok false w := by kernel_rfl
theorem size_60 : (Tryd.prog.info? 60).map (·.size) = some 1 := by kernel_rfl
theorem zero_60 (w : World) : (zeroValue 60).run Tryd.prog w = .ok (.slice none 0 0) w := by kernel_rfl
theorem sizeof_60 (w : World) : (sizeOf 60).run Tryd.prog w = .ok 1 w := by kernel_rfl
theorem nagg_61 (w : World) : (isAgg 61).run Tryd.prog w = .ok false w := by kernel_rfl
theorem size_61 : (Tryd.prog.info? 61).map (·.size) = some 1 := by kernel_rfl
theorem zero_61 (w : World) : (zeroValue 61).run Tryd.prog w = .ok (.slice none 0 0) w := by kernel_rfl
theorem sizeof_61 (w : World) : (sizeOf 61).run Tryd.prog w = .ok 1 w := by kernel_rfl
theorem nagg_88 (w : World) : (isAgg 88).run Tryd.prog w = .ok false w := by kernel_rfl
theorem size_88 : (Tryd.prog.info? 88).map (·.size) = some 1 := by kernel_rfl
theorem zero_88 (w : World) : (zeroValue 88).run Tryd.prog w = .ok (.slice none 0 0) w := by kernel_rfl
theorem sizeof_88 (w : World) : (sizeOf 88).run Tryd.prog w = .ok 1 w := by kernel_rfl
theorem nagg_99 (w : World) : (isAgg 99).run Tryd.prog w = .ok false w := by kernel_rfl
theorem size_99 : (Tryd.prog.info? 99).map (·.size) = some 1 := by kernel_rfl
theorem zero_99 (w : World) : (zeroValue 99).run Tryd.prog w = .ok (.slice none 0 0) w := by kernel_rfl
theorem sizeof_99 (w : World) : (sizeOf 99).run Tryd.prog w = .ok 1 w := by kernel_rfl
theorem size_105 : (Tryd.prog.info? 105).map (·.size) = some 2 := by kernel_rfl
theorem zero_105 (w : World) : (zeroValue 105).run Tryd.prog w = .ok (.agg #[.slice none 0 0, .slice none 0 0]) w := by kernel_rfl
theorem sizeof_105 (w : World) : (sizeOf 105).run Tryd.prog w = .ok 2 w := by kernel_rfl
theorem info_105 : (Tryd.prog.info? 105).map (fun i => (i.zero, i.size, i.bytes)) = some (some (.agg #[.slice none 0 0, .slice none 0 0]), 2, 48) := by kernel_rfl
theorem fa_105_0 (b o : Nat) (w : World) : (Instr.fieldAt 105 (.pointer (some ⟨b, o, none⟩)) 0).run Tryd.prog w = .ok (.pointer (some ⟨b, o, none⟩)) w := by go_simp
theorem fa_105_1 (b o : Nat) (w : World) : (Instr.fieldAt 105 (.pointer (some ⟨b, o, none⟩)) 1).run Tryd.prog w = .ok (.pointer (some ⟨b, o + 1, none⟩)) w := by go_simp
theorem size_101 : (Tryd.prog.info? 101).map (·.size) = some 2 := by kernel_rfl
theorem zero_101 (w : World) : (zeroValue 101).run Tryd.prog w = .ok (.agg #[.slice none 0 0, .slice none 0 0]) w := by kernel_rfl
theorem sizeof_101 (w : World) : (sizeOf 101).run Tryd.prog w = .ok 2 w := by kernel_rfl
theorem info_101 : (Tryd.prog.info? 101).map (fun i => (i.zero, i.size, i.bytes)) = some (some (.agg #[.slice none 0 0, .slice none 0 0]), 2, 48) := by kernel_rfl
theorem fa_101_0 (b o : Nat) (w : World) : (Instr.fieldAt 101 (.pointer (some ⟨b, o, none⟩)) 0).run Tryd.prog w = .ok (.pointer (some ⟨b, o, none⟩)) w := by go_simp
theorem fa_101_1 (b o : Nat) (w : World) : (Instr.fieldAt 101 (.pointer (some ⟨b, o, none⟩)) 1).run Tryd.prog w = .ok (.pointer (some ⟨b, o + 1, none⟩)) w := by go_simp
theorem size_42 : (Tryd.prog.info? 42).map (·.size) = some 4 := by kernel_rfl
theorem zero_42 (w : World) : (zeroValue 42).run Tryd.prog w = .ok (.agg #[.slice none 0 0, .slice none 0 0, .bool false, .slice none 0 0]) w := by kernel_rfl
theorem sizeof_42 (w : World) : (sizeOf 42).run Tryd.prog w = .ok 4 w := by kernel_rfl
theorem info_42 : (Tryd.prog.info? 42).map (fun i => (i.zero, i.size, i.bytes)) = some (some (.agg #[.slice none 0 0, .slice none 0 0, .bool false, .slice none 0 0]), 4, 80) := by kernel_rfl
theorem fa_42_0 (b o : Nat) (w : World) : (Instr.fieldAt 42 (.pointer (some ⟨b, o, none⟩)) 0).run Tryd.prog w = .ok (.pointer (some ⟨b, o, none⟩)) w := by go_simp
theorem fa_42_1 (b o : Nat) (w : World) : (Instr.fieldAt 42 (.pointer (some ⟨b, o, none⟩)) 1).run Tryd.prog w = .ok (.pointer (some ⟨b, o + 1, none⟩)) w := by go_simp
theorem fa_42_2 (b o : Nat) (w : World) : (Instr.fieldAt 42 (.pointer (some ⟨b, o, none⟩)) 2).run Tryd.prog w = .ok (.pointer (some ⟨b, o + 2, none⟩)) w := by go_simp
theorem fa_42_3 (b o : Nat) (w : World) : (Instr.fieldAt 42 (.pointer (some ⟨b, o, none⟩)) 3).run Tryd.prog w = .ok (.pointer (some ⟨b, o + 3, none⟩)) w := by go_simp
theorem size_38 : (Tryd.prog.info? 38).map (·.size) = some 4 := by kernel_rfl
theorem zero_38 (w : World) : (zeroValue 38).run Tryd.prog w = .ok (.agg #[.slice none 0 0, .slice none 0 0, .bool false, .slice none 0 0]) w := by kernel_rfl
theorem sizeof_38 (w : World) : (sizeOf 38).run Tryd.prog w = .ok 4 w := by kernel_rfl
theorem info_38 : (Tryd.prog.info? 38).map (fun i => (i.zero, i.size, i.bytes)) = some (some (.agg #[.slice none 0 0, .slice none 0 0, .bool false, .slice none 0 0]), 4, 80) := by kernel_rfl
theorem fa_38_0 (b o : Nat) (w : World) : (Instr.fieldAt 38 (.pointer (some ⟨b, o, none⟩)) 0).run Tryd.prog w = .ok (.pointer (some ⟨b, o, none⟩)) w := by go_simp
theorem fa_38_1 (b o : Nat) (w : World) : (Instr.fieldAt 38 (.pointer (some ⟨b, o, none⟩)) 1).run Tryd.prog w = .ok (.pointer (some ⟨b, o + 1, none⟩)) w := by go_simp
theorem fa_38_2 (b o : Nat) (w : World) : (Instr.fieldAt 38 (.pointer (some ⟨b, o, none⟩)) 2).run Tryd.prog w = .ok (.pointer (some ⟨b, o + 2, none⟩)) w := by go_simp
theorem fa_38_3 (b o : Nat) (w : World) : (Instr.fieldAt 38 (.pointer (some ⟨b, o, none⟩)) 3).run Tryd.prog w = .ok (.pointer (some ⟨b, o + 3, none⟩)) w := by go_simp
theorem size_63 : (Tryd.prog.info? 63).map (·.size) = some 3 := by kernel_rfl
theorem zero_63 (w : World) : (zeroValue 63).run Tryd.prog w = .ok (.agg #[.int .i64 0, .slice none 0 0, .slice none 0 0]) w := by kernel_rfl
theorem sizeof_63 (w : World) : (sizeOf 63).run Tryd.prog w = .ok 3 w := by kernel_rfl
theorem info_63 : (Tryd.prog.info? 63).map (fun i => (i.zero, i.size, i.bytes)) = some (some (.agg #[.int .i64 0, .slice none 0 0, .slice none 0 0]), 3, 56) := by kernel_rfl
theorem fa_63_0 (b o : Nat) (w : World) : (Instr.fieldAt 63 (.pointer (some ⟨b, o, none⟩)) 0).run Tryd.prog w = .ok (.pointer (some ⟨b, o, none⟩)) w := by go_simp
theorem fa_63_1 (b o : Nat) (w : World) : (Instr.fieldAt 63 (.pointer (some ⟨b, o, none⟩)) 1).run Tryd.prog w = .ok (.pointer (some ⟨b, o + 1, none⟩)) w := by go_simp
theorem fa_63_2 (b o : Nat) (w : World) : (Instr.fieldAt 63 (.pointer (some ⟨b, o, none⟩)) 2).run Tryd.prog w = .ok (.pointer (some ⟨b, o + 2, none⟩)) w := by go_simp
theorem size_25 : (Tryd.prog.info? 25).map (·.size) = some 5 := by kernel_rfl
theorem zero_25 (w : World) : (zeroValue 25).run Tryd.prog w = .ok (.agg #[.int .i64 0, .slice none 0 0, .slice none 0 0, .slice none 0 0, .slice none 0 0]) w := by kernel_rfl
theorem sizeof_25 (w : World) : (sizeOf 25).run Tryd.prog w = .ok 5 w := by kernel_rfl
theorem info_25 : (Tryd.prog.info? 25).map (fun i => (i.zero, i.size, i.bytes)) = some (some (.agg #[.int .i64 0, .slice none 0 0, .slice none 0 0, .slice none 0 0, .slice none 0 0]), 5, 104) := by kernel_rfl
theorem fa_25_0 (b o : Nat) (w : World) : (Instr.fieldAt 25 (.pointer (some ⟨b, o, none⟩)) 0).run Tryd.prog w = .ok (.pointer (some ⟨b, o, none⟩)) w := by go_simp
theorem fa_25_1 (b o : Nat) (w : World) : (Instr.fieldAt 25 (.pointer (some ⟨b, o, none⟩)) 1).run Tryd.prog w = .ok (.pointer (some ⟨b, o + 1, none⟩)) w := by go_simp
theorem fa_25_2 (b o : Nat) (w : World) : (Instr.fieldAt 25 (.pointer (some ⟨b, o, none⟩)) 2).run Tryd.prog w = .ok (.pointer (some ⟨b, o + 2, none⟩)) w := by go_simp
theorem fa_25_3 (b o : Nat) (w : World) : (Instr.fieldAt 25 (.pointer (some ⟨b, o, none⟩)) 3).run Tryd.prog w = .ok (.pointer (some ⟨b, o + 3, none⟩)) w := by go_simp
theorem fa_25_4 (b o : Nat) (w : World) : (Instr.fieldAt 25 (.pointer (some ⟨b, o, none⟩)) 4).run Tryd.prog w = .ok (.pointer (some ⟨b, o + 4, none⟩)) w := by go_simp
theorem size_24 : (Tryd.prog.info? 24).map (·.size) = some 5 := by kernel_rfl
theorem zero_24 (w : World) : (zeroValue 24).run Tryd.prog w = .ok (.agg #[.int .i64 0, .slice none 0 0, .slice none 0 0, .slice none 0 0, .slice none 0 0]) w := by kernel_rfl
theorem sizeof_24 (w : World) : (sizeOf 24).run Tryd.prog w = .ok 5 w := by kernel_rfl
theorem info_24 : (Tryd.prog.info? 24).map (fun i => (i.zero, i.size, i.bytes)) = some (some (.agg #[.int .i64 0, .slice none 0 0, .slice none 0 0, .slice none 0 0, .slice none 0 0]), 5, 104) := by kernel_rfl
theorem fa_24_0 (b o : Nat) (w : World) : (Instr.fieldAt 24 (.pointer (some ⟨b, o, none⟩)) 0).run Tryd.prog w = .ok (.pointer (some ⟨b, o, none⟩)) w := by go_simp
theorem fa_24_1 (b o : Nat) (w : World) : (Instr.fieldAt 24 (.pointer (some ⟨b, o, none⟩)) 1).run Tryd.prog w = .ok (.pointer (some ⟨b, o + 1, none⟩)) w := by go_simp
theorem fa_24_2 (b o : Nat) (w : World) : (Instr.fieldAt 24 (.pointer (some ⟨b, o, none⟩)) 2).run Tryd.prog w = .ok (.pointer (some ⟨b, o + 2, none⟩)) w := by go_simp
theorem fa_24_3 (b o : Nat) (w : World) : (Instr.fieldAt 24 (.pointer (some ⟨b, o, none⟩)) 3).run Tryd.prog w = .ok (.pointer (some ⟨b, o + 3, none⟩)) w := by go_simp
theorem fa_24_4 (b o : Nat) (w : World) : (Instr.fieldAt 24 (.pointer (some ⟨b, o, none⟩)) 4).run Tryd.prog w = .ok (.pointer (some ⟨b, o + 4, none⟩)) w := by go_simp
theorem ent_10 (vs : Array Value) (w : World) : (callFunc 10 vs).run Tryd.prog w = .ok (.enter 10 vs) w := by kernel_rfl
theorem ent_11 (vs : Array Value) (w : World) : (callFunc 11 vs).run Tryd.prog w = .ok (.enter 11 vs) w := by kernel_rfl
theorem ent_12 (vs : Array Value) (w : World) : (callFunc 12 vs).run Tryd.prog w = .ok (.enter 12 vs) w := by kernel_rfl
theorem ent_13 (vs : Array Value) (w : World) : (callFunc 13 vs).run Tryd.prog w = .ok (.enter 13 vs) w := by kernel_rfl
theorem ent_14 (vs : Array Value) (w : World) : (callFunc 14 vs).run Tryd.prog w = .ok (.enter 14 vs) w := by kernel_rfl
theorem ent_15 (vs : Array Value) (w : World) : (callFunc 15 vs).run Tryd.prog w = .ok (.enter 15 vs) w := by kernel_rfl
theorem ent_16 (vs : Array Value) (w : World) : (callFunc 16 vs).run Tryd.prog w = .ok (.enter 16 vs) w := by kernel_rfl
theorem ent_17 (vs : Array Value) (w : World) : (callFunc 17 vs).run Tryd.prog w = .ok (.enter 17 vs) w := by kernel_rfl
theorem ent_18 (vs : Array Value) (w : World) : (callFunc 18 vs).run Tryd.prog w = .ok (.enter 18 vs) w := by kernel_rfl
theorem ent_19 (vs : Array Value) (w : World) : (callFunc 19 vs).run Tryd.prog w = .ok (.enter 19 vs) w := by kernel_rfl
theorem ent_20 (vs : Array Value) (w : World) : (callFunc 20 vs).run Tryd.prog w = .ok (.enter 20 vs) w := by kernel_rfl
theorem ent_21 (vs : Array Value) (w : World) : (callFunc 21 vs).run Tryd.prog w = .ok (.enter 21 vs) w := by kernel_rfl
theorem ent_22 (vs : Array Value) (w : World) : (callFunc 22 vs).run Tryd.prog w = .ok (.enter 22 vs) w := by kernel_rfl
theorem ent_23 (vs : Array Value) (w : World) : (callFunc 23 vs).run Tryd.prog w = .ok (.enter 23 vs) w := by kernel_rfl
theorem ent_24 (vs : Array Value) (w : World) : (callFunc 24 vs).run Tryd.prog w = .ok (.enter 24 vs) w := by kernel_rfl
theorem ent_25 (vs : Array Value) (w : World) : (callFunc 25 vs).run Tryd.prog w = .ok (.enter 25 vs) w := by kernel_rfl
theorem ent_26 (vs : Array Value) (w : World) : (callFunc 26 vs).run Tryd.prog w = .ok (.enter 26 vs) w := by kernel_rfl
theorem ent_27 (vs : Array Value) (w : World) : (callFunc 27 vs).run Tryd.prog w = .ok (.enter 27 vs) w := by kernel_rfl
theorem ent_28 (vs : Array Value) (w : World) : (callFunc 28 vs).run Tryd.prog w = .ok (.enter 28 vs) w := by kernel_rfl
theorem ent_29 (vs : Array Value) (w : World) : (callFunc 29 vs).run Tryd.prog w = .ok (.enter 29 vs) w := by kernel_rfl
theorem ent_3 (vs : Array Value) (w : World) : (callFunc 3 vs).run Tryd.prog w = .ok (.enter 3 vs) w := by kernel_rfl
theorem ent_30 (vs : Array Value) (w : World) : (callFunc 30 vs).run Tryd.prog w = .ok (.enter 30 vs) w := by kernel_rfl
theorem ent_31 (vs : Array Value) (w : World) : (callFunc 31 vs).run Tryd.prog w = .ok (.enter 31 vs) w := by kernel_rfl
theorem ent_32 (vs : Array Value) (w : World) : (callFunc 32 vs).run Tryd.prog w = .ok (.enter 32 vs) w := by kernel_rfl
theorem ent_33 (vs : Array Value) (w : World) : (callFunc 33 vs).run Tryd.prog w = .ok (.enter 33 vs) w := by kernel_rfl
theorem ent_34 (vs : Array Value) (w : World) : (callFunc 34 vs).run Tryd.prog w = .ok (.enter 34 vs) w := by kernel_rfl
theorem ent_35 (vs : Array Value) (w : World) : (callFunc 35 vs).run Tryd.prog w = .ok (.enter 35 vs) w := by kernel_rfl
theorem ent_36 (vs : Array Value) (w : World) : (callFunc 36 vs).run Tryd.prog w = .ok (.enter 36 vs) w := by kernel_rfl
theorem ent_37 (vs : Array Value) (w : World) : (callFunc 37 vs).run Tryd.prog w = .ok (.enter 37 vs) w := by kernel_rfl
theorem ent_38 (vs : Array Value) (w : World) : (callFunc 38 vs).run Tryd.prog w = .ok (.enter 38 vs) w := by kernel_rfl
theorem ent_39 (vs : Array Value) (w : World) : (callFunc 39 vs).run Tryd.prog w = .ok (.enter 39 vs) w := by kernel_rfl
theorem ent_4 (vs : Array Value) (w : World) : (callFunc 4 vs).run Tryd.prog w = .ok (.enter 4 vs) w := by kernel_rfl
theorem ent_40 (vs : Array Value) (w : World) : (callFunc 40 vs).run Tryd.prog w = .ok (.enter 40 vs) w := by kernel_rfl
theorem ent_41 (vs : Array Value) (w : World) : (callFunc 41 vs).run Tryd.prog w = .ok (.enter 41 vs) w := by kernel_rfl
theorem ent_42 (vs : Array Value) (w : World) : (callFunc 42 vs).run Tryd.prog w = .ok (.enter 42 vs) w := by kernel_rfl
theorem ent_43 (vs : Array Value) (w : World) : (callFunc 43 vs).run Tryd.prog w = .ok (.enter 43 vs) w := by kernel_rfl
theorem ent_44 (vs : Array Value) (w : World) : (callFunc 44 vs).run Tryd.prog w = .ok (.enter 44 vs) w := by kernel_rfl
theorem ent_45 (vs : Array Value) (w : World) : (callFunc 45 vs).run Tryd.prog w = .ok (.enter 45 vs) w := by kernel_rfl
theorem ent_46 (vs : Array Value) (w : World) : (callFunc 46 vs).run Tryd.prog w = .ok (.enter 46 vs) w := by kernel_rfl
theorem ent_47 (vs : Array Value) (w : World) : (callFunc 47 vs).run Tryd.prog w = .ok (.enter 47 vs) w := by kernel_rfl
theorem ent_48 (vs : Array Value) (w : World) : (callFunc 48 vs).run Tryd.prog w = .ok (.enter 48 vs) w := by kernel_rfl
theorem ent_49 (vs : Array Value) (w : World) : (callFunc 49 vs).run Tryd.prog w = .ok (.enter 49 vs) w := by kernel_rfl
theorem ent_5 (vs : Array Value) (w : World) : (callFunc 5 vs).run Tryd.prog w = .ok (.enter 5 vs) w := by kernel_rfl
theorem ent_50 (vs : Array Value) (w : World) : (callFunc 50 vs).run Tryd.prog w = .ok (.enter 50 vs) w := by kernel_rfl
theorem ent_51 (vs : Array Value) (w : World) : (callFunc 51 vs).run Tryd.prog w = .ok (.enter 51 vs) w := by kernel_rfl
theorem ent_52 (vs : Array Value) (w : World) : (callFunc 52 vs).run Tryd.prog w = .ok (.enter 52 vs) w := by kernel_rfl
theorem ent_53 (vs : Array Value) (w : World) : (callFunc 53 vs).run Tryd.prog w = .ok (.enter 53 vs) w := by kernel_rfl
theorem ent_54 (vs : Array Value) (w : World) : (callFunc 54 vs).run Tryd.prog w = .ok (.enter 54 vs) w := by kernel_rfl
theorem ent_55 (vs : Array Value) (w : World) : (callFunc 55 vs).run Tryd.prog w = .ok (.enter 55 vs) w := by kernel_rfl
theorem ent_56 (vs : Array Value) (w : World) : (callFunc 56 vs).run Tryd.prog w = .ok (.enter 56 vs) w := by kernel_rfl
theorem ent_57 (vs : Array Value) (w : World) : (callFunc 57 vs).run Tryd.prog w = .ok (.enter 57 vs) w := by kernel_rfl
theorem ent_58 (vs : Array Value) (w : World) : (callFunc 58 vs).run Tryd.prog w = .ok (.enter 58 vs) w := by kernel_rfl
theorem ent_59 (vs : Array Value) (w : World) : (callFunc 59 vs).run Tryd.prog w = .ok (.enter 59 vs) w := by kernel_rfl
theorem ent_6 (vs : Array Value) (w : World) : (callFunc 6 vs).run Tryd.prog w = .ok (.enter 6 vs) w := by kernel_rfl
theorem ent_60 (vs : Array Value) (w : World) : (callFunc 60 vs).run Tryd.prog w = .ok (.enter 60 vs) w := by kernel_rfl
theorem ent_61 (vs : Array Value) (w : World) : (callFunc 61 vs).run Tryd.prog w = .ok (.enter 61 vs) w := by kernel_rfl
theorem ent_63 (vs : Array Value) (w : World) : (callFunc 63 vs).run Tryd.prog w = .ok (.enter 63 vs) w := by kernel_rfl
theorem ent_64 (vs : Array Value) (w : World) : (callFunc 64 vs).run Tryd.prog w = .ok (.enter 64 vs) w := by kernel_rfl
theorem ent_65 (vs : Array Value) (w : World) : (callFunc 65 vs).run Tryd.prog w = .ok (.enter 65 vs) w := by kernel_rfl
theorem ent_66 (vs : Array Value) (w : World) : (callFunc 66 vs).run Tryd.prog w = .ok (.enter 66 vs) w := by kernel_rfl
theorem ent_67 (vs : Array Value) (w : World) : (callFunc 67 vs).run Tryd.prog w = .ok (.enter 67 vs) w := by kernel_rfl
theorem ent_68 (vs : Array Value) (w : World) : (callFunc 68 vs).run Tryd.prog w = .ok (.enter 68 vs) w := by kernel_rfl
theorem ent_69 (vs : Array Value) (w : World) : (callFunc 69 vs).run Tryd.prog w = .ok (.enter 69 vs) w := by kernel_rfl
theorem ent_7 (vs : Array Value) (w : World) : (callFunc 7 vs).run Tryd.prog w = .ok (.enter 7 vs) w := by kernel_rfl
theorem ent_71 (vs : Array Value) (w : World) : (callFunc 71 vs).run Tryd.prog w = .ok (.enter 71 vs) w := by kernel_rfl
theorem ent_72 (vs : Array Value) (w : World) : (callFunc 72 vs).run Tryd.prog w = .ok (.enter 72 vs) w := by kernel_rfl
theorem ent_74 (vs : Array Value) (w : World) : (callFunc 74 vs).run Tryd.prog w = .ok (.enter 74 vs) w := by kernel_rfl
theorem ent_75 (vs : Array Value) (w : World) : (callFunc 75 vs).run Tryd.prog w = .ok (.enter 75 vs) w := by kernel_rfl
theorem ent_76 (vs : Array Value) (w : World) : (callFunc 76 vs).run Tryd.prog w = .ok (.enter 76 vs) w := by kernel_rfl
theorem ent_77 (vs : Array Value) (w : World) : (callFunc 77 vs).run Tryd.prog w = .ok (.enter 77 vs) w := by kernel_rfl
theorem ent_78 (vs : Array Value) (w : World) : (callFunc 78 vs).run Tryd.prog w = .ok (.enter 78 vs) w := by kernel_rfl
theorem ent_8 (vs : Array Value) (w : World) : (callFunc 8 vs).run Tryd.prog w = .ok (.enter 8 vs) w := by kernel_rfl
theorem ent_9 (vs : Array Value) (w : World) : (callFunc 9 vs).run Tryd.prog w = .ok (.enter 9 vs) w := by kernel_rfl
end Go.Proofs.YticbfdhdipfjmaaDoor
namespace Go.Proofs.YticbfdhdipfjmaaDoor
open Go.RowKit
set_option maxRecDepth 100000
set_option linter.unusedVariables false
theorem retInt {k : IntKind} {a b : Int} (h : a = b) : Ending.returned (.int k a) = .returned (.int k b) := by rw [h]
def nameN (n : Nat) : Int := if 1 ≤ n ∧ n ≤ 8 then 0 else 1
theorem nameN_ok {n : Nat} (h1 : 1 ≤ n) (h2 : n ≤ 8) : nameN n = 0 := by unfold nameN; rw [if_pos ⟨h1, h2⟩]
theorem nameN_bad {n : Nat} (h : ¬ (1 ≤ n ∧ n ≤ 8)) : nameN n = 1 := by unfold nameN; rw [if_neg h]
set_option maxHeartbeats 400000 in
theorem name_len (w : World) (a : Option Addr) (n c : Nat) :
    Calls Tryd.prog 28 #[.slice a n c] w fun e w' => e = .returned (.int .i64 (nameN n)) ∧ w' = w := by
  by_cases h : 1 ≤ n ∧ n ≤ 8
  · rw [nameN_ok h.1 h.2]
    obtain ⟨h1, h2⟩ := h
    go_enter Tryd.func28, Tryd.ntmps28
    go_wp2
    go_ret
    exact ⟨rfl, rfl⟩
  · rw [nameN_bad h]
    by_cases h1 : n < 1
    · clear h
      go_enter Tryd.func28, Tryd.ntmps28
      go_wp2
      go_ret
      exact ⟨rfl, rfl⟩
    · have h2 : 8 < n := by omega
      clear h
      go_enter Tryd.func28, Tryd.ntmps28
      go_wp2
      go_ret
      exact ⟨rfl, rfl⟩
def nameL (l : List UInt8) : List UInt8 := if l = [] then [0] else l.take 8
theorem nameL_len (l : List UInt8) : 1 ≤ (nameL l).length ∧ (nameL l).length ≤ 8 := by
  unfold nameL
  split
  · simp
  · rename_i h
    have := List.length_pos_iff.2 h
    simp only [List.length_take]
    omega
set_option maxHeartbeats 400000 in
theorem name_spec (F : Fz) (w : World) (v : Value) (l : List UInt8) (hs : Sat w F) (hv : Bs F v l) :
    Calls Tryd.prog 21 #[v] w (Gives w F fun F' u => Bs F' u (nameL l)) := by
  obtain ⟨a, c, rfl, hlc, hcm⟩ := hv.shape
  by_cases h : l = []
  · subst h
    go_enter Tryd.func21, Tryd.ntmps21
    go_wp2_with fail
    go_ret
    have hown := World.ownsRow_lit (base := w.heap.size) (e := 5) (size := 1) w #[.int .u8 0] 1 (Nat.le_refl _) (by unfold maxLen; omega) rfl
    obtain ⟨F', h1, h2⟩ := Gr.row hs ((Below.refl _ _).alloc (Nat.le_refl _) _) hown
    exact ⟨_, F', rfl, h1, h2⟩
  · have hb : ((l.length : Int) == 0) = false := by
      have := List.length_pos_iff.2 h
      rw [beq_eq_false_iff_ne]; omega
    have hk : nameL l = l.take 8 := by unfold nameL; rw [if_neg h]
    rw [hk]
    clear hk
    go_enter Tryd.func21, Tryd.ntmps21
    go_wp2_with (go_at_call 19; refine (some_spec _ _ _ _ _ hs hv (by omega) (by omega)).mono ?_; rintro e w1 ⟨v1, F1, rfl, g1, r1⟩)
    go_ret
    exact ⟨_, F1, rfl, g1, r1⟩
end Go.Proofs.YticbfdhdipfjmaaDoor
namespace Go.Proofs.YticbfdhdipfjmaaDoor
open Go.RowKit
set_option linter.unusedVariables false
theorem cell_kept {W w' : World} {a : Addr} {v : Value} (h : Below W.heap.size W w') (hc : W.cell? a = some v) : w'.cell? a = some v := by
  have hlt : a.block < W.heap.size := by
    rcases Nat.lt_or_ge a.block W.heap.size with h' | h'
    · exact h'
    · simp [World.cell?, Array.getElem?_eq_none h'] at hc
  rw [← hc]
  unfold World.cell?
  rw [h.block a.block hlt]
section
variable {α : Type} {k E base : Nat} {R : Fz → List Value → α → Prop} {w : World} {F : Fz} {l : List α}
theorem Own.addr0 {a : Option Addr} {n c : Nat} (h : Own k R E base w F (.slice a n c) l) (hl : 0 < l.length) : ∃ g, a = some ⟨g, 0, none⟩ := by
  obtain ⟨g, cap, e, _⟩ := h.form hl
  injection e with e
  exact ⟨g, e⟩
theorem Own.at {a : Option Addr} {n c : Nat} (h : Own k R E base w F (.slice a n c) l) {i : Nat} {p : α} (hp : l[i]? = some p) : ∃ g cs, a = some ⟨g, 0, none⟩ ∧ cs.length = k ∧ R F cs p ∧ w.rangeAt g (i * k) cs := by
  obtain ⟨hi, rfl⟩ := List.getElem?_eq_some_iff.1 hp
  obtain ⟨el, ⟨e1, e2⟩, h2, h3⟩ := h.ex
  have hll := h2.len
  rcases e2 with ⟨e2, h0⟩ | ⟨g, cap, cur, e2, q0, hg, q1, q2, q3, q4⟩
  · omega
  · injection e2 with e2
    refine ⟨g, el[i]'(by omega), e2, h3 _ (List.getElem_mem _), h2.get i (by omega) hi, fun j u hu => ?_⟩
    have hj : j < k := by
      have := (List.getElem?_eq_some_iff.1 hu).1
      rwa [h3 _ (List.getElem_mem _)] at this
    have hf := flatten_at h3 i (by omega) j hj
    rw [← q4, List.getElem?_take] at hf
    rw [← hf] at hu
    split at hu
    · simp only [World.cell?, hg]; simpa using hu
    · cases hu
theorem Own.len {a : Option Addr} {n c : Nat} (h : Own k R E base w F (.slice a n c) l) : n = l.length := by
  obtain ⟨a', c', e, _⟩ := h.shape
  injection e
end
theorem pr_at {E base : Nat} {w : World} {F : Fz} {l : List Pr} {a : Option Addr} {n c : Nat} (h : Own 2 PrC E base w F (.slice a n c) l) {i : Nat} {p : Pr} (hp : l[i]? = some p) :
    ∃ g, a = some ⟨g, 0, none⟩ ∧ ∃ xa xc ya yc, w.cell? ⟨g, 0 + i * 2, none⟩ = some (.slice xa p.1.length xc) ∧ w.cell? ⟨g, 0 + i * 2 + 1, none⟩ = some (.slice ya p.2.length yc) ∧ Bs F (.slice xa p.1.length xc) p.1 ∧ Bs F (.slice ya p.2.length yc) p.2 := by
  obtain ⟨g, cs, e, _, ⟨x, y, rfl, r1, r2⟩, hr⟩ := h.at hp
  obtain ⟨xa, xc, rfl, _⟩ := r1.shape
  obtain ⟨ya, yc, rfl, _⟩ := r2.shape
  refine ⟨g, e, xa, xc, ya, yc, ?_, ?_, r1, r2⟩
  · have := hr 0 _ rfl; rw [Nat.zero_add]; simpa using this
  · have := hr 1 _ rfl; rw [Nat.zero_add]; simpa using this
theorem tn_at {E base : Nat} {w : World} {F : Fz} {l : List (By × List Pr)} {a : Option Addr} {n c : Nat} (h : Own 2 TnC E base w F (.slice a n c) l) {i : Nat} {p : By × List Pr} (hp : l[i]? = some p) :
    ∃ g, a = some ⟨g, 0, none⟩ ∧ ∃ xa xc ya yc, w.cell? ⟨g, 0 + i * 2, none⟩ = some (.slice xa p.1.length xc) ∧ w.cell? ⟨g, 0 + i * 2 + 1, none⟩ = some (.slice ya p.2.length yc) ∧ Bs F (.slice xa p.1.length xc) p.1 ∧ Prs F (.slice ya p.2.length yc) p.2 := by
  obtain ⟨g, cs, e, _, ⟨x, y, rfl, r1, r2⟩, hr⟩ := h.at hp
  obtain ⟨xa, xc, rfl, _⟩ := r1.shape
  obtain ⟨ya, yc, rfl, _⟩ := Sl.shape r2
  refine ⟨g, e, xa, xc, ya, yc, ?_, ?_, r1, r2⟩
  · have := hr 0 _ rfl; rw [Nat.zero_add]; simpa using this
  · have := hr 1 _ rfl; rw [Nat.zero_add]; simpa using this
/-- 'row[i].field = x', a field of one cell. -/
theorem stSetCell {P : Program} {w0 w : World} {F0 F : Fz} {L : List Blk} {M : List RowP} {α : Type} {k base E : Nat} {R : Fz → List Value → α → Prop} {hR : ∀ F F' x p, Le F F' → R F x p → R F' x p} {l : List α} {ops : Array Oper} {Q : Exit → Act → World → Prop} {a : Act} {rest : List Oper} {d : Option Tmp} {t T : TypeId} {x y : Operand} {pos : String} {after : Array Edge} {guard : Option (Nat × Bool)} {r g cap i j o n : Nat} {u : Value} {p : α} (S : St w0 F0 w F L M)
    (hw : Region.wanted ⟨d, .store T x y, t, pos, after, guard⟩ (yielded ops a.tmps) = true) (hx : a.eval x = .pointer (some ⟨g, o, none⟩)) (ho : o = i * k + j) (hjk : j < k) (hy : a.eval y = u) (hM : M[r]? = some (ownP k R hR E base (.slice (some ⟨g, 0, none⟩) n cap) l)) (hil : i < l.length)
    (hi : (P.info? T).map (·.size) = some 1) (h1 : u.oneCell' = true) (hu : u.cells = #[u]) (hp : ∀ cs (q : α), l[i]? = some q → R F cs q → R F (cs.set j u) p) (hb : w0.heap.size ≤ base)
    (h : ∀ w', St w0 F0 w' F L (M.set r (ownP k R hR E base (.slice (some ⟨g, 0, none⟩) n cap) (l.set i p))) → WL P ops Q rest (a.put d undef) w') : WL P ops Q (⟨d, .store T x y, t, pos, after, guard⟩ :: rest) a w := by
  obtain ⟨el, ⟨e1, e2⟩, h2, h3⟩ := (S.own hM).ex
  have hll := h2.len
  subst ho
  rcases e2 with ⟨e2, _⟩ | ⟨g', cap', cur, e2, q0, hg, q1, q2, q3, q4⟩
  · cases e2
  · injection e2 with e2 e2n e2c
    injection e2 with e2
    injection e2 with e2
    subst e2; subst e2n; subst e2c
    have hcl : cur.toList.length = cap * k := by simpa using q3
    have hkl : (i + 1) * k ≤ l.length * k := Nat.mul_le_mul_right k (by omega)
    have hlc : l.length * k ≤ cap * k := Nat.mul_le_mul_right k q1
    rw [Nat.add_mul, Nat.one_mul] at hkl
    have hle : i * k + j + 1 ≤ cur.toList.length := by rw [hcl]; omega
    have ht : w.there g (i * k + j) u.cells.size := by
      intro m hm
      rw [hu] at hm
      simp at hm
      subst hm
      have : i * k + j < cur.size := by simp at hle; omega
      exact ⟨by simp [World.cell?, hg, this], by simp [World.frozen?, hg]⟩
    have hst := storeV (P := P) (T := T) (v := u) (by rw [hu]; exact hi) ht (by rw [hu]; simp [h1])
    have hgrown : w.grownBy (w.setCells g (i * k + j) u.cells.toList) (Value.slice (some ⟨g, 0, none⟩) l.length cap).ownBlock := by
      have hb' := below_setCells (B := 0) (Nat.zero_le g) u.cells.toList (i * k + j) w w (Below.refl 0 w)
      exact ⟨hb'.os, hb'.tape, hb'.output, hb'.size, fun b hb1 hb2 => heap_setCells_past _ _ _ (fun e => hb2 (by rw [e]; rfl))⟩
    have hheap := heap_setCells (n := g) (T := E) (fr := (0, 0)) u.cells.toList (i * k + j) w cur.toList (by simpa using hg) (by rw [hu]; simpa using hle)
    have hxl : el[i]'(by omega) ∈ el := List.getElem_mem _
    have hel := h3 _ hxl
    have hown : Own k R E base (w.setCells g (i * k + j) u.cells.toList) F (.slice (some ⟨g, 0, none⟩) l.length cap) (l.set i p) := by
      refine ⟨⟨el.set i ((el[i]'(by omega)).set j u), ⟨?_, .inr ⟨g, cap, _, by rw [List.length_set], q0, hheap, by rw [List.length_set]; exact q1, q2, ?_, ?_⟩⟩, allR_set h2 (hp _ _ (List.getElem?_eq_getElem hil) (h2.get i (by omega) hil)), fun y hy => ?_⟩, (S.own hM).out⟩
      · rw [flatten_len (fun y hy => ?_), List.length_set, List.length_set, hll]
        rcases List.mem_or_eq_of_mem_set hy with hy | rfl
        · exact h3 y hy
        · rw [List.length_set]; exact hel
      · rw [List.size_toArray, splice_len (by rw [hu]; simpa using hle), hcl]
      · rw [List.length_set, flatten_set h3 (by omega) (by rw [List.length_set]; exact hel), ← q4]
        have hei : el[i]'(by omega) = (cur.toList.drop (i * k)).take k := by
          have hf : ∀ m, m < k → (el[i]'(by omega))[m]? = cur.toList[i * k + m]? := fun m hm => by
            have := flatten_at h3 i (by omega) m hm
            rw [← this, ← q4, List.getElem?_take, if_pos (by omega)]
          apply List.ext_getElem?
          intro m
          rcases Nat.lt_or_ge m k with hm | hm
          · rw [hf m hm, List.getElem?_take, if_pos hm, List.getElem?_drop]
          · rw [List.getElem?_eq_none (by omega), List.getElem?_take, if_neg (by omega)]
        rw [hei, hu]
        unfold splice
        have hcl2 : cap * k ≤ cur.toList.length := by omega
        apply List.ext_getElem?
        intro m
        simp only [List.getElem?_append, List.getElem?_take, List.getElem?_drop, List.length_take, List.length_append, List.getElem?_set, List.length_set, List.length_drop, List.length_singleton]
        grind
      · rcases List.mem_or_eq_of_mem_set hy with hy | rfl
        · exact h3 y hy
        · rw [List.length_set]; exact hel
    refine doS hw (ex_store hx (by rw [hy]; exact hst)) (h _ (S.grown hM hb hgrown hown (fun g' hg' => .inl hg')))
/-- A literal of one element, in a region that draws its order. -/
theorem does_lit {P : Program} {o : Oper} {a : Act} {W w : World} {F F1 : Fz} {α : Type} {k : Nat} {R : Fz → List Value → α → Prop} {hR : ∀ F F' x p, Le F F' → R F x p → R F' x p} {cs : List Value} {p : α} {E : TypeId} (g : Gr W F w F1) (hp : R F1 cs p) (hk : cs.length = k)
    (hr : (execOp a.eval o).run P w = .ok (.value (.slice (some ⟨w.heap.size, 0, none⟩) 1 1)) (w.alloc (.cells cs.toArray E))) : Does P o a w (RelPost (Made W F fun F' u => Sl k R F' u [p]) w) := by
  unfold Does
  rw [hr]
  have g2 := g.new (.cells cs.toArray E)
  have g3 := g2.add (g := w.heap.size) g.below.size
  have hle : Le F1 (addF F1 (w.alloc (.cells cs.toArray E)) w.heap.size) := fun b o hb => addF_le _ _ _ _ _ hb
  refine ⟨⟨_, g3, sl_of_block (R := R) (l := [p]) (c := cs) (el := [cs]) (fun j v hj => ?_) (by simp) ⟨hR _ _ _ _ hle hp, trivial⟩ (by simpa using hk) (show [p].length ≤ maxLen by simp [maxLen])⟩, (Below.refl _ _).alloc (Nat.le_refl _) _⟩
  unfold cellF addF
  rw [g.sat.out (Nat.le_refl _)]
  simp only [if_true, heap_alloc_new]
  simpa using hj
/-! A block that is made in a region that draws its order. -/
def NewAt (W : World) (cs : List Value) (T : TypeId) (v : Value) (w : World) : Prop := ∃ n, v = .pointer (some ⟨n, 0, none⟩) ∧ W.heap.size ≤ n ∧ w.heap[n]? = some (.cells cs.toArray T (0, 0))
theorem NewAt.stable (W : World) (cs : List Value) (T : TypeId) : ∀ v w w', NewAt W cs T v w → Below w.heap.size w w' → NewAt W cs T v w' := by
  rintro v w w' ⟨n, h1, h2, h3⟩ hb
  exact ⟨n, h1, h2, heap_kept hb h3⟩
theorem does_alloc {P : Program} {d : Option Tmp} {t T : TypeId} {pos : String} {after : Array Edge} {guard : Option (Nat × Bool)} {a : Act} {w W : World} {z : Value} {cs : List Value} (hz : (zeroValue T).run P w = .ok z w) (hc : z.cells = cs.toArray) (hC : Below W.heap.size W w) : Does P ⟨d, .alloc T, t, pos, after, guard⟩ a w (RelPost (NewAt W cs T) w) := by
  unfold Does
  rw [ex_alloc hz]
  refine ⟨⟨w.heap.size, rfl, hC.size, ?_⟩, (Below.refl _ _).alloc (Nat.le_refl _) _⟩
  rw [hc]
  exact heap_alloc_new w _
theorem Facts.getR {W : World} {F : Fz} {L : List (Nat × Mark)} {Vs : Vals} {w : World} (h : Facts (specOf W F L) Vs w) (i : Nat) {v : Value} {R : Value → World → Prop} (hv : Vs i = some v) (hL : specOf W F L i = .rel R) : R v w := by
  have := h i v hv
  rw [hL] at this
  exact this
def dropF (F : Fz) (n : Nat) : Fz := fun b => if b = n then none else F b
theorem dropF_at (F : Fz) (n : Nat) : dropF F n n = none := by simp [dropF]
theorem Gr.dropF {W w : World} {F F' : Fz} (g : Gr W F w F') (hs : Sat W F) {n : Nat} (hn : W.heap.size ≤ n) : Gr W F w (dropF F' n) :=
  ⟨g.below, fun b hb => by unfold Proofs.YticbfdhdipfjmaaDoor.dropF; rw [if_neg (by omega)]; exact g.old b hb, fun b o hb => by
    unfold Proofs.YticbfdhdipfjmaaDoor.dropF at hb
    split at hb
    · cases hb
    · exact g.sat b o hb⟩
theorem Bs.dropF {w : World} {F : Fz} {n : Nat} {cs : List Value} {T : TypeId} (hs : Sat w F) (hb : w.heap[n]? = some (.cells cs.toArray T (0, 0))) (hc : ∀ u ∈ cs, ∀ x, u ≠ bv x) {v : Value} {l : List UInt8} (h : Bs F v l) : Bs (dropF F n) v l := by
  obtain ⟨a, c, h1, h2, h3, h4, h5⟩ := h
  refine ⟨a, c, h1, h2, h3, h4, ?_⟩
  rcases h5 with h5 | ⟨b, o, e, h6⟩
  · exact .inl h5
  · by_cases hbn : b = n
    · cases l with
      | nil => exact .inl rfl
      | cons x l =>
        exfalso
        have h0 := h6 0 (bv x) rfl
        subst hbn
        unfold cellF at h0
        split at h0
        · rename_i c0 t0 fr0 hF
          have := hs _ _ hF
          rw [hb] at this
          cases this
          have hm : bv x ∈ cs := by
            have : cs[o + 0]? = some (bv x) := by simpa using h0
            exact List.mem_of_getElem? this
          exact hc _ hm x rfl
        · cases h0
    · refine .inr ⟨b, o, e, fun j u hu => ?_⟩
      have := h6 j u hu
      unfold cellF Proofs.YticbfdhdipfjmaaDoor.dropF at *
      rw [if_neg hbn]
      exact this
theorem Pr2V.dropF {w : World} {F : Fz} {n : Nat} {cs : List Value} {T : TypeId} (hs : Sat w F) (hb : w.heap[n]? = some (.cells cs.toArray T (0, 0))) (hc : ∀ u ∈ cs, ∀ x, u ≠ bv x) {v : Value} {p : Pr} (h : Pr2V F v p) : Pr2V (Proofs.YticbfdhdipfjmaaDoor.dropF F n) v p := by
  obtain ⟨x0, y0, x1, y1, rfl, h0, h1⟩ := h
  exact ⟨x0, y0, x1, y1, rfl, h0.dropF hs hb hc, h1.dropF hs hb hc⟩
theorem WrV.dropF {w : World} {F : Fz} {n : Nat} {cs : List Value} {T : TypeId} (hs : Sat w F) (hb : w.heap[n]? = some (.cells cs.toArray T (0, 0))) (hc : ∀ u ∈ cs, ∀ x, u ≠ bv x) {v : Value} {p : Wr} (h : WrV F v p) : WrV (Proofs.YticbfdhdipfjmaaDoor.dropF F n) v p := by
  obtain ⟨x0, y0, x1, y1, x3, y3, rfl, h0, h1, h3⟩ := h
  exact ⟨x0, y0, x1, y1, x3, y3, rfl, h0.dropF hs hb hc, h1.dropF hs hb hc, h3.dropF hs hb hc⟩
theorem RdV.dropF {w : World} {F : Fz} {n : Nat} {cs : List Value} {T : TypeId} (hs : Sat w F) (hb : w.heap[n]? = some (.cells cs.toArray T (0, 0))) (hc : ∀ u ∈ cs, ∀ x, u ≠ bv x) {v : Value} {p : Rd} (h : RdV F v p) : RdV (Proofs.YticbfdhdipfjmaaDoor.dropF F n) v p := by
  obtain ⟨x0, y0, x1, y1, x3, y3, rfl, h0, h1, h3⟩ := h
  exact ⟨x0, y0, x1, y1, x3, y3, rfl, h0.dropF hs hb hc, h1.dropF hs hb hc, h3.dropF hs hb hc⟩
theorem wanted_un {o oj : Oper} {ops : Array Oper} {tmps : Array Value} {j d : Nat} {b : Bool} (hg : o.guard = some (j, b)) (hj : ops[j]? = some oj) (hd : oj.dst = some d) (hv : tmps.getD d undef = undef) : Region.wanted o (yielded ops tmps) = false := by
  rw [Array.getD_eq_getD_getElem?] at hv
  simp only [Region.wanted, hg, yielded, hj]
  cases h : tmps[d]? with
  | none => simp [h, hd]
  | some x => rw [h] at hv; simp at hv; subst hv; simp [h, hd, undef]
theorem does_val {P : Program} {o : Oper} {a : Act} {w : World} {v : Value} {R : Value → World → Prop} (h : (execOp a.eval o).run P w = .ok (.value v) w) (hR : R v w) (hb : Below w.heap.size w w) : Does P o a w (RelPost R w) := by
  unfold Does
  rw [h]
  exact ⟨hR, hb⟩
theorem both_none {F G : Fz} {n : Nat} (h : F n = none) (k : G n = none) : both F G n = none := by unfold both; rw [h]; exact k
theorem St.addBlk {w0 W w : World} {F0 F F' : Fz} {L : List Blk} {M : List RowP} (S : St w0 F0 W F L M) (g : Gr W F w F') {n : Nat} {cs : List Value} {T : TypeId} (hn : W.heap.size ≤ n) (hF : F' n = none) (hb : w.heap[n]? = some (.cells cs.toArray T (0, 0))) : St w0 F0 w F' (⟨n, cs, T⟩ :: L) M := by
  have S' := S.gives g
  refine ⟨S'.gr, fun x hx => ?_, S'.row, ?_, fun r hr x hx => ?_, S'.rr⟩
  · rcases List.mem_cons.1 hx with rfl | hx
    · exact ⟨hb, hF, Nat.le_trans S.gr.below.size hn⟩
    · exact S'.blk x hx
  · refine List.pairwise_cons.2 ⟨fun y hy => ?_, S'.bb⟩
    have := S.blk_lt hy
    simp only
    omega
  · rcases List.mem_cons.1 hx with rfl | hx
    · intro e
      have := ((S.row r hr).2 _ e).1
      simp at this
      omega
    · exact S'.rb r hr x hx
end Go.Proofs.YticbfdhdipfjmaaDoor
namespace Go.Proofs.YticbfdhdipfjmaaDoor
open Go.RowKit
set_option linter.unusedVariables false
section
variable {α β : Type} {k k2 E E2 base base2 : Nat} {R : Fz → List Value → α → Prop} {R2 : Fz → List Value → β → Prop} {w0 W w w' : World} {F0 F F' : Fz} {L : List Blk} {M : List RowP} {v v2 : Value} {l : List α} {l2 : List β}
theorem Own.at_heap (h : Own k R E base w F v l) {g : Nat} (hg : v.ownBlock = some g) : ∃ cur : Array Value, w.heap[g]? = some (.cells cur E (0, 0)) := by
  obtain ⟨el, ⟨_, h2⟩, _⟩ := h.ex
  rcases h2 with ⟨rfl, _⟩ | ⟨b, cap, cur, rfl, _, h3, _⟩
  · cases hg
  · cases hg; exact ⟨cur, h3⟩
theorem own_apart (h1 : Own k R E base w F v l) (h2 : Own k2 R2 E2 base2 w F v2 l2) (hE : E ≠ E2) : ∀ g, v.ownBlock = some g → v2.ownBlock ≠ some g := by
  intro g hg hc
  obtain ⟨c1, e1⟩ := h1.at_heap hg
  obtain ⟨c2, e2⟩ := h2.at_heap hc
  rw [e1] at e2
  injection e2 with e2
  injection e2 with _ e2
  exact hE e2
/-- What a call has made that is a row of its own. -/
def MadeO {α : Type} (W : World) (F : Fz) (k : Nat) (R : Fz → List Value → α → Prop) (E : Nat) (l : List α) (v : Value) (w : World) : Prop := ∃ F', Gr W F w F' ∧ Own k R E W.heap.size w F' v l
theorem MadeO.stable (hR : ∀ F F' x p, Le F F' → R F x p → R F' x p) (W : World) (F : Fz) (k E : Nat) (l : List α) : Stable (MadeO W F k R E l) :=
  fun v w w' ⟨F', g, h⟩ hb => ⟨F', g.trans (Gr.of_below g.sat hb), h.gr hR g.sat (Gr.of_below g.sat hb)⟩
theorem call_madeO {P : Program} {f : FuncId} {args : Array Value} (hs : Sat W F) (hC : Below W.heap.size W w) (h : Calls P f args w (GivesO w F k R E l)) : Calls P f args w (CallPost (RelPost (MadeO W F k R E l) w)) :=
  h.mono fun e w' ⟨v, F', he, g, ho⟩ => ⟨v, he, ⟨F', (Gr.of_below hs hC).trans g, ho.rebase fun b hb => Nat.le_trans hC.size (ho.lt b hb).1⟩, g.below⟩
/-- A block that lies beside what a call has made as a row. -/
theorem Own.dropF (h : Own k R E base w F v l) {n : Nat} (hx : ∀ cs p, R F cs p → R (Proofs.YticbfdhdipfjmaaDoor.dropF F n) cs p) : Own k R E base w (Proofs.YticbfdhdipfjmaaDoor.dropF F n) v l := by
  obtain ⟨el, h1, h2, h3⟩ := h.ex
  refine ⟨⟨el, h1, h2.imp hx, h3⟩, fun g hg => ?_⟩
  unfold Proofs.YticbfdhdipfjmaaDoor.dropF
  split
  · rfl
  · exact h.out g hg
theorem St.addBlkRow {hR : ∀ F F' x p, Le F F' → R F x p → R F' x p} {n : Nat} {cs : List Value} {T : TypeId} (S : St w0 F0 W F L M) (g : Gr W F w F') (ho : Own k R E W.heap.size w F' v l) (hn : W.heap.size ≤ n) (hb : w.heap[n]? = some (.cells cs.toArray T (0, 0))) (hE : E ≠ T) (hx : ∀ cs p, R F' cs p → R (Proofs.YticbfdhdipfjmaaDoor.dropF F' n) cs p) :
    St w0 F0 w (Proofs.YticbfdhdipfjmaaDoor.dropF F' n) (⟨n, cs, T⟩ :: L) (ownP k R hR E w0.heap.size v l :: M) := by
  have g' := g.dropF S.sat hn
  have ho' := ho.dropF (n := n) hx
  have S' := S.addRow (hR := hR) g' ho'
  refine ⟨S'.gr, fun x hx => ?_, S'.row, List.pairwise_cons.2 ⟨fun y hy => ?_, S'.bb⟩, fun r hr x hx => ?_, S'.rr⟩
  · rcases List.mem_cons.1 hx with rfl | hx
    · exact ⟨hb, dropF_at _ _, Nat.le_trans S.gr.below.size hn⟩
    · exact S'.blk x hx
  · have := S.blk_lt hy
    simp only
    omega
  · rcases List.mem_cons.1 hx with rfl | hx
    · rcases List.mem_cons.1 hr with rfl | hr
      · intro e
        obtain ⟨c, e1⟩ := ho'.at_heap e
        rw [hb] at e1
        injection e1 with e1
        injection e1 with _ e1
        exact hE e1.symm
      · intro e
        have := ((S.row r hr).2 _ e).1
        simp at this
        omega
    · exact S'.rb r hr x hx
/-- Two rows at once. -/
theorem St.addRow2 {hR : ∀ F F' x p, Le F F' → R F x p → R F' x p} {hR2 : ∀ F F' x p, Le F F' → R2 F x p → R2 F' x p} (S : St w0 F0 w F L M) (g : Gr w F w' F') (h1 : Own k R E w.heap.size w' F' v l) (h2 : Own k2 R2 E2 w.heap.size w' F' v2 l2) (hE : E ≠ E2) :
    St w0 F0 w' F' L (ownP k R hR E w0.heap.size v l :: ownP k2 R2 hR2 E2 w0.heap.size v2 l2 :: M) := by
  have S' := S.addRow (hR := hR2) g h2
  have hlt := h1.lt
  have ho' : Own k R E w0.heap.size w' F' v l := h1.rebase fun b hb => Nat.le_trans S.gr.below.size (hlt b hb).1
  refine ⟨S'.gr, S'.blk, fun r hr => ?_, S'.bb, fun r hr x hx => ?_, List.pairwise_cons.2 ⟨fun s hs b hb hc => ?_, S'.rr⟩⟩
  · rcases List.mem_cons.1 hr with rfl | hr
    · exact ⟨ho', fun b hb => ⟨(hlt b hb).2, h1.out b hb, Nat.le_trans S.gr.below.size (hlt b hb).1⟩⟩
    · exact S'.row r hr
  · rcases List.mem_cons.1 hr with rfl | hr
    · intro e
      have h1 := (hlt _ e).1
      have h2 := S.blk_lt hx
      omega
    · exact S'.rb r hr x hx
  · rcases List.mem_cons.1 hs with rfl | hs
    · exact own_apart h1 h2 hE b hb hc
    · have h1 := (hlt b hb).1
      have h2 := ((S.row s hs).2 b hc).1
      omega
end
section
variable {w : World} {F : Fz} {n : Nat} {cs : List Value} {T : TypeId}
theorem WrC.dropF (hs : Sat w F) (hb : w.heap[n]? = some (.cells cs.toArray T (0, 0))) (hc : ∀ u ∈ cs, ∀ x, u ≠ bv x) (c : List Value) (p : Wr) (h : WrC F c p) : WrC (Proofs.YticbfdhdipfjmaaDoor.dropF F n) c p := by
  obtain ⟨a0, a1, a2, a3, rfl, h0, h1, h2, h3⟩ := h
  exact ⟨a0, a1, a2, a3, rfl, h0.dropF hs hb hc, h1.dropF hs hb hc, h2, h3.dropF hs hb hc⟩
theorem RdC.dropF (hs : Sat w F) (hb : w.heap[n]? = some (.cells cs.toArray T (0, 0))) (hc : ∀ u ∈ cs, ∀ x, u ≠ bv x) (c : List Value) (p : Rd) (h : RdC F c p) : RdC (Proofs.YticbfdhdipfjmaaDoor.dropF F n) c p := by
  obtain ⟨a0, a1, a2, a3, rfl, h0, h1, h2, h3⟩ := h
  exact ⟨a0, a1, a2, a3, rfl, h0.dropF hs hb hc, h1.dropF hs hb hc, h2, h3.dropF hs hb hc⟩
end
theorem FactsAt.getR {md : Region.Mode} {ops : Array Oper} {W : World} {F : Fz} {L : List (Nat × Mark)} {Vs : Vals} {w : World} {j : Nat} (h : FactsAt md ops (specOf W F L) j Vs w) (i : Nat) {v : Value} {R : Value → World → Prop} (ha : ancB md ops ops.size j i = true) (hv : Vs i = some v) (hL : specOf W F L i = .rel R) : R v w := by
  have := h i v ha hv
  rw [hL] at this
  exact this
theorem gives_of_own {P : Program} {f : FuncId} {vs : Array Value} {α : Type} {k E : Nat} {R : Fz → List Value → α → Prop} (hR : ∀ F F' x p, Le F F' → R F x p → R F' x p) {w : World} {F : Fz} {l : List α} (h : Calls P f vs w (GivesO w F k R E l)) : Calls P f vs w (Gives w F fun F' u => Sl k R F' u l) :=
  h.mono fun e w' ⟨v, F', he, g, ho⟩ => by
    obtain ⟨F2, g2, _, h2⟩ := ho.freeze hR g (Nat.le_refl _)
    exact ⟨v, F2, he, g2, h2⟩
/-- A transaction with two rows of its own. -/
def GivesTx (w : World) (F : Fz) (Er Ew : Nat) (t : Tx) (e : Ending) (w' : World) : Prop := ∃ v1 v2 F', e = .returned (.agg #[.int .i64 t.start, v1, v2]) ∧ Gr w F w' F' ∧ Own 4 RdC Er w.heap.size w' F' v1 t.reads ∧ Own 4 WrC Ew w.heap.size w' F' v2 t.writes
theorem stGivesTx {P : Program} {ops : Array Oper} {Q : Exit → Act → World → Prop} {a : Act} {rest : List Oper} {o : Oper} {kf : FuncId} {vs : Array Value} {w0 w : World} {F0 F : Fz} {L : List Blk} {M : List RowP} {Er Ew : Nat} {t : Tx} (S : St w0 F0 w F L M) (hw : Region.wanted o (yielded ops a.tmps) = true)
    (hr : (execOp a.eval o).run P w = .ok (.enter kf vs) w) (hc : Calls P kf vs w (GivesTx w F Er Ew t)) (hE : Er ≠ Ew)
    (h : ∀ a1 c1 a2 c2 w' F', St w0 F0 w' F' L (ownP 4 RdC RdC.mono Er w0.heap.size (.slice a1 t.reads.length c1) t.reads :: ownP 4 WrC WrC.mono Ew w0.heap.size (.slice a2 t.writes.length c2) t.writes :: M) → Le F F' → c1 ≤ maxLen → c2 ≤ maxLen → WL P ops Q rest (a.put o.dst (.agg #[.int .i64 t.start, .slice a1 t.reads.length c1, .slice a2 t.writes.length c2])) w') : WL P ops Q (o :: rest) a w :=
  doC hw hr hc fun e w' ⟨v1, v2, F', he, g, h1, h2⟩ => by
    obtain ⟨a1, c1, rfl, _, q1⟩ := h1.shape
    obtain ⟨a2, c2, rfl, _, q2⟩ := h2.shape
    exact ⟨_, he, h a1 c1 a2 c2 w' F' (S.addRow2 g h1 h2 hE) (g.le S.sat) q1 q2⟩
end Go.Proofs.YticbfdhdipfjmaaDoor
namespace Go.Proofs.YticbfdhdipfjmaaDoor
open Go.RowKit
set_option linter.unusedVariables false
section
variable {P : Program} {ops : Array Oper} {md : Region.Mode} {C : World → Prop} {Sp : Nat → OpSpec}
theorem wpAnyG_firstP (hC : ∃ w, C w) {i : Nat} {oi : Oper} {T : List Nat} {L : Array Bool → Act → Vals → Prop} (hi : ops[i]? = some oi) (hsel : ∀ (j : Nat) (o : Oper) cs b, ops[j]? = some o → o.op ≠ .select cs b)
    (hdone : ∀ listed a Vs, L listed a Vs → ∀ j ∈ Region.ready md ops listed, j ∈ T) (hT : ∀ t ∈ T, ancB md ops ops.size t i = true) :
    ∀ (f : Nat) (listed : Array Bool) (a : Act) (Vs : Vals), HeadInv md ops ops.size listed →
      (∀ j oj, ops[j]? = some oj → j ≠ i → listed.getD j true = false → (∀ e ∈ oj.after, Region.binds md e = true → e.on ≠ i) → oi.apart ops oj = true) →
      i ∈ Region.ready md ops listed →
      gOp P md ops C Sp i (wpAnyG P md ops C Sp ops.size L f (listed.setIfInBounds i true)) a Vs → wpAnyG P md ops C Sp ops.size L (f + 1) listed a Vs := by
  intro f
  induction f with
  | zero =>
    intro listed a Vs inv _ hr H
    have hun := (mem_ready.1 hr).1
    refine ⟨fun h => (by rw [h] at hr; cases hr), fun j hj => ?_⟩
    obtain ⟨_, oj, hoj, _⟩ := mem_ready.1 hj
    have hjn : j < ops.size := (Array.getElem?_eq_some_iff.1 hoj).1
    refine ⟨hjn, ?_⟩
    by_cases hji : j = i
    · subst hji; exact H
    · obtain ⟨a', Vs', hL⟩ := gOp_some H
      have h1 := hdone _ _ _ hL j (ready_mono hj hji)
      have h2 := anc_ready inv hj _ _ (hT j h1)
      rw [getD_both hun] at h2
      cases h2
  | succ f ih =>
    intro listed a Vs inv hfree hr H
    have hun := (mem_ready.1 hr).1
    refine ⟨fun h => (by rw [h] at hr; cases hr), fun j hj => ?_⟩
    obtain ⟨hjun, oj, hoj, hall⟩ := mem_ready.1 hj
    have hjn : j < ops.size := (Array.getElem?_eq_some_iff.1 hoj).1
    refine ⟨hjn, ?_⟩
    by_cases hji : j = i
    · subst hji; exact H
    · have hnot : ∀ e ∈ oj.after, Region.binds md e = true → e.on ≠ i := fun e he hb heq => by
        have h1 := hall e he hb
        rw [heq, getD_both hun] at h1
        cases h1
      have a1 : ancB md ops ops.size j i = false := by
        cases hx : ancB md ops ops.size j i with
        | false => rfl
        | true => have := anc_ready inv hj _ _ hx; rw [getD_both hun] at this; cases this
      have a2 : ancB md ops ops.size i j = false := by
        cases hx : ancB md ops ops.size i j with
        | false => rfl
        | true => have := anc_ready inv hr _ _ hx; rw [getD_both hjun] at this; cases this
      have H1 : gOp P md ops C Sp i (gOp P md ops C Sp j (wpAnyG P md ops C Sp ops.size L f ((listed.setIfInBounds i true).setIfInBounds j true))) a Vs :=
        gOp_mono (fun a' Vs' h => (h.2 j (ready_mono hj hji)).2) H
      have H2 := gOp_swap hC hi hoj (Ne.symm hji) (hfree j oj hoj hji hjun hnot) (fun cs b => hsel i oi cs b hi) (fun cs b => hsel j oj cs b hoj) a1 a2 H1
      have hfree' : ∀ k ok, ops[k]? = some ok → k ≠ i → (listed.setIfInBounds j true).getD k true = false →
          (∀ e ∈ ok.after, Region.binds md e = true → e.on ≠ i) → oi.apart ops ok = true := fun k ok hk hki hun' hno => by
        refine hfree k ok hk hki ?_ hno
        by_cases hjk : j = k
        · subst hjk; exact hjun
        · rw [getD_set_ne true hjk] at hun'; exact hun'
      refine gOp_mono (fun a' Vs' h3 => ih (listed.setIfInBounds j true) a' Vs' (inv.set hj hjn) hfree' (ready_mono hr (Ne.symm hji)) ?_) H2
      rw [Array.setIfInBounds_comm _ _ hji]
      exact h3
/-- The walk in an order of our own. -/
def wpGP (P : Program) (md : Region.Mode) (ops : Array Oper) (C : World → Prop) (Sp : Nat → OpSpec) (Lq : Act → Vals → Prop) : List (Nat × Oper) → Act → Vals → Prop
  | [], a, Vs => Lq a Vs
  | (k, o) :: l, a, Vs => if Region.wanted o (yielded ops a.tmps) = true then ∃ S, Ob P md ops C Sp k o a Vs S ∧ ∀ v, S v → wpGP P md ops C Sp Lq l (a.put o.dst v) (next (Sp k) Vs k v) else wpGP P md ops C Sp Lq l (a.put o.dst undef) Vs
def seqL (md : Region.Mode) (ops : Array Oper) : List Nat → Array Bool → Bool
  | [], listed => (Region.ready md ops listed).isEmpty
  | k :: ks, listed => decide (Region.ready md ops listed = [k]) && seqL md ops ks (listed.setIfInBounds k true)
def headL (md : Region.Mode) (ops : Array Oper) (T : List Nat) : List Nat → Array Bool → Bool
  | [], listed => seqL md ops T listed
  | k :: ks, listed => (Region.ready md ops listed).contains k && Region.free md ops listed k && headL md ops T ks (listed.setIfInBounds k true)
theorem seqL_ready {T : List Nat} {listed : Array Bool} (h : seqL md ops T listed = true) : ∀ j ∈ Region.ready md ops listed, j ∈ T := by
  cases T with
  | nil => intro j hj; simp only [seqL, List.isEmpty_iff] at h; rw [h] at hj; cases hj
  | cons t T =>
    intro j hj
    simp only [seqL, Bool.and_eq_true, decide_eq_true_eq] at h
    rw [h.1] at hj
    have : j = t := by simpa using hj
    subst this
    exact List.mem_cons_self ..
theorem wpAny_of_seqL {Q' : Exit → Act → World → Prop} : ∀ (l : List (Nat × Oper)) (listed : Array Bool) (a : Act) (w : World), (∀ p ∈ l, ops[p.1]? = some p.2) →
    seqL md ops (l.map (·.1)) listed = true → wpList P ops Q' (l.map (·.2)) a w → wpAny P md ops Q' l.length listed a w
  | [], _, _, _, _, hB, h => ⟨by simpa [seqL] using hB, h⟩
  | (k, o) :: l, listed, a, w, hl, hB, h => by
    have h0 : ops[k]? = some o := hl (k, o) (List.mem_cons_self ..)
    simp only [List.map_cons, seqL, Bool.and_eq_true, decide_eq_true_eq] at hB
    refine ⟨fun h1 => (by rw [hB.1] at h1; cases h1), fun i hi => ?_⟩
    rw [hB.1] at hi
    have hik : i = k := by simpa using hi
    subst hik
    have hw : wpOp P ops Q' i (wpList P ops Q' (l.map (·.2))) a w := by unfold wpOp; simp only [h0]; exact h
    exact wpOp_mono (fun a' w' h' => wpAny_of_seqL l _ a' w' (fun p hp => hl p (List.mem_cons_of_mem _ hp)) hB.2 h') hw
theorem wpAnyG_list (hC : ∃ w, C w) {T : List Nat} {Lq : Act → Vals → Prop} (hsel : Region.noSelect ops = true) :
    ∀ (l : List (Nat × Oper)) (listed : Array Bool) (a : Act) (Vs : Vals), (∀ p ∈ l, ops[p.1]? = some p.2) → (∀ t ∈ T, ∀ p ∈ l, ancB md ops ops.size t p.1 = true) → HeadInv md ops ops.size listed →
    headL md ops T (l.map (·.1)) listed = true → wpGP P md ops C Sp Lq l a Vs →
    wpAnyG P md ops C Sp ops.size (fun listed' a' Vs' => seqL md ops T listed' = true ∧ Lq a' Vs') l.length listed a Vs
  | [], listed, a, Vs, _, _, _, hB, h => ⟨by simpa [headL] using hB, h⟩
  | (k, o) :: l, listed, a, Vs, hl, hT, inv, hB, h => by
    have h0 : ops[k]? = some o := hl (k, o) (List.mem_cons_self ..)
    have hkn : k < ops.size := (Array.getElem?_eq_some_iff.1 h0).1
    simp only [List.map_cons, headL, Bool.and_eq_true] at hB
    obtain ⟨⟨hr, hf⟩, hB'⟩ := hB
    have hr' : k ∈ Region.ready md ops listed := by simpa using hr
    have hg : gOp P md ops C Sp k (wpGP P md ops C Sp Lq l) a Vs := by unfold gOp; simp only [h0]; exact h
    exact wpAnyG_firstP hC h0 (Region.noSelect_spec hsel) (fun listed' a' Vs' hL => seqL_ready hL.1) (fun t ht => hT t ht (k, o) (List.mem_cons_self ..)) l.length listed a Vs inv (Region.free_spec h0 hf) hr'
      (gOp_mono (fun a' Vs' h' => wpAnyG_list hC hsel l _ a' Vs' (fun p hp => hl p (List.mem_cons_of_mem _ hp)) (fun t ht p hp => hT t ht p (List.mem_cons_of_mem _ hp)) (inv.set hr' hkn) hB' h') hg)
end
def opsAt (l : List Oper) : List Nat → List (Nat × Oper)
  | [] => []
  | k :: ks => match l[k]? with
    | some o => (k, o) :: opsAt l ks
    | none => opsAt l ks
theorem opsAt_at {l : List Oper} : ∀ {ks : List Nat} {p : Nat × Oper}, p ∈ opsAt l ks → l.toArray[p.1]? = some p.2
  | [], p, h => by cases h
  | k :: ks, p, h => by
    unfold opsAt at h
    split at h
    · rename_i o ho
      rcases List.mem_cons.1 h with rfl | h
      · simpa using ho
      · exact opsAt_at h
    · exact opsAt_at h
/-- Is this an order of our own? -/
def permB (md : Region.Mode) (ops : Array Oper) (hd tl : List Nat) : Bool :=
  Region.noSelect ops && decide (hd.length + tl.length = ops.size) && headL md ops tl hd (Array.replicate ops.size false) && tl.all fun t => hd.all fun i => ancB md ops ops.size t i
theorem wp_region_perm {P : Program} {id : Nat} {Q : Exit → Act → World → Prop} {a : Act} {w : World} {l : List Oper} (hd tl : List Nat) (Sp : Nat → OpSpec) (hm : P.follows .mixedOrders = true) (hB : permB .any l.toArray hd tl = true)
    (e1 : (opsAt l hd).map (·.1) = hd) (e2 : (opsAt l tl).map (·.1) = tl)
    (hst : ∀ i v w w', factOf (Sp i) v w → Below w.heap.size w w' → factOf (Sp i) v w')
    (h : wpGP P .any l.toArray (fun w' => Below w.heap.size w w') Sp (fun a' Vs => ∀ w', Below w.heap.size w w' → Facts Sp Vs w' → wpList P l.toArray Q ((opsAt l tl).map (·.2)) a' w') (opsAt l hd) a (fun _ => none)) : (Code.region id l.toArray true).wp P Q a w := by
  simp only [permB, Bool.and_eq_true, decide_eq_true_eq] at hB
  obtain ⟨⟨⟨hsel, hn⟩, hlex⟩, hanc⟩ := hB
  have inv0 : HeadInv .any l.toArray l.toArray.size (Array.replicate l.toArray.size false) :=
    ⟨by simp, fun j oj _ hl => (by rw [getD_replicate_false] at hl; cases hl), fun t h1 h2 => by omega⟩
  have H := wpAnyG_list (md := .any) (T := tl) ⟨w, Below.refl _ _⟩ hsel (opsAt l hd) _ a _ (fun p hp => opsAt_at hp) (fun t ht p hp => by
    have h1 := List.all_eq_true.1 hanc t ht
    exact List.all_eq_true.1 h1 p.1 (by rw [← e1]; exact List.mem_map.2 ⟨p, hp, rfl⟩)) inv0 (by rw [e1]; exact hlex) h
  refine wp_region_any hm ?_
  have hlh : (opsAt l hd).length = hd.length := by have := congrArg List.length e1; simpa using this
  have hlt : (opsAt l tl).length = tl.length := by have := congrArg List.length e2; simpa using this
  have := wpAny_of_G (Q' := Q) (g := (opsAt l tl).length) hst (fun w1 w2 h1 h2 => h1.trans (h2.mono h1.size)) (fun listed a' Vs w' hC hF hL =>
    wpAny_of_seqL (md := .any) (Q' := Q) (opsAt l tl) listed a' w' (fun p hp => opsAt_at hp) (by rw [e2]; exact hL.1) (hL.2 w' hC hF)) _ _ _ _ ({ w with drawn := w.drawn + 1 } : World) (Below.refl w.heap.size w).drew (fun i v h => by cases h) H
  rw [hlh, hlt, hn] at this
  exact this
structure GP (P : Program) (md : Region.Mode) (ops : Array Oper) (C : World → Prop) (Sp : Nat → OpSpec) (Lq : Act → Vals → Prop) (l : List (Nat × Oper)) (a : Act) (Vs : Vals) : Prop where
  out : wpGP P md ops C Sp Lq l a Vs
section
variable {P : Program} {ops : Array Oper} {md : Region.Mode} {C : World → Prop} {Sp : Nat → OpSpec} {Lq : Act → Vals → Prop} {o : Oper} {l : List (Nat × Oper)} {k : Nat} {a : Act} {Vs : Vals}
theorem gp_nil (h : Lq a Vs) : GP P md ops C Sp Lq [] a Vs := ⟨h⟩
theorem gp_pure (hw : Region.wanted o (yielded ops a.tmps) = true) (hs : Sp k = .pure) (v : Value) (h : ∀ w, C w → PureAt P o a w v) (hn : GP P md ops C Sp Lq l (a.put o.dst v) Vs) : GP P md ops C Sp Lq ((k, o) :: l) a Vs := by
  refine ⟨?_⟩
  unfold wpGP
  rw [if_pos hw]
  refine ⟨fun u => u = v, by unfold Ob; rw [hs]; exact ⟨v, rfl, h⟩, fun u hu => ?_⟩
  subst hu
  rw [hs]
  exact hn.out
theorem gp_const (hw : Region.wanted o (yielded ops a.tmps) = true) {v : Value} (hs : Sp k = .const v) (h : ∀ w, C w → FactsAt md ops Sp k Vs w → Does P o a w (IsPost v w)) (hn : GP P md ops C Sp Lq l (a.put o.dst v) Vs) : GP P md ops C Sp Lq ((k, o) :: l) a Vs := by
  refine ⟨?_⟩
  unfold wpGP
  rw [if_pos hw]
  refine ⟨fun u => u = v, by unfold Ob; rw [hs]; exact ⟨rfl, h⟩, fun u hu => ?_⟩
  subst hu
  rw [hs]
  exact hn.out
theorem gp_rel (hw : Region.wanted o (yielded ops a.tmps) = true) {R : Value → World → Prop} (hs : Sp k = .rel R) (h : ∀ w, C w → FactsAt md ops Sp k Vs w → Does P o a w (RelPost R w)) (hn : ∀ v, GP P md ops C Sp Lq l (a.put o.dst v) (upd Vs k v)) : GP P md ops C Sp Lq ((k, o) :: l) a Vs := by
  refine ⟨?_⟩
  unfold wpGP
  rw [if_pos hw]
  refine ⟨fun _ => True, by unfold Ob; rw [hs]; exact ⟨rfl, h⟩, fun u _ => ?_⟩
  rw [hs]
  exact (hn u).out
theorem gp_skip (hw : Region.wanted o (yielded ops a.tmps) = false) (hn : GP P md ops C Sp Lq l (a.put o.dst undef) Vs) : GP P md ops C Sp Lq ((k, o) :: l) a Vs := by
  refine ⟨?_⟩
  unfold wpGP
  rw [if_neg (by rw [hw]; exact Bool.false_ne_true)]
  exact hn.out
theorem region_gp {id : Nat} {Q : Exit → Act → World → Prop} {a : Act} {W : World} {l : List Oper} (F : Fz) (hd tl : List Nat) (L : List (Nat × Mark)) (hm : P.follows .mixedOrders = true) (hB : permB .any l.toArray hd tl = true) (e1 : (opsAt l hd).map (·.1) = hd) (e2 : (opsAt l tl).map (·.1) = tl)
    (h : GP P .any l.toArray (fun w' => Below W.heap.size W w') (specOf W F L) (fun a' Vs => ∀ w', Below W.heap.size W w' → Facts (specOf W F L) Vs w' → WL P l.toArray Q ((opsAt l tl).map (·.2)) a' w') (opsAt l hd) a (fun _ => none)) : (Code.region id l.toArray true).wp P Q a W :=
  wp_region_perm hd tl (specOf W F L) hm hB e1 e2 specOf_stable (by
    have key : ∀ (ls : List (Nat × Oper)) (a : Act) (Vs : Vals), wpGP P .any l.toArray (fun w' => Below W.heap.size W w') (specOf W F L) (fun a' Vs => ∀ w', Below W.heap.size W w' → Facts (specOf W F L) Vs w' → WL P l.toArray Q ((opsAt l tl).map (·.2)) a' w') ls a Vs →
        wpGP P .any l.toArray (fun w' => Below W.heap.size W w') (specOf W F L) (fun a' Vs => ∀ w', Below W.heap.size W w' → Facts (specOf W F L) Vs w' → wpList P l.toArray Q ((opsAt l tl).map (·.2)) a' w') ls a Vs := by
      intro ls
      induction ls with
      | nil => intro a Vs h w' h1 h2; exact (h w' h1 h2).out
      | cons p ls ih =>
        obtain ⟨k, o⟩ := p
        intro a Vs h
        unfold wpGP at h ⊢
        split
        · rename_i hw
          rw [if_pos hw] at h
          obtain ⟨S, hS, hv⟩ := h
          exact ⟨S, hS, fun v hv' => ih _ _ (hv v hv')⟩
        · rename_i hw
          rw [if_neg hw] at h
          exact ih _ _ h
    exact key _ _ _ h.out)
end
/-! Late. -/
/-- The store, behind which nothing of the region is left to look at the memory. -/
structure LT (P : Program) (ops : Array Oper) (Q : Exit → Act → World → Prop) (os : Oper) (rest : List Oper) (a : Act) (w : World) : Prop where
  out : ∃ w', os.guard = none ∧ os.dst = none ∧ (execOp a.eval os).run P w = .ok .skip w' ∧ wpList P ops Q rest a w'
section
variable {P : Program} {ops : Array Oper} {md : Region.Mode} {C : World → Prop} {Sp : Nat → OpSpec}
def wpAnyH (P : Program) (md : Region.Mode) (ops : Array Oper) (C : World → Prop) (Sp : Nat → OpSpec) (s : Nat) (L E : Array Bool → Act → Vals → Prop) : Nat → Array Bool → Act → Vals → Prop
  | 0, listed, a, Vs => L listed a Vs
  | f + 1, listed, a, Vs => Region.ready md ops listed ≠ [] ∧ ∀ i ∈ Region.ready md ops listed, (i ≠ s → gOp P md ops C Sp i (wpAnyH P md ops C Sp s L E f (listed.setIfInBounds i true)) a Vs) ∧ (i = s → f = 0 ∧ E listed a Vs)
theorem wpAnyH_first (hC : ∃ w, C w) {i s : Nat} {oi : Oper} {T : List Nat} {L E : Array Bool → Act → Vals → Prop} (hi : ops[i]? = some oi) (hsel : ∀ (j : Nat) (o : Oper) cs b, ops[j]? = some o → o.op ≠ .select cs b)
    (hdone : ∀ listed a Vs, L listed a Vs → ∀ j ∈ Region.ready md ops listed, j ∈ T) (hT : ∀ t ∈ T, ancB md ops ops.size t i = true) (hsT : s ∈ T) (his : i ≠ s) :
    ∀ (f : Nat) (listed : Array Bool) (a : Act) (Vs : Vals), HeadInv md ops ops.size listed →
      (∀ j oj, ops[j]? = some oj → j ≠ i → listed.getD j true = false → (∀ e ∈ oj.after, Region.binds md e = true → e.on ≠ i) → oi.apart ops oj = true) →
      i ∈ Region.ready md ops listed →
      gOp P md ops C Sp i (wpAnyH P md ops C Sp s L E f (listed.setIfInBounds i true)) a Vs → wpAnyH P md ops C Sp s L E (f + 1) listed a Vs := by
  intro f
  induction f with
  | zero =>
    intro listed a Vs inv _ hr H
    have hun := (mem_ready.1 hr).1
    refine ⟨fun h => (by rw [h] at hr; cases hr), fun j hj => ?_⟩
    by_cases hji : j = i
    · subst hji; exact ⟨fun _ => H, fun e => absurd e his⟩
    · obtain ⟨a', Vs', hL⟩ := gOp_some H
      have h1 := hdone _ _ _ hL j (ready_mono hj hji)
      have h2 := anc_ready inv hj _ _ (hT j h1)
      rw [getD_both hun] at h2
      cases h2
  | succ f ih =>
    intro listed a Vs inv hfree hr H
    have hun := (mem_ready.1 hr).1
    refine ⟨fun h => (by rw [h] at hr; cases hr), fun j hj => ?_⟩
    obtain ⟨hjun, oj, hoj, hall⟩ := mem_ready.1 hj
    have hjn : j < ops.size := (Array.getElem?_eq_some_iff.1 hoj).1
    by_cases hji : j = i
    · subst hji; exact ⟨fun _ => H, fun e => absurd e his⟩
    · by_cases hjs : j = s
      · subst hjs
        have h2 := anc_ready inv hj _ _ (hT j hsT)
        rw [getD_both hun] at h2
        cases h2
      · refine ⟨fun _ => ?_, fun e => absurd e hjs⟩
        have hnot : ∀ e ∈ oj.after, Region.binds md e = true → e.on ≠ i := fun e he hb heq => by
          have h1 := hall e he hb
          rw [heq, getD_both hun] at h1
          cases h1
        have a1 : ancB md ops ops.size j i = false := by
          cases hx : ancB md ops ops.size j i with
          | false => rfl
          | true => have := anc_ready inv hj _ _ hx; rw [getD_both hun] at this; cases this
        have a2 : ancB md ops ops.size i j = false := by
          cases hx : ancB md ops ops.size i j with
          | false => rfl
          | true => have := anc_ready inv hr _ _ hx; rw [getD_both hjun] at this; cases this
        have H1 : gOp P md ops C Sp i (gOp P md ops C Sp j (wpAnyH P md ops C Sp s L E f ((listed.setIfInBounds i true).setIfInBounds j true))) a Vs :=
          gOp_mono (fun a' Vs' h => (h.2 j (ready_mono hj hji)).1 hjs) H
        have H2 := gOp_swap hC hi hoj (Ne.symm hji) (hfree j oj hoj hji hjun hnot) (fun cs b => hsel i oi cs b hi) (fun cs b => hsel j oj cs b hoj) a1 a2 H1
        have hfree' : ∀ k ok, ops[k]? = some ok → k ≠ i → (listed.setIfInBounds j true).getD k true = false →
            (∀ e ∈ ok.after, Region.binds md e = true → e.on ≠ i) → oi.apart ops ok = true := fun k ok hk hki hun' hno => by
          refine hfree k ok hk hki ?_ hno
          by_cases hjk : j = k
          · subst hjk; exact hjun
          · rw [getD_set_ne true hjk] at hun'; exact hun'
        refine gOp_mono (fun a' Vs' h3 => ih (listed.setIfInBounds j true) a' Vs' (inv.set hj hjn) hfree' (ready_mono hr (Ne.symm hji)) ?_) H2
        rw [Array.setIfInBounds_comm _ _ hji]
        exact h3
/-- What is left when only the pure operation p, the store s and the tail are. -/
def LateD (P : Program) (md : Region.Mode) (ops : Array Oper) (Q : Exit → Act → World → Prop) (C : World → Prop) (Sp : Nat → OpSpec) (p : Nat) (op os : Oper) (tail : List Oper) (a : Act) (Vs : Vals) : Prop :=
  op.guard = none ∧ ∃ v, Sp p = .const v ∧ (∀ w, C w → FactsAt md ops Sp p Vs w → ∀ w1, PureAt P op a w1 v) ∧ ∀ w, C w → Facts Sp Vs w → LT P ops Q os tail (a.put op.dst v) w
def lateL (md : Region.Mode) (ops : Array Oper) (p s : Nat) (T : List Nat) (listed : Array Bool) : Bool :=
  ((Region.ready md ops listed).all fun j => j == p || j == s) && (Region.ready md ops listed).contains p && Region.free md ops listed p && seqL md ops (s :: T) (listed.setIfInBounds p true) && seqL md ops (p :: T) (listed.setIfInBounds s true)
def headH (md : Region.Mode) (ops : Array Oper) (p s : Nat) (T : List Nat) : List Nat → Array Bool → Bool
  | [], listed => lateL md ops p s T listed
  | k :: ks, listed => (Region.ready md ops listed).contains k && Region.free md ops listed k && headH md ops p s T ks (listed.setIfInBounds k true)
theorem does_of_pure {o : Oper} {a : Act} {w : World} {v : Value} (h : PureAt P o a w v) : Does P o a w (IsPost v w) := by
  unfold Does PureAt at *
  generalize (execOp a.eval o).run P w = r at *
  cases r with
  | ok n w' =>
    cases n <;> simp only [PureR] at h <;> simp only [DoesR]
    · obtain ⟨rfl, rfl⟩ := h; exact ⟨rfl, Below.refl _ _⟩
    · obtain ⟨rfl, rfl⟩ := h; exact ⟨rfl, Below.refl _ _⟩
  | halt x w' => simp only [PureR] at h
theorem wanted_free {o : Oper} {t : Array Value} (h : o.guard = none) : Region.wanted o (yielded ops t) = true := by unfold Region.wanted; rw [h]
theorem wpAnyH_list (hC : ∃ w, C w) {p s : Nat} {T : List Nat} {op os : Oper} {tail : List Oper} {Q : Exit → Act → World → Prop} (hp : ops[p]? = some op) (hps : p ≠ s) (hsel : Region.noSelect ops = true) :
    ∀ (l : List (Nat × Oper)) (listed : Array Bool) (a : Act) (Vs : Vals), (∀ q ∈ l, ops[q.1]? = some q.2) → (∀ t ∈ s :: T, ∀ q ∈ l, ancB md ops ops.size t q.1 = true) → (∀ q ∈ l, q.1 ≠ s) → HeadInv md ops ops.size listed →
    headH md ops p s T (l.map (·.1)) listed = true → wpGP P md ops C Sp (LateD P md ops Q C Sp p op os tail) l a Vs →
    wpAnyH P md ops C Sp s (fun listed' a' Vs' => seqL md ops (s :: T) listed' = true ∧ ∀ w, C w → Facts Sp Vs' w → LT P ops Q os tail a' w) (fun listed' a' Vs' => lateL md ops p s T listed' = true ∧ LateD P md ops Q C Sp p op os tail a' Vs') (l.length + 1) listed a Vs
  | [], listed, a, Vs, _, _, _, _, hB, h => by
    have hB0 := hB
    simp only [List.map_nil, headH, lateL, Bool.and_eq_true] at hB
    obtain ⟨⟨⟨⟨h1, h2⟩, h3⟩, h4⟩, h5⟩ := hB
    have hr : p ∈ Region.ready md ops listed := by simpa using h2
    refine ⟨fun e => (by rw [e] at hr; cases hr), fun j hj => ⟨fun hjs => ?_, fun e => ⟨rfl, hB0, h⟩⟩⟩
    have hj2 := List.all_eq_true.1 h1 j hj
    simp only [Bool.or_eq_true, beq_iff_eq] at hj2
    have hjp : j = p := hj2.resolve_right hjs
    subst hjp
    obtain ⟨hg, v, hs, hpu, hn⟩ := h
    unfold gOp
    simp only [hp]
    rw [if_pos (wanted_free hg)]
    refine ⟨fun u => u = v, ?_, fun u hu => ?_⟩
    · unfold Ob; rw [hs]; exact ⟨rfl, fun w hc hF => does_of_pure (hpu w hc hF w)⟩
    · subst hu
      rw [hs]
      exact ⟨h4, hn⟩
  | (k, o) :: l, listed, a, Vs, hl, hT, hns, inv, hB, h => by
    have h0 : ops[k]? = some o := hl (k, o) (List.mem_cons_self ..)
    have hkn : k < ops.size := (Array.getElem?_eq_some_iff.1 h0).1
    simp only [List.map_cons, headH, Bool.and_eq_true] at hB
    obtain ⟨⟨hr, hf⟩, hB'⟩ := hB
    have hr' : k ∈ Region.ready md ops listed := by simpa using hr
    have hg : gOp P md ops C Sp k (wpGP P md ops C Sp (LateD P md ops Q C Sp p op os tail) l) a Vs := by unfold gOp; simp only [h0]; exact h
    exact wpAnyH_first hC h0 (Region.noSelect_spec hsel) (fun listed' a' Vs' hL => seqL_ready hL.1) (fun t ht => hT t ht (k, o) (List.mem_cons_self ..)) (List.mem_cons_self ..) (hns (k, o) (List.mem_cons_self ..)) (l.length + 1) listed a Vs inv (Region.free_spec h0 hf) hr'
      (gOp_mono (fun a' Vs' h' => wpAnyH_list hC hp hps hsel l _ a' Vs' (fun p hp => hl p (List.mem_cons_of_mem _ hp)) (fun t ht p hp => hT t ht p (List.mem_cons_of_mem _ hp)) (fun q hq => hns q (List.mem_cons_of_mem _ hq)) (inv.set hr' hkn) hB' h') hg)
theorem wpAny_of_H (hst : ∀ i v w w', factOf (Sp i) v w → Below w.heap.size w w' → factOf (Sp i) v w') (hCE : ∀ w w', C w → Below w.heap.size w w' → C w') {s g : Nat} {L E : Array Bool → Act → Vals → Prop} {Q' : Exit → Act → World → Prop}
    (hL : ∀ listed a Vs w, C w → Facts Sp Vs w → L listed a Vs → wpAny P md ops Q' g listed a w)
    (hE : ∀ listed a Vs w, C w → Facts Sp Vs w → s ∈ Region.ready md ops listed → E listed a Vs → wpOp P ops Q' s (wpAny P md ops Q' g (listed.setIfInBounds s true)) a w) :
    ∀ (f : Nat) (listed : Array Bool) (a : Act) (Vs : Vals) (w : World), C w → Facts Sp Vs w → wpAnyH P md ops C Sp s L E f listed a Vs → wpAny P md ops Q' (f + g) listed a w
  | 0, listed, a, Vs, w, hc, hF, h => by rw [Nat.zero_add]; exact hL _ _ _ _ hc hF h
  | f + 1, listed, a, Vs, w, hc, hF, h => by
    rw [show f + 1 + g = (f + g) + 1 by omega]
    refine ⟨fun h0 => absurd h0 h.1, fun i hi => ?_⟩
    by_cases his : i = s
    · subst his
      obtain ⟨hf0, he⟩ := (h.2 i hi).2 rfl
      subst hf0
      rw [Nat.zero_add]
      exact hE listed a Vs w hc hF hi he
    have hg := (h.2 i hi).1 his
    unfold gOp at hg
    unfold wpOp
    split
    · rename_i e
      simp only [e] at hg
      exact wpAny_of_H hst hCE hL hE f _ a Vs w hc hF hg
    · rename_i o e
      simp only [e] at hg
      split
      · rename_i hw
        rw [if_pos hw] at hg
        obtain ⟨S, hS, hall⟩ := hg
        left
        unfold Ob at hS
        split at hS
        · rename_i es
          obtain ⟨v, rfl, hp⟩ := hS
          have hn := hall v rfl
          simp only [es, next] at hn
          exact Oper.wp_of_pure (hp w hc) (wpAny_of_H hst hCE hL hE f _ _ Vs w hc hF hn)
        · rename_i v es
          obtain ⟨rfl, hp⟩ := hS
          have hn := hall v rfl
          simp only [es, next] at hn
          refine Oper.wp_of_does (hp w hc fun i' v' _ hv => hF i' v' hv) fun u w' ⟨hu, hb⟩ => ?_
          subst hu
          exact wpAny_of_H hst hCE hL hE f _ _ Vs w' (hCE w w' hc hb) (fun i' v' hv => hst i' v' w w' (hF i' v' hv) hb) hn
        · rename_i R es
          obtain ⟨rfl, hp⟩ := hS
          refine Oper.wp_of_does (hp w hc fun i' v' _ hv => hF i' v' hv) fun u w' ⟨hu, hb⟩ => ?_
          have hn := hall u trivial
          refine wpAny_of_H hst hCE hL hE f _ _ _ w' (hCE w w' hc hb) (fun i' v' hv => ?_) hn
          simp only [es, next] at hv
          unfold upd at hv
          split at hv
          · rename_i e'
            subst e'
            cases hv
            simp only [es, factOf]
            exact hu
          · exact hst i' v' w w' (hF i' v' hv) hb
      · rename_i hw
        rw [if_neg hw] at hg
        exact wpAny_of_H hst hCE hL hE f _ _ Vs w hc hF hg
theorem wpList_of_LT {Q : Exit → Act → World → Prop} {os : Oper} {tail : List Oper} {a : Act} {w : World} (h : LT P ops Q os tail a w) : wpList P ops Q (os :: tail) a w := by
  obtain ⟨w', hg, hd, hr, hk⟩ := h.out
  unfold wpList
  rw [if_pos (wanted_free hg)]
  left
  refine Oper.wp_of_does (Φ := fun u w1 => u = undef ∧ w1 = w') (by unfold Does; rw [hr]; exact ⟨rfl, rfl⟩) fun u w1 ⟨hu, hw⟩ => ?_
  subst hu; subst hw
  rw [hd]
  exact hk
end
/-- Is this an order of our own, with the pure operation p that may come behind the store s? -/
def lateB (md : Region.Mode) (ops : Array Oper) (hd : List Nat) (p s : Nat) (tl : List Nat) : Bool :=
  Region.noSelect ops && decide (hd.length + 2 + tl.length = ops.size) && headH md ops p s tl hd (Array.replicate ops.size false) && ((s :: tl).all fun t => hd.all fun i => ancB md ops ops.size t i) && (hd.all fun i => i != s) && (p != s)
theorem wp_region_late {P : Program} {id : Nat} {Q : Exit → Act → World → Prop} {a : Act} {w : World} {l : List Oper} (hd : List Nat) (p s : Nat) (tl : List Nat) (op os : Oper) (Sp : Nat → OpSpec) (hm : P.follows .mixedOrders = true) (hB : lateB .any l.toArray hd p s tl = true)
    (e1 : (opsAt l hd).map (·.1) = hd) (e2 : (opsAt l tl).map (·.1) = tl) (e3 : l[p]? = some op) (e4 : l[s]? = some os)
    (hst : ∀ i v w w', factOf (Sp i) v w → Below w.heap.size w w' → factOf (Sp i) v w')
    (h : wpGP P .any l.toArray (fun w' => Below w.heap.size w w') Sp (LateD P .any l.toArray Q (fun w' => Below w.heap.size w w') Sp p op os ((opsAt l tl).map (·.2))) (opsAt l hd) a (fun _ => none)) : (Code.region id l.toArray true).wp P Q a w := by
  simp only [lateB, Bool.and_eq_true, decide_eq_true_eq] at hB
  obtain ⟨⟨⟨⟨⟨hsel, hn⟩, hlex⟩, hanc⟩, hns⟩, hps⟩ := hB
  have hps : p ≠ s := by simpa using hps
  have hp : l.toArray[p]? = some op := by simpa using e3
  have hs : l.toArray[s]? = some os := by simpa using e4
  have inv0 : HeadInv .any l.toArray l.toArray.size (Array.replicate l.toArray.size false) :=
    ⟨by simp, fun j oj _ hl => (by rw [getD_replicate_false] at hl; cases hl), fun t h1 h2 => by omega⟩
  have mem : ∀ q ∈ opsAt l hd, q.1 ∈ hd := fun q hq => by rw [← e1]; exact List.mem_map.2 ⟨q, hq, rfl⟩
  have H := wpAnyH_list (md := .any) (T := tl) (Q := Q) ⟨w, Below.refl _ _⟩ hp hps hsel (opsAt l hd) _ a _ (fun p hp => opsAt_at hp) (fun t ht p hp => by
    have h1 := List.all_eq_true.1 hanc t ht
    exact List.all_eq_true.1 h1 p.1 (mem p hp)) (fun q hq => by have := List.all_eq_true.1 hns q.1 (mem q hq); simpa using this) inv0 (by rw [e1]; exact hlex) h
  refine wp_region_any hm ?_
  have hlh : (opsAt l hd).length = hd.length := by have := congrArg List.length e1; simpa using this
  have hlt : (opsAt l tl).length = tl.length := by have := congrArg List.length e2; simpa using this
  have := wpAny_of_H (Q' := Q) (g := (opsAt l tl).length + 1) hst (fun w1 w2 h1 h2 => h1.trans (h2.mono h1.size)) (fun listed a' Vs w' hC hF hL => by
      have := wpAny_of_seqL (md := .any) (Q' := Q) ((s, os) :: opsAt l tl) listed a' w' (fun p hp => by rcases List.mem_cons.1 hp with rfl | hp; exact hs; exact opsAt_at hp) (by rw [List.map_cons, e2]; exact hL.1) (wpList_of_LT (hL.2 w' hC hF))
      simpa using this) (fun listed a' Vs w' hC hF hsr hE => by
      obtain ⟨hB, hg, v, hsp, hpu, hn'⟩ := hE
      simp only [lateL, Bool.and_eq_true] at hB
      obtain ⟨⟨⟨⟨h1, h2⟩, h3⟩, h4⟩, h5⟩ := hB
      have hrp : p ∈ Region.ready .any l.toArray listed := by simpa using h2
      have hunp := (mem_ready.1 hrp).1
      obtain ⟨hsun, os', hos', hall⟩ := mem_ready.1 hsr
      have hoe : os' = os := Option.some.inj (hos'.symm.trans hs)
      subst hoe
      have hap := Region.free_spec hp h3 s os' hos' (Ne.symm hps) hsun (fun e he hb heq => by
        have h1 := hall e he hb
        rw [heq, getD_both hunp] at h1
        cases h1)
      obtain ⟨w1, q1, q2, q3, q4⟩ := (hn' w' hC hF).out
      rw [execOp_put os' (fun cs b => Region.noSelect_spec hsel s os' cs b hos') a' op.dst v (Oper.apart_spec hap).1] at q3
      unfold wpOp
      simp only [hos']
      rw [if_pos (wanted_free q1)]
      left
      refine Oper.wp_of_does (Φ := fun u w2 => u = undef ∧ w2 = w1) (by unfold Does; rw [q3]; exact ⟨rfl, rfl⟩) fun u w2 ⟨hu, hw⟩ => ?_
      subst hu; subst hw
      rw [q2]
      have h5' := h5
      simp only [seqL, Bool.and_eq_true, decide_eq_true_eq] at h5'
      refine ⟨fun e => (by rw [h5'.1] at e; cases e), fun i hi => ?_⟩
      rw [h5'.1] at hi
      have hip : i = p := by simpa using hi
      subst hip
      unfold wpOp
      simp only [hp]
      rw [if_pos (wanted_free hg)]
      left
      exact Oper.wp_of_pure (hpu w' hC (fun i' v' _ hv => hF i' v' hv) w2) (wpAny_of_seqL (md := .any) (Q' := Q) (opsAt l tl) _ _ _ (fun p hp => opsAt_at hp) (by rw [e2]; exact h5'.2) q4)) _ _ _ _ ({ w with drawn := w.drawn + 1 } : World) (Below.refl w.heap.size w).drew (fun i v h => by cases h) H
  rw [hlh, hlt, show hd.length + 1 + (tl.length + 1) = hd.length + 2 + tl.length by omega, hn] at this
  exact this
section
variable {P : Program} {ops : Array Oper} {md : Region.Mode} {C : World → Prop} {Sp : Nat → OpSpec}
/-- As LateD, of what is written 'WL'. -/
def LateW (P : Program) (md : Region.Mode) (ops : Array Oper) (Q : Exit → Act → World → Prop) (C : World → Prop) (Sp : Nat → OpSpec) (p : Nat) (op os : Oper) (tail : List Oper) (a : Act) (Vs : Vals) : Prop := LateD P md ops Q C Sp p op os tail a Vs
theorem late_ {p : Nat} {op os : Oper} {tail : List Oper} {Q : Exit → Act → World → Prop} {a : Act} {Vs : Vals} (hg : op.guard = none) {v : Value} (hs : Sp p = .const v) (h : ∀ w, C w → FactsAt md ops Sp p Vs w → ∀ w1, PureAt P op a w1 v)
    (hn : ∀ w, C w → Facts Sp Vs w → LT P ops Q os tail (a.put op.dst v) w) : LateW P md ops Q C Sp p op os tail a Vs := ⟨hg, v, hs, h, hn⟩
end
theorem region_late {P : Program} {id : Nat} {Q : Exit → Act → World → Prop} {a : Act} {W : World} {l : List Oper} (F : Fz) (hd : List Nat) (p s : Nat) (tl : List Nat) (L : List (Nat × Mark)) (hm : P.follows .mixedOrders = true) (hB : lateB .any l.toArray hd p s tl = true) (e1 : (opsAt l hd).map (·.1) = hd) (e2 : (opsAt l tl).map (·.1) = tl)
    {op os : Oper} (e3 : l[p]? = some op) (e4 : l[s]? = some os)
    (h : GP P .any l.toArray (fun w' => Below W.heap.size W w') (specOf W F L) (LateW P .any l.toArray Q (fun w' => Below W.heap.size W w') (specOf W F L) p op os ((opsAt l tl).map (·.2))) (opsAt l hd) a (fun _ => none)) : (Code.region id l.toArray true).wp P Q a W :=
  wp_region_late hd p s tl op os (specOf W F L) hm hB e1 e2 e3 e4 specOf_stable h.out
theorem stLate {P : Program} {w0 w : World} {F0 F : Fz} {L : List Blk} {M : List RowP} {ops : Array Oper} {Q : Exit → Act → World → Prop} {a : Act} {rest : List Oper} {t T T' : TypeId} {x y : Operand} {pos : String} {after : Array Edge} {i n j : Nat} {c : List Value} {v : Value} (S : St w0 F0 w F L M)
    (hx : a.eval x = .pointer (some ⟨n, j, none⟩)) (hy : a.eval y = v) (hL : L[i]? = some ⟨n, c, T'⟩)
    (hi : (P.info? T).map (·.size) = some v.cells.size) (h1 : v.cells.all (·.oneCell') = true) (hl : j + v.cells.size ≤ c.length)
    (h : ∀ w', St w0 F0 w' F (L.set i ⟨n, splice c j v.cells.toList, T'⟩) M → WL P ops Q rest a w') : LT P ops Q ⟨none, .store T x y, t, pos, after, none⟩ rest a w := by
  have hs := storeV (P := P) (T := T) (v := v) hi (S.there hL j v.cells.size hl) h1
  exact ⟨⟨_, rfl, rfl, ex_store hx (by rw [hy]; exact hs), (h _ (S.store hL j v.cells.toList (by simpa using hl))).out⟩⟩
/-- A call that makes something out of what was made. -/
theorem call_made2 {P : Program} {f : FuncId} {args : Array Value} {W w : World} {F Fa : Fz} {R : Fz → Value → Prop} (ga : Gr W F w Fa) (h : Calls P f args w (Gives w Fa R)) : Calls P f args w (CallPost (RelPost (Made W F R) w)) :=
  h.mono fun e w' ⟨v, F', he, g, r⟩ => ⟨v, he, ⟨F', ga.trans g, r⟩, g.below⟩
theorem Sl.dropF {α : Type} {k : Nat} {R : Fz → List Value → α → Prop} {w : World} {F : Fz} {n : Nat} {cs : List Value} {T : TypeId} (hs : Sat w F) (hb : w.heap[n]? = some (.cells cs.toArray T (0, 0))) (hR : ∀ c p, R F c p → R (Proofs.YticbfdhdipfjmaaDoor.dropF F n) c p) (hx : ∀ (c : List Value) p, R F c p → ∃ (j : Nat) (u : Value), c[j]? = some u ∧ u ∉ cs) {v : Value} {l : List α} (h : Sl k R F v l) : Sl k R (Proofs.YticbfdhdipfjmaaDoor.dropF F n) v l := by
  obtain ⟨xs, ⟨a, c, h1, h2, h3, h4, h5⟩, hr, hk⟩ := h
  refine ⟨xs, ⟨a, c, h1, h2, h3, h4, ?_⟩, hr.imp hR, hk⟩
  rcases h5 with h5 | ⟨b, o, e, h6⟩
  · exact .inl h5
  · by_cases hbn : b = n
    · cases xs with
      | nil => exact .inl rfl
      | cons x xs =>
        exfalso
        cases l with
        | nil => exact hr
        | cons p l =>
          obtain ⟨j, u, hj, hu⟩ := hx _ _ hr.1
          have h0 := h6 j u (by
            rw [List.flatten_cons, List.getElem?_append_left (List.getElem?_eq_some_iff.1 hj).1]
            exact hj)
          subst hbn
          unfold cellF at h0
          split at h0
          · rename_i c0 t0 fr0 hF
            have := hs _ _ hF
            rw [hb] at this
            cases this
            have hm : u ∈ cs := by
              have : cs[o + j]? = some u := by simpa using h0
              exact List.mem_of_getElem? this
            exact hu hm
          · cases h0
    · refine .inr ⟨b, o, e, fun j u hu => ?_⟩
      have h0 := h6 j u hu
      unfold cellF Proofs.YticbfdhdipfjmaaDoor.dropF at *
      rw [if_neg hbn]
      exact h0
section
variable {w : World} {F : Fz} {n : Nat} {cs : List Value} {T : TypeId}
theorem Rds.dropF (hs : Sat w F) (hb : w.heap[n]? = some (.cells cs.toArray T (0, 0))) (hc : ∀ u ∈ cs, ∀ x, u ≠ bv x) (hc2 : ∀ b, Value.bool b ∉ cs) {v : Value} {l : List Rd} (h : Rds F v l) : Rds (Proofs.YticbfdhdipfjmaaDoor.dropF F n) v l :=
  Sl.dropF hs hb (RdC.dropF hs hb hc) (fun c p ⟨a0, a1, a2, a3, e, _, _, e2, _⟩ => ⟨2, a2, by rw [e]; rfl, by rw [e2]; exact hc2 _⟩) h
theorem Wrs.dropF (hs : Sat w F) (hb : w.heap[n]? = some (.cells cs.toArray T (0, 0))) (hc : ∀ u ∈ cs, ∀ x, u ≠ bv x) (hc2 : ∀ b, Value.bool b ∉ cs) {v : Value} {l : List Wr} (h : Wrs F v l) : Wrs (Proofs.YticbfdhdipfjmaaDoor.dropF F n) v l :=
  Sl.dropF hs hb (WrC.dropF hs hb hc) (fun c p ⟨a0, a1, a2, a3, e, _, _, e2, _⟩ => ⟨2, a2, by rw [e]; rfl, by rw [e2]; exact hc2 _⟩) h
end
end Go.Proofs.YticbfdhdipfjmaaDoor
namespace Go.Proofs.YticbfdhdipfjmaaDoor
open Go.RowKit
set_option linter.unusedVariables false
structure HL (P : Program) (ops : Array Oper) (Q : Exit → Act → World → Prop) (F : Fz) (fuel : Nat) (listed : Array Bool) (a : Act) (w : World) : Prop where
  out : Go.wpAnyH P .any ops Q (fun w => Sat w F) fuel listed a w
section
variable {P : Program} {ops : Array Oper} {Q : Exit → Act → World → Prop} {F : Fz} {fuel : Nat} {listed : Array Bool} {a : Act} {w : World} {o : Oper}
theorem region_hl {id : Nat} {l : List Oper} {w0 : World} {F0 : Fz} {L : List Blk} {M : List RowP} (S : St w0 F0 w F L M) (hm : P.follows .mixedOrders = true) (h : ∀ w', St w0 F0 w' F L M → HL P l.toArray Q F l.length (Array.replicate l.length false) a w') : (Code.region id l.toArray true).wp P Q a w := by
  have := (h { w with drawn := w.drawn + 1 } (S.tells (Below.refl w.heap.size w).drew)).out
  refine wp_region_held (S := fun w => Sat w F) hm ?_
  simpa using this
def canTake (ops : Array Oper) (listed : Array Bool) (i : Nat) : Bool := Region.noSelect ops && Region.free .any ops listed i && (Region.ready .any ops listed).contains i
theorem hl_take {l : List Oper} (i : Nat) (hi : l[i]? = some o) (hc : canTake l.toArray listed i = true) {v : Value} (hQ : ∀ c a w, Q (.panic c) (a.put o.dst v) w → Q (.panic c) a w) (hS : Sat w F) (hw : Region.wanted o (yielded l.toArray a.tmps) = true)
    (hr : ∀ w1, Sat w1 F → (execOp a.eval o).run P w1 = .ok (.value v) w1) (h : HL P l.toArray Q F fuel (listed.setIfInBounds i true) (a.put o.dst v) w) : HL P l.toArray Q F (fuel + 1) listed a w := by
  simp only [canTake, Bool.and_eq_true] at hc
  exact ⟨Go.wpAnyH_take (by simpa using hi) hc.1.1 hc.1.2 hc.2 hQ (.inl ⟨hw, hr⟩) hS h.out⟩
theorem hl_skip {l : List Oper} (i : Nat) (hi : l[i]? = some o) (hc : canTake l.toArray listed i = true) (hQ : ∀ c a w, Q (.panic c) (a.put o.dst undef) w → Q (.panic c) a w) (hS : Sat w F) (hw : Region.wanted o (yielded l.toArray a.tmps) = false)
    (h : HL P l.toArray Q F fuel (listed.setIfInBounds i true) (a.put o.dst undef) w) : HL P l.toArray Q F (fuel + 1) listed a w := by
  simp only [canTake, Bool.and_eq_true] at hc
  exact ⟨Go.wpAnyH_take (by simpa using hi) hc.1.1 hc.1.2 hc.2 hQ (.inr ⟨hw, rfl⟩) hS h.out⟩
theorem Oper.wp_exit {K K' : Act → World → Prop} (hh : o.wp P a w K (Exit.then K' Q)) : o.wp P a w K Q := by
  unfold Oper.wp at *
  generalize (execOp a.eval o).run P w = r at *
  cases r with
  | ok n w' =>
    cases n <;> simp only [Oper.upon] at hh ⊢ <;> try exact hh
  | halt x w' => cases x <;> exact hh
/-- The only one that may come up. -/
theorem hl_next {l : List Oper} (i : Nat) (hr : Region.ready .any l.toArray listed = [i]) (hi : l[i]? = some o) (h : WL P l.toArray (Exit.then (fun a' w' => Sat w' F ∧ Go.wpAnyH P .any l.toArray Q (fun w => Sat w F) fuel (listed.setIfInBounds i true) a' w') Q) [o] a w) : HL P l.toArray Q F (fuel + 1) listed a w := by
  refine ⟨Go.wpAnyH_all hr (by simp) fun j hj => ?_⟩
  have hji : j = i := by simpa using hj
  subst hji
  have h1 := h.out
  unfold wpList at h1
  unfold wpOp
  have hi' : l.toArray[j]? = some o := by simpa using hi
  simp only [hi']
  split
  · rename_i hw
    rw [if_pos hw] at h1
    rcases h1 with h1 | h1
    · left
      refine Oper.wp_mono (fun a' w' hk => ?_) (Oper.wp_exit h1)
      exact hk
    · exact .inr h1
  · rename_i hw
    rw [if_neg hw] at h1
    exact h1
theorem hl_back (hS : Sat w F) (h : HL P ops Q F fuel listed a w) : Exit.then (fun a' w' => Sat w' F ∧ Go.wpAnyH P .any ops Q (fun w => Sat w F) fuel listed a' w') Q .normal a w := ⟨hS, h.out⟩
theorem hl_done (hr : Region.ready .any ops listed = []) (h : Q .normal a w) : HL P ops Q F fuel listed a w := ⟨Go.wpAnyH_done hr h _⟩
end
end Go.Proofs.YticbfdhdipfjmaaDoor
namespace Go.Proofs.YticbfdhdipfjmaaDoor
open Go.ChangeShapes Go.WideShapes Go.ChangeAt Go.RowKit Go.Deep
set_option maxRecDepth 100000
theorem laidVars_at {P : Program} {W : World} : ∀ {l : List (String × DataW Unit)} {ps : List MemPlace}, DataW.LaidVars P W l ps → ∀ (i : Nat) (n : String) (d : DataW Unit), l[i]? = some (n, d) →
    ∃ g t cs fuel p, P.globalNamed n = some g ∧ (P.globals[g]?).map (·.type) = some t ∧ W.var? P n = some cs ∧ DataW.trod (fun _ => ()) P W 0 (fun _ => true) false fuel t cs.toList = some (d, p)
  | [], _, _, i, n, d, hi => by simp at hi
  | (n', d') :: r, ps, h, i, n, d, hi => by
    obtain ⟨g, t, cs, fuel, p, q, h1, h2, h3, h4, h5, h6⟩ := h
    cases i with
    | zero =>
      simp only [List.getElem?_cons_zero, Option.some.injEq, Prod.mk.injEq] at hi
      obtain ⟨rfl, rfl⟩ := hi
      exact ⟨g, t, cs, fuel, p, h1, h2, h3, h4⟩
    | succ i => exact laidVars_at h5 i n d (by simpa using hi)
theorem tabIs_at {P : Program} {W : World} {l : List (String × DataW Unit)} (h : laidMet P l W) (i : Nat) (name : String) (k : IntKind) (zs : List Int) {g : Nat} {t e : TypeId} {n : Nat}
    (hi : l[i]? = some (name, Lib.tabData k zs))
    (hg : P.globalNamed name = some g) (hty : (P.globals[g]?).map (·.type) = some t) (ht : P.underlying t = some (.array n e)) (he : P.underlying e = some (.int k)) (hce : P.cellsOf e = 1) (hct : P.cellsOf t = n) : Lib.TabIs P W name k zs := by
  obtain ⟨ps, hv, _, _⟩ := h
  obtain ⟨g', t', cs, fuel, p, hg', ht', hvar, hd⟩ := laidVars_at hv i name _ hi
  obtain rfl := Option.some.inj (hg.symm.trans hg')
  obtain rfl := Option.some.inj (hty.symm.trans ht')
  unfold Lib.TabIs
  rw [hvar, ← Lib.cells_of_tab ht he hce hct hd]
theorem array5 {α : Type} {cs : Array α} (h : cs.size = 5) : ∃ c0 c1 c2 c3 c4, cs = #[c0, c1, c2, c3, c4] := by
  obtain ⟨l⟩ := cs
  match l, h with
  | [c0, c1, c2, c3, c4], _ => exact ⟨c0, c1, c2, c3, c4, rfl⟩
/-- A struct of five one-cell fields, by value, opened. -/
theorem open_agg5 {H : Type} {enc : TypeId × Value → H} {P : Program} {w : World} {base : Nat} {spare : Nat → Bool} {held : Bool} {r : Reach} {b0 : Nat} {t : TypeId} {f0 f1 f2 f3 f4 : Field} {v : Value} {d : DataW H} {p : List MemPlace}
    (hs : P.underlying t = some (.struct #[f0, f1, f2, f3, f4])) (hone : oneCellFields P #[f0, f1, f2, f3, f4] = true) (hC : P.cellsOf t = 5)
    (hv : Value.okWide P w r b0 t v) (h : DataW.Trod enc P w base spare held t v d p) :
    ∃ (v0 v1 v2 v3 v4 : Value) (y0 y1 y2 y3 y4 : DataW H × List MemPlace) (n : Nat), v = .agg #[v0, v1, v2, v3, v4] ∧
      DataW.trod enc P w base spare held n f0.type [v0] = some y0 ∧ DataW.trod enc P w base spare held n f1.type [v1] = some y1 ∧ DataW.trod enc P w base spare held n f2.type [v2] = some y2 ∧
      DataW.trod enc P w base spare held n f3.type [v3] = some y3 ∧ DataW.trod enc P w base spare held n f4.type [v4] = some y4 := by
  obtain ⟨cs, rfl, hsz⟩ := okWide_struct hs hv
  obtain ⟨c0, c1, c2, c3, c4, rfl⟩ := array5 (hsz.trans hC)
  obtain ⟨fuel, hf⟩ := h
  obtain ⟨xs, n, _, _, _, hlen, hi⟩ := DataW.trod_struct hs hf
  have H1 : ∀ (i : Nat) f, #[f0, f1, f2, f3, f4][i]? = some f → f.offset = i ∧ P.cellsOf f.type = 1 := fun i f hf => by
    obtain ⟨o, k⟩ := hone_of hone i f hf
    exact ⟨o, k⟩
  match xs, hlen with
  | [y0, y1, y2, y3, y4], _ =>
    refine ⟨c0, c1, c2, c3, c4, y0, y1, y2, y3, y4, n, rfl, ?_, ?_, ?_, ?_, ?_⟩
    · have := hi 0 f0 rfl; rw [(H1 0 f0 rfl).1, (H1 0 f0 rfl).2] at this; simpa [Value.cells] using this
    · have := hi 1 f1 rfl; rw [(H1 1 f1 rfl).1, (H1 1 f1 rfl).2] at this; simpa [Value.cells] using this
    · have := hi 2 f2 rfl; rw [(H1 2 f2 rfl).1, (H1 2 f2 rfl).2] at this; simpa [Value.cells] using this
    · have := hi 3 f3 rfl; rw [(H1 3 f3 rfl).1, (H1 3 f3 rfl).2] at this; simpa [Value.cells] using this
    · have := hi 4 f4 rfl; rw [(H1 4 f4 rfl).1, (H1 4 f4 rfl).2] at this; simpa [Value.cells] using this
end Go.Proofs.YticbfdhdipfjmaaDoor
namespace Go.Proofs.YticbfdhdipfjmaaDoor
open Go.RowKit
set_option maxRecDepth 100000
set_option linter.unusedVariables false
/-- The table of what a kind has. -/
def hasL : List Int := [0, 0, 3, 7, 11, 3, 0, 0, 3]
def Has (w : World) : Prop := ∀ i (hi : i < hasL.length), w.cell? ⟨0, i, none⟩ = some (.int .i64 hasL[i])
/-- What wire.Check tells, by the lengths of the parts; h: what the kind has. -/
def partsN (h : Nat) (n y l v : Nat) : Int :=
  if h.testBit 0 ∧ ¬ (1 ≤ n ∧ n ≤ 8) then 1 else if h.testBit 0 ∧ ¬ (1 ≤ y ∧ y ≤ 16) then 1 else if h.testBit 2 ∧ ¬ (1 ≤ l ∧ l ≤ 16) then 1 else if 32 < v then 1
  else if (¬ h.testBit 0 ∧ 0 < n) ∨ (¬ h.testBit 1 ∧ 0 < y) ∨ (¬ h.testBit 2 ∧ 0 < l) ∨ (¬ h.testBit 3 ∧ 0 < v) then 4 else 0
set_option maxHeartbeats 8000000 in
theorem wireCheck_0 (w : World) (k : Nat) (k1 : 1 ≤ k) (k8 : k ≤ 8) (hg : 0 < w.heap.size) (hc : w.cell? ⟨0, k, none⟩ = some (.int .i64 0))
    (a0 a1 a2 a3 : Option Addr) (n y l v c0 c1 c2 c3 : Nat) (bn : n ≤ 9223372036854775807) (by' : y ≤ 9223372036854775807) (bl : l ≤ 9223372036854775807) (bv' : v ≤ 9223372036854775807) (hyc : y ≤ c1) (hyc' : c1 ≤ maxLen) (hlc : l ≤ c2) (hlc' : c2 ≤ maxLen) :
    Calls Tryd.prog 23 #[.agg #[.int .i64 k, .slice a0 n c0, .slice a1 y c1, .slice a2 l c2, .slice a3 v c3]] w (Tells w (.int .i64 (partsN 0 n y l v))) := by
  have HA : Hid (partsN 0 n y l v = if 32 < v then 1 else if 0 < n ∨ 0 < y ∨ 0 < l ∨ 0 < v then 4 else 0) := by
    unfold Hid partsN
    rw [show (0 : Nat).testBit 0 = false from rfl, show (0 : Nat).testBit 1 = false from rfl, show (0 : Nat).testBit 2 = false from rfl, show (0 : Nat).testBit 3 = false from rfl]
    simp
  generalize partsN 0 n y l v = r at *
  have ix0 : ∀ (X : World) (n' y' l' v' : Nat), (Instr.index 56 (.agg #[.slice a0 n' c0, .slice a1 y' c1, .slice a2 l' c2, .slice a3 v' c3]) (.int .i64 0)).run Tryd.prog X = .ok (.slice a0 n' c0) X := fun _ _ _ _ _ => by kernel_rfl
  have ix1 : ∀ (X : World) (n' y' l' v' : Nat), (Instr.index 56 (.agg #[.slice a0 n' c0, .slice a1 y' c1, .slice a2 l' c2, .slice a3 v' c3]) (.int .i64 1)).run Tryd.prog X = .ok (.slice a1 y' c1) X := fun _ _ _ _ _ => by kernel_rfl
  have ix2 : ∀ (X : World) (n' y' l' v' : Nat), (Instr.index 56 (.agg #[.slice a0 n' c0, .slice a1 y' c1, .slice a2 l' c2, .slice a3 v' c3]) (.int .i64 2)).run Tryd.prog X = .ok (.slice a2 l' c2) X := fun _ _ _ _ _ => by kernel_rfl
  have ix3 : ∀ (X : World) (n' y' l' v' : Nat), (Instr.index 56 (.agg #[.slice a0 n' c0, .slice a1 y' c1, .slice a2 l' c2, .slice a3 v' c3]) (.int .i64 3)).run Tryd.prog X = .ok (.slice a3 v' c3) X := fun _ _ _ _ _ => by kernel_rfl
  go_enter Tryd.func23, Tryd.ntmps23
  go_wp2_with fail
  · go_ret
    exact ⟨retInt (Eq.symm (HA.out.trans (by first | rw [if_pos (by omega)] | rw [if_neg (by omega), if_pos (by omega)] | rw [if_neg (by omega), if_neg (by omega)]))), (Below.refl _ _).alloc (Nat.le_refl _) _⟩
  · go_loop [58] (fun t => ∃ i : Nat, i ≤ 4 ∧ t = .int .i64 i ∧ (0 < i → n = 0) ∧ (1 < i → y = 0) ∧ (2 < i → l = 0) ∧ (3 < i → v = 0)) (fun t => 4 - (intOf t).toNat)
    case atStart => exact ⟨0, by omega, rfl, by omega⟩
    case round =>
      obtain ⟨i, hi, rfl, hok⟩ := hrel
      have HOK := hid hok
      clear hok
      rcases (by omega : i = 0 ∨ i = 1 ∨ i = 2 ∨ i = 3 ∨ i = 4) with rfl | rfl | rfl | rfl | rfl
      all_goals
        go_wp2_with fail
      all_goals first
        | exact ⟨⟨1, by omega, rfl, (by have h := HOK.out; omega)⟩, by simp [intOf]⟩
        | exact ⟨⟨_, _, _, _, ⟨1, by omega, rfl, (by have h := HOK.out; omega)⟩, rfl, rfl, rfl, rfl⟩, by simp [intOf]⟩
        | exact ⟨⟨2, by omega, rfl, (by have h := HOK.out; omega)⟩, by simp [intOf]⟩
        | exact ⟨⟨_, _, _, _, ⟨2, by omega, rfl, (by have h := HOK.out; omega)⟩, rfl, rfl, rfl, rfl⟩, by simp [intOf]⟩
        | exact ⟨⟨3, by omega, rfl, (by have h := HOK.out; omega)⟩, by simp [intOf]⟩
        | exact ⟨⟨_, _, _, _, ⟨3, by omega, rfl, (by have h := HOK.out; omega)⟩, rfl, rfl, rfl, rfl⟩, by simp [intOf]⟩
        | exact ⟨⟨4, by omega, rfl, (by have h := HOK.out; omega)⟩, by simp [intOf]⟩
        | exact ⟨⟨_, _, _, _, ⟨4, by omega, rfl, (by have h := HOK.out; omega)⟩, rfl, rfl, rfl, rfl⟩, by simp [intOf]⟩
        | (go_ret; have h := HOK.out; exact ⟨retInt (Eq.symm (HA.out.trans (by first | rw [if_pos (by omega)] | rw [if_neg (by omega), if_pos (by omega)] | rw [if_neg (by omega), if_neg (by omega)]))), (Below.refl _ _).alloc (Nat.le_refl _) _⟩)
set_option maxHeartbeats 8000000 in
theorem wireCheck_3 (w : World) (k : Nat) (k1 : 1 ≤ k) (k8 : k ≤ 8) (hg : 0 < w.heap.size) (hc : w.cell? ⟨0, k, none⟩ = some (.int .i64 3))
    (a0 a1 a2 a3 : Option Addr) (n y l v c0 c1 c2 c3 : Nat) (bn : n ≤ 9223372036854775807) (by' : y ≤ 9223372036854775807) (bl : l ≤ 9223372036854775807) (bv' : v ≤ 9223372036854775807) (hyc : y ≤ c1) (hyc' : c1 ≤ maxLen) (hlc : l ≤ c2) (hlc' : c2 ≤ maxLen) :
    Calls Tryd.prog 23 #[.agg #[.int .i64 k, .slice a0 n c0, .slice a1 y c1, .slice a2 l c2, .slice a3 v c3]] w (Tells w (.int .i64 (partsN 3 n y l v))) := by
  have HA : Hid (partsN 3 n y l v = if ¬ (1 ≤ n ∧ n ≤ 8) then 1 else if ¬ (1 ≤ y ∧ y ≤ 16) then 1 else if 32 < v then 1 else if 0 < l ∨ 0 < v then 4 else 0) := by
    unfold Hid partsN
    rw [show (3 : Nat).testBit 0 = true from rfl, show (3 : Nat).testBit 1 = true from rfl, show (3 : Nat).testBit 2 = false from rfl, show (3 : Nat).testBit 3 = false from rfl]
    simp
  generalize partsN 3 n y l v = r at *
  have ix0 : ∀ (X : World) (n' y' l' v' : Nat), (Instr.index 56 (.agg #[.slice a0 n' c0, .slice a1 y' c1, .slice a2 l' c2, .slice a3 v' c3]) (.int .i64 0)).run Tryd.prog X = .ok (.slice a0 n' c0) X := fun _ _ _ _ _ => by kernel_rfl
  have ix1 : ∀ (X : World) (n' y' l' v' : Nat), (Instr.index 56 (.agg #[.slice a0 n' c0, .slice a1 y' c1, .slice a2 l' c2, .slice a3 v' c3]) (.int .i64 1)).run Tryd.prog X = .ok (.slice a1 y' c1) X := fun _ _ _ _ _ => by kernel_rfl
  have ix2 : ∀ (X : World) (n' y' l' v' : Nat), (Instr.index 56 (.agg #[.slice a0 n' c0, .slice a1 y' c1, .slice a2 l' c2, .slice a3 v' c3]) (.int .i64 2)).run Tryd.prog X = .ok (.slice a2 l' c2) X := fun _ _ _ _ _ => by kernel_rfl
  have ix3 : ∀ (X : World) (n' y' l' v' : Nat), (Instr.index 56 (.agg #[.slice a0 n' c0, .slice a1 y' c1, .slice a2 l' c2, .slice a3 v' c3]) (.int .i64 3)).run Tryd.prog X = .ok (.slice a3 v' c3) X := fun _ _ _ _ _ => by kernel_rfl
  by_cases q0 : 1 ≤ n ∧ n ≤ 8
  case neg =>
    have h0 := hid (nameN_bad q0)
    go_enter Tryd.func23, Tryd.ntmps23
    go_wp2_with (go_at_call 28; refine (name_len _ _ _ _).mono ?_; rw [h0.out]; rintro e w' ⟨rfl, rfl⟩)
    go_ret
    exact ⟨retInt (Eq.symm (HA.out.trans (by first | rw [if_pos (by omega)] | rw [if_neg (by omega), if_pos (by omega)] | rw [if_neg (by omega), if_neg (by omega), if_pos (by omega)] | rw [if_neg (by omega), if_neg (by omega), if_neg (by omega), if_pos (by omega)] | rw [if_neg (by omega), if_neg (by omega), if_neg (by omega), if_neg (by omega)]))), (Below.refl _ _).alloc (Nat.le_refl _) _⟩
  by_cases q1 : 1 ≤ y ∧ y ≤ 16
  case neg =>
    have h0 := hid (nameN_ok q0.1 q0.2)
    have h1 := hid (checkN_bad q1)
    go_enter Tryd.func23, Tryd.ntmps23
    go_wp2_with (first | (go_at_call 28; refine (name_len _ _ _ _).mono ?_; rw [h0.out]; rintro e w' ⟨rfl, rfl⟩) | (go_at_call 29; refine (check_len _ _ _ _ hyc hyc').mono ?_; rw [h1.out]; rintro e w' ⟨rfl, rfl⟩))
    go_ret
    exact ⟨retInt (Eq.symm (HA.out.trans (by first | rw [if_pos (by omega)] | rw [if_neg (by omega), if_pos (by omega)] | rw [if_neg (by omega), if_neg (by omega), if_pos (by omega)] | rw [if_neg (by omega), if_neg (by omega), if_neg (by omega), if_pos (by omega)] | rw [if_neg (by omega), if_neg (by omega), if_neg (by omega), if_neg (by omega)]))), (Below.refl _ _).alloc (Nat.le_refl _) _⟩
  have h0 := hid (nameN_ok q0.1 q0.2)
  have h1 := hid (checkN_ok q1.1 q1.2)
  go_enter Tryd.func23, Tryd.ntmps23
  go_wp2_with fail
  refine (name_len _ _ _ _).mono ?_; rw [h0.out]; rintro e w' ⟨rfl, rfl⟩
  go_wp2_with fail
  refine (check_len _ _ _ _ hyc hyc').mono ?_; rw [h1.out]; rintro e w' ⟨rfl, rfl⟩
  go_wp2_with fail
  · go_ret
    exact ⟨retInt (Eq.symm (HA.out.trans (by first | rw [if_pos (by omega)] | rw [if_neg (by omega), if_pos (by omega)] | rw [if_neg (by omega), if_neg (by omega), if_pos (by omega)] | rw [if_neg (by omega), if_neg (by omega), if_neg (by omega), if_pos (by omega)] | rw [if_neg (by omega), if_neg (by omega), if_neg (by omega), if_neg (by omega)]))), (Below.refl _ _).alloc (Nat.le_refl _) _⟩
  · go_loop [58] (fun t => ∃ i : Nat, i ≤ 4 ∧ t = .int .i64 i ∧ (2 < i → l = 0) ∧ (3 < i → v = 0)) (fun t => 4 - (intOf t).toNat)
    case atStart => exact ⟨0, by omega, rfl, by omega⟩
    case round =>
      obtain ⟨i, hi, rfl, hok⟩ := hrel
      have HOK := hid hok
      clear hok
      rcases (by omega : i = 0 ∨ i = 1 ∨ i = 2 ∨ i = 3 ∨ i = 4) with rfl | rfl | rfl | rfl | rfl
      all_goals
        go_wp2_with fail
      all_goals first
        | exact ⟨⟨1, by omega, rfl, (by have h := HOK.out; omega)⟩, by simp [intOf]⟩
        | exact ⟨⟨_, _, _, _, ⟨1, by omega, rfl, (by have h := HOK.out; omega)⟩, rfl, rfl, rfl, rfl⟩, by simp [intOf]⟩
        | exact ⟨⟨2, by omega, rfl, (by have h := HOK.out; omega)⟩, by simp [intOf]⟩
        | exact ⟨⟨_, _, _, _, ⟨2, by omega, rfl, (by have h := HOK.out; omega)⟩, rfl, rfl, rfl, rfl⟩, by simp [intOf]⟩
        | exact ⟨⟨3, by omega, rfl, (by have h := HOK.out; omega)⟩, by simp [intOf]⟩
        | exact ⟨⟨_, _, _, _, ⟨3, by omega, rfl, (by have h := HOK.out; omega)⟩, rfl, rfl, rfl, rfl⟩, by simp [intOf]⟩
        | exact ⟨⟨4, by omega, rfl, (by have h := HOK.out; omega)⟩, by simp [intOf]⟩
        | exact ⟨⟨_, _, _, _, ⟨4, by omega, rfl, (by have h := HOK.out; omega)⟩, rfl, rfl, rfl, rfl⟩, by simp [intOf]⟩
        | (go_ret; have h := HOK.out; exact ⟨retInt (Eq.symm (HA.out.trans (by first | rw [if_pos (by omega)] | rw [if_neg (by omega), if_pos (by omega)] | rw [if_neg (by omega), if_neg (by omega), if_pos (by omega)] | rw [if_neg (by omega), if_neg (by omega), if_neg (by omega), if_pos (by omega)] | rw [if_neg (by omega), if_neg (by omega), if_neg (by omega), if_neg (by omega)]))), (Below.refl _ _).alloc (Nat.le_refl _) _⟩)
set_option maxHeartbeats 8000000 in
theorem wireCheck_7 (w : World) (k : Nat) (k1 : 1 ≤ k) (k8 : k ≤ 8) (hg : 0 < w.heap.size) (hc : w.cell? ⟨0, k, none⟩ = some (.int .i64 7))
    (a0 a1 a2 a3 : Option Addr) (n y l v c0 c1 c2 c3 : Nat) (bn : n ≤ 9223372036854775807) (by' : y ≤ 9223372036854775807) (bl : l ≤ 9223372036854775807) (bv' : v ≤ 9223372036854775807) (hyc : y ≤ c1) (hyc' : c1 ≤ maxLen) (hlc : l ≤ c2) (hlc' : c2 ≤ maxLen) :
    Calls Tryd.prog 23 #[.agg #[.int .i64 k, .slice a0 n c0, .slice a1 y c1, .slice a2 l c2, .slice a3 v c3]] w (Tells w (.int .i64 (partsN 7 n y l v))) := by
  have HA : Hid (partsN 7 n y l v = if ¬ (1 ≤ n ∧ n ≤ 8) then 1 else if ¬ (1 ≤ y ∧ y ≤ 16) then 1 else if ¬ (1 ≤ l ∧ l ≤ 16) then 1 else if 32 < v then 1 else if 0 < v then 4 else 0) := by
    unfold Hid partsN
    rw [show (7 : Nat).testBit 0 = true from rfl, show (7 : Nat).testBit 1 = true from rfl, show (7 : Nat).testBit 2 = true from rfl, show (7 : Nat).testBit 3 = false from rfl]
    simp
  generalize partsN 7 n y l v = r at *
  have ix0 : ∀ (X : World) (n' y' l' v' : Nat), (Instr.index 56 (.agg #[.slice a0 n' c0, .slice a1 y' c1, .slice a2 l' c2, .slice a3 v' c3]) (.int .i64 0)).run Tryd.prog X = .ok (.slice a0 n' c0) X := fun _ _ _ _ _ => by kernel_rfl
  have ix1 : ∀ (X : World) (n' y' l' v' : Nat), (Instr.index 56 (.agg #[.slice a0 n' c0, .slice a1 y' c1, .slice a2 l' c2, .slice a3 v' c3]) (.int .i64 1)).run Tryd.prog X = .ok (.slice a1 y' c1) X := fun _ _ _ _ _ => by kernel_rfl
  have ix2 : ∀ (X : World) (n' y' l' v' : Nat), (Instr.index 56 (.agg #[.slice a0 n' c0, .slice a1 y' c1, .slice a2 l' c2, .slice a3 v' c3]) (.int .i64 2)).run Tryd.prog X = .ok (.slice a2 l' c2) X := fun _ _ _ _ _ => by kernel_rfl
  have ix3 : ∀ (X : World) (n' y' l' v' : Nat), (Instr.index 56 (.agg #[.slice a0 n' c0, .slice a1 y' c1, .slice a2 l' c2, .slice a3 v' c3]) (.int .i64 3)).run Tryd.prog X = .ok (.slice a3 v' c3) X := fun _ _ _ _ _ => by kernel_rfl
  by_cases q0 : 1 ≤ n ∧ n ≤ 8
  case neg =>
    have h0 := hid (nameN_bad q0)
    go_enter Tryd.func23, Tryd.ntmps23
    go_wp2_with (go_at_call 28; refine (name_len _ _ _ _).mono ?_; rw [h0.out]; rintro e w' ⟨rfl, rfl⟩)
    go_ret
    exact ⟨retInt (Eq.symm (HA.out.trans (by first | rw [if_pos (by omega)] | rw [if_neg (by omega), if_pos (by omega)] | rw [if_neg (by omega), if_neg (by omega), if_pos (by omega)] | rw [if_neg (by omega), if_neg (by omega), if_neg (by omega), if_pos (by omega)] | rw [if_neg (by omega), if_neg (by omega), if_neg (by omega), if_neg (by omega), if_pos (by omega)] | rw [if_neg (by omega), if_neg (by omega), if_neg (by omega), if_neg (by omega), if_neg (by omega)]))), (Below.refl _ _).alloc (Nat.le_refl _) _⟩
  by_cases q1 : 1 ≤ y ∧ y ≤ 16
  case neg =>
    have h0 := hid (nameN_ok q0.1 q0.2)
    have h1 := hid (checkN_bad q1)
    go_enter Tryd.func23, Tryd.ntmps23
    go_wp2_with (first | (go_at_call 28; refine (name_len _ _ _ _).mono ?_; rw [h0.out]; rintro e w' ⟨rfl, rfl⟩) | (go_at_call 29; refine (check_len _ _ _ _ hyc hyc').mono ?_; rw [h1.out]; rintro e w' ⟨rfl, rfl⟩))
    go_ret
    exact ⟨retInt (Eq.symm (HA.out.trans (by first | rw [if_pos (by omega)] | rw [if_neg (by omega), if_pos (by omega)] | rw [if_neg (by omega), if_neg (by omega), if_pos (by omega)] | rw [if_neg (by omega), if_neg (by omega), if_neg (by omega), if_pos (by omega)] | rw [if_neg (by omega), if_neg (by omega), if_neg (by omega), if_neg (by omega), if_pos (by omega)] | rw [if_neg (by omega), if_neg (by omega), if_neg (by omega), if_neg (by omega), if_neg (by omega)]))), (Below.refl _ _).alloc (Nat.le_refl _) _⟩
  have h0 := hid (nameN_ok q0.1 q0.2)
  have h1 := hid (checkN_ok q1.1 q1.2)
  by_cases q2 : 1 ≤ l ∧ l ≤ 16
  case neg =>
    have h2 := hid (checkN_bad q2)
    go_enter Tryd.func23, Tryd.ntmps23
    go_wp2_with fail
    refine (name_len _ _ _ _).mono ?_; rw [h0.out]; rintro e w' ⟨rfl, rfl⟩
    go_wp2_with fail
    refine (check_len _ _ _ _ hyc hyc').mono ?_; rw [h1.out]; rintro e w' ⟨rfl, rfl⟩
    go_wp2_with fail
    refine (check_len _ _ _ _ hlc hlc').mono ?_; rw [h2.out]; rintro e w' ⟨rfl, rfl⟩
    go_wp2_with fail
    go_ret
    exact ⟨retInt (Eq.symm (HA.out.trans (by first | rw [if_pos (by omega)] | rw [if_neg (by omega), if_pos (by omega)] | rw [if_neg (by omega), if_neg (by omega), if_pos (by omega)] | rw [if_neg (by omega), if_neg (by omega), if_neg (by omega), if_pos (by omega)] | rw [if_neg (by omega), if_neg (by omega), if_neg (by omega), if_neg (by omega), if_pos (by omega)] | rw [if_neg (by omega), if_neg (by omega), if_neg (by omega), if_neg (by omega), if_neg (by omega)]))), (Below.refl _ _).alloc (Nat.le_refl _) _⟩
  have h2 := hid (checkN_ok q2.1 q2.2)
  go_enter Tryd.func23, Tryd.ntmps23
  go_wp2_with fail
  refine (name_len _ _ _ _).mono ?_; rw [h0.out]; rintro e w' ⟨rfl, rfl⟩
  go_wp2_with fail
  refine (check_len _ _ _ _ hyc hyc').mono ?_; rw [h1.out]; rintro e w' ⟨rfl, rfl⟩
  go_wp2_with fail
  refine (check_len _ _ _ _ hlc hlc').mono ?_; rw [h2.out]; rintro e w' ⟨rfl, rfl⟩
  go_wp2_with fail
  · go_ret
    exact ⟨retInt (Eq.symm (HA.out.trans (by first | rw [if_pos (by omega)] | rw [if_neg (by omega), if_pos (by omega)] | rw [if_neg (by omega), if_neg (by omega), if_pos (by omega)] | rw [if_neg (by omega), if_neg (by omega), if_neg (by omega), if_pos (by omega)] | rw [if_neg (by omega), if_neg (by omega), if_neg (by omega), if_neg (by omega), if_pos (by omega)] | rw [if_neg (by omega), if_neg (by omega), if_neg (by omega), if_neg (by omega), if_neg (by omega)]))), (Below.refl _ _).alloc (Nat.le_refl _) _⟩
  · go_loop [58] (fun t => ∃ i : Nat, i ≤ 4 ∧ t = .int .i64 i ∧ (3 < i → v = 0)) (fun t => 4 - (intOf t).toNat)
    case atStart => exact ⟨0, by omega, rfl, by omega⟩
    case round =>
      obtain ⟨i, hi, rfl, hok⟩ := hrel
      have HOK := hid hok
      clear hok
      rcases (by omega : i = 0 ∨ i = 1 ∨ i = 2 ∨ i = 3 ∨ i = 4) with rfl | rfl | rfl | rfl | rfl
      all_goals
        go_wp2_with fail
      all_goals first
        | exact ⟨⟨1, by omega, rfl, (by have h := HOK.out; omega)⟩, by simp [intOf]⟩
        | exact ⟨⟨_, _, _, _, ⟨1, by omega, rfl, (by have h := HOK.out; omega)⟩, rfl, rfl, rfl, rfl⟩, by simp [intOf]⟩
        | exact ⟨⟨2, by omega, rfl, (by have h := HOK.out; omega)⟩, by simp [intOf]⟩
        | exact ⟨⟨_, _, _, _, ⟨2, by omega, rfl, (by have h := HOK.out; omega)⟩, rfl, rfl, rfl, rfl⟩, by simp [intOf]⟩
        | exact ⟨⟨3, by omega, rfl, (by have h := HOK.out; omega)⟩, by simp [intOf]⟩
        | exact ⟨⟨_, _, _, _, ⟨3, by omega, rfl, (by have h := HOK.out; omega)⟩, rfl, rfl, rfl, rfl⟩, by simp [intOf]⟩
        | exact ⟨⟨4, by omega, rfl, (by have h := HOK.out; omega)⟩, by simp [intOf]⟩
        | exact ⟨⟨_, _, _, _, ⟨4, by omega, rfl, (by have h := HOK.out; omega)⟩, rfl, rfl, rfl, rfl⟩, by simp [intOf]⟩
        | (go_ret; have h := HOK.out; exact ⟨retInt (Eq.symm (HA.out.trans (by first | rw [if_pos (by omega)] | rw [if_neg (by omega), if_pos (by omega)] | rw [if_neg (by omega), if_neg (by omega), if_pos (by omega)] | rw [if_neg (by omega), if_neg (by omega), if_neg (by omega), if_pos (by omega)] | rw [if_neg (by omega), if_neg (by omega), if_neg (by omega), if_neg (by omega), if_pos (by omega)] | rw [if_neg (by omega), if_neg (by omega), if_neg (by omega), if_neg (by omega), if_neg (by omega)]))), (Below.refl _ _).alloc (Nat.le_refl _) _⟩)
set_option maxHeartbeats 8000000 in
theorem wireCheck_11 (w : World) (k : Nat) (k1 : 1 ≤ k) (k8 : k ≤ 8) (hg : 0 < w.heap.size) (hc : w.cell? ⟨0, k, none⟩ = some (.int .i64 11))
    (a0 a1 a2 a3 : Option Addr) (n y l v c0 c1 c2 c3 : Nat) (bn : n ≤ 9223372036854775807) (by' : y ≤ 9223372036854775807) (bl : l ≤ 9223372036854775807) (bv' : v ≤ 9223372036854775807) (hyc : y ≤ c1) (hyc' : c1 ≤ maxLen) (hlc : l ≤ c2) (hlc' : c2 ≤ maxLen) :
    Calls Tryd.prog 23 #[.agg #[.int .i64 k, .slice a0 n c0, .slice a1 y c1, .slice a2 l c2, .slice a3 v c3]] w (Tells w (.int .i64 (partsN 11 n y l v))) := by
  have HA : Hid (partsN 11 n y l v = if ¬ (1 ≤ n ∧ n ≤ 8) then 1 else if ¬ (1 ≤ y ∧ y ≤ 16) then 1 else if 32 < v then 1 else if 0 < l then 4 else 0) := by
    unfold Hid partsN
    rw [show (11 : Nat).testBit 0 = true from rfl, show (11 : Nat).testBit 1 = true from rfl, show (11 : Nat).testBit 2 = false from rfl, show (11 : Nat).testBit 3 = true from rfl]
    simp
  generalize partsN 11 n y l v = r at *
  have ix0 : ∀ (X : World) (n' y' l' v' : Nat), (Instr.index 56 (.agg #[.slice a0 n' c0, .slice a1 y' c1, .slice a2 l' c2, .slice a3 v' c3]) (.int .i64 0)).run Tryd.prog X = .ok (.slice a0 n' c0) X := fun _ _ _ _ _ => by kernel_rfl
  have ix1 : ∀ (X : World) (n' y' l' v' : Nat), (Instr.index 56 (.agg #[.slice a0 n' c0, .slice a1 y' c1, .slice a2 l' c2, .slice a3 v' c3]) (.int .i64 1)).run Tryd.prog X = .ok (.slice a1 y' c1) X := fun _ _ _ _ _ => by kernel_rfl
  have ix2 : ∀ (X : World) (n' y' l' v' : Nat), (Instr.index 56 (.agg #[.slice a0 n' c0, .slice a1 y' c1, .slice a2 l' c2, .slice a3 v' c3]) (.int .i64 2)).run Tryd.prog X = .ok (.slice a2 l' c2) X := fun _ _ _ _ _ => by kernel_rfl
  have ix3 : ∀ (X : World) (n' y' l' v' : Nat), (Instr.index 56 (.agg #[.slice a0 n' c0, .slice a1 y' c1, .slice a2 l' c2, .slice a3 v' c3]) (.int .i64 3)).run Tryd.prog X = .ok (.slice a3 v' c3) X := fun _ _ _ _ _ => by kernel_rfl
  by_cases q0 : 1 ≤ n ∧ n ≤ 8
  case neg =>
    have h0 := hid (nameN_bad q0)
    go_enter Tryd.func23, Tryd.ntmps23
    go_wp2_with (go_at_call 28; refine (name_len _ _ _ _).mono ?_; rw [h0.out]; rintro e w' ⟨rfl, rfl⟩)
    go_ret
    exact ⟨retInt (Eq.symm (HA.out.trans (by first | rw [if_pos (by omega)] | rw [if_neg (by omega), if_pos (by omega)] | rw [if_neg (by omega), if_neg (by omega), if_pos (by omega)] | rw [if_neg (by omega), if_neg (by omega), if_neg (by omega), if_pos (by omega)] | rw [if_neg (by omega), if_neg (by omega), if_neg (by omega), if_neg (by omega)]))), (Below.refl _ _).alloc (Nat.le_refl _) _⟩
  by_cases q1 : 1 ≤ y ∧ y ≤ 16
  case neg =>
    have h0 := hid (nameN_ok q0.1 q0.2)
    have h1 := hid (checkN_bad q1)
    go_enter Tryd.func23, Tryd.ntmps23
    go_wp2_with (first | (go_at_call 28; refine (name_len _ _ _ _).mono ?_; rw [h0.out]; rintro e w' ⟨rfl, rfl⟩) | (go_at_call 29; refine (check_len _ _ _ _ hyc hyc').mono ?_; rw [h1.out]; rintro e w' ⟨rfl, rfl⟩))
    go_ret
    exact ⟨retInt (Eq.symm (HA.out.trans (by first | rw [if_pos (by omega)] | rw [if_neg (by omega), if_pos (by omega)] | rw [if_neg (by omega), if_neg (by omega), if_pos (by omega)] | rw [if_neg (by omega), if_neg (by omega), if_neg (by omega), if_pos (by omega)] | rw [if_neg (by omega), if_neg (by omega), if_neg (by omega), if_neg (by omega)]))), (Below.refl _ _).alloc (Nat.le_refl _) _⟩
  have h0 := hid (nameN_ok q0.1 q0.2)
  have h1 := hid (checkN_ok q1.1 q1.2)
  go_enter Tryd.func23, Tryd.ntmps23
  go_wp2_with fail
  refine (name_len _ _ _ _).mono ?_; rw [h0.out]; rintro e w' ⟨rfl, rfl⟩
  go_wp2_with fail
  refine (check_len _ _ _ _ hyc hyc').mono ?_; rw [h1.out]; rintro e w' ⟨rfl, rfl⟩
  go_wp2_with fail
  · go_ret
    exact ⟨retInt (Eq.symm (HA.out.trans (by first | rw [if_pos (by omega)] | rw [if_neg (by omega), if_pos (by omega)] | rw [if_neg (by omega), if_neg (by omega), if_pos (by omega)] | rw [if_neg (by omega), if_neg (by omega), if_neg (by omega), if_pos (by omega)] | rw [if_neg (by omega), if_neg (by omega), if_neg (by omega), if_neg (by omega)]))), (Below.refl _ _).alloc (Nat.le_refl _) _⟩
  · go_loop [58] (fun t => ∃ i : Nat, i ≤ 4 ∧ t = .int .i64 i ∧ (2 < i → l = 0)) (fun t => 4 - (intOf t).toNat)
    case atStart => exact ⟨0, by omega, rfl, by omega⟩
    case round =>
      obtain ⟨i, hi, rfl, hok⟩ := hrel
      have HOK := hid hok
      clear hok
      rcases (by omega : i = 0 ∨ i = 1 ∨ i = 2 ∨ i = 3 ∨ i = 4) with rfl | rfl | rfl | rfl | rfl
      all_goals
        go_wp2_with fail
      all_goals first
        | exact ⟨⟨1, by omega, rfl, (by have h := HOK.out; omega)⟩, by simp [intOf]⟩
        | exact ⟨⟨_, _, _, _, ⟨1, by omega, rfl, (by have h := HOK.out; omega)⟩, rfl, rfl, rfl, rfl⟩, by simp [intOf]⟩
        | exact ⟨⟨2, by omega, rfl, (by have h := HOK.out; omega)⟩, by simp [intOf]⟩
        | exact ⟨⟨_, _, _, _, ⟨2, by omega, rfl, (by have h := HOK.out; omega)⟩, rfl, rfl, rfl, rfl⟩, by simp [intOf]⟩
        | exact ⟨⟨3, by omega, rfl, (by have h := HOK.out; omega)⟩, by simp [intOf]⟩
        | exact ⟨⟨_, _, _, _, ⟨3, by omega, rfl, (by have h := HOK.out; omega)⟩, rfl, rfl, rfl, rfl⟩, by simp [intOf]⟩
        | exact ⟨⟨4, by omega, rfl, (by have h := HOK.out; omega)⟩, by simp [intOf]⟩
        | exact ⟨⟨_, _, _, _, ⟨4, by omega, rfl, (by have h := HOK.out; omega)⟩, rfl, rfl, rfl, rfl⟩, by simp [intOf]⟩
        | (go_ret; have h := HOK.out; exact ⟨retInt (Eq.symm (HA.out.trans (by first | rw [if_pos (by omega)] | rw [if_neg (by omega), if_pos (by omega)] | rw [if_neg (by omega), if_neg (by omega), if_pos (by omega)] | rw [if_neg (by omega), if_neg (by omega), if_neg (by omega), if_pos (by omega)] | rw [if_neg (by omega), if_neg (by omega), if_neg (by omega), if_neg (by omega)]))), (Below.refl _ _).alloc (Nat.le_refl _) _⟩)
/-- A request by value. -/
def ReqV (F : Fz) (v : Value) (kind : Int) (n y l x : List UInt8) : Prop := ∃ a b c d, v = .agg #[.int .i64 kind, a, b, c, d] ∧ Bs F a n ∧ Bs F b y ∧ Bs F c l ∧ Bs F d x
def wireN (k : Nat) (n y l v : Nat) : Int := partsN (hasL.getD k 0).toNat n y l v
theorem wireCheck_spec (F : Fz) (w : World) (v : Value) (k : Nat) (n y l x : List UInt8) (k1 : 1 ≤ k) (k8 : k ≤ 8) (hh : Has w) (hv : ReqV F v k n y l x) :
    Calls Tryd.prog 23 #[v] w (Tells w (.int .i64 (wireN k n.length y.length l.length x.length))) := by
  obtain ⟨a, b, c, d, rfl, ha, hb, hc, hd⟩ := hv
  obtain ⟨a0, c0, rfl, e1, e2⟩ := ha.shape
  obtain ⟨a1, c1, rfl, e3, e4⟩ := hb.shape
  obtain ⟨a2, c2, rfl, e5, e6⟩ := hc.shape
  obtain ⟨a3, c3, rfl, e7, e8⟩ := hd.shape
  have f2 := e2
  have f4 := e4
  have f6 := e6
  have f8 := e8
  unfold maxLen at f2 f4 f6 f8
  have hg : 0 < w.heap.size := World.block_lt_of_cell? w ⟨0, 0, none⟩ (hh 0 (by decide))
  have hk := hh k (by simp [hasL]; omega)
  unfold wireN
  rcases (by omega : k = 1 ∨ k = 2 ∨ k = 3 ∨ k = 4 ∨ k = 5 ∨ k = 6 ∨ k = 7 ∨ k = 8) with rfl | rfl | rfl | rfl | rfl | rfl | rfl | rfl
  · exact wireCheck_0 w 1 k1 k8 hg hk _ _ _ _ _ _ _ _ _ _ _ _ (by omega) (by omega) (by omega) (by omega) e3 e4 e5 e6
  · exact wireCheck_3 w 2 k1 k8 hg hk _ _ _ _ _ _ _ _ _ _ _ _ (by omega) (by omega) (by omega) (by omega) e3 e4 e5 e6
  · exact wireCheck_7 w 3 k1 k8 hg hk _ _ _ _ _ _ _ _ _ _ _ _ (by omega) (by omega) (by omega) (by omega) e3 e4 e5 e6
  · exact wireCheck_11 w 4 k1 k8 hg hk _ _ _ _ _ _ _ _ _ _ _ _ (by omega) (by omega) (by omega) (by omega) e3 e4 e5 e6
  · exact wireCheck_3 w 5 k1 k8 hg hk _ _ _ _ _ _ _ _ _ _ _ _ (by omega) (by omega) (by omega) (by omega) e3 e4 e5 e6
  · exact wireCheck_0 w 6 k1 k8 hg hk _ _ _ _ _ _ _ _ _ _ _ _ (by omega) (by omega) (by omega) (by omega) e3 e4 e5 e6
  · exact wireCheck_0 w 7 k1 k8 hg hk _ _ _ _ _ _ _ _ _ _ _ _ (by omega) (by omega) (by omega) (by omega) e3 e4 e5 e6
  · exact wireCheck_3 w 8 k1 k8 hg hk _ _ _ _ _ _ _ _ _ _ _ _ (by omega) (by omega) (by omega) (by omega) e3 e4 e5 e6
theorem wireCheck_kind (w : World) (kind : Int) (a b c d : Value) (hk : kind < 1 ∨ 8 < kind) :
    Calls Tryd.prog 23 #[.agg #[.int .i64 kind, a, b, c, d]] w (Tells w (.int .i64 5)) := by
  rcases hk with hk | hk
  · go_enter Tryd.func23, Tryd.ntmps23
    go_wp2_with fail
    go_ret
    exact ⟨rfl, (Below.refl _ _).alloc (Nat.le_refl _) _⟩
  · have h1 : ¬ kind < 1 := by omega
    go_enter Tryd.func23, Tryd.ntmps23
    go_wp2_with fail
    go_ret
    exact ⟨rfl, (Below.refl _ _).alloc (Nat.le_refl _) _⟩
end Go.Proofs.YticbfdhdipfjmaaDoor
