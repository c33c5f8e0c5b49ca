/- Closed facts on types and functions -/
import Derived.Test.YteefnnnbbmbmcaaFX
import Derived.Test.YteefnnnbbmbmcaaB
namespace Go.Proofs.Yteefnnnbbmbmcaa
open Go.RowKit
set_option maxRecDepth 100000
theorem nagg_3 (w : World) : (isAgg 3).run Try.prog w = .ok false w := by kernel_rfl
theorem size_3 : (Try.prog.info? 3).map (·.size) = some 1 := by kernel_rfl
theorem zero_3 (w : World) : (zeroValue 3).run Try.prog w = .ok (.int .i64 0) w := by kernel_rfl
theorem sizeof_3 (w : World) : (sizeOf 3).run Try.prog w = .ok 1 w := by kernel_rfl
theorem nagg_4 (w : World) : (isAgg 4).run Try.prog w = .ok false w := by kernel_rfl
theorem size_4 : (Try.prog.info? 4).map (·.size) = some 1 := by kernel_rfl
theorem zero_4 (w : World) : (zeroValue 4).run Try.prog w = .ok (.bool false) w := by kernel_rfl
theorem sizeof_4 (w : World) : (sizeOf 4).run Try.prog w = .ok 1 w := by kernel_rfl
theorem nagg_5 (w : World) : (isAgg 5).run Try.prog w = .ok false w := by kernel_rfl
theorem size_5 : (Try.prog.info? 5).map (·.size) = some 1 := by kernel_rfl
theorem zero_5 (w : World) : (zeroValue 5).run Try.prog w = .ok (.int .u8 0) w := by kernel_rfl
theorem sizeof_5 (w : World) : (sizeOf 5).run Try.prog w = .ok 1 w := by kernel_rfl
theorem nagg_25 (w : World) : (isAgg 25).run Try.prog w = .ok false w := by kernel_rfl
theorem size_25 : (Try.prog.info? 25).map (·.size) = some 1 := by kernel_rfl
theorem zero_25 (w : World) : (zeroValue 25).run Try.prog w = .ok (.int .i64 0) w := by kernel_rfl
theorem sizeof_25 (w : World) : (sizeOf 25).run Try.prog w = .ok 1 w := by kernel_rfl
theorem nagg_27 (w : World) : (isAgg 27).run Try.prog w = .ok false w := by kernel_rfl
theorem size_27 : (Try.prog.info? 27).map (·.size) = some 1 := by kernel_rfl
theorem zero_27 (w : World) : (zeroValue 27).run Try.prog w = .ok (.slice none 0 0) w := by kernel_rfl
theorem sizeof_27 (w : World) : (sizeOf 27).run Try.prog w = .ok 1 w := by kernel_rfl
theorem nagg_43 (w : World) : (isAgg 43).run Try.prog w = .ok false w := by kernel_rfl
theorem size_43 : (Try.prog.info? 43).map (·.size) = some 1 := by kernel_rfl
theorem zero_43 (w : World) : (zeroValue 43).run Try.prog w = .ok (.slice none 0 0) w := by kernel_rfl
theorem sizeof_43 (w : World) : (sizeOf 43).run Try.prog w = .ok 1 w := by kernel_rfl
theorem nagg_44 (w : World) : (isAgg 44).run Try.prog w = .ok false w := by kernel_rfl
theorem size_44 : (Try.prog.info? 44).map (·.size) = some 1 := by kernel_rfl
theorem zero_44 (w : World) : (zeroValue 44).run Try.prog w = .ok (.slice none 0 0) w := by kernel_rfl
theorem sizeof_44 (w : World) : (sizeOf 44).run Try.prog w = .ok 1 w := by kernel_rfl
theorem nagg_64 (w : World) : (isAgg 64).run Try.prog w = .ok false w := by kernel_rfl
theorem size_64 : (Try.prog.info? 64).map (·.size) = some 1 := by kernel_rfl
theorem zero_64 (w : World) : (zeroValue 64).run Try.prog w = .ok (.slice none 0 0) w := by kernel_rfl
theorem sizeof_64 (w : World) : (sizeOf 64).run Try.prog w = .ok 1 w := by kernel_rfl
theorem nagg_73 (w : World) : (isAgg 73).run Try.prog w = .ok false w := by kernel_rfl
theorem size_73 : (Try.prog.info? 73).map (·.size) = some 1 := by kernel_rfl
theorem zero_73 (w : World) : (zeroValue 73).run Try.prog w = .ok (.slice none 0 0) w := by kernel_rfl
theorem sizeof_73 (w : World) : (sizeOf 73).run Try.prog w = .ok 1 w := by kernel_rfl
theorem nagg_75 (w : World) : (isAgg 75).run Try.prog w = .ok false w := by kernel_rfl
theorem size_75 : (Try.prog.info? 75).map (·.size) = some 1 := by kernel_rfl
theorem zero_75 (w : World) : (zeroValue 75).run Try.prog w = .ok (.slice none 0 0) w := by kernel_rfl
theorem sizeof_75 (w : World) : (sizeOf 75).run Try.prog w = .ok 1 w := by kernel_rfl
theorem nagg_94 (w : World) : (isAgg 94).run Try.prog w = .ok false w := by kernel_rfl
theorem size_94 : (Try.prog.info? 94).map (·.size) = some 1 := by kernel_rfl
theorem zero_94 (w : World) : (zeroValue 94).run Try.prog w = .ok (.slice none 0 0) w := by kernel_rfl
theorem sizeof_94 (w : World) : (sizeOf 94).run Try.prog w = .ok 1 w := by kernel_rfl
theorem nagg_102 (w : World) : (isAgg 102).run Try.prog w = .ok false w := by kernel_rfl
theorem size_102 : (Try.prog.info? 102).map (·.size) = some 1 := by kernel_rfl
theorem zero_102 (w : World) : (zeroValue 102).run Try.prog w = .ok (.slice none 0 0) w := by kernel_rfl
theorem sizeof_102 (w : World) : (sizeOf 102).run Try.prog w = .ok 1 w := by kernel_rfl
theorem size_49 : (Try.prog.info? 49).map (·.size) = some 2 := by kernel_rfl
theorem zero_49 (w : World) : (zeroValue 49).run Try.prog w = .ok (.agg #[.slice none 0 0, .slice none 0 0]) w := by kernel_rfl
theorem sizeof_49 (w : World) : (sizeOf 49).run Try.prog w = .ok 2 w := by kernel_rfl
theorem info_49 : (Try.prog.info? 49).map (fun i => (i.zero, i.size, i.bytes)) = some (some (.agg #[.slice none 0 0, .slice none 0 0]), 2, 48) := by kernel_rfl
theorem fa_49_0 (b o : Nat) (w : World) : (Instr.fieldAt 49 (.pointer (some ⟨b, o, none⟩)) 0).run Try.prog w = .ok (.pointer (some ⟨b, o, none⟩)) w := by go_simp
theorem fa_49_1 (b o : Nat) (w : World) : (Instr.fieldAt 49 (.pointer (some ⟨b, o, none⟩)) 1).run Try.prog w = .ok (.pointer (some ⟨b, o + 1, none⟩)) w := by go_simp
theorem size_83 : (Try.prog.info? 83).map (·.size) = some 2 := by kernel_rfl
theorem zero_83 (w : World) : (zeroValue 83).run Try.prog w = .ok (.agg #[.slice none 0 0, .slice none 0 0]) w := by kernel_rfl
theorem sizeof_83 (w : World) : (sizeOf 83).run Try.prog w = .ok 2 w := by kernel_rfl
theorem info_83 : (Try.prog.info? 83).map (fun i => (i.zero, i.size, i.bytes)) = some (some (.agg #[.slice none 0 0, .slice none 0 0]), 2, 48) := by kernel_rfl
theorem fa_83_0 (b o : Nat) (w : World) : (Instr.fieldAt 83 (.pointer (some ⟨b, o, none⟩)) 0).run Try.prog w = .ok (.pointer (some ⟨b, o, none⟩)) w := by go_simp
theorem fa_83_1 (b o : Nat) (w : World) : (Instr.fieldAt 83 (.pointer (some ⟨b, o, none⟩)) 1).run Try.prog w = .ok (.pointer (some ⟨b, o + 1, none⟩)) w := by go_simp
theorem size_53 : (Try.prog.info? 53).map (·.size) = some 2 := by kernel_rfl
theorem zero_53 (w : World) : (zeroValue 53).run Try.prog w = .ok (.agg #[.bool false, .slice none 0 0]) w := by kernel_rfl
theorem sizeof_53 (w : World) : (sizeOf 53).run Try.prog w = .ok 2 w := by kernel_rfl
theorem info_53 : (Try.prog.info? 53).map (fun i => (i.zero, i.size, i.bytes)) = some (some (.agg #[.bool false, .slice none 0 0]), 2, 32) := by kernel_rfl
theorem fa_53_0 (b o : Nat) (w : World) : (Instr.fieldAt 53 (.pointer (some ⟨b, o, none⟩)) 0).run Try.prog w = .ok (.pointer (some ⟨b, o, none⟩)) w := by go_simp
theorem fa_53_1 (b o : Nat) (w : World) : (Instr.fieldAt 53 (.pointer (some ⟨b, o, none⟩)) 1).run Try.prog w = .ok (.pointer (some ⟨b, o + 1, none⟩)) w := by go_simp
theorem size_67 : (Try.prog.info? 67).map (·.size) = some 4 := by kernel_rfl
theorem zero_67 (w : World) : (zeroValue 67).run Try.prog w = .ok (.agg #[.slice none 0 0, .slice none 0 0, .bool false, .slice none 0 0]) w := by kernel_rfl
theorem sizeof_67 (w : World) : (sizeOf 67).run Try.prog w = .ok 4 w := by kernel_rfl
theorem info_67 : (Try.prog.info? 67).map (fun i => (i.zero, i.size, i.bytes)) = some (some (.agg #[.slice none 0 0, .slice none 0 0, .bool false, .slice none 0 0]), 4, 80) := by kernel_rfl
theorem fa_67_0 (b o : Nat) (w : World) : (Instr.fieldAt 67 (.pointer (some ⟨b, o, none⟩)) 0).run Try.prog w = .ok (.pointer (some ⟨b, o, none⟩)) w := by go_simp
theorem fa_67_1 (b o : Nat) (w : World) : (Instr.fieldAt 67 (.pointer (some ⟨b, o, none⟩)) 1).run Try.prog w = .ok (.pointer (some ⟨b, o + 1, none⟩)) w := by go_simp
theorem fa_67_2 (b o : Nat) (w : World) : (Instr.fieldAt 67 (.pointer (some ⟨b, o, none⟩)) 2).run Try.prog w = .ok (.pointer (some ⟨b, o + 2, none⟩)) w := by go_simp
theorem fa_67_3 (b o : Nat) (w : World) : (Instr.fieldAt 67 (.pointer (some ⟨b, o, none⟩)) 3).run Try.prog w = .ok (.pointer (some ⟨b, o + 3, none⟩)) w := by go_simp
theorem size_111 : (Try.prog.info? 111).map (·.size) = some 4 := by kernel_rfl
theorem zero_111 (w : World) : (zeroValue 111).run Try.prog w = .ok (.agg #[.slice none 0 0, .slice none 0 0, .bool false, .slice none 0 0]) w := by kernel_rfl
theorem sizeof_111 (w : World) : (sizeOf 111).run Try.prog w = .ok 4 w := by kernel_rfl
theorem info_111 : (Try.prog.info? 111).map (fun i => (i.zero, i.size, i.bytes)) = some (some (.agg #[.slice none 0 0, .slice none 0 0, .bool false, .slice none 0 0]), 4, 80) := by kernel_rfl
theorem fa_111_0 (b o : Nat) (w : World) : (Instr.fieldAt 111 (.pointer (some ⟨b, o, none⟩)) 0).run Try.prog w = .ok (.pointer (some ⟨b, o, none⟩)) w := by go_simp
theorem fa_111_1 (b o : Nat) (w : World) : (Instr.fieldAt 111 (.pointer (some ⟨b, o, none⟩)) 1).run Try.prog w = .ok (.pointer (some ⟨b, o + 1, none⟩)) w := by go_simp
theorem fa_111_2 (b o : Nat) (w : World) : (Instr.fieldAt 111 (.pointer (some ⟨b, o, none⟩)) 2).run Try.prog w = .ok (.pointer (some ⟨b, o + 2, none⟩)) w := by go_simp
theorem fa_111_3 (b o : Nat) (w : World) : (Instr.fieldAt 111 (.pointer (some ⟨b, o, none⟩)) 3).run Try.prog w = .ok (.pointer (some ⟨b, o + 3, none⟩)) w := by go_simp
theorem size_89 : (Try.prog.info? 89).map (·.size) = some 2 := by kernel_rfl
theorem zero_89 (w : World) : (zeroValue 89).run Try.prog w = .ok (.agg #[.int .i64 0, .slice none 0 0]) w := by kernel_rfl
theorem sizeof_89 (w : World) : (sizeOf 89).run Try.prog w = .ok 2 w := by kernel_rfl
theorem info_89 : (Try.prog.info? 89).map (fun i => (i.zero, i.size, i.bytes)) = some (some (.agg #[.int .i64 0, .slice none 0 0]), 2, 32) := by kernel_rfl
theorem fa_89_0 (b o : Nat) (w : World) : (Instr.fieldAt 89 (.pointer (some ⟨b, o, none⟩)) 0).run Try.prog w = .ok (.pointer (some ⟨b, o, none⟩)) w := by go_simp
theorem fa_89_1 (b o : Nat) (w : World) : (Instr.fieldAt 89 (.pointer (some ⟨b, o, none⟩)) 1).run Try.prog w = .ok (.pointer (some ⟨b, o + 1, none⟩)) w := by go_simp
theorem size_104 : (Try.prog.info? 104).map (·.size) = some 3 := by kernel_rfl
theorem zero_104 (w : World) : (zeroValue 104).run Try.prog w = .ok (.agg #[.int .i64 0, .slice none 0 0, .slice none 0 0]) w := by kernel_rfl
theorem sizeof_104 (w : World) : (sizeOf 104).run Try.prog w = .ok 3 w := by kernel_rfl
theorem info_104 : (Try.prog.info? 104).map (fun i => (i.zero, i.size, i.bytes)) = some (some (.agg #[.int .i64 0, .slice none 0 0, .slice none 0 0]), 3, 56) := by kernel_rfl
theorem fa_104_0 (b o : Nat) (w : World) : (Instr.fieldAt 104 (.pointer (some ⟨b, o, none⟩)) 0).run Try.prog w = .ok (.pointer (some ⟨b, o, none⟩)) w := by go_simp
theorem fa_104_1 (b o : Nat) (w : World) : (Instr.fieldAt 104 (.pointer (some ⟨b, o, none⟩)) 1).run Try.prog w = .ok (.pointer (some ⟨b, o + 1, none⟩)) w := by go_simp
theorem fa_104_2 (b o : Nat) (w : World) : (Instr.fieldAt 104 (.pointer (some ⟨b, o, none⟩)) 2).run Try.prog w = .ok (.pointer (some ⟨b, o + 2, none⟩)) w := by go_simp
theorem size_31 : (Try.prog.info? 31).map (·.size) = some 4 := by kernel_rfl
theorem zero_31 (w : World) : (zeroValue 31).run Try.prog w = .ok (.agg #[.int .i64 0, .int .i64 0, .int .i64 0, .slice none 0 0]) w := by kernel_rfl
theorem sizeof_31 (w : World) : (sizeOf 31).run Try.prog w = .ok 4 w := by kernel_rfl
theorem info_31 : (Try.prog.info? 31).map (fun i => (i.zero, i.size, i.bytes)) = some (some (.agg #[.int .i64 0, .int .i64 0, .int .i64 0, .slice none 0 0]), 4, 48) := by kernel_rfl
theorem fa_31_0 (b o : Nat) (w : World) : (Instr.fieldAt 31 (.pointer (some ⟨b, o, none⟩)) 0).run Try.prog w = .ok (.pointer (some ⟨b, o, none⟩)) w := by go_simp
theorem fa_31_1 (b o : Nat) (w : World) : (Instr.fieldAt 31 (.pointer (some ⟨b, o, none⟩)) 1).run Try.prog w = .ok (.pointer (some ⟨b, o + 1, none⟩)) w := by go_simp
theorem fa_31_2 (b o : Nat) (w : World) : (Instr.fieldAt 31 (.pointer (some ⟨b, o, none⟩)) 2).run Try.prog w = .ok (.pointer (some ⟨b, o + 2, none⟩)) w := by go_simp
theorem fa_31_3 (b o : Nat) (w : World) : (Instr.fieldAt 31 (.pointer (some ⟨b, o, none⟩)) 3).run Try.prog w = .ok (.pointer (some ⟨b, o + 3, none⟩)) w := by go_simp
theorem size_57 : (Try.prog.info? 57).map (·.size) = some 2 := by kernel_rfl
theorem zero_57 (w : World) : (zeroValue 57).run Try.prog w = .ok (.agg #[.slice none 0 0, .slice none 0 0]) w := by kernel_rfl
theorem sizeof_57 (w : World) : (sizeOf 57).run Try.prog w = .ok 2 w := by kernel_rfl
theorem info_57 : (Try.prog.info? 57).map (fun i => (i.zero, i.size, i.bytes)) = some (some (.agg #[.slice none 0 0, .slice none 0 0]), 2, 48) := by kernel_rfl
theorem fa_57_0 (b o : Nat) (w : World) : (Instr.fieldAt 57 (.pointer (some ⟨b, o, none⟩)) 0).run Try.prog w = .ok (.pointer (some ⟨b, o, none⟩)) w := by go_simp
theorem fa_57_1 (b o : Nat) (w : World) : (Instr.fieldAt 57 (.pointer (some ⟨b, o, none⟩)) 1).run Try.prog w = .ok (.pointer (some ⟨b, o + 1, none⟩)) w := by go_simp
theorem size_70 : (Try.prog.info? 70).map (·.size) = some 4 := by kernel_rfl
theorem zero_70 (w : World) : (zeroValue 70).run Try.prog w = .ok (.agg #[.slice none 0 0, .slice none 0 0, .slice none 0 0, .bool false]) w := by kernel_rfl
theorem sizeof_70 (w : World) : (sizeOf 70).run Try.prog w = .ok 4 w := by kernel_rfl
theorem info_70 : (Try.prog.info? 70).map (fun i => (i.zero, i.size, i.bytes)) = some (some (.agg #[.slice none 0 0, .slice none 0 0, .slice none 0 0, .bool false]), 4, 80) := by kernel_rfl
theorem fa_70_0 (b o : Nat) (w : World) : (Instr.fieldAt 70 (.pointer (some ⟨b, o, none⟩)) 0).run Try.prog w = .ok (.pointer (some ⟨b, o, none⟩)) w := by go_simp
theorem fa_70_1 (b o : Nat) (w : World) : (Instr.fieldAt 70 (.pointer (some ⟨b, o, none⟩)) 1).run Try.prog w = .ok (.pointer (some ⟨b, o + 1, none⟩)) w := by go_simp
theorem fa_70_2 (b o : Nat) (w : World) : (Instr.fieldAt 70 (.pointer (some ⟨b, o, none⟩)) 2).run Try.prog w = .ok (.pointer (some ⟨b, o + 2, none⟩)) w := by go_simp
theorem fa_70_3 (b o : Nat) (w : World) : (Instr.fieldAt 70 (.pointer (some ⟨b, o, none⟩)) 3).run Try.prog w = .ok (.pointer (some ⟨b, o + 3, none⟩)) w := by go_simp
theorem size_29 : (Try.prog.info? 29).map (·.size) = some 3 := by kernel_rfl
theorem zero_29 (w : World) : (zeroValue 29).run Try.prog w = .ok (.agg #[.int .i64 0, .int .i64 0, .slice none 0 0]) w := by kernel_rfl
theorem sizeof_29 (w : World) : (sizeOf 29).run Try.prog w = .ok 3 w := by kernel_rfl
theorem info_29 : (Try.prog.info? 29).map (fun i => (i.zero, i.size, i.bytes)) = some (some (.agg #[.int .i64 0, .int .i64 0, .slice none 0 0]), 3, 40) := by kernel_rfl
theorem fa_29_0 (b o : Nat) (w : World) : (Instr.fieldAt 29 (.pointer (some ⟨b, o, none⟩)) 0).run Try.prog w = .ok (.pointer (some ⟨b, o, none⟩)) w := by go_simp
theorem fa_29_1 (b o : Nat) (w : World) : (Instr.fieldAt 29 (.pointer (some ⟨b, o, none⟩)) 1).run Try.prog w = .ok (.pointer (some ⟨b, o + 1, none⟩)) w := by go_simp
theorem fa_29_2 (b o : Nat) (w : World) : (Instr.fieldAt 29 (.pointer (some ⟨b, o, none⟩)) 2).run Try.prog w = .ok (.pointer (some ⟨b, o + 2, none⟩)) w := by go_simp
theorem size_147 : (Try.prog.info? 147).map (·.size) = some 2 := by kernel_rfl
theorem zero_147 (w : World) : (zeroValue 147).run Try.prog w = .ok (.agg #[.slice none 0 0, .bool false]) w := by kernel_rfl
theorem sizeof_147 (w : World) : (sizeOf 147).run Try.prog w = .ok 2 w := by kernel_rfl
theorem info_147 : (Try.prog.info? 147).map (fun i => (i.zero, i.size, i.bytes)) = some (some (.agg #[.slice none 0 0, .bool false]), 2, 32) := by kernel_rfl
theorem fa_147_0 (b o : Nat) (w : World) : (Instr.fieldAt 147 (.pointer (some ⟨b, o, none⟩)) 0).run Try.prog w = .ok (.pointer (some ⟨b, o, none⟩)) w := by go_simp
theorem fa_147_1 (b o : Nat) (w : World) : (Instr.fieldAt 147 (.pointer (some ⟨b, o, none⟩)) 1).run Try.prog w = .ok (.pointer (some ⟨b, o + 1, none⟩)) w := by go_simp
theorem ent_10 (vs : Array Value) (w : World) : (callFunc 10 vs).run Try.prog w = .ok (.enter 10 vs) w := by kernel_rfl
theorem ent_100 (vs : Array Value) (w : World) : (callFunc 100 vs).run Try.prog w = .ok (.enter 100 vs) w := by kernel_rfl
theorem ent_101 (vs : Array Value) (w : World) : (callFunc 101 vs).run Try.prog w = .ok (.enter 101 vs) w := by kernel_rfl
theorem ent_102 (vs : Array Value) (w : World) : (callFunc 102 vs).run Try.prog w = .ok (.enter 102 vs) w := by kernel_rfl
theorem ent_103 (vs : Array Value) (w : World) : (callFunc 103 vs).run Try.prog w = .ok (.enter 103 vs) w := by kernel_rfl
theorem ent_104 (vs : Array Value) (w : World) : (callFunc 104 vs).run Try.prog w = .ok (.enter 104 vs) w := by kernel_rfl
theorem ent_105 (vs : Array Value) (w : World) : (callFunc 105 vs).run Try.prog w = .ok (.enter 105 vs) w := by kernel_rfl
theorem ent_106 (vs : Array Value) (w : World) : (callFunc 106 vs).run Try.prog w = .ok (.enter 106 vs) w := by kernel_rfl
theorem ent_107 (vs : Array Value) (w : World) : (callFunc 107 vs).run Try.prog w = .ok (.enter 107 vs) w := by kernel_rfl
theorem ent_108 (vs : Array Value) (w : World) : (callFunc 108 vs).run Try.prog w = .ok (.enter 108 vs) w := by kernel_rfl
theorem ent_109 (vs : Array Value) (w : World) : (callFunc 109 vs).run Try.prog w = .ok (.enter 109 vs) w := by kernel_rfl
theorem ent_11 (vs : Array Value) (w : World) : (callFunc 11 vs).run Try.prog w = .ok (.enter 11 vs) w := by kernel_rfl
theorem ent_110 (vs : Array Value) (w : World) : (callFunc 110 vs).run Try.prog w = .ok (.enter 110 vs) w := by kernel_rfl
theorem ent_111 (vs : Array Value) (w : World) : (callFunc 111 vs).run Try.prog w = .ok (.enter 111 vs) w := by kernel_rfl
theorem ent_112 (vs : Array Value) (w : World) : (callFunc 112 vs).run Try.prog w = .ok (.enter 112 vs) w := by kernel_rfl
theorem ent_113 (vs : Array Value) (w : World) : (callFunc 113 vs).run Try.prog w = .ok (.enter 113 vs) w := by kernel_rfl
theorem ent_114 (vs : Array Value) (w : World) : (callFunc 114 vs).run Try.prog w = .ok (.enter 114 vs) w := by kernel_rfl
theorem ent_115 (vs : Array Value) (w : World) : (callFunc 115 vs).run Try.prog w = .ok (.enter 115 vs) w := by kernel_rfl
theorem ent_116 (vs : Array Value) (w : World) : (callFunc 116 vs).run Try.prog w = .ok (.enter 116 vs) w := by kernel_rfl
theorem ent_117 (vs : Array Value) (w : World) : (callFunc 117 vs).run Try.prog w = .ok (.enter 117 vs) w := by kernel_rfl
theorem ent_118 (vs : Array Value) (w : World) : (callFunc 118 vs).run Try.prog w = .ok (.enter 118 vs) w := by kernel_rfl
theorem ent_119 (vs : Array Value) (w : World) : (callFunc 119 vs).run Try.prog w = .ok (.enter 119 vs) w := by kernel_rfl
theorem ent_12 (vs : Array Value) (w : World) : (callFunc 12 vs).run Try.prog w = .ok (.enter 12 vs) w := by kernel_rfl
theorem ent_120 (vs : Array Value) (w : World) : (callFunc 120 vs).run Try.prog w = .ok (.enter 120 vs) w := by kernel_rfl
theorem ent_121 (vs : Array Value) (w : World) : (callFunc 121 vs).run Try.prog w = .ok (.enter 121 vs) w := by kernel_rfl
theorem ent_123 (vs : Array Value) (w : World) : (callFunc 123 vs).run Try.prog w = .ok (.enter 123 vs) w := by kernel_rfl
theorem ent_124 (vs : Array Value) (w : World) : (callFunc 124 vs).run Try.prog w = .ok (.enter 124 vs) w := by kernel_rfl
theorem ent_125 (vs : Array Value) (w : World) : (callFunc 125 vs).run Try.prog w = .ok (.enter 125 vs) w := by kernel_rfl
theorem ent_126 (vs : Array Value) (w : World) : (callFunc 126 vs).run Try.prog w = .ok (.enter 126 vs) w := by kernel_rfl
theorem ent_128 (vs : Array Value) (w : World) : (callFunc 128 vs).run Try.prog w = .ok (.enter 128 vs) w := by kernel_rfl
theorem ent_129 (vs : Array Value) (w : World) : (callFunc 129 vs).run Try.prog w = .ok (.enter 129 vs) w := by kernel_rfl
theorem ent_13 (vs : Array Value) (w : World) : (callFunc 13 vs).run Try.prog w = .ok (.enter 13 vs) w := by kernel_rfl
theorem ent_130 (vs : Array Value) (w : World) : (callFunc 130 vs).run Try.prog w = .ok (.enter 130 vs) w := by kernel_rfl
theorem ent_131 (vs : Array Value) (w : World) : (callFunc 131 vs).run Try.prog w = .ok (.enter 131 vs) w := by kernel_rfl
theorem ent_132 (vs : Array Value) (w : World) : (callFunc 132 vs).run Try.prog w = .ok (.enter 132 vs) w := by kernel_rfl
theorem ent_133 (vs : Array Value) (w : World) : (callFunc 133 vs).run Try.prog w = .ok (.enter 133 vs) w := by kernel_rfl
theorem ent_134 (vs : Array Value) (w : World) : (callFunc 134 vs).run Try.prog w = .ok (.enter 134 vs) w := by kernel_rfl
theorem ent_135 (vs : Array Value) (w : World) : (callFunc 135 vs).run Try.prog w = .ok (.enter 135 vs) w := by kernel_rfl
theorem ent_137 (vs : Array Value) (w : World) : (callFunc 137 vs).run Try.prog w = .ok (.enter 137 vs) w := by kernel_rfl
theorem ent_138 (vs : Array Value) (w : World) : (callFunc 138 vs).run Try.prog w = .ok (.enter 138 vs) w := by kernel_rfl
theorem ent_14 (vs : Array Value) (w : World) : (callFunc 14 vs).run Try.prog w = .ok (.enter 14 vs) w := by kernel_rfl
theorem ent_140 (vs : Array Value) (w : World) : (callFunc 140 vs).run Try.prog w = .ok (.enter 140 vs) w := by kernel_rfl
theorem ent_141 (vs : Array Value) (w : World) : (callFunc 141 vs).run Try.prog w = .ok (.enter 141 vs) w := by kernel_rfl
theorem ent_142 (vs : Array Value) (w : World) : (callFunc 142 vs).run Try.prog w = .ok (.enter 142 vs) w := by kernel_rfl
theorem ent_143 (vs : Array Value) (w : World) : (callFunc 143 vs).run Try.prog w = .ok (.enter 143 vs) w := by kernel_rfl
theorem ent_144 (vs : Array Value) (w : World) : (callFunc 144 vs).run Try.prog w = .ok (.enter 144 vs) w := by kernel_rfl
theorem ent_145 (vs : Array Value) (w : World) : (callFunc 145 vs).run Try.prog w = .ok (.enter 145 vs) w := by kernel_rfl
theorem ent_146 (vs : Array Value) (w : World) : (callFunc 146 vs).run Try.prog w = .ok (.enter 146 vs) w := by kernel_rfl
theorem ent_147 (vs : Array Value) (w : World) : (callFunc 147 vs).run Try.prog w = .ok (.enter 147 vs) w := by kernel_rfl
theorem ent_148 (vs : Array Value) (w : World) : (callFunc 148 vs).run Try.prog w = .ok (.enter 148 vs) w := by kernel_rfl
theorem ent_149 (vs : Array Value) (w : World) : (callFunc 149 vs).run Try.prog w = .ok (.enter 149 vs) w := by kernel_rfl
theorem ent_15 (vs : Array Value) (w : World) : (callFunc 15 vs).run Try.prog w = .ok (.enter 15 vs) w := by kernel_rfl
theorem ent_150 (vs : Array Value) (w : World) : (callFunc 150 vs).run Try.prog w = .ok (.enter 150 vs) w := by kernel_rfl
theorem ent_153 (vs : Array Value) (w : World) : (callFunc 153 vs).run Try.prog w = .ok (.enter 153 vs) w := by kernel_rfl
theorem ent_154 (vs : Array Value) (w : World) : (callFunc 154 vs).run Try.prog w = .ok (.enter 154 vs) w := by kernel_rfl
theorem ent_155 (vs : Array Value) (w : World) : (callFunc 155 vs).run Try.prog w = .ok (.enter 155 vs) w := by kernel_rfl
theorem ent_157 (vs : Array Value) (w : World) : (callFunc 157 vs).run Try.prog w = .ok (.enter 157 vs) w := by kernel_rfl
theorem ent_158 (vs : Array Value) (w : World) : (callFunc 158 vs).run Try.prog w = .ok (.enter 158 vs) w := by kernel_rfl
theorem ent_159 (vs : Array Value) (w : World) : (callFunc 159 vs).run Try.prog w = .ok (.enter 159 vs) w := by kernel_rfl
theorem ent_16 (vs : Array Value) (w : World) : (callFunc 16 vs).run Try.prog w = .ok (.enter 16 vs) w := by kernel_rfl
theorem ent_17 (vs : Array Value) (w : World) : (callFunc 17 vs).run Try.prog w = .ok (.enter 17 vs) w := by kernel_rfl
theorem ent_18 (vs : Array Value) (w : World) : (callFunc 18 vs).run Try.prog w = .ok (.enter 18 vs) w := by kernel_rfl
theorem ent_19 (vs : Array Value) (w : World) : (callFunc 19 vs).run Try.prog w = .ok (.enter 19 vs) w := by kernel_rfl
theorem ent_20 (vs : Array Value) (w : World) : (callFunc 20 vs).run Try.prog w = .ok (.enter 20 vs) w := by kernel_rfl
theorem ent_21 (vs : Array Value) (w : World) : (callFunc 21 vs).run Try.prog w = .ok (.enter 21 vs) w := by kernel_rfl
theorem ent_22 (vs : Array Value) (w : World) : (callFunc 22 vs).run Try.prog w = .ok (.enter 22 vs) w := by kernel_rfl
theorem ent_23 (vs : Array Value) (w : World) : (callFunc 23 vs).run Try.prog w = .ok (.enter 23 vs) w := by kernel_rfl
theorem ent_24 (vs : Array Value) (w : World) : (callFunc 24 vs).run Try.prog w = .ok (.enter 24 vs) w := by kernel_rfl
theorem ent_25 (vs : Array Value) (w : World) : (callFunc 25 vs).run Try.prog w = .ok (.enter 25 vs) w := by kernel_rfl
theorem ent_26 (vs : Array Value) (w : World) : (callFunc 26 vs).run Try.prog w = .ok (.enter 26 vs) w := by kernel_rfl
theorem ent_27 (vs : Array Value) (w : World) : (callFunc 27 vs).run Try.prog w = .ok (.enter 27 vs) w := by kernel_rfl
theorem ent_28 (vs : Array Value) (w : World) : (callFunc 28 vs).run Try.prog w = .ok (.enter 28 vs) w := by kernel_rfl
theorem ent_29 (vs : Array Value) (w : World) : (callFunc 29 vs).run Try.prog w = .ok (.enter 29 vs) w := by kernel_rfl
theorem ent_3 (vs : Array Value) (w : World) : (callFunc 3 vs).run Try.prog w = .ok (.enter 3 vs) w := by kernel_rfl
theorem ent_30 (vs : Array Value) (w : World) : (callFunc 30 vs).run Try.prog w = .ok (.enter 30 vs) w := by kernel_rfl
theorem ent_31 (vs : Array Value) (w : World) : (callFunc 31 vs).run Try.prog w = .ok (.enter 31 vs) w := by kernel_rfl
theorem ent_32 (vs : Array Value) (w : World) : (callFunc 32 vs).run Try.prog w = .ok (.enter 32 vs) w := by kernel_rfl
theorem ent_33 (vs : Array Value) (w : World) : (callFunc 33 vs).run Try.prog w = .ok (.enter 33 vs) w := by kernel_rfl
theorem ent_34 (vs : Array Value) (w : World) : (callFunc 34 vs).run Try.prog w = .ok (.enter 34 vs) w := by kernel_rfl
theorem ent_35 (vs : Array Value) (w : World) : (callFunc 35 vs).run Try.prog w = .ok (.enter 35 vs) w := by kernel_rfl
theorem ent_36 (vs : Array Value) (w : World) : (callFunc 36 vs).run Try.prog w = .ok (.enter 36 vs) w := by kernel_rfl
theorem ent_37 (vs : Array Value) (w : World) : (callFunc 37 vs).run Try.prog w = .ok (.enter 37 vs) w := by kernel_rfl
theorem ent_38 (vs : Array Value) (w : World) : (callFunc 38 vs).run Try.prog w = .ok (.enter 38 vs) w := by kernel_rfl
theorem ent_39 (vs : Array Value) (w : World) : (callFunc 39 vs).run Try.prog w = .ok (.enter 39 vs) w := by kernel_rfl
theorem ent_4 (vs : Array Value) (w : World) : (callFunc 4 vs).run Try.prog w = .ok (.enter 4 vs) w := by kernel_rfl
theorem ent_40 (vs : Array Value) (w : World) : (callFunc 40 vs).run Try.prog w = .ok (.enter 40 vs) w := by kernel_rfl
theorem ent_41 (vs : Array Value) (w : World) : (callFunc 41 vs).run Try.prog w = .ok (.enter 41 vs) w := by kernel_rfl
theorem ent_42 (vs : Array Value) (w : World) : (callFunc 42 vs).run Try.prog w = .ok (.enter 42 vs) w := by kernel_rfl
theorem ent_43 (vs : Array Value) (w : World) : (callFunc 43 vs).run Try.prog w = .ok (.enter 43 vs) w := by kernel_rfl
theorem ent_44 (vs : Array Value) (w : World) : (callFunc 44 vs).run Try.prog w = .ok (.enter 44 vs) w := by kernel_rfl
theorem ent_45 (vs : Array Value) (w : World) : (callFunc 45 vs).run Try.prog w = .ok (.enter 45 vs) w := by kernel_rfl
theorem ent_46 (vs : Array Value) (w : World) : (callFunc 46 vs).run Try.prog w = .ok (.enter 46 vs) w := by kernel_rfl
theorem ent_47 (vs : Array Value) (w : World) : (callFunc 47 vs).run Try.prog w = .ok (.enter 47 vs) w := by kernel_rfl
theorem ent_48 (vs : Array Value) (w : World) : (callFunc 48 vs).run Try.prog w = .ok (.enter 48 vs) w := by kernel_rfl
theorem ent_49 (vs : Array Value) (w : World) : (callFunc 49 vs).run Try.prog w = .ok (.enter 49 vs) w := by kernel_rfl
theorem ent_5 (vs : Array Value) (w : World) : (callFunc 5 vs).run Try.prog w = .ok (.enter 5 vs) w := by kernel_rfl
theorem ent_50 (vs : Array Value) (w : World) : (callFunc 50 vs).run Try.prog w = .ok (.enter 50 vs) w := by kernel_rfl
theorem ent_51 (vs : Array Value) (w : World) : (callFunc 51 vs).run Try.prog w = .ok (.enter 51 vs) w := by kernel_rfl
theorem ent_52 (vs : Array Value) (w : World) : (callFunc 52 vs).run Try.prog w = .ok (.enter 52 vs) w := by kernel_rfl
theorem ent_53 (vs : Array Value) (w : World) : (callFunc 53 vs).run Try.prog w = .ok (.enter 53 vs) w := by kernel_rfl
theorem ent_54 (vs : Array Value) (w : World) : (callFunc 54 vs).run Try.prog w = .ok (.enter 54 vs) w := by kernel_rfl
theorem ent_55 (vs : Array Value) (w : World) : (callFunc 55 vs).run Try.prog w = .ok (.enter 55 vs) w := by kernel_rfl
theorem ent_56 (vs : Array Value) (w : World) : (callFunc 56 vs).run Try.prog w = .ok (.enter 56 vs) w := by kernel_rfl
theorem ent_57 (vs : Array Value) (w : World) : (callFunc 57 vs).run Try.prog w = .ok (.enter 57 vs) w := by kernel_rfl
theorem ent_58 (vs : Array Value) (w : World) : (callFunc 58 vs).run Try.prog w = .ok (.enter 58 vs) w := by kernel_rfl
theorem ent_59 (vs : Array Value) (w : World) : (callFunc 59 vs).run Try.prog w = .ok (.enter 59 vs) w := by kernel_rfl
theorem ent_6 (vs : Array Value) (w : World) : (callFunc 6 vs).run Try.prog w = .ok (.enter 6 vs) w := by kernel_rfl
theorem ent_60 (vs : Array Value) (w : World) : (callFunc 60 vs).run Try.prog w = .ok (.enter 60 vs) w := by kernel_rfl
theorem ent_61 (vs : Array Value) (w : World) : (callFunc 61 vs).run Try.prog w = .ok (.enter 61 vs) w := by kernel_rfl
theorem ent_62 (vs : Array Value) (w : World) : (callFunc 62 vs).run Try.prog w = .ok (.enter 62 vs) w := by kernel_rfl
theorem ent_63 (vs : Array Value) (w : World) : (callFunc 63 vs).run Try.prog w = .ok (.enter 63 vs) w := by kernel_rfl
theorem ent_64 (vs : Array Value) (w : World) : (callFunc 64 vs).run Try.prog w = .ok (.enter 64 vs) w := by kernel_rfl
theorem ent_65 (vs : Array Value) (w : World) : (callFunc 65 vs).run Try.prog w = .ok (.enter 65 vs) w := by kernel_rfl
theorem ent_66 (vs : Array Value) (w : World) : (callFunc 66 vs).run Try.prog w = .ok (.enter 66 vs) w := by kernel_rfl
theorem ent_67 (vs : Array Value) (w : World) : (callFunc 67 vs).run Try.prog w = .ok (.enter 67 vs) w := by kernel_rfl
theorem ent_68 (vs : Array Value) (w : World) : (callFunc 68 vs).run Try.prog w = .ok (.enter 68 vs) w := by kernel_rfl
theorem ent_69 (vs : Array Value) (w : World) : (callFunc 69 vs).run Try.prog w = .ok (.enter 69 vs) w := by kernel_rfl
theorem ent_7 (vs : Array Value) (w : World) : (callFunc 7 vs).run Try.prog w = .ok (.enter 7 vs) w := by kernel_rfl
theorem ent_70 (vs : Array Value) (w : World) : (callFunc 70 vs).run Try.prog w = .ok (.enter 70 vs) w := by kernel_rfl
theorem ent_71 (vs : Array Value) (w : World) : (callFunc 71 vs).run Try.prog w = .ok (.enter 71 vs) w := by kernel_rfl
theorem ent_72 (vs : Array Value) (w : World) : (callFunc 72 vs).run Try.prog w = .ok (.enter 72 vs) w := by kernel_rfl
theorem ent_73 (vs : Array Value) (w : World) : (callFunc 73 vs).run Try.prog w = .ok (.enter 73 vs) w := by kernel_rfl
theorem ent_74 (vs : Array Value) (w : World) : (callFunc 74 vs).run Try.prog w = .ok (.enter 74 vs) w := by kernel_rfl
theorem ent_75 (vs : Array Value) (w : World) : (callFunc 75 vs).run Try.prog w = .ok (.enter 75 vs) w := by kernel_rfl
theorem ent_76 (vs : Array Value) (w : World) : (callFunc 76 vs).run Try.prog w = .ok (.enter 76 vs) w := by kernel_rfl
theorem ent_77 (vs : Array Value) (w : World) : (callFunc 77 vs).run Try.prog w = .ok (.enter 77 vs) w := by kernel_rfl
theorem ent_78 (vs : Array Value) (w : World) : (callFunc 78 vs).run Try.prog w = .ok (.enter 78 vs) w := by kernel_rfl
theorem ent_79 (vs : Array Value) (w : World) : (callFunc 79 vs).run Try.prog w = .ok (.enter 79 vs) w := by kernel_rfl
theorem ent_8 (vs : Array Value) (w : World) : (callFunc 8 vs).run Try.prog w = .ok (.enter 8 vs) w := by kernel_rfl
theorem ent_80 (vs : Array Value) (w : World) : (callFunc 80 vs).run Try.prog w = .ok (.enter 80 vs) w := by kernel_rfl
theorem ent_81 (vs : Array Value) (w : World) : (callFunc 81 vs).run Try.prog w = .ok (.enter 81 vs) w := by kernel_rfl
theorem ent_82 (vs : Array Value) (w : World) : (callFunc 82 vs).run Try.prog w = .ok (.enter 82 vs) w := by kernel_rfl
theorem ent_83 (vs : Array Value) (w : World) : (callFunc 83 vs).run Try.prog w = .ok (.enter 83 vs) w := by kernel_rfl
theorem ent_84 (vs : Array Value) (w : World) : (callFunc 84 vs).run Try.prog w = .ok (.enter 84 vs) w := by kernel_rfl
theorem ent_85 (vs : Array Value) (w : World) : (callFunc 85 vs).run Try.prog w = .ok (.enter 85 vs) w := by kernel_rfl
theorem ent_86 (vs : Array Value) (w : World) : (callFunc 86 vs).run Try.prog w = .ok (.enter 86 vs) w := by kernel_rfl
theorem ent_87 (vs : Array Value) (w : World) : (callFunc 87 vs).run Try.prog w = .ok (.enter 87 vs) w := by kernel_rfl
theorem ent_88 (vs : Array Value) (w : World) : (callFunc 88 vs).run Try.prog w = .ok (.enter 88 vs) w := by kernel_rfl
theorem ent_89 (vs : Array Value) (w : World) : (callFunc 89 vs).run Try.prog w = .ok (.enter 89 vs) w := by kernel_rfl
theorem ent_9 (vs : Array Value) (w : World) : (callFunc 9 vs).run Try.prog w = .ok (.enter 9 vs) w := by kernel_rfl
theorem ent_90 (vs : Array Value) (w : World) : (callFunc 90 vs).run Try.prog w = .ok (.enter 90 vs) w := by kernel_rfl
theorem ent_91 (vs : Array Value) (w : World) : (callFunc 91 vs).run Try.prog w = .ok (.enter 91 vs) w := by kernel_rfl
theorem ent_92 (vs : Array Value) (w : World) : (callFunc 92 vs).run Try.prog w = .ok (.enter 92 vs) w := by kernel_rfl
theorem ent_93 (vs : Array Value) (w : World) : (callFunc 93 vs).run Try.prog w = .ok (.enter 93 vs) w := by kernel_rfl
theorem ent_94 (vs : Array Value) (w : World) : (callFunc 94 vs).run Try.prog w = .ok (.enter 94 vs) w := by kernel_rfl
theorem ent_95 (vs : Array Value) (w : World) : (callFunc 95 vs).run Try.prog w = .ok (.enter 95 vs) w := by kernel_rfl
theorem ent_96 (vs : Array Value) (w : World) : (callFunc 96 vs).run Try.prog w = .ok (.enter 96 vs) w := by kernel_rfl
theorem ent_97 (vs : Array Value) (w : World) : (callFunc 97 vs).run Try.prog w = .ok (.enter 97 vs) w := by kernel_rfl
theorem ent_98 (vs : Array Value) (w : World) : (callFunc 98 vs).run Try.prog w = .ok (.enter 98 vs) w := by kernel_rfl
theorem ent_99 (vs : Array Value) (w : World) : (callFunc 99 vs).run Try.prog w = .ok (.enter 99 vs) w := by kernel_rfl
end Go.Proofs.Yteefnnnbbmbmcaa
