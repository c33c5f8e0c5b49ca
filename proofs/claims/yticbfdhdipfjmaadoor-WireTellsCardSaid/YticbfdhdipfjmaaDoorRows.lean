/-
  NARROWER THAN 'FOR EVERY INPUT', by the rows' own cells (each row's printed sentence says how): WireBack: laid · WireFixed: laid · WireTorn: laid · WireTells: laid · KnownSums: laid · SumLong: laid · PartsMade: laid.
  DERIVED. THE GIVEN ROWS OF THIS SEAT. 7 by the template 'for every input the law returns true; each argument reads behind the call as it read before'; 0 by the template 'total and deterministic' (their statements: YticbfdhdipfjmaaDoorTotals.lean).
  GIVEN WITH THE SEED: the statements are not yours to turn. If you find one false, say at which input.
  Laid BY PROGRAM, IN A SANDBOX (cutbox-rows.mjs): the forced cells as the released guide's own fill.sh prints them over the translation 34a8bd3bbb1f2bfd… (all of the seat's roots in one cut). By AI agents, Wed Nov 11 2026. No macro, syntax, notation, axiom, sorry.
-/
import Derived.Test.YticbfdhdipfjmaaDoorChecked
import GoSem.Claim
import GoSem.ClaimJoined
import GoSem.ClaimMapViews
import Derived.JoinedTies
import Derived.KernelRfl
namespace Go.Proofs.YticbfdhdipfjmaaDoor
/- THE CELL 'sum', in the pinned program and in every row, IS THE sha256 OF THE DUMP (.gsa) THAT YticbfdhdipfjmaaDoorProg.lean LOADS. Nothing in Lean hashes anything: it is a label: what it is worth is what the hold of that sum in a sandbox is worth. -/
noncomputable def Tryd.pinned : Pinned := { name := "yticbfdhdipfjmaadoor", sum := "34a8bd3bbb1f2bfd1ac60c6c926c3cf4ba5eba43cc7df61c687bebe3addb0f02", checked := Tryd.checked }
namespace Rows
def none {H : Type} : Left H := { results := [], args := [] }

/- WHAT THE LISTED PACKAGE-LEVEL VARIABLES READ AS WHEN THE CALL BEGINS. Each datum BY PROGRAM (the guide's laid-datum.mjs) off the statement by which the dump's own 'gosem.cut.vars' lays the variable. In a bare row this is a premise. The card (YticbfdhdipfjmaaDoorCards.lean) ties it to the program's text. -/
def laid_canopy_wire_has {H : Type} : DataW H := .agg [.lit (.int .i64 0), .lit (.int .i64 0), .lit (.int .i64 3), .lit (.int .i64 7), .lit (.int .i64 11), .lit (.int .i64 3), .lit (.int .i64 0), .lit (.int .i64 0), .lit (.int .i64 3)]
def laid_canopy_digest_rounds {H : Type} : DataW H := .agg [.lit (.int .u64 1), .lit (.int .u64 32898), .lit (.int .u64 9223372036854808714), .lit (.int .u64 9223372039002292224), .lit (.int .u64 32907), .lit (.int .u64 2147483649), .lit (.int .u64 9223372039002292353), .lit (.int .u64 9223372036854808585), .lit (.int .u64 138), .lit (.int .u64 136), .lit (.int .u64 2147516425), .lit (.int .u64 2147483658), .lit (.int .u64 2147516555), .lit (.int .u64 9223372036854775947), .lit (.int .u64 9223372036854808713), .lit (.int .u64 9223372036854808579), .lit (.int .u64 9223372036854808578), .lit (.int .u64 9223372036854775936), .lit (.int .u64 32778), .lit (.int .u64 9223372039002259466), .lit (.int .u64 9223372039002292353), .lit (.int .u64 9223372036854808704), .lit (.int .u64 2147483649), .lit (.int .u64 9223372039002292232)]
def laid_canopy_digest_goes {H : Type} : DataW H := .agg [.lit (.int .i64 10), .lit (.int .i64 7), .lit (.int .i64 11), .lit (.int .i64 17), .lit (.int .i64 18), .lit (.int .i64 3), .lit (.int .i64 5), .lit (.int .i64 16), .lit (.int .i64 8), .lit (.int .i64 21), .lit (.int .i64 24), .lit (.int .i64 4), .lit (.int .i64 15), .lit (.int .i64 23), .lit (.int .i64 19), .lit (.int .i64 13), .lit (.int .i64 12), .lit (.int .i64 2), .lit (.int .i64 20), .lit (.int .i64 14), .lit (.int .i64 22), .lit (.int .i64 9), .lit (.int .i64 6), .lit (.int .i64 1)]
def laid_canopy_digest_turns {H : Type} : DataW H := .agg [.lit (.int .i64 1), .lit (.int .i64 3), .lit (.int .i64 6), .lit (.int .i64 10), .lit (.int .i64 15), .lit (.int .i64 21), .lit (.int .i64 28), .lit (.int .i64 36), .lit (.int .i64 45), .lit (.int .i64 55), .lit (.int .i64 2), .lit (.int .i64 14), .lit (.int .i64 27), .lit (.int .i64 41), .lit (.int .i64 56), .lit (.int .i64 8), .lit (.int .i64 25), .lit (.int .i64 43), .lit (.int .i64 62), .lit (.int .i64 18), .lit (.int .i64 39), .lit (.int .i64 61), .lit (.int .i64 20), .lit (.int .i64 44)]

/-- 'canopykeep.WireBack': WHATEVER THE INPUT: true; the input reads as it did. -/
def wireBackSpec : ChangeSpec := { name := "wireBack", fn := fun _ => fun
  | [d1, d2] => { results := [.lit (.bool true)], args := [d1, d2] }
  | _ => none }
def wireBackRow : OpenClaim := { program := "yticbfdhdipfjmaadoor", sum := "34a8bd3bbb1f2bfd1ac60c6c926c3cf4ba5eba43cc7df61c687bebe3addb0f02", func := "canopy/canopykeep.WireBack", spec := "wireBack", named := ["canopy/wire.has"], apart := false, laid := [("canopy/wire.has", laid_canopy_wire_has)] }
def WireBackSaid : Prop := wireBackRow.holds Tryd.pinned (OpenSpec.ofChange wireBackSpec)

/-- ITS FALSE NEIGHBOUR: 'it returns false'. Refute it at one input. -/
def wireBackWrong : ChangeSpec := { name := "wireBack", fn := fun _ => fun
  | [d1, d2] => { results := [.lit (.bool false)], args := [d1, d2] }
  | _ => none }
def WireBackWrongFalsely : Prop := wireBackRow.holds Tryd.pinned (OpenSpec.ofChange wireBackWrong)

/-- 'canopykeep.WireFixed': WHATEVER THE INPUT: true; the input reads as it did. -/
def wireFixedSpec : ChangeSpec := { name := "wireFixed", fn := fun _ => fun
  | [d] => { results := [.lit (.bool true)], args := [d] }
  | _ => none }
def wireFixedRow : OpenClaim := { program := "yticbfdhdipfjmaadoor", sum := "34a8bd3bbb1f2bfd1ac60c6c926c3cf4ba5eba43cc7df61c687bebe3addb0f02", func := "canopy/canopykeep.WireFixed", spec := "wireFixed", named := ["canopy/wire.has"], apart := false, laid := [("canopy/wire.has", laid_canopy_wire_has)] }
def WireFixedSaid : Prop := wireFixedRow.holds Tryd.pinned (OpenSpec.ofChange wireFixedSpec)

/-- ITS FALSE NEIGHBOUR: 'it returns false'. Refute it at one input. -/
def wireFixedWrong : ChangeSpec := { name := "wireFixed", fn := fun _ => fun
  | [d] => { results := [.lit (.bool false)], args := [d] }
  | _ => none }
def WireFixedWrongFalsely : Prop := wireFixedRow.holds Tryd.pinned (OpenSpec.ofChange wireFixedWrong)

/-- 'canopykeep.WireTorn': WHATEVER THE INPUT: true; the input reads as it did. -/
def wireTornSpec : ChangeSpec := { name := "wireTorn", fn := fun _ => fun
  | [d1, d2] => { results := [.lit (.bool true)], args := [d1, d2] }
  | _ => none }
def wireTornRow : OpenClaim := { program := "yticbfdhdipfjmaadoor", sum := "34a8bd3bbb1f2bfd1ac60c6c926c3cf4ba5eba43cc7df61c687bebe3addb0f02", func := "canopy/canopykeep.WireTorn", spec := "wireTorn", named := ["canopy/wire.has"], apart := false, laid := [("canopy/wire.has", laid_canopy_wire_has)] }
def WireTornSaid : Prop := wireTornRow.holds Tryd.pinned (OpenSpec.ofChange wireTornSpec)

/-- ITS FALSE NEIGHBOUR: 'it returns false'. Refute it at one input. -/
def wireTornWrong : ChangeSpec := { name := "wireTorn", fn := fun _ => fun
  | [d1, d2] => { results := [.lit (.bool false)], args := [d1, d2] }
  | _ => none }
def WireTornWrongFalsely : Prop := wireTornRow.holds Tryd.pinned (OpenSpec.ofChange wireTornWrong)

/-- 'canopykeep.WireTells': WHATEVER THE INPUT: true; the input reads as it did. -/
def wireTellsSpec : ChangeSpec := { name := "wireTells", fn := fun _ => fun
  | [d] => { results := [.lit (.bool true)], args := [d] }
  | _ => none }
def wireTellsRow : OpenClaim := { program := "yticbfdhdipfjmaadoor", sum := "34a8bd3bbb1f2bfd1ac60c6c926c3cf4ba5eba43cc7df61c687bebe3addb0f02", func := "canopy/canopykeep.WireTells", spec := "wireTells", inPlace := ["internal/bytealg.Compare", "slices.overlaps[canopy/api.Pair]", "slices.overlaps[canopy/api.Tenant]"], unfollowed := true, recurses := true, named := ["canopy/wire.has"], apart := false, laid := [("canopy/wire.has", laid_canopy_wire_has)] }
def WireTellsSaid : Prop := wireTellsRow.holds Tryd.pinned (OpenSpec.ofChange wireTellsSpec)

/-- ITS FALSE NEIGHBOUR: 'it returns false'. Refute it at one input. -/
def wireTellsWrong : ChangeSpec := { name := "wireTells", fn := fun _ => fun
  | [d] => { results := [.lit (.bool false)], args := [d] }
  | _ => none }
def WireTellsWrongFalsely : Prop := wireTellsRow.holds Tryd.pinned (OpenSpec.ofChange wireTellsWrong)

/-- 'canopykeep.KnownSums': WHATEVER THE INPUT: true; the input reads as it did. -/
def knownSumsSpec : ChangeSpec := { name := "knownSums", fn := fun _ => fun
  | [] => { results := [.lit (.bool true)], args := [] }
  | _ => none }
def knownSumsRow : OpenClaim := { program := "yticbfdhdipfjmaadoor", sum := "34a8bd3bbb1f2bfd1ac60c6c926c3cf4ba5eba43cc7df61c687bebe3addb0f02", func := "canopy/canopykeep.KnownSums", spec := "knownSums", named := ["canopy/digest.goes", "canopy/digest.turns", "canopy/digest.rounds"], apart := false, laid := [("canopy/digest.rounds", laid_canopy_digest_rounds), ("canopy/digest.goes", laid_canopy_digest_goes), ("canopy/digest.turns", laid_canopy_digest_turns)] }
def KnownSumsSaid : Prop := knownSumsRow.holds Tryd.pinned (OpenSpec.ofChange knownSumsSpec)

/-- ITS FALSE NEIGHBOUR: 'it returns false'. Refute it at one input. -/
def knownSumsWrong : ChangeSpec := { name := "knownSums", fn := fun _ => fun
  | [] => { results := [.lit (.bool false)], args := [] }
  | _ => none }
def KnownSumsWrongFalsely : Prop := knownSumsRow.holds Tryd.pinned (OpenSpec.ofChange knownSumsWrong)

/-- 'canopykeep.SumLong': WHATEVER THE INPUT: true; the input reads as it did. -/
def sumLongSpec : ChangeSpec := { name := "sumLong", fn := fun _ => fun
  | [d1, d2] => { results := [.lit (.bool true)], args := [d1, d2] }
  | _ => none }
def sumLongRow : OpenClaim := { program := "yticbfdhdipfjmaadoor", sum := "34a8bd3bbb1f2bfd1ac60c6c926c3cf4ba5eba43cc7df61c687bebe3addb0f02", func := "canopy/canopykeep.SumLong", spec := "sumLong", named := ["canopy/digest.goes", "canopy/digest.turns", "canopy/digest.rounds"], apart := false, laid := [("canopy/digest.rounds", laid_canopy_digest_rounds), ("canopy/digest.goes", laid_canopy_digest_goes), ("canopy/digest.turns", laid_canopy_digest_turns)] }
def SumLongSaid : Prop := sumLongRow.holds Tryd.pinned (OpenSpec.ofChange sumLongSpec)

/-- ITS FALSE NEIGHBOUR: 'it returns false'. Refute it at one input. -/
def sumLongWrong : ChangeSpec := { name := "sumLong", fn := fun _ => fun
  | [d1, d2] => { results := [.lit (.bool false)], args := [d1, d2] }
  | _ => none }
def SumLongWrongFalsely : Prop := sumLongRow.holds Tryd.pinned (OpenSpec.ofChange sumLongWrong)

/-- 'canopykeep.PartsMade': WHATEVER THE INPUT: true; the input reads as it did. -/
def partsMadeSpec : ChangeSpec := { name := "partsMade", fn := fun _ => fun
  | [d1, d2, d3] => { results := [.lit (.bool true)], args := [d1, d2, d3] }
  | _ => none }
def partsMadeRow : OpenClaim := { program := "yticbfdhdipfjmaadoor", sum := "34a8bd3bbb1f2bfd1ac60c6c926c3cf4ba5eba43cc7df61c687bebe3addb0f02", func := "canopy/canopykeep.PartsMade", spec := "partsMade", named := ["canopy/digest.goes", "canopy/digest.turns", "canopy/digest.rounds"], apart := false, laid := [("canopy/digest.rounds", laid_canopy_digest_rounds), ("canopy/digest.goes", laid_canopy_digest_goes), ("canopy/digest.turns", laid_canopy_digest_turns)] }
def PartsMadeSaid : Prop := partsMadeRow.holds Tryd.pinned (OpenSpec.ofChange partsMadeSpec)

/-- ITS FALSE NEIGHBOUR: 'it returns false'. Refute it at one input. -/
def partsMadeWrong : ChangeSpec := { name := "partsMade", fn := fun _ => fun
  | [d1, d2, d3] => { results := [.lit (.bool false)], args := [d1, d2, d3] }
  | _ => none }
def PartsMadeWrongFalsely : Prop := partsMadeRow.holds Tryd.pinned (OpenSpec.ofChange partsMadeWrong)

/- THE SECOND FORM. 'bulk': how many values and letters a reading holds, each counted each time it is reached (what is shared counts as often as it is met; a slice's spare places count too). A statement '..UptoSaid' is the law's where the arguments, and the package variables that the reading takes, are together of bulk at most 1048576: NARROWER than '..Said'. Prove '..Said' where nothing that the law and all that it calls make is longer than what came in: it says more and counts as full. Else prove '..UptoSaid'. A law counts once. -/
mutual
def uptoBulk {H : Type} : DataW H → Nat
  | .lit (.string bytes) => bytes.length + 1
  | .lit _ => 1
  | .nil => 1
  | .ptr d => uptoBulk d + 1
  | .slice elems spare => uptoBulkAll elems + uptoBulkAll spare + 1
  | .agg parts => uptoBulkAll parts + 1
  | .iface _ d => uptoBulk d + 1
  | .map entries => uptoBulkEntries entries + 1
  | .held _ => 1
def uptoBulkAll {H : Type} : List (DataW H) → Nat
  | [] => 0
  | d :: r => uptoBulk d + uptoBulkAll r
def uptoBulkEntries {H : Type} : List (Lit × DataW H) → Nat
  | [] => 0
  | x :: r => uptoBulkEntry x + uptoBulkEntries r
def uptoBulkEntry {H : Type} : Lit × DataW H → Nat
  | (.string bytes, d) => bytes.length + uptoBulk d + 1
  | (_, d) => uptoBulk d + 1
 end
def uptoSmall : (H : Type) → List (DataW H) → Bool := fun _ ds => decide (uptoBulkAll ds ≤ 1048576)
def OpenSpec.upto (s : _root_.Go.ChangeSpec) : _root_.Go.OpenSpec := { _root_.Go.OpenSpec.ofChange s with cond := some uptoSmall }

/-- 'canopykeep.WireBack', WHERE WHAT IT READS IS OF BULK AT MOST 1048576: true; the input reads as it did. -/
def wireBackUptoRow : OpenClaim := { program := "yticbfdhdipfjmaadoor", sum := "34a8bd3bbb1f2bfd1ac60c6c926c3cf4ba5eba43cc7df61c687bebe3addb0f02", func := "canopy/canopykeep.WireBack", spec := "wireBack", named := ["canopy/wire.has"], apart := false, laid := [("canopy/wire.has", laid_canopy_wire_has)], narrowed := true }
def WireBackUptoSaid : Prop := wireBackUptoRow.holds Tryd.pinned (OpenSpec.upto wireBackSpec)

/-- 'canopykeep.WireFixed', WHERE WHAT IT READS IS OF BULK AT MOST 1048576: true; the input reads as it did. -/
def wireFixedUptoRow : OpenClaim := { program := "yticbfdhdipfjmaadoor", sum := "34a8bd3bbb1f2bfd1ac60c6c926c3cf4ba5eba43cc7df61c687bebe3addb0f02", func := "canopy/canopykeep.WireFixed", spec := "wireFixed", named := ["canopy/wire.has"], apart := false, laid := [("canopy/wire.has", laid_canopy_wire_has)], narrowed := true }
def WireFixedUptoSaid : Prop := wireFixedUptoRow.holds Tryd.pinned (OpenSpec.upto wireFixedSpec)

/-- 'canopykeep.WireTorn', WHERE WHAT IT READS IS OF BULK AT MOST 1048576: true; the input reads as it did. -/
def wireTornUptoRow : OpenClaim := { program := "yticbfdhdipfjmaadoor", sum := "34a8bd3bbb1f2bfd1ac60c6c926c3cf4ba5eba43cc7df61c687bebe3addb0f02", func := "canopy/canopykeep.WireTorn", spec := "wireTorn", named := ["canopy/wire.has"], apart := false, laid := [("canopy/wire.has", laid_canopy_wire_has)], narrowed := true }
def WireTornUptoSaid : Prop := wireTornUptoRow.holds Tryd.pinned (OpenSpec.upto wireTornSpec)

/-- 'canopykeep.WireTells', WHERE WHAT IT READS IS OF BULK AT MOST 1048576: true; the input reads as it did. -/
def wireTellsUptoRow : OpenClaim := { program := "yticbfdhdipfjmaadoor", sum := "34a8bd3bbb1f2bfd1ac60c6c926c3cf4ba5eba43cc7df61c687bebe3addb0f02", func := "canopy/canopykeep.WireTells", spec := "wireTells", inPlace := ["internal/bytealg.Compare", "slices.overlaps[canopy/api.Pair]", "slices.overlaps[canopy/api.Tenant]"], unfollowed := true, recurses := true, named := ["canopy/wire.has"], apart := false, laid := [("canopy/wire.has", laid_canopy_wire_has)], narrowed := true }
def WireTellsUptoSaid : Prop := wireTellsUptoRow.holds Tryd.pinned (OpenSpec.upto wireTellsSpec)

/-- 'canopykeep.KnownSums', WHERE WHAT IT READS IS OF BULK AT MOST 1048576: true; the input reads as it did. -/
def knownSumsUptoRow : OpenClaim := { program := "yticbfdhdipfjmaadoor", sum := "34a8bd3bbb1f2bfd1ac60c6c926c3cf4ba5eba43cc7df61c687bebe3addb0f02", func := "canopy/canopykeep.KnownSums", spec := "knownSums", named := ["canopy/digest.goes", "canopy/digest.turns", "canopy/digest.rounds"], apart := false, laid := [("canopy/digest.rounds", laid_canopy_digest_rounds), ("canopy/digest.goes", laid_canopy_digest_goes), ("canopy/digest.turns", laid_canopy_digest_turns)], narrowed := true }
def KnownSumsUptoSaid : Prop := knownSumsUptoRow.holds Tryd.pinned (OpenSpec.upto knownSumsSpec)

/-- 'canopykeep.SumLong', WHERE WHAT IT READS IS OF BULK AT MOST 1048576: true; the input reads as it did. -/
def sumLongUptoRow : OpenClaim := { program := "yticbfdhdipfjmaadoor", sum := "34a8bd3bbb1f2bfd1ac60c6c926c3cf4ba5eba43cc7df61c687bebe3addb0f02", func := "canopy/canopykeep.SumLong", spec := "sumLong", named := ["canopy/digest.goes", "canopy/digest.turns", "canopy/digest.rounds"], apart := false, laid := [("canopy/digest.rounds", laid_canopy_digest_rounds), ("canopy/digest.goes", laid_canopy_digest_goes), ("canopy/digest.turns", laid_canopy_digest_turns)], narrowed := true }
def SumLongUptoSaid : Prop := sumLongUptoRow.holds Tryd.pinned (OpenSpec.upto sumLongSpec)

/-- 'canopykeep.PartsMade', WHERE WHAT IT READS IS OF BULK AT MOST 1048576: true; the input reads as it did. -/
def partsMadeUptoRow : OpenClaim := { program := "yticbfdhdipfjmaadoor", sum := "34a8bd3bbb1f2bfd1ac60c6c926c3cf4ba5eba43cc7df61c687bebe3addb0f02", func := "canopy/canopykeep.PartsMade", spec := "partsMade", named := ["canopy/digest.goes", "canopy/digest.turns", "canopy/digest.rounds"], apart := false, laid := [("canopy/digest.rounds", laid_canopy_digest_rounds), ("canopy/digest.goes", laid_canopy_digest_goes), ("canopy/digest.turns", laid_canopy_digest_turns)], narrowed := true }
def PartsMadeUptoSaid : Prop := partsMadeUptoRow.holds Tryd.pinned (OpenSpec.upto partsMadeSpec)

end Rows
end Go.Proofs.YticbfdhdipfjmaaDoor
