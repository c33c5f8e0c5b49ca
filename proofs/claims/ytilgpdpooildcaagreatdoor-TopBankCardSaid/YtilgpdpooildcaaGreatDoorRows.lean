/-
  NARROWER THAN 'FOR EVERY INPUT', by the rows' own cells (each row's printed sentence says how): TopRounds: laid · TopIdle: laid · TopTwice: laid · TopAnew: laid · TopRoots: laid · TopBank: laid · TopClash: laid · TopBlind: laid · TopApart: laid · TopCounter: laid · TopGone: laid · TopQueue: laid · TopWaits: laid · TopPhantom: laid · TopOwn: laid · TopLost: laid.
  DERIVED. THE GIVEN ROWS OF THIS SEAT. 16 by the template 'for every input the law returns true; each argument reads behind the call as it read before'; 0 by the template 'total and deterministic' (their statements: YtilgpdpooildcaaGreatDoorTotals.lean).
  GIVEN WITH THE SEED: the statements are not yours to turn. If you find one false, say at which input.
  Laid BY PROGRAM, IN A SANDBOX (cutbox-rows.mjs): the forced cells as the released guide's own fill.sh prints them over the translation c7771e2581bfca47… (all of the seat's roots in one cut). By AI agents, Wed Nov 11 2026. No macro, syntax, notation, axiom, sorry.
-/
import Derived.Test.YtilgpdpooildcaaGreatDoorChecked
import GoSem.Claim
import GoSem.ClaimJoined
import GoSem.ClaimMapViews
import Derived.JoinedTies
import Derived.KernelRfl
namespace Go.Proofs.YtilgpdpooildcaaGreatDoor
/- THE CELL 'sum', in the pinned program and in every row, IS THE sha256 OF THE DUMP (.gsa) THAT YtilgpdpooildcaaGreatDoorProg.lean LOADS. Nothing in Lean hashes anything: it is a label: what it is worth is what the hold of that sum in a sandbox is worth. -/
noncomputable def Tryz.pinned : Pinned := { name := "ytilgpdpooildcaagreatdoor", sum := "c7771e2581bfca4723598daf89846edf03b48b879bcc51a792893c074957c738", checked := Tryz.checked }
namespace Rows
def none {H : Type} : Left H := { results := [], args := [] }

/- WHAT THE LISTED PACKAGE-LEVEL VARIABLES READ AS WHEN THE CALL BEGINS. Each datum BY PROGRAM (the guide's laid-datum.mjs) off the statement by which the dump's own 'gosem.cut.vars' lays the variable. In a bare row this is a premise. The card (YtilgpdpooildcaaGreatDoorCards.lean) ties it to the program's text. -/
def laid_canopy_digest_rounds {H : Type} : DataW H := .agg [.lit (.int .u64 1), .lit (.int .u64 32898), .lit (.int .u64 9223372036854808714), .lit (.int .u64 9223372039002292224), .lit (.int .u64 32907), .lit (.int .u64 2147483649), .lit (.int .u64 9223372039002292353), .lit (.int .u64 9223372036854808585), .lit (.int .u64 138), .lit (.int .u64 136), .lit (.int .u64 2147516425), .lit (.int .u64 2147483658), .lit (.int .u64 2147516555), .lit (.int .u64 9223372036854775947), .lit (.int .u64 9223372036854808713), .lit (.int .u64 9223372036854808579), .lit (.int .u64 9223372036854808578), .lit (.int .u64 9223372036854775936), .lit (.int .u64 32778), .lit (.int .u64 9223372039002259466), .lit (.int .u64 9223372039002292353), .lit (.int .u64 9223372036854808704), .lit (.int .u64 2147483649), .lit (.int .u64 9223372039002292232)]
def laid_canopy_digest_goes {H : Type} : DataW H := .agg [.lit (.int .i64 10), .lit (.int .i64 7), .lit (.int .i64 11), .lit (.int .i64 17), .lit (.int .i64 18), .lit (.int .i64 3), .lit (.int .i64 5), .lit (.int .i64 16), .lit (.int .i64 8), .lit (.int .i64 21), .lit (.int .i64 24), .lit (.int .i64 4), .lit (.int .i64 15), .lit (.int .i64 23), .lit (.int .i64 19), .lit (.int .i64 13), .lit (.int .i64 12), .lit (.int .i64 2), .lit (.int .i64 20), .lit (.int .i64 14), .lit (.int .i64 22), .lit (.int .i64 9), .lit (.int .i64 6), .lit (.int .i64 1)]
def laid_canopy_digest_turns {H : Type} : DataW H := .agg [.lit (.int .i64 1), .lit (.int .i64 3), .lit (.int .i64 6), .lit (.int .i64 10), .lit (.int .i64 15), .lit (.int .i64 21), .lit (.int .i64 28), .lit (.int .i64 36), .lit (.int .i64 45), .lit (.int .i64 55), .lit (.int .i64 2), .lit (.int .i64 14), .lit (.int .i64 27), .lit (.int .i64 41), .lit (.int .i64 56), .lit (.int .i64 8), .lit (.int .i64 25), .lit (.int .i64 43), .lit (.int .i64 62), .lit (.int .i64 18), .lit (.int .i64 39), .lit (.int .i64 61), .lit (.int .i64 20), .lit (.int .i64 44)]
def laid_canopy_wire_has {H : Type} : DataW H := .agg [.lit (.int .i64 0), .lit (.int .i64 0), .lit (.int .i64 3), .lit (.int .i64 7), .lit (.int .i64 11), .lit (.int .i64 3), .lit (.int .i64 0), .lit (.int .i64 0), .lit (.int .i64 3)]

/-- 'canopytop.TopRounds': WHATEVER THE INPUT: true; the input reads as it did. -/
def topRoundsSpec : ChangeSpec := { name := "topRounds", fn := fun _ => fun
  | [d] => { results := [.lit (.bool true)], args := [d] }
  | _ => none }
def topRoundsRow : OpenClaim := { program := "ytilgpdpooildcaagreatdoor", sum := "c7771e2581bfca4723598daf89846edf03b48b879bcc51a792893c074957c738", func := "canopy/canopytop.TopRounds", spec := "topRounds", inPlace := ["internal/bytealg.Compare", "slices.overlaps[canopy/api.Pair]", "slices.overlaps[canopy/api.Tenant]"], unfollowed := true, recurses := true, named := ["canopy/wire.has", "canopy/digest.goes", "canopy/digest.turns", "canopy/digest.rounds"], apart := false, laid := [("canopy/digest.rounds", laid_canopy_digest_rounds), ("canopy/digest.goes", laid_canopy_digest_goes), ("canopy/digest.turns", laid_canopy_digest_turns), ("canopy/wire.has", laid_canopy_wire_has)] }
def TopRoundsSaid : Prop := topRoundsRow.holds Tryz.pinned (OpenSpec.ofChange topRoundsSpec)

/-- ITS FALSE NEIGHBOUR: 'it returns false'. Refute it at one input. -/
def topRoundsWrong : ChangeSpec := { name := "topRounds", fn := fun _ => fun
  | [d] => { results := [.lit (.bool false)], args := [d] }
  | _ => none }
def TopRoundsWrongFalsely : Prop := topRoundsRow.holds Tryz.pinned (OpenSpec.ofChange topRoundsWrong)

/-- 'canopytop.TopIdle': WHATEVER THE INPUT: true; the input reads as it did. -/
def topIdleSpec : ChangeSpec := { name := "topIdle", fn := fun _ => fun
  | [d1, d2] => { results := [.lit (.bool true)], args := [d1, d2] }
  | _ => none }
def topIdleRow : OpenClaim := { program := "ytilgpdpooildcaagreatdoor", sum := "c7771e2581bfca4723598daf89846edf03b48b879bcc51a792893c074957c738", func := "canopy/canopytop.TopIdle", spec := "topIdle", inPlace := ["internal/bytealg.Compare", "slices.overlaps[canopy/api.Pair]", "slices.overlaps[canopy/api.Tenant]"], unfollowed := true, recurses := true, named := ["canopy/wire.has", "canopy/digest.goes", "canopy/digest.turns", "canopy/digest.rounds"], apart := false, laid := [("canopy/digest.rounds", laid_canopy_digest_rounds), ("canopy/digest.goes", laid_canopy_digest_goes), ("canopy/digest.turns", laid_canopy_digest_turns), ("canopy/wire.has", laid_canopy_wire_has)] }
def TopIdleSaid : Prop := topIdleRow.holds Tryz.pinned (OpenSpec.ofChange topIdleSpec)

/-- ITS FALSE NEIGHBOUR: 'it returns false'. Refute it at one input. -/
def topIdleWrong : ChangeSpec := { name := "topIdle", fn := fun _ => fun
  | [d1, d2] => { results := [.lit (.bool false)], args := [d1, d2] }
  | _ => none }
def TopIdleWrongFalsely : Prop := topIdleRow.holds Tryz.pinned (OpenSpec.ofChange topIdleWrong)

/-- 'canopytop.TopTwice': WHATEVER THE INPUT: true; the input reads as it did. -/
def topTwiceSpec : ChangeSpec := { name := "topTwice", fn := fun _ => fun
  | [d1, d2, d3] => { results := [.lit (.bool true)], args := [d1, d2, d3] }
  | _ => none }
def topTwiceRow : OpenClaim := { program := "ytilgpdpooildcaagreatdoor", sum := "c7771e2581bfca4723598daf89846edf03b48b879bcc51a792893c074957c738", func := "canopy/canopytop.TopTwice", spec := "topTwice", inPlace := ["internal/bytealg.Compare", "slices.overlaps[canopy/api.Pair]", "slices.overlaps[canopy/api.Tenant]"], unfollowed := true, recurses := true, named := ["canopy/wire.has", "canopy/digest.goes", "canopy/digest.turns", "canopy/digest.rounds"], apart := false, laid := [("canopy/digest.rounds", laid_canopy_digest_rounds), ("canopy/digest.goes", laid_canopy_digest_goes), ("canopy/digest.turns", laid_canopy_digest_turns), ("canopy/wire.has", laid_canopy_wire_has)] }
def TopTwiceSaid : Prop := topTwiceRow.holds Tryz.pinned (OpenSpec.ofChange topTwiceSpec)

/-- ITS FALSE NEIGHBOUR: 'it returns false'. Refute it at one input. -/
def topTwiceWrong : ChangeSpec := { name := "topTwice", fn := fun _ => fun
  | [d1, d2, d3] => { results := [.lit (.bool false)], args := [d1, d2, d3] }
  | _ => none }
def TopTwiceWrongFalsely : Prop := topTwiceRow.holds Tryz.pinned (OpenSpec.ofChange topTwiceWrong)

/-- 'canopytop.TopAnew': WHATEVER THE INPUT: true; the input reads as it did. -/
def topAnewSpec : ChangeSpec := { name := "topAnew", fn := fun _ => fun
  | [d1, d2] => { results := [.lit (.bool true)], args := [d1, d2] }
  | _ => none }
def topAnewRow : OpenClaim := { program := "ytilgpdpooildcaagreatdoor", sum := "c7771e2581bfca4723598daf89846edf03b48b879bcc51a792893c074957c738", func := "canopy/canopytop.TopAnew", spec := "topAnew", inPlace := ["internal/bytealg.Compare", "slices.overlaps[canopy/api.Pair]", "slices.overlaps[canopy/api.Tenant]"], unfollowed := true, recurses := true, named := ["canopy/wire.has", "canopy/digest.goes", "canopy/digest.turns", "canopy/digest.rounds"], apart := false, laid := [("canopy/digest.rounds", laid_canopy_digest_rounds), ("canopy/digest.goes", laid_canopy_digest_goes), ("canopy/digest.turns", laid_canopy_digest_turns), ("canopy/wire.has", laid_canopy_wire_has)] }
def TopAnewSaid : Prop := topAnewRow.holds Tryz.pinned (OpenSpec.ofChange topAnewSpec)

/-- ITS FALSE NEIGHBOUR: 'it returns false'. Refute it at one input. -/
def topAnewWrong : ChangeSpec := { name := "topAnew", fn := fun _ => fun
  | [d1, d2] => { results := [.lit (.bool false)], args := [d1, d2] }
  | _ => none }
def TopAnewWrongFalsely : Prop := topAnewRow.holds Tryz.pinned (OpenSpec.ofChange topAnewWrong)

/-- 'canopytop.TopRoots': WHATEVER THE INPUT: true; the input reads as it did. -/
def topRootsSpec : ChangeSpec := { name := "topRoots", fn := fun _ => fun
  | [d1, d2] => { results := [.lit (.bool true)], args := [d1, d2] }
  | _ => none }
def topRootsRow : OpenClaim := { program := "ytilgpdpooildcaagreatdoor", sum := "c7771e2581bfca4723598daf89846edf03b48b879bcc51a792893c074957c738", func := "canopy/canopytop.TopRoots", spec := "topRoots", inPlace := ["internal/bytealg.Compare", "slices.overlaps[canopy/api.Pair]", "slices.overlaps[canopy/api.Tenant]"], unfollowed := true, recurses := true, named := ["canopy/wire.has", "canopy/digest.goes", "canopy/digest.turns", "canopy/digest.rounds"], apart := false, laid := [("canopy/digest.rounds", laid_canopy_digest_rounds), ("canopy/digest.goes", laid_canopy_digest_goes), ("canopy/digest.turns", laid_canopy_digest_turns), ("canopy/wire.has", laid_canopy_wire_has)] }
def TopRootsSaid : Prop := topRootsRow.holds Tryz.pinned (OpenSpec.ofChange topRootsSpec)

/-- ITS FALSE NEIGHBOUR: 'it returns false'. Refute it at one input. -/
def topRootsWrong : ChangeSpec := { name := "topRoots", fn := fun _ => fun
  | [d1, d2] => { results := [.lit (.bool false)], args := [d1, d2] }
  | _ => none }
def TopRootsWrongFalsely : Prop := topRootsRow.holds Tryz.pinned (OpenSpec.ofChange topRootsWrong)

/-- 'canopytop.TopBank': WHATEVER THE INPUT: true; the input reads as it did. -/
def topBankSpec : ChangeSpec := { name := "topBank", fn := fun _ => fun
  | [d] => { results := [.lit (.bool true)], args := [d] }
  | _ => none }
def topBankRow : OpenClaim := { program := "ytilgpdpooildcaagreatdoor", sum := "c7771e2581bfca4723598daf89846edf03b48b879bcc51a792893c074957c738", func := "canopy/canopytop.TopBank", spec := "topBank", inPlace := ["internal/bytealg.Compare", "slices.overlaps[canopy/api.Pair]", "slices.overlaps[canopy/api.Tenant]"], unfollowed := true, recurses := true, named := ["canopy/wire.has", "canopy/digest.goes", "canopy/digest.turns", "canopy/digest.rounds"], apart := false, laid := [("canopy/digest.rounds", laid_canopy_digest_rounds), ("canopy/digest.goes", laid_canopy_digest_goes), ("canopy/digest.turns", laid_canopy_digest_turns), ("canopy/wire.has", laid_canopy_wire_has)] }
def TopBankSaid : Prop := topBankRow.holds Tryz.pinned (OpenSpec.ofChange topBankSpec)

/-- ITS FALSE NEIGHBOUR: 'it returns false'. Refute it at one input. -/
def topBankWrong : ChangeSpec := { name := "topBank", fn := fun _ => fun
  | [d] => { results := [.lit (.bool false)], args := [d] }
  | _ => none }
def TopBankWrongFalsely : Prop := topBankRow.holds Tryz.pinned (OpenSpec.ofChange topBankWrong)

/-- 'canopytop.TopClash': WHATEVER THE INPUT: true; the input reads as it did. -/
def topClashSpec : ChangeSpec := { name := "topClash", fn := fun _ => fun
  | [d1, d2, d3, d4] => { results := [.lit (.bool true)], args := [d1, d2, d3, d4] }
  | _ => none }
def topClashRow : OpenClaim := { program := "ytilgpdpooildcaagreatdoor", sum := "c7771e2581bfca4723598daf89846edf03b48b879bcc51a792893c074957c738", func := "canopy/canopytop.TopClash", spec := "topClash", inPlace := ["internal/bytealg.Compare", "slices.overlaps[canopy/api.Pair]", "slices.overlaps[canopy/api.Tenant]"], unfollowed := true, recurses := true, named := ["canopy/wire.has", "canopy/digest.goes", "canopy/digest.turns", "canopy/digest.rounds"], apart := false, laid := [("canopy/digest.rounds", laid_canopy_digest_rounds), ("canopy/digest.goes", laid_canopy_digest_goes), ("canopy/digest.turns", laid_canopy_digest_turns), ("canopy/wire.has", laid_canopy_wire_has)] }
def TopClashSaid : Prop := topClashRow.holds Tryz.pinned (OpenSpec.ofChange topClashSpec)

/-- ITS FALSE NEIGHBOUR: 'it returns false'. Refute it at one input. -/
def topClashWrong : ChangeSpec := { name := "topClash", fn := fun _ => fun
  | [d1, d2, d3, d4] => { results := [.lit (.bool false)], args := [d1, d2, d3, d4] }
  | _ => none }
def TopClashWrongFalsely : Prop := topClashRow.holds Tryz.pinned (OpenSpec.ofChange topClashWrong)

/-- 'canopytop.TopBlind': WHATEVER THE INPUT: true; the input reads as it did. -/
def topBlindSpec : ChangeSpec := { name := "topBlind", fn := fun _ => fun
  | [d] => { results := [.lit (.bool true)], args := [d] }
  | _ => none }
def topBlindRow : OpenClaim := { program := "ytilgpdpooildcaagreatdoor", sum := "c7771e2581bfca4723598daf89846edf03b48b879bcc51a792893c074957c738", func := "canopy/canopytop.TopBlind", spec := "topBlind", inPlace := ["internal/bytealg.Compare", "slices.overlaps[canopy/api.Pair]", "slices.overlaps[canopy/api.Tenant]"], unfollowed := true, recurses := true, named := ["canopy/wire.has", "canopy/digest.goes", "canopy/digest.turns", "canopy/digest.rounds"], apart := false, laid := [("canopy/digest.rounds", laid_canopy_digest_rounds), ("canopy/digest.goes", laid_canopy_digest_goes), ("canopy/digest.turns", laid_canopy_digest_turns), ("canopy/wire.has", laid_canopy_wire_has)] }
def TopBlindSaid : Prop := topBlindRow.holds Tryz.pinned (OpenSpec.ofChange topBlindSpec)

/-- ITS FALSE NEIGHBOUR: 'it returns false'. Refute it at one input. -/
def topBlindWrong : ChangeSpec := { name := "topBlind", fn := fun _ => fun
  | [d] => { results := [.lit (.bool false)], args := [d] }
  | _ => none }
def TopBlindWrongFalsely : Prop := topBlindRow.holds Tryz.pinned (OpenSpec.ofChange topBlindWrong)

/-- 'canopytop.TopApart': WHATEVER THE INPUT: true; the input reads as it did. -/
def topApartSpec : ChangeSpec := { name := "topApart", fn := fun _ => fun
  | [d1, d2] => { results := [.lit (.bool true)], args := [d1, d2] }
  | _ => none }
def topApartRow : OpenClaim := { program := "ytilgpdpooildcaagreatdoor", sum := "c7771e2581bfca4723598daf89846edf03b48b879bcc51a792893c074957c738", func := "canopy/canopytop.TopApart", spec := "topApart", inPlace := ["internal/bytealg.Compare", "slices.overlaps[canopy/api.Pair]", "slices.overlaps[canopy/api.Tenant]"], unfollowed := true, recurses := true, named := ["canopy/wire.has", "canopy/digest.goes", "canopy/digest.turns", "canopy/digest.rounds"], apart := false, laid := [("canopy/digest.rounds", laid_canopy_digest_rounds), ("canopy/digest.goes", laid_canopy_digest_goes), ("canopy/digest.turns", laid_canopy_digest_turns), ("canopy/wire.has", laid_canopy_wire_has)] }
def TopApartSaid : Prop := topApartRow.holds Tryz.pinned (OpenSpec.ofChange topApartSpec)

/-- ITS FALSE NEIGHBOUR: 'it returns false'. Refute it at one input. -/
def topApartWrong : ChangeSpec := { name := "topApart", fn := fun _ => fun
  | [d1, d2] => { results := [.lit (.bool false)], args := [d1, d2] }
  | _ => none }
def TopApartWrongFalsely : Prop := topApartRow.holds Tryz.pinned (OpenSpec.ofChange topApartWrong)

/-- 'canopytop.TopCounter': WHATEVER THE INPUT: true; the input reads as it did. -/
def topCounterSpec : ChangeSpec := { name := "topCounter", fn := fun _ => fun
  | [d] => { results := [.lit (.bool true)], args := [d] }
  | _ => none }
def topCounterRow : OpenClaim := { program := "ytilgpdpooildcaagreatdoor", sum := "c7771e2581bfca4723598daf89846edf03b48b879bcc51a792893c074957c738", func := "canopy/canopytop.TopCounter", spec := "topCounter", inPlace := ["internal/bytealg.Compare", "slices.overlaps[canopy/api.Pair]", "slices.overlaps[canopy/api.Tenant]"], unfollowed := true, recurses := true, named := ["canopy/wire.has", "canopy/digest.goes", "canopy/digest.turns", "canopy/digest.rounds"], apart := false, laid := [("canopy/digest.rounds", laid_canopy_digest_rounds), ("canopy/digest.goes", laid_canopy_digest_goes), ("canopy/digest.turns", laid_canopy_digest_turns), ("canopy/wire.has", laid_canopy_wire_has)] }
def TopCounterSaid : Prop := topCounterRow.holds Tryz.pinned (OpenSpec.ofChange topCounterSpec)

/-- ITS FALSE NEIGHBOUR: 'it returns false'. Refute it at one input. -/
def topCounterWrong : ChangeSpec := { name := "topCounter", fn := fun _ => fun
  | [d] => { results := [.lit (.bool false)], args := [d] }
  | _ => none }
def TopCounterWrongFalsely : Prop := topCounterRow.holds Tryz.pinned (OpenSpec.ofChange topCounterWrong)

/-- 'canopytop.TopGone': WHATEVER THE INPUT: true; the input reads as it did. -/
def topGoneSpec : ChangeSpec := { name := "topGone", fn := fun _ => fun
  | [d] => { results := [.lit (.bool true)], args := [d] }
  | _ => none }
def topGoneRow : OpenClaim := { program := "ytilgpdpooildcaagreatdoor", sum := "c7771e2581bfca4723598daf89846edf03b48b879bcc51a792893c074957c738", func := "canopy/canopytop.TopGone", spec := "topGone", inPlace := ["internal/bytealg.Compare", "slices.overlaps[canopy/api.Pair]", "slices.overlaps[canopy/api.Tenant]"], unfollowed := true, recurses := true, named := ["canopy/wire.has", "canopy/digest.goes", "canopy/digest.turns", "canopy/digest.rounds"], apart := false, laid := [("canopy/digest.rounds", laid_canopy_digest_rounds), ("canopy/digest.goes", laid_canopy_digest_goes), ("canopy/digest.turns", laid_canopy_digest_turns), ("canopy/wire.has", laid_canopy_wire_has)] }
def TopGoneSaid : Prop := topGoneRow.holds Tryz.pinned (OpenSpec.ofChange topGoneSpec)

/-- ITS FALSE NEIGHBOUR: 'it returns false'. Refute it at one input. -/
def topGoneWrong : ChangeSpec := { name := "topGone", fn := fun _ => fun
  | [d] => { results := [.lit (.bool false)], args := [d] }
  | _ => none }
def TopGoneWrongFalsely : Prop := topGoneRow.holds Tryz.pinned (OpenSpec.ofChange topGoneWrong)

/-- 'canopytop.TopQueue': WHATEVER THE INPUT: true; the input reads as it did. -/
def topQueueSpec : ChangeSpec := { name := "topQueue", fn := fun _ => fun
  | [d] => { results := [.lit (.bool true)], args := [d] }
  | _ => none }
def topQueueRow : OpenClaim := { program := "ytilgpdpooildcaagreatdoor", sum := "c7771e2581bfca4723598daf89846edf03b48b879bcc51a792893c074957c738", func := "canopy/canopytop.TopQueue", spec := "topQueue", inPlace := ["internal/bytealg.Compare", "slices.overlaps[canopy/api.Pair]", "slices.overlaps[canopy/api.Tenant]"], unfollowed := true, recurses := true, named := ["canopy/wire.has", "canopy/digest.goes", "canopy/digest.turns", "canopy/digest.rounds"], apart := false, laid := [("canopy/digest.rounds", laid_canopy_digest_rounds), ("canopy/digest.goes", laid_canopy_digest_goes), ("canopy/digest.turns", laid_canopy_digest_turns), ("canopy/wire.has", laid_canopy_wire_has)] }
def TopQueueSaid : Prop := topQueueRow.holds Tryz.pinned (OpenSpec.ofChange topQueueSpec)

/-- ITS FALSE NEIGHBOUR: 'it returns false'. Refute it at one input. -/
def topQueueWrong : ChangeSpec := { name := "topQueue", fn := fun _ => fun
  | [d] => { results := [.lit (.bool false)], args := [d] }
  | _ => none }
def TopQueueWrongFalsely : Prop := topQueueRow.holds Tryz.pinned (OpenSpec.ofChange topQueueWrong)

/-- 'canopytop.TopWaits': WHATEVER THE INPUT: true; the input reads as it did. -/
def topWaitsSpec : ChangeSpec := { name := "topWaits", fn := fun _ => fun
  | [d] => { results := [.lit (.bool true)], args := [d] }
  | _ => none }
def topWaitsRow : OpenClaim := { program := "ytilgpdpooildcaagreatdoor", sum := "c7771e2581bfca4723598daf89846edf03b48b879bcc51a792893c074957c738", func := "canopy/canopytop.TopWaits", spec := "topWaits", inPlace := ["internal/bytealg.Compare", "slices.overlaps[canopy/api.Pair]", "slices.overlaps[canopy/api.Tenant]"], unfollowed := true, recurses := true, named := ["canopy/wire.has", "canopy/digest.goes", "canopy/digest.turns", "canopy/digest.rounds"], apart := false, laid := [("canopy/digest.rounds", laid_canopy_digest_rounds), ("canopy/digest.goes", laid_canopy_digest_goes), ("canopy/digest.turns", laid_canopy_digest_turns), ("canopy/wire.has", laid_canopy_wire_has)] }
def TopWaitsSaid : Prop := topWaitsRow.holds Tryz.pinned (OpenSpec.ofChange topWaitsSpec)

/-- ITS FALSE NEIGHBOUR: 'it returns false'. Refute it at one input. -/
def topWaitsWrong : ChangeSpec := { name := "topWaits", fn := fun _ => fun
  | [d] => { results := [.lit (.bool false)], args := [d] }
  | _ => none }
def TopWaitsWrongFalsely : Prop := topWaitsRow.holds Tryz.pinned (OpenSpec.ofChange topWaitsWrong)

/-- 'canopytop.TopPhantom': WHATEVER THE INPUT: true; the input reads as it did. -/
def topPhantomSpec : ChangeSpec := { name := "topPhantom", fn := fun _ => fun
  | [d1, d2, d3] => { results := [.lit (.bool true)], args := [d1, d2, d3] }
  | _ => none }
def topPhantomRow : OpenClaim := { program := "ytilgpdpooildcaagreatdoor", sum := "c7771e2581bfca4723598daf89846edf03b48b879bcc51a792893c074957c738", func := "canopy/canopytop.TopPhantom", spec := "topPhantom", inPlace := ["internal/bytealg.Compare", "slices.overlaps[canopy/api.Pair]", "slices.overlaps[canopy/api.Tenant]"], unfollowed := true, recurses := true, named := ["canopy/wire.has", "canopy/digest.goes", "canopy/digest.turns", "canopy/digest.rounds"], apart := false, laid := [("canopy/digest.rounds", laid_canopy_digest_rounds), ("canopy/digest.goes", laid_canopy_digest_goes), ("canopy/digest.turns", laid_canopy_digest_turns), ("canopy/wire.has", laid_canopy_wire_has)] }
def TopPhantomSaid : Prop := topPhantomRow.holds Tryz.pinned (OpenSpec.ofChange topPhantomSpec)

/-- ITS FALSE NEIGHBOUR: 'it returns false'. Refute it at one input. -/
def topPhantomWrong : ChangeSpec := { name := "topPhantom", fn := fun _ => fun
  | [d1, d2, d3] => { results := [.lit (.bool false)], args := [d1, d2, d3] }
  | _ => none }
def TopPhantomWrongFalsely : Prop := topPhantomRow.holds Tryz.pinned (OpenSpec.ofChange topPhantomWrong)

/-- 'canopytop.TopOwn': WHATEVER THE INPUT: true; the input reads as it did. -/
def topOwnSpec : ChangeSpec := { name := "topOwn", fn := fun _ => fun
  | [d1, d2] => { results := [.lit (.bool true)], args := [d1, d2] }
  | _ => none }
def topOwnRow : OpenClaim := { program := "ytilgpdpooildcaagreatdoor", sum := "c7771e2581bfca4723598daf89846edf03b48b879bcc51a792893c074957c738", func := "canopy/canopytop.TopOwn", spec := "topOwn", inPlace := ["internal/bytealg.Compare", "slices.overlaps[canopy/api.Pair]", "slices.overlaps[canopy/api.Tenant]"], unfollowed := true, recurses := true, named := ["canopy/wire.has", "canopy/digest.goes", "canopy/digest.turns", "canopy/digest.rounds"], apart := false, laid := [("canopy/digest.rounds", laid_canopy_digest_rounds), ("canopy/digest.goes", laid_canopy_digest_goes), ("canopy/digest.turns", laid_canopy_digest_turns), ("canopy/wire.has", laid_canopy_wire_has)] }
def TopOwnSaid : Prop := topOwnRow.holds Tryz.pinned (OpenSpec.ofChange topOwnSpec)

/-- ITS FALSE NEIGHBOUR: 'it returns false'. Refute it at one input. -/
def topOwnWrong : ChangeSpec := { name := "topOwn", fn := fun _ => fun
  | [d1, d2] => { results := [.lit (.bool false)], args := [d1, d2] }
  | _ => none }
def TopOwnWrongFalsely : Prop := topOwnRow.holds Tryz.pinned (OpenSpec.ofChange topOwnWrong)

/-- 'canopytop.TopLost': WHATEVER THE INPUT: true; the input reads as it did. -/
def topLostSpec : ChangeSpec := { name := "topLost", fn := fun _ => fun
  | [d1, d2] => { results := [.lit (.bool true)], args := [d1, d2] }
  | _ => none }
def topLostRow : OpenClaim := { program := "ytilgpdpooildcaagreatdoor", sum := "c7771e2581bfca4723598daf89846edf03b48b879bcc51a792893c074957c738", func := "canopy/canopytop.TopLost", spec := "topLost", inPlace := ["internal/bytealg.Compare", "slices.overlaps[canopy/api.Pair]", "slices.overlaps[canopy/api.Tenant]"], unfollowed := true, recurses := true, named := ["canopy/wire.has", "canopy/digest.goes", "canopy/digest.turns", "canopy/digest.rounds"], apart := false, laid := [("canopy/digest.rounds", laid_canopy_digest_rounds), ("canopy/digest.goes", laid_canopy_digest_goes), ("canopy/digest.turns", laid_canopy_digest_turns), ("canopy/wire.has", laid_canopy_wire_has)] }
def TopLostSaid : Prop := topLostRow.holds Tryz.pinned (OpenSpec.ofChange topLostSpec)

/-- ITS FALSE NEIGHBOUR: 'it returns false'. Refute it at one input. -/
def topLostWrong : ChangeSpec := { name := "topLost", fn := fun _ => fun
  | [d1, d2] => { results := [.lit (.bool false)], args := [d1, d2] }
  | _ => none }
def TopLostWrongFalsely : Prop := topLostRow.holds Tryz.pinned (OpenSpec.ofChange topLostWrong)

/- THE SECOND FORM. 'bulk': how many values and letters a reading holds, each counted each time it is reached (what is shared counts as often as it is met; a slice's spare places count too). A statement '..UptoSaid' is the law's where the arguments, and the package variables that the reading takes, are together of bulk at most 1048576: NARROWER than '..Said'. Prove '..Said' where nothing that the law and all that it calls make is longer than what came in: it says more and counts as full. Else prove '..UptoSaid'. A law counts once. -/
mutual
def uptoBulk {H : Type} : DataW H → Nat
  | .lit (.string bytes) => bytes.length + 1
  | .lit _ => 1
  | .nil => 1
  | .ptr d => uptoBulk d + 1
  | .slice elems spare => uptoBulkAll elems + uptoBulkAll spare + 1
  | .agg parts => uptoBulkAll parts + 1
  | .iface _ d => uptoBulk d + 1
  | .map entries => uptoBulkEntries entries + 1
  | .held _ => 1
def uptoBulkAll {H : Type} : List (DataW H) → Nat
  | [] => 0
  | d :: r => uptoBulk d + uptoBulkAll r
def uptoBulkEntries {H : Type} : List (Lit × DataW H) → Nat
  | [] => 0
  | x :: r => uptoBulkEntry x + uptoBulkEntries r
def uptoBulkEntry {H : Type} : Lit × DataW H → Nat
  | (.string bytes, d) => bytes.length + uptoBulk d + 1
  | (_, d) => uptoBulk d + 1
 end
def uptoSmall : (H : Type) → List (DataW H) → Bool := fun _ ds => decide (uptoBulkAll ds ≤ 1048576)
def OpenSpec.upto (s : _root_.Go.ChangeSpec) : _root_.Go.OpenSpec := { _root_.Go.OpenSpec.ofChange s with cond := some uptoSmall }

/-- 'canopytop.TopRounds', WHERE WHAT IT READS IS OF BULK AT MOST 1048576: true; the input reads as it did. -/
def topRoundsUptoRow : OpenClaim := { program := "ytilgpdpooildcaagreatdoor", sum := "c7771e2581bfca4723598daf89846edf03b48b879bcc51a792893c074957c738", func := "canopy/canopytop.TopRounds", spec := "topRounds", inPlace := ["internal/bytealg.Compare", "slices.overlaps[canopy/api.Pair]", "slices.overlaps[canopy/api.Tenant]"], unfollowed := true, recurses := true, named := ["canopy/wire.has", "canopy/digest.goes", "canopy/digest.turns", "canopy/digest.rounds"], apart := false, laid := [("canopy/digest.rounds", laid_canopy_digest_rounds), ("canopy/digest.goes", laid_canopy_digest_goes), ("canopy/digest.turns", laid_canopy_digest_turns), ("canopy/wire.has", laid_canopy_wire_has)], narrowed := true }
def TopRoundsUptoSaid : Prop := topRoundsUptoRow.holds Tryz.pinned (OpenSpec.upto topRoundsSpec)

/-- 'canopytop.TopIdle', WHERE WHAT IT READS IS OF BULK AT MOST 1048576: true; the input reads as it did. -/
def topIdleUptoRow : OpenClaim := { program := "ytilgpdpooildcaagreatdoor", sum := "c7771e2581bfca4723598daf89846edf03b48b879bcc51a792893c074957c738", func := "canopy/canopytop.TopIdle", spec := "topIdle", inPlace := ["internal/bytealg.Compare", "slices.overlaps[canopy/api.Pair]", "slices.overlaps[canopy/api.Tenant]"], unfollowed := true, recurses := true, named := ["canopy/wire.has", "canopy/digest.goes", "canopy/digest.turns", "canopy/digest.rounds"], apart := false, laid := [("canopy/digest.rounds", laid_canopy_digest_rounds), ("canopy/digest.goes", laid_canopy_digest_goes), ("canopy/digest.turns", laid_canopy_digest_turns), ("canopy/wire.has", laid_canopy_wire_has)], narrowed := true }
def TopIdleUptoSaid : Prop := topIdleUptoRow.holds Tryz.pinned (OpenSpec.upto topIdleSpec)

/-- 'canopytop.TopTwice', WHERE WHAT IT READS IS OF BULK AT MOST 1048576: true; the input reads as it did. -/
def topTwiceUptoRow : OpenClaim := { program := "ytilgpdpooildcaagreatdoor", sum := "c7771e2581bfca4723598daf89846edf03b48b879bcc51a792893c074957c738", func := "canopy/canopytop.TopTwice", spec := "topTwice", inPlace := ["internal/bytealg.Compare", "slices.overlaps[canopy/api.Pair]", "slices.overlaps[canopy/api.Tenant]"], unfollowed := true, recurses := true, named := ["canopy/wire.has", "canopy/digest.goes", "canopy/digest.turns", "canopy/digest.rounds"], apart := false, laid := [("canopy/digest.rounds", laid_canopy_digest_rounds), ("canopy/digest.goes", laid_canopy_digest_goes), ("canopy/digest.turns", laid_canopy_digest_turns), ("canopy/wire.has", laid_canopy_wire_has)], narrowed := true }
def TopTwiceUptoSaid : Prop := topTwiceUptoRow.holds Tryz.pinned (OpenSpec.upto topTwiceSpec)

/-- 'canopytop.TopAnew', WHERE WHAT IT READS IS OF BULK AT MOST 1048576: true; the input reads as it did. -/
def topAnewUptoRow : OpenClaim := { program := "ytilgpdpooildcaagreatdoor", sum := "c7771e2581bfca4723598daf89846edf03b48b879bcc51a792893c074957c738", func := "canopy/canopytop.TopAnew", spec := "topAnew", inPlace := ["internal/bytealg.Compare", "slices.overlaps[canopy/api.Pair]", "slices.overlaps[canopy/api.Tenant]"], unfollowed := true, recurses := true, named := ["canopy/wire.has", "canopy/digest.goes", "canopy/digest.turns", "canopy/digest.rounds"], apart := false, laid := [("canopy/digest.rounds", laid_canopy_digest_rounds), ("canopy/digest.goes", laid_canopy_digest_goes), ("canopy/digest.turns", laid_canopy_digest_turns), ("canopy/wire.has", laid_canopy_wire_has)], narrowed := true }
def TopAnewUptoSaid : Prop := topAnewUptoRow.holds Tryz.pinned (OpenSpec.upto topAnewSpec)

/-- 'canopytop.TopRoots', WHERE WHAT IT READS IS OF BULK AT MOST 1048576: true; the input reads as it did. -/
def topRootsUptoRow : OpenClaim := { program := "ytilgpdpooildcaagreatdoor", sum := "c7771e2581bfca4723598daf89846edf03b48b879bcc51a792893c074957c738", func := "canopy/canopytop.TopRoots", spec := "topRoots", inPlace := ["internal/bytealg.Compare", "slices.overlaps[canopy/api.Pair]", "slices.overlaps[canopy/api.Tenant]"], unfollowed := true, recurses := true, named := ["canopy/wire.has", "canopy/digest.goes", "canopy/digest.turns", "canopy/digest.rounds"], apart := false, laid := [("canopy/digest.rounds", laid_canopy_digest_rounds), ("canopy/digest.goes", laid_canopy_digest_goes), ("canopy/digest.turns", laid_canopy_digest_turns), ("canopy/wire.has", laid_canopy_wire_has)], narrowed := true }
def TopRootsUptoSaid : Prop := topRootsUptoRow.holds Tryz.pinned (OpenSpec.upto topRootsSpec)

/-- 'canopytop.TopBank', WHERE WHAT IT READS IS OF BULK AT MOST 1048576: true; the input reads as it did. -/
def topBankUptoRow : OpenClaim := { program := "ytilgpdpooildcaagreatdoor", sum := "c7771e2581bfca4723598daf89846edf03b48b879bcc51a792893c074957c738", func := "canopy/canopytop.TopBank", spec := "topBank", inPlace := ["internal/bytealg.Compare", "slices.overlaps[canopy/api.Pair]", "slices.overlaps[canopy/api.Tenant]"], unfollowed := true, recurses := true, named := ["canopy/wire.has", "canopy/digest.goes", "canopy/digest.turns", "canopy/digest.rounds"], apart := false, laid := [("canopy/digest.rounds", laid_canopy_digest_rounds), ("canopy/digest.goes", laid_canopy_digest_goes), ("canopy/digest.turns", laid_canopy_digest_turns), ("canopy/wire.has", laid_canopy_wire_has)], narrowed := true }
def TopBankUptoSaid : Prop := topBankUptoRow.holds Tryz.pinned (OpenSpec.upto topBankSpec)

/-- 'canopytop.TopClash', WHERE WHAT IT READS IS OF BULK AT MOST 1048576: true; the input reads as it did. -/
def topClashUptoRow : OpenClaim := { program := "ytilgpdpooildcaagreatdoor", sum := "c7771e2581bfca4723598daf89846edf03b48b879bcc51a792893c074957c738", func := "canopy/canopytop.TopClash", spec := "topClash", inPlace := ["internal/bytealg.Compare", "slices.overlaps[canopy/api.Pair]", "slices.overlaps[canopy/api.Tenant]"], unfollowed := true, recurses := true, named := ["canopy/wire.has", "canopy/digest.goes", "canopy/digest.turns", "canopy/digest.rounds"], apart := false, laid := [("canopy/digest.rounds", laid_canopy_digest_rounds), ("canopy/digest.goes", laid_canopy_digest_goes), ("canopy/digest.turns", laid_canopy_digest_turns), ("canopy/wire.has", laid_canopy_wire_has)], narrowed := true }
def TopClashUptoSaid : Prop := topClashUptoRow.holds Tryz.pinned (OpenSpec.upto topClashSpec)

/-- 'canopytop.TopBlind', WHERE WHAT IT READS IS OF BULK AT MOST 1048576: true; the input reads as it did. -/
def topBlindUptoRow : OpenClaim := { program := "ytilgpdpooildcaagreatdoor", sum := "c7771e2581bfca4723598daf89846edf03b48b879bcc51a792893c074957c738", func := "canopy/canopytop.TopBlind", spec := "topBlind", inPlace := ["internal/bytealg.Compare", "slices.overlaps[canopy/api.Pair]", "slices.overlaps[canopy/api.Tenant]"], unfollowed := true, recurses := true, named := ["canopy/wire.has", "canopy/digest.goes", "canopy/digest.turns", "canopy/digest.rounds"], apart := false, laid := [("canopy/digest.rounds", laid_canopy_digest_rounds), ("canopy/digest.goes", laid_canopy_digest_goes), ("canopy/digest.turns", laid_canopy_digest_turns), ("canopy/wire.has", laid_canopy_wire_has)], narrowed := true }
def TopBlindUptoSaid : Prop := topBlindUptoRow.holds Tryz.pinned (OpenSpec.upto topBlindSpec)

/-- 'canopytop.TopApart', WHERE WHAT IT READS IS OF BULK AT MOST 1048576: true; the input reads as it did. -/
def topApartUptoRow : OpenClaim := { program := "ytilgpdpooildcaagreatdoor", sum := "c7771e2581bfca4723598daf89846edf03b48b879bcc51a792893c074957c738", func := "canopy/canopytop.TopApart", spec := "topApart", inPlace := ["internal/bytealg.Compare", "slices.overlaps[canopy/api.Pair]", "slices.overlaps[canopy/api.Tenant]"], unfollowed := true, recurses := true, named := ["canopy/wire.has", "canopy/digest.goes", "canopy/digest.turns", "canopy/digest.rounds"], apart := false, laid := [("canopy/digest.rounds", laid_canopy_digest_rounds), ("canopy/digest.goes", laid_canopy_digest_goes), ("canopy/digest.turns", laid_canopy_digest_turns), ("canopy/wire.has", laid_canopy_wire_has)], narrowed := true }
def TopApartUptoSaid : Prop := topApartUptoRow.holds Tryz.pinned (OpenSpec.upto topApartSpec)

/-- 'canopytop.TopCounter', WHERE WHAT IT READS IS OF BULK AT MOST 1048576: true; the input reads as it did. -/
def topCounterUptoRow : OpenClaim := { program := "ytilgpdpooildcaagreatdoor", sum := "c7771e2581bfca4723598daf89846edf03b48b879bcc51a792893c074957c738", func := "canopy/canopytop.TopCounter", spec := "topCounter", inPlace := ["internal/bytealg.Compare", "slices.overlaps[canopy/api.Pair]", "slices.overlaps[canopy/api.Tenant]"], unfollowed := true, recurses := true, named := ["canopy/wire.has", "canopy/digest.goes", "canopy/digest.turns", "canopy/digest.rounds"], apart := false, laid := [("canopy/digest.rounds", laid_canopy_digest_rounds), ("canopy/digest.goes", laid_canopy_digest_goes), ("canopy/digest.turns", laid_canopy_digest_turns), ("canopy/wire.has", laid_canopy_wire_has)], narrowed := true }
def TopCounterUptoSaid : Prop := topCounterUptoRow.holds Tryz.pinned (OpenSpec.upto topCounterSpec)

/-- 'canopytop.TopGone', WHERE WHAT IT READS IS OF BULK AT MOST 1048576: true; the input reads as it did. -/
def topGoneUptoRow : OpenClaim := { program := "ytilgpdpooildcaagreatdoor", sum := "c7771e2581bfca4723598daf89846edf03b48b879bcc51a792893c074957c738", func := "canopy/canopytop.TopGone", spec := "topGone", inPlace := ["internal/bytealg.Compare", "slices.overlaps[canopy/api.Pair]", "slices.overlaps[canopy/api.Tenant]"], unfollowed := true, recurses := true, named := ["canopy/wire.has", "canopy/digest.goes", "canopy/digest.turns", "canopy/digest.rounds"], apart := false, laid := [("canopy/digest.rounds", laid_canopy_digest_rounds), ("canopy/digest.goes", laid_canopy_digest_goes), ("canopy/digest.turns", laid_canopy_digest_turns), ("canopy/wire.has", laid_canopy_wire_has)], narrowed := true }
def TopGoneUptoSaid : Prop := topGoneUptoRow.holds Tryz.pinned (OpenSpec.upto topGoneSpec)

/-- 'canopytop.TopQueue', WHERE WHAT IT READS IS OF BULK AT MOST 1048576: true; the input reads as it did. -/
def topQueueUptoRow : OpenClaim := { program := "ytilgpdpooildcaagreatdoor", sum := "c7771e2581bfca4723598daf89846edf03b48b879bcc51a792893c074957c738", func := "canopy/canopytop.TopQueue", spec := "topQueue", inPlace := ["internal/bytealg.Compare", "slices.overlaps[canopy/api.Pair]", "slices.overlaps[canopy/api.Tenant]"], unfollowed := true, recurses := true, named := ["canopy/wire.has", "canopy/digest.goes", "canopy/digest.turns", "canopy/digest.rounds"], apart := false, laid := [("canopy/digest.rounds", laid_canopy_digest_rounds), ("canopy/digest.goes", laid_canopy_digest_goes), ("canopy/digest.turns", laid_canopy_digest_turns), ("canopy/wire.has", laid_canopy_wire_has)], narrowed := true }
def TopQueueUptoSaid : Prop := topQueueUptoRow.holds Tryz.pinned (OpenSpec.upto topQueueSpec)

/-- 'canopytop.TopWaits', WHERE WHAT IT READS IS OF BULK AT MOST 1048576: true; the input reads as it did. -/
def topWaitsUptoRow : OpenClaim := { program := "ytilgpdpooildcaagreatdoor", sum := "c7771e2581bfca4723598daf89846edf03b48b879bcc51a792893c074957c738", func := "canopy/canopytop.TopWaits", spec := "topWaits", inPlace := ["internal/bytealg.Compare", "slices.overlaps[canopy/api.Pair]", "slices.overlaps[canopy/api.Tenant]"], unfollowed := true, recurses := true, named := ["canopy/wire.has", "canopy/digest.goes", "canopy/digest.turns", "canopy/digest.rounds"], apart := false, laid := [("canopy/digest.rounds", laid_canopy_digest_rounds), ("canopy/digest.goes", laid_canopy_digest_goes), ("canopy/digest.turns", laid_canopy_digest_turns), ("canopy/wire.has", laid_canopy_wire_has)], narrowed := true }
def TopWaitsUptoSaid : Prop := topWaitsUptoRow.holds Tryz.pinned (OpenSpec.upto topWaitsSpec)

/-- 'canopytop.TopPhantom', WHERE WHAT IT READS IS OF BULK AT MOST 1048576: true; the input reads as it did. -/
def topPhantomUptoRow : OpenClaim := { program := "ytilgpdpooildcaagreatdoor", sum := "c7771e2581bfca4723598daf89846edf03b48b879bcc51a792893c074957c738", func := "canopy/canopytop.TopPhantom", spec := "topPhantom", inPlace := ["internal/bytealg.Compare", "slices.overlaps[canopy/api.Pair]", "slices.overlaps[canopy/api.Tenant]"], unfollowed := true, recurses := true, named := ["canopy/wire.has", "canopy/digest.goes", "canopy/digest.turns", "canopy/digest.rounds"], apart := false, laid := [("canopy/digest.rounds", laid_canopy_digest_rounds), ("canopy/digest.goes", laid_canopy_digest_goes), ("canopy/digest.turns", laid_canopy_digest_turns), ("canopy/wire.has", laid_canopy_wire_has)], narrowed := true }
def TopPhantomUptoSaid : Prop := topPhantomUptoRow.holds Tryz.pinned (OpenSpec.upto topPhantomSpec)

/-- 'canopytop.TopOwn', WHERE WHAT IT READS IS OF BULK AT MOST 1048576: true; the input reads as it did. -/
def topOwnUptoRow : OpenClaim := { program := "ytilgpdpooildcaagreatdoor", sum := "c7771e2581bfca4723598daf89846edf03b48b879bcc51a792893c074957c738", func := "canopy/canopytop.TopOwn", spec := "topOwn", inPlace := ["internal/bytealg.Compare", "slices.overlaps[canopy/api.Pair]", "slices.overlaps[canopy/api.Tenant]"], unfollowed := true, recurses := true, named := ["canopy/wire.has", "canopy/digest.goes", "canopy/digest.turns", "canopy/digest.rounds"], apart := false, laid := [("canopy/digest.rounds", laid_canopy_digest_rounds), ("canopy/digest.goes", laid_canopy_digest_goes), ("canopy/digest.turns", laid_canopy_digest_turns), ("canopy/wire.has", laid_canopy_wire_has)], narrowed := true }
def TopOwnUptoSaid : Prop := topOwnUptoRow.holds Tryz.pinned (OpenSpec.upto topOwnSpec)

/-- 'canopytop.TopLost', WHERE WHAT IT READS IS OF BULK AT MOST 1048576: true; the input reads as it did. -/
def topLostUptoRow : OpenClaim := { program := "ytilgpdpooildcaagreatdoor", sum := "c7771e2581bfca4723598daf89846edf03b48b879bcc51a792893c074957c738", func := "canopy/canopytop.TopLost", spec := "topLost", inPlace := ["internal/bytealg.Compare", "slices.overlaps[canopy/api.Pair]", "slices.overlaps[canopy/api.Tenant]"], unfollowed := true, recurses := true, named := ["canopy/wire.has", "canopy/digest.goes", "canopy/digest.turns", "canopy/digest.rounds"], apart := false, laid := [("canopy/digest.rounds", laid_canopy_digest_rounds), ("canopy/digest.goes", laid_canopy_digest_goes), ("canopy/digest.turns", laid_canopy_digest_turns), ("canopy/wire.has", laid_canopy_wire_has)], narrowed := true }
def TopLostUptoSaid : Prop := topLostUptoRow.holds Tryz.pinned (OpenSpec.upto topLostSpec)

end Rows
end Go.Proofs.YtilgpdpooildcaaGreatDoor
