/- The law TopOwn: for every input the call returns true, and each argument reads behind the call as it read before. -/
import Derived.Test.YtilgpdpooildcaaGreatDoorCTopOwn
import Derived.Test.YtilgpdpooildcaaGreatDoorBT1
import Derived.Test.YtilgpdpooildcaaGreatDoorBT2
import Derived.Test.YtilgpdpooildcaaGreatDoorBT12
namespace Go.Proofs.YtilgpdpooildcaaGreatDoor
set_option maxHeartbeats 8000000
open Go.ChangeShapes Go.WideShapes Go.ChangeAt Go.RowKit
set_option linter.unusedVariables false
theorem topOwn_own : ownKnob Tryz.prog.godebug = none := by kernel_rfl
theorem topOwn_laidOut : laidOutB Tryz.prog = true := seat_laidOut
theorem topOwn_j1 : (Rows.topOwnRow.wf (OpenSpec.ofChange Rows.topOwnSpec)) = true := by kernel_rfl
theorem topOwn_j4 : (Tryz.f17.params.all (Tryz.pinned.checked.prog.readableRec ·)) = true := by kernel_rfl
theorem topOwn_j5 : (namedTie Tryz.pinned.checked.prog Rows.topOwnRow.named Rows.topOwnSpec.vars) = true := by kernel_rfl
theorem topOwn_j6 : ((Rows.topOwnRow.stops == [])) = true := by kernel_rfl
theorem topOwn_j8 : ((Rows.topOwnRow.knobs == [])) = true := by kernel_rfl
theorem topOwn_j10 : ((Rows.topOwnRow.inPlace == Tryz.pinned.checked.prog.inPlace 17)) = true := by kernel_rfl
theorem topOwn_j11 : ((Rows.topOwnRow.unfollowed == Tryz.pinned.checked.prog.unfollowed 17)) = true := by kernel_rfl
theorem topOwn_j12 : ((Rows.topOwnRow.recurses == Tryz.pinned.checked.prog.recurses 17)) = true := by kernel_rfl
theorem topOwn_j13 : ((Rows.topOwnRow.named == Tryz.pinned.checked.prog.varsNamed 17)) = true := by kernel_rfl
theorem topOwn_j14 : ((Rows.topOwnRow.maps == (Tryz.f17.params.toList ++ Rows.topOwnSpec.plain.varTypes Tryz.pinned.checked.prog).any (Tryz.pinned.checked.prog.mapsRec ·))) = true := by kernel_rfl
theorem topOwn_j15 : ((Rows.topOwnRow.ifaces == (Tryz.f17.params.toList ++ Rows.topOwnSpec.plain.varTypes Tryz.pinned.checked.prog).any (Tryz.pinned.checked.prog.ifacesRec ·))) = true := by kernel_rfl
theorem topOwn_j16 : ((Rows.topOwnRow.mapsOut == Tryz.pinned.checked.prog.mapsAmong Tryz.f17.resultTypes.toList)) = true := by kernel_rfl
theorem topOwn_j17 : ((Rows.topOwnRow.loops == (Tryz.f17.params.toList ++ Rows.topOwnSpec.plain.varTypes Tryz.pinned.checked.prog).any (Tryz.pinned.checked.prog.loopsFrom ·))) = true := by kernel_rfl
theorem topOwn_j18 : ((Rows.topOwnRow.wideKeys == (Tryz.f17.params.toList ++ Rows.topOwnSpec.plain.varTypes Tryz.pinned.checked.prog ++ Tryz.f17.resultTypes.toList).any (Tryz.pinned.checked.prog.wideKeysFrom ·))) = true := by kernel_rfl
theorem topOwn_j19 : (Rows.topOwnSpec.vars.all (Tryz.pinned.checked.prog.varReadable ·)) = true := by kernel_rfl
theorem topOwn_j20 : (Tryz.f17.resultTypes.all (fun t => Tryz.pinned.checked.prog.readableRec t && decide (t < Tryz.pinned.checked.prog.types.size))) = true := by kernel_rfl
theorem topOwn_j21 : ((Rows.topOwnRow.ifacesOut == Tryz.f17.resultTypes.toList.any (Tryz.pinned.checked.prog.ifacesRec ·))) = true := by kernel_rfl
theorem topOwn_j22 : ((Rows.topOwnRow.loopsOut == Tryz.f17.resultTypes.toList.any (Tryz.pinned.checked.prog.loopsFrom ·))) = true := by kernel_rfl
theorem topOwn_j23 : ((Rows.topOwnRow.plainKeys == Tryz.pinned.checked.prog.plainKeys)) = true := by kernel_rfl
theorem topOwn_j24 : (Rows.topOwnRow.shortTexts.isNone) = true := by kernel_rfl
theorem topOwn_j27 : (Rows.topOwnRow.lifted == Tryz.pinned.checked.prog.liftsFinal) = true := (congrArg (fun b => Rows.topOwnRow.lifted == b) seat_liftsFinal).trans (by kernel_rfl)
theorem topOwn_j28 : (Tryz.pinned.checked.prog.make == some Rows.topOwnRow.make) = true := (congrArg (fun b => b == some Rows.topOwnRow.make) seat_make).trans (by kernel_rfl)
theorem topOwn_j29 : ((Rows.topOwnRow.kinds == (if Rows.topOwnRow.domain.isEmpty then [] else Tryz.f17.params.toList.map fun t => match Tryz.pinned.checked.prog.underlying t with | some (.int k) => some k | _ => none))) = true := by kernel_rfl
theorem topOwn_j30 : ((Rows.topOwnRow.pinned == Rows.topOwnRow.pinnedBy)) = true := by kernel_rfl
theorem topOwn_j31 : ((Rows.topOwnRow.veiled == (Tryz.f17.params.toList ++ Rows.topOwnSpec.plain.varTypes Tryz.pinned.checked.prog ++ Tryz.f17.resultTypes.toList).any (Tryz.pinned.checked.prog.veiledRec ·))) = true := by kernel_rfl
theorem topOwn_j32 : (Rows.topOwnRow.veiledFits Tryz.pinned.checked.prog Tryz.f17.params.toList (Tryz.f17.params.toList ++ Rows.topOwnSpec.plain.varTypes Tryz.pinned.checked.prog ++ Tryz.f17.resultTypes.toList)) = true := by kernel_rfl
theorem topOwn_met (os : Os) : laidMet Tryz.prog Rows.topOwnRow.laid ((topWorld os).forCall (fun _ _ => 0) ⟨#[], #[.int .i64 0, .bool false], []⟩).memory :=
  laidMet_of_run' 8 (by kernel_rfl) (by kernel_rfl)
theorem topOwn_reads (os : Os) {H : Type} (enc : TypeId × Value → H) : ∃ x, DataW.whole enc Tryz.prog ((topWorld os).forCall (fun _ _ => 0) ⟨#[], #[.int .i64 0, .bool false], []⟩).memory Tryz.f17.params.toList Rows.topOwnSpec.vars false (#[.int .i64 0, .bool false] : Array Value).toList 8 = some x :=
  Option.isSome_iff_exists.1 (by kernel_rfl)
set_option maxRecDepth 100000 in
theorem topOwn_lifted (os : Os) (started : os.Started) (H : Type) (enc : TypeId × Value → H) (F : Stop.Interp) :
    ReturnsInHanded {} Tryz.checked os 17 .any ((OpenSpec.ofChange Rows.topOwnSpec).preRow enc Tryz.prog Tryz.f17 Rows.topOwnRow.domain false Rows.topOwnRow.laid) (((OpenSpec.ofChange Rows.topOwnSpec).at F).post enc Tryz.prog Tryz.f17 false true false false) := by
 obtain ⟨places, hx⟩ := topOwn_reads os enc
 refine returnsInHanded_of_row (C := Tryz.checked) (s := OpenSpec.ofChange Rows.topOwnSpec) topOwn_own started (by kernel_rfl) Tryz.func17
  (witness_row_at (enc := enc) (C := Tryz.checked) false (topWorld os) #[.int .i64 0, .bool false] rfl (by kernel_rfl) (by kernel_rfl) (by kernel_rfl)
   (OpenSpec.preRow_of_cond 8 hx rfl (fun k hk => by cases hk) (by kernel_rfl) (topOwn_met os))) ?_
 intro W base args ds gs before hval0 hW _ _ hsz hL _ _
 have hval : ∀ (j : Nat) t v, Tryz.f17.params[j]? = some t → args[j]? = some v → Value.okWide Tryz.prog W .any base t v := hval0
 have hW' := hW
 obtain ⟨p, q, hA0, hV, rfl, hfz, hnd⟩ := hW
 have hA : DataW.TrodAll enc Tryz.prog W 0 (fun _ => true) true Tryz.f17.params.toList args.toList ds p := hA0
 rw [Tryz.params17] at hA hval
 have hT := top_met hL
 obtain ⟨v0, vs0, d0, ds0, p0, q0, hargs, rfl, rfl, h0, r0⟩ := trodAll_cons hA
 obtain ⟨v1, vs1, d1, ds1, p1, q1, rfl, rfl, rfl, h1, r1⟩ := trodAll_cons r0
 obtain ⟨rfl, rfl, rfl⟩ := trodAll_nil r1
 obtain rfl : args = #[v0, v1] := by cases args; simp_all
 obtain ⟨rfl, rfl⟩ := trodVars_none hV
 have k0 := h0
 have lt0 : ∀ x ∈ p0, x.block < W.heap.size := by obtain ⟨m, hm⟩ := k0; exact DataW.trod_lt m _ _ _ hm
 obtain ⟨x0, rfl, _, _, wx0⟩ := open_int Tryz.underlying3 (hval 0 3 v0 rfl rfl) h0
 have b0 := bounds_i64 wx0
 have k1 := h1
 have lt1 : ∀ x ∈ p1, x.block < W.heap.size := by obtain ⟨m, hm⟩ := k1; exact DataW.trod_lt m _ _ _ hm
 obtain ⟨z1, rfl⟩ := okWide_bool Tryz.underlying4 (hval 1 4 v1 rfl rfl)
 clear hA0 hval0
 refine (topOwn_walk W hT x0 z1).mono fun e W' ⟨he, bel⟩ => ?_
 subst he
 exact ⟨_, rfl, _, _, _, [], _, [], hW', trodAll_mk1 (shut_bool Tryz.underlying4 _), (trodAll_cons_mk (Below.trod topOwn_laidOut (by kernel_rfl) (of_decide_eq_true (by kernel_rfl)) k0 bel lt0) (trodAll_cons_mk (Below.trod topOwn_laidOut (by kernel_rfl) (of_decide_eq_true (by kernel_rfl)) k1 bel lt1) trodAll_mk0)), rfl, bel.frame _, fun h => by cases h⟩
set_option maxRecDepth 1000000 in
theorem topOwn_said : Rows.TopOwnSaid :=
  OpenClaim.holds_of_cond 17 Tryz.f17 rfl rfl rfl rfl rfl rfl rfl ⟨rfl, rfl, rfl, rfl, rfl⟩ rfl rfl rfl rfl rfl (by as_aux_lemma => kernel_rfl) Tryz.func17 (joined_mk topOwn_j1 seat_laidOut seat_mapsRowed topOwn_j4 topOwn_j5 topOwn_j6 seat_stops topOwn_j8 seat_stopKnobs topOwn_j10 topOwn_j11 topOwn_j12 topOwn_j13 topOwn_j14 topOwn_j15 topOwn_j16 topOwn_j17 topOwn_j18 topOwn_j19 topOwn_j20 topOwn_j21 topOwn_j22 topOwn_j23 topOwn_j24 seat_stopsHeard seat_mayEnter topOwn_j27 topOwn_j28 topOwn_j29 topOwn_j30 topOwn_j31 topOwn_j32)
    (of_decide_eq_true (by as_aux_lemma => kernel_rfl)) (by unfold Func.isWrapper; first | (rw [if_pos (by decide +kernel)]; kernel_rfl) | (rw [if_neg (by decide +kernel)]; exact ⟨rfl, rfl⟩))
    (fun os started H enc _ F => by rw [OpenClaim.pre_eq_preRow]; exact topOwn_lifted os started H enc F)
theorem topOwn_plain (f : FuncId) (fn : Func) (hf : Tryz.pinned.checked.prog.funcNamed "canopy/canopytop.TopOwn" = some f) (hfn : Tryz.pinned.checked.prog.funcs[f]? = some fn) :
    false = Tryz.pinned.checked.prog.looks [] ∧ ∀ (j : Nat) t, fn.params[j]? = some t → Tryz.pinned.checked.prog.wantsStandIn t = false := by
 obtain rfl : f = 17 := Option.some.inj ((show Tryz.prog.funcNamed "canopy/canopytop.TopOwn" = some 17 by kernel_rfl).symm.trans hf) |>.symm
 obtain rfl : fn = Tryz.f17 := (Option.some.inj (Tryz.func17.symm.trans hfn)).symm
 refine ⟨by kernel_rfl, fun j t ht => ?_⟩
 have hall : (Tryz.f17.params.all fun t => !Tryz.prog.wantsStandIn t) = true := by kernel_rfl
 have := Array.all_eq_true_iff_forall_mem.1 hall t (Array.mem_of_getElem? ht)
 show Tryz.prog.wantsStandIn t = false
 simpa using this
set_option maxRecDepth 1000000 in
theorem topOwn_holds : Rows.TopOwnCardSaid :=
  Claim7.holds_tied_plain_at .later [] _ _ _ _ topOwn_said (fun _ h => by cases h) (by kernel_rfl) (fun _ h => by cases h) topOwn_row_tie rfl ⟨rfl, rfl⟩ (by kernel_rfl) rfl topOwn_plain (by kernel_rfl)
#print axioms topOwn_holds
end Go.Proofs.YtilgpdpooildcaaGreatDoor
