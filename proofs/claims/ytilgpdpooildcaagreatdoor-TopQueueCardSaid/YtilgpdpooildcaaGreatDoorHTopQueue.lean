/- The law TopQueue: for every input the call returns true, and each argument reads behind the call as it read before. -/
import Derived.Test.YtilgpdpooildcaaGreatDoorCTopQueue
import Derived.Test.YtilgpdpooildcaaGreatDoorBT1
import Derived.Test.YtilgpdpooildcaaGreatDoorBT2
import Derived.Test.YtilgpdpooildcaaGreatDoorBT12
namespace Go.Proofs.YtilgpdpooildcaaGreatDoor
set_option maxHeartbeats 8000000
open Go.ChangeShapes Go.WideShapes Go.ChangeAt Go.RowKit
set_option linter.unusedVariables false
theorem topQueue_own : ownKnob Tryz.prog.godebug = none := by kernel_rfl
theorem topQueue_laidOut : laidOutB Tryz.prog = true := seat_laidOut
theorem topQueue_j1 : (Rows.topQueueRow.wf (OpenSpec.ofChange Rows.topQueueSpec)) = true := by kernel_rfl
theorem topQueue_j4 : (Tryz.f14.params.all (Tryz.pinned.checked.prog.readableRec ·)) = true := by kernel_rfl
theorem topQueue_j5 : (namedTie Tryz.pinned.checked.prog Rows.topQueueRow.named Rows.topQueueSpec.vars) = true := by kernel_rfl
theorem topQueue_j6 : ((Rows.topQueueRow.stops == [])) = true := by kernel_rfl
theorem topQueue_j8 : ((Rows.topQueueRow.knobs == [])) = true := by kernel_rfl
theorem topQueue_j10 : ((Rows.topQueueRow.inPlace == Tryz.pinned.checked.prog.inPlace 14)) = true := by kernel_rfl
theorem topQueue_j11 : ((Rows.topQueueRow.unfollowed == Tryz.pinned.checked.prog.unfollowed 14)) = true := by kernel_rfl
theorem topQueue_j12 : ((Rows.topQueueRow.recurses == Tryz.pinned.checked.prog.recurses 14)) = true := by kernel_rfl
theorem topQueue_j13 : ((Rows.topQueueRow.named == Tryz.pinned.checked.prog.varsNamed 14)) = true := by kernel_rfl
theorem topQueue_j14 : ((Rows.topQueueRow.maps == (Tryz.f14.params.toList ++ Rows.topQueueSpec.plain.varTypes Tryz.pinned.checked.prog).any (Tryz.pinned.checked.prog.mapsRec ·))) = true := by kernel_rfl
theorem topQueue_j15 : ((Rows.topQueueRow.ifaces == (Tryz.f14.params.toList ++ Rows.topQueueSpec.plain.varTypes Tryz.pinned.checked.prog).any (Tryz.pinned.checked.prog.ifacesRec ·))) = true := by kernel_rfl
theorem topQueue_j16 : ((Rows.topQueueRow.mapsOut == Tryz.pinned.checked.prog.mapsAmong Tryz.f14.resultTypes.toList)) = true := by kernel_rfl
theorem topQueue_j17 : ((Rows.topQueueRow.loops == (Tryz.f14.params.toList ++ Rows.topQueueSpec.plain.varTypes Tryz.pinned.checked.prog).any (Tryz.pinned.checked.prog.loopsFrom ·))) = true := by kernel_rfl
theorem topQueue_j18 : ((Rows.topQueueRow.wideKeys == (Tryz.f14.params.toList ++ Rows.topQueueSpec.plain.varTypes Tryz.pinned.checked.prog ++ Tryz.f14.resultTypes.toList).any (Tryz.pinned.checked.prog.wideKeysFrom ·))) = true := by kernel_rfl
theorem topQueue_j19 : (Rows.topQueueSpec.vars.all (Tryz.pinned.checked.prog.varReadable ·)) = true := by kernel_rfl
theorem topQueue_j20 : (Tryz.f14.resultTypes.all (fun t => Tryz.pinned.checked.prog.readableRec t && decide (t < Tryz.pinned.checked.prog.types.size))) = true := by kernel_rfl
theorem topQueue_j21 : ((Rows.topQueueRow.ifacesOut == Tryz.f14.resultTypes.toList.any (Tryz.pinned.checked.prog.ifacesRec ·))) = true := by kernel_rfl
theorem topQueue_j22 : ((Rows.topQueueRow.loopsOut == Tryz.f14.resultTypes.toList.any (Tryz.pinned.checked.prog.loopsFrom ·))) = true := by kernel_rfl
theorem topQueue_j23 : ((Rows.topQueueRow.plainKeys == Tryz.pinned.checked.prog.plainKeys)) = true := by kernel_rfl
theorem topQueue_j24 : (Rows.topQueueRow.shortTexts.isNone) = true := by kernel_rfl
theorem topQueue_j27 : (Rows.topQueueRow.lifted == Tryz.pinned.checked.prog.liftsFinal) = true := (congrArg (fun b => Rows.topQueueRow.lifted == b) seat_liftsFinal).trans (by kernel_rfl)
theorem topQueue_j28 : (Tryz.pinned.checked.prog.make == some Rows.topQueueRow.make) = true := (congrArg (fun b => b == some Rows.topQueueRow.make) seat_make).trans (by kernel_rfl)
theorem topQueue_j29 : ((Rows.topQueueRow.kinds == (if Rows.topQueueRow.domain.isEmpty then [] else Tryz.f14.params.toList.map fun t => match Tryz.pinned.checked.prog.underlying t with | some (.int k) => some k | _ => none))) = true := by kernel_rfl
theorem topQueue_j30 : ((Rows.topQueueRow.pinned == Rows.topQueueRow.pinnedBy)) = true := by kernel_rfl
theorem topQueue_j31 : ((Rows.topQueueRow.veiled == (Tryz.f14.params.toList ++ Rows.topQueueSpec.plain.varTypes Tryz.pinned.checked.prog ++ Tryz.f14.resultTypes.toList).any (Tryz.pinned.checked.prog.veiledRec ·))) = true := by kernel_rfl
theorem topQueue_j32 : (Rows.topQueueRow.veiledFits Tryz.pinned.checked.prog Tryz.f14.params.toList (Tryz.f14.params.toList ++ Rows.topQueueSpec.plain.varTypes Tryz.pinned.checked.prog ++ Tryz.f14.resultTypes.toList)) = true := by kernel_rfl
theorem topQueue_met (os : Os) : laidMet Tryz.prog Rows.topQueueRow.laid ((topWorld os).forCall (fun _ _ => 0) ⟨#[], #[.int .i64 0], []⟩).memory :=
  laidMet_of_run' 8 (by kernel_rfl) (by kernel_rfl)
theorem topQueue_reads (os : Os) {H : Type} (enc : TypeId × Value → H) : ∃ x, DataW.whole enc Tryz.prog ((topWorld os).forCall (fun _ _ => 0) ⟨#[], #[.int .i64 0], []⟩).memory Tryz.f14.params.toList Rows.topQueueSpec.vars false (#[.int .i64 0] : Array Value).toList 8 = some x :=
  Option.isSome_iff_exists.1 (by kernel_rfl)
set_option maxRecDepth 100000 in
theorem topQueue_lifted (os : Os) (started : os.Started) (H : Type) (enc : TypeId × Value → H) (F : Stop.Interp) :
    ReturnsInHanded {} Tryz.checked os 14 .any ((OpenSpec.ofChange Rows.topQueueSpec).preRow enc Tryz.prog Tryz.f14 Rows.topQueueRow.domain false Rows.topQueueRow.laid) (((OpenSpec.ofChange Rows.topQueueSpec).at F).post enc Tryz.prog Tryz.f14 false true false false) := by
 obtain ⟨places, hx⟩ := topQueue_reads os enc
 refine returnsInHanded_of_row (C := Tryz.checked) (s := OpenSpec.ofChange Rows.topQueueSpec) topQueue_own started (by kernel_rfl) Tryz.func14
  (witness_row_at (enc := enc) (C := Tryz.checked) false (topWorld os) #[.int .i64 0] rfl (by kernel_rfl) (by kernel_rfl) (by kernel_rfl)
   (OpenSpec.preRow_of_cond 8 hx rfl (fun k hk => by cases hk) (by kernel_rfl) (topQueue_met os))) ?_
 intro W base args ds gs before hval0 hW _ _ hsz hL _ _
 have hval : ∀ (j : Nat) t v, Tryz.f14.params[j]? = some t → args[j]? = some v → Value.okWide Tryz.prog W .any base t v := hval0
 have hW' := hW
 obtain ⟨p, q, hA0, hV, rfl, hfz, hnd⟩ := hW
 have hA : DataW.TrodAll enc Tryz.prog W 0 (fun _ => true) true Tryz.f14.params.toList args.toList ds p := hA0
 rw [Tryz.params14] at hA hval
 have hT := top_met hL
 obtain ⟨v0, vs0, d0, ds0, p0, q0, hargs, rfl, rfl, h0, r0⟩ := trodAll_cons hA
 obtain ⟨rfl, rfl, rfl⟩ := trodAll_nil r0
 obtain rfl : args = #[v0] := by cases args; simp_all
 obtain ⟨rfl, rfl⟩ := trodVars_none hV
 have k0 := h0
 have lt0 : ∀ x ∈ p0, x.block < W.heap.size := by obtain ⟨m, hm⟩ := k0; exact DataW.trod_lt m _ _ _ hm
 obtain ⟨x0, rfl, _, _, wx0⟩ := open_int Tryz.underlying3 (hval 0 3 v0 rfl rfl) h0
 have b0 := bounds_i64 wx0
 clear hA0 hval0
 refine (topQueue_walk W hT x0 b0.1 b0.2).mono fun e W' ⟨he, bel⟩ => ?_
 subst he
 exact ⟨_, rfl, _, _, _, [], _, [], hW', trodAll_mk1 (shut_bool Tryz.underlying4 _), (trodAll_cons_mk (Below.trod topQueue_laidOut (by kernel_rfl) (of_decide_eq_true (by kernel_rfl)) k0 bel lt0) trodAll_mk0), rfl, bel.frame _, fun h => by cases h⟩
set_option maxRecDepth 1000000 in
theorem topQueue_said : Rows.TopQueueSaid :=
  OpenClaim.holds_of_cond 14 Tryz.f14 rfl rfl rfl rfl rfl rfl rfl ⟨rfl, rfl, rfl, rfl, rfl⟩ rfl rfl rfl rfl rfl (by as_aux_lemma => kernel_rfl) Tryz.func14 (joined_mk topQueue_j1 seat_laidOut seat_mapsRowed topQueue_j4 topQueue_j5 topQueue_j6 seat_stops topQueue_j8 seat_stopKnobs topQueue_j10 topQueue_j11 topQueue_j12 topQueue_j13 topQueue_j14 topQueue_j15 topQueue_j16 topQueue_j17 topQueue_j18 topQueue_j19 topQueue_j20 topQueue_j21 topQueue_j22 topQueue_j23 topQueue_j24 seat_stopsHeard seat_mayEnter topQueue_j27 topQueue_j28 topQueue_j29 topQueue_j30 topQueue_j31 topQueue_j32)
    (of_decide_eq_true (by as_aux_lemma => kernel_rfl)) (by unfold Func.isWrapper; first | (rw [if_pos (by decide +kernel)]; kernel_rfl) | (rw [if_neg (by decide +kernel)]; exact ⟨rfl, rfl⟩))
    (fun os started H enc _ F => by rw [OpenClaim.pre_eq_preRow]; exact topQueue_lifted os started H enc F)
theorem topQueue_plain (f : FuncId) (fn : Func) (hf : Tryz.pinned.checked.prog.funcNamed "canopy/canopytop.TopQueue" = some f) (hfn : Tryz.pinned.checked.prog.funcs[f]? = some fn) :
    false = Tryz.pinned.checked.prog.looks [] ∧ ∀ (j : Nat) t, fn.params[j]? = some t → Tryz.pinned.checked.prog.wantsStandIn t = false := by
 obtain rfl : f = 14 := Option.some.inj ((show Tryz.prog.funcNamed "canopy/canopytop.TopQueue" = some 14 by kernel_rfl).symm.trans hf) |>.symm
 obtain rfl : fn = Tryz.f14 := (Option.some.inj (Tryz.func14.symm.trans hfn)).symm
 refine ⟨by kernel_rfl, fun j t ht => ?_⟩
 have hall : (Tryz.f14.params.all fun t => !Tryz.prog.wantsStandIn t) = true := by kernel_rfl
 have := Array.all_eq_true_iff_forall_mem.1 hall t (Array.mem_of_getElem? ht)
 show Tryz.prog.wantsStandIn t = false
 simpa using this
set_option maxRecDepth 1000000 in
theorem topQueue_holds : Rows.TopQueueCardSaid :=
  Claim7.holds_tied_plain_at .later [] _ _ _ _ topQueue_said (fun _ h => by cases h) (by kernel_rfl) (fun _ h => by cases h) topQueue_row_tie rfl ⟨rfl, rfl⟩ (by kernel_rfl) rfl topQueue_plain (by kernel_rfl)
#print axioms topQueue_holds
end Go.Proofs.YtilgpdpooildcaaGreatDoor
