/- The law TopGone: for every input the call returns true, and each argument reads behind the call as it read before. -/
import Derived.Test.YtilgpdpooildcaaGreatDoorCTopGone
import Derived.Test.YtilgpdpooildcaaGreatDoorBT1
import Derived.Test.YtilgpdpooildcaaGreatDoorBT2
import Derived.Test.YtilgpdpooildcaaGreatDoorBT12
namespace Go.Proofs.YtilgpdpooildcaaGreatDoor
set_option maxHeartbeats 8000000
open Go.ChangeShapes Go.WideShapes Go.ChangeAt Go.RowKit
set_option linter.unusedVariables false
theorem topGone_own : ownKnob Tryz.prog.godebug = none := by kernel_rfl
theorem topGone_laidOut : laidOutB Tryz.prog = true := seat_laidOut
theorem topGone_j1 : (Rows.topGoneRow.wf (OpenSpec.ofChange Rows.topGoneSpec)) = true := by kernel_rfl
theorem topGone_j4 : (Tryz.f13.params.all (Tryz.pinned.checked.prog.readableRec ·)) = true := by kernel_rfl
theorem topGone_j5 : (namedTie Tryz.pinned.checked.prog Rows.topGoneRow.named Rows.topGoneSpec.vars) = true := by kernel_rfl
theorem topGone_j6 : ((Rows.topGoneRow.stops == [])) = true := by kernel_rfl
theorem topGone_j8 : ((Rows.topGoneRow.knobs == [])) = true := by kernel_rfl
theorem topGone_j10 : ((Rows.topGoneRow.inPlace == Tryz.pinned.checked.prog.inPlace 13)) = true := by kernel_rfl
theorem topGone_j11 : ((Rows.topGoneRow.unfollowed == Tryz.pinned.checked.prog.unfollowed 13)) = true := by kernel_rfl
theorem topGone_j12 : ((Rows.topGoneRow.recurses == Tryz.pinned.checked.prog.recurses 13)) = true := by kernel_rfl
theorem topGone_j13 : ((Rows.topGoneRow.named == Tryz.pinned.checked.prog.varsNamed 13)) = true := by kernel_rfl
theorem topGone_j14 : ((Rows.topGoneRow.maps == (Tryz.f13.params.toList ++ Rows.topGoneSpec.plain.varTypes Tryz.pinned.checked.prog).any (Tryz.pinned.checked.prog.mapsRec ·))) = true := by kernel_rfl
theorem topGone_j15 : ((Rows.topGoneRow.ifaces == (Tryz.f13.params.toList ++ Rows.topGoneSpec.plain.varTypes Tryz.pinned.checked.prog).any (Tryz.pinned.checked.prog.ifacesRec ·))) = true := by kernel_rfl
theorem topGone_j16 : ((Rows.topGoneRow.mapsOut == Tryz.pinned.checked.prog.mapsAmong Tryz.f13.resultTypes.toList)) = true := by kernel_rfl
theorem topGone_j17 : ((Rows.topGoneRow.loops == (Tryz.f13.params.toList ++ Rows.topGoneSpec.plain.varTypes Tryz.pinned.checked.prog).any (Tryz.pinned.checked.prog.loopsFrom ·))) = true := by kernel_rfl
theorem topGone_j18 : ((Rows.topGoneRow.wideKeys == (Tryz.f13.params.toList ++ Rows.topGoneSpec.plain.varTypes Tryz.pinned.checked.prog ++ Tryz.f13.resultTypes.toList).any (Tryz.pinned.checked.prog.wideKeysFrom ·))) = true := by kernel_rfl
theorem topGone_j19 : (Rows.topGoneSpec.vars.all (Tryz.pinned.checked.prog.varReadable ·)) = true := by kernel_rfl
theorem topGone_j20 : (Tryz.f13.resultTypes.all (fun t => Tryz.pinned.checked.prog.readableRec t && decide (t < Tryz.pinned.checked.prog.types.size))) = true := by kernel_rfl
theorem topGone_j21 : ((Rows.topGoneRow.ifacesOut == Tryz.f13.resultTypes.toList.any (Tryz.pinned.checked.prog.ifacesRec ·))) = true := by kernel_rfl
theorem topGone_j22 : ((Rows.topGoneRow.loopsOut == Tryz.f13.resultTypes.toList.any (Tryz.pinned.checked.prog.loopsFrom ·))) = true := by kernel_rfl
theorem topGone_j23 : ((Rows.topGoneRow.plainKeys == Tryz.pinned.checked.prog.plainKeys)) = true := by kernel_rfl
theorem topGone_j24 : (Rows.topGoneRow.shortTexts.isNone) = true := by kernel_rfl
theorem topGone_j27 : (Rows.topGoneRow.lifted == Tryz.pinned.checked.prog.liftsFinal) = true := (congrArg (fun b => Rows.topGoneRow.lifted == b) seat_liftsFinal).trans (by kernel_rfl)
theorem topGone_j28 : (Tryz.pinned.checked.prog.make == some Rows.topGoneRow.make) = true := (congrArg (fun b => b == some Rows.topGoneRow.make) seat_make).trans (by kernel_rfl)
theorem topGone_j29 : ((Rows.topGoneRow.kinds == (if Rows.topGoneRow.domain.isEmpty then [] else Tryz.f13.params.toList.map fun t => match Tryz.pinned.checked.prog.underlying t with | some (.int k) => some k | _ => none))) = true := by kernel_rfl
theorem topGone_j30 : ((Rows.topGoneRow.pinned == Rows.topGoneRow.pinnedBy)) = true := by kernel_rfl
theorem topGone_j31 : ((Rows.topGoneRow.veiled == (Tryz.f13.params.toList ++ Rows.topGoneSpec.plain.varTypes Tryz.pinned.checked.prog ++ Tryz.f13.resultTypes.toList).any (Tryz.pinned.checked.prog.veiledRec ·))) = true := by kernel_rfl
theorem topGone_j32 : (Rows.topGoneRow.veiledFits Tryz.pinned.checked.prog Tryz.f13.params.toList (Tryz.f13.params.toList ++ Rows.topGoneSpec.plain.varTypes Tryz.pinned.checked.prog ++ Tryz.f13.resultTypes.toList)) = true := by kernel_rfl
theorem topGone_met (os : Os) : laidMet Tryz.prog Rows.topGoneRow.laid ((topWorld os).forCall (fun _ _ => 0) ⟨#[], #[.int .i64 0], []⟩).memory :=
  laidMet_of_run' 8 (by kernel_rfl) (by kernel_rfl)
theorem topGone_reads (os : Os) {H : Type} (enc : TypeId × Value → H) : ∃ x, DataW.whole enc Tryz.prog ((topWorld os).forCall (fun _ _ => 0) ⟨#[], #[.int .i64 0], []⟩).memory Tryz.f13.params.toList Rows.topGoneSpec.vars false (#[.int .i64 0] : Array Value).toList 8 = some x :=
  Option.isSome_iff_exists.1 (by kernel_rfl)
set_option maxRecDepth 100000 in
theorem topGone_lifted (os : Os) (started : os.Started) (H : Type) (enc : TypeId × Value → H) (F : Stop.Interp) :
    ReturnsInHanded {} Tryz.checked os 13 .any ((OpenSpec.ofChange Rows.topGoneSpec).preRow enc Tryz.prog Tryz.f13 Rows.topGoneRow.domain false Rows.topGoneRow.laid) (((OpenSpec.ofChange Rows.topGoneSpec).at F).post enc Tryz.prog Tryz.f13 false true false false) := by
 obtain ⟨places, hx⟩ := topGone_reads os enc
 refine returnsInHanded_of_row (C := Tryz.checked) (s := OpenSpec.ofChange Rows.topGoneSpec) topGone_own started (by kernel_rfl) Tryz.func13
  (witness_row_at (enc := enc) (C := Tryz.checked) false (topWorld os) #[.int .i64 0] rfl (by kernel_rfl) (by kernel_rfl) (by kernel_rfl)
   (OpenSpec.preRow_of_cond 8 hx rfl (fun k hk => by cases hk) (by kernel_rfl) (topGone_met os))) ?_
 intro W base args ds gs before hval0 hW _ _ hsz hL _ _
 have hval : ∀ (j : Nat) t v, Tryz.f13.params[j]? = some t → args[j]? = some v → Value.okWide Tryz.prog W .any base t v := hval0
 have hW' := hW
 obtain ⟨p, q, hA0, hV, rfl, hfz, hnd⟩ := hW
 have hA : DataW.TrodAll enc Tryz.prog W 0 (fun _ => true) true Tryz.f13.params.toList args.toList ds p := hA0
 rw [Tryz.params13] at hA hval
 have hT := top_met hL
 obtain ⟨v0, vs0, d0, ds0, p0, q0, hargs, rfl, rfl, h0, r0⟩ := trodAll_cons hA
 obtain ⟨rfl, rfl, rfl⟩ := trodAll_nil r0
 obtain rfl : args = #[v0] := by cases args; simp_all
 obtain ⟨rfl, rfl⟩ := trodVars_none hV
 have k0 := h0
 have lt0 : ∀ x ∈ p0, x.block < W.heap.size := by obtain ⟨m, hm⟩ := k0; exact DataW.trod_lt m _ _ _ hm
 obtain ⟨x0, rfl, _, _, wx0⟩ := open_int Tryz.underlying3 (hval 0 3 v0 rfl rfl) h0
 have b0 := bounds_i64 wx0
 clear hA0 hval0
 refine (topGone_walk W hT x0 b0.1 b0.2).mono fun e W' ⟨he, bel⟩ => ?_
 subst he
 exact ⟨_, rfl, _, _, _, [], _, [], hW', trodAll_mk1 (shut_bool Tryz.underlying4 _), (trodAll_cons_mk (Below.trod topGone_laidOut (by kernel_rfl) (of_decide_eq_true (by kernel_rfl)) k0 bel lt0) trodAll_mk0), rfl, bel.frame _, fun h => by cases h⟩
set_option maxRecDepth 1000000 in
theorem topGone_said : Rows.TopGoneSaid :=
  OpenClaim.holds_of_cond 13 Tryz.f13 rfl rfl rfl rfl rfl rfl rfl ⟨rfl, rfl, rfl, rfl, rfl⟩ rfl rfl rfl rfl rfl (by as_aux_lemma => kernel_rfl) Tryz.func13 (joined_mk topGone_j1 seat_laidOut seat_mapsRowed topGone_j4 topGone_j5 topGone_j6 seat_stops topGone_j8 seat_stopKnobs topGone_j10 topGone_j11 topGone_j12 topGone_j13 topGone_j14 topGone_j15 topGone_j16 topGone_j17 topGone_j18 topGone_j19 topGone_j20 topGone_j21 topGone_j22 topGone_j23 topGone_j24 seat_stopsHeard seat_mayEnter topGone_j27 topGone_j28 topGone_j29 topGone_j30 topGone_j31 topGone_j32)
    (of_decide_eq_true (by as_aux_lemma => kernel_rfl)) (by unfold Func.isWrapper; first | (rw [if_pos (by decide +kernel)]; kernel_rfl) | (rw [if_neg (by decide +kernel)]; exact ⟨rfl, rfl⟩))
    (fun os started H enc _ F => by rw [OpenClaim.pre_eq_preRow]; exact topGone_lifted os started H enc F)
theorem topGone_plain (f : FuncId) (fn : Func) (hf : Tryz.pinned.checked.prog.funcNamed "canopy/canopytop.TopGone" = some f) (hfn : Tryz.pinned.checked.prog.funcs[f]? = some fn) :
    false = Tryz.pinned.checked.prog.looks [] ∧ ∀ (j : Nat) t, fn.params[j]? = some t → Tryz.pinned.checked.prog.wantsStandIn t = false := by
 obtain rfl : f = 13 := Option.some.inj ((show Tryz.prog.funcNamed "canopy/canopytop.TopGone" = some 13 by kernel_rfl).symm.trans hf) |>.symm
 obtain rfl : fn = Tryz.f13 := (Option.some.inj (Tryz.func13.symm.trans hfn)).symm
 refine ⟨by kernel_rfl, fun j t ht => ?_⟩
 have hall : (Tryz.f13.params.all fun t => !Tryz.prog.wantsStandIn t) = true := by kernel_rfl
 have := Array.all_eq_true_iff_forall_mem.1 hall t (Array.mem_of_getElem? ht)
 show Tryz.prog.wantsStandIn t = false
 simpa using this
set_option maxRecDepth 1000000 in
theorem topGone_holds : Rows.TopGoneCardSaid :=
  Claim7.holds_tied_plain_at .later [] _ _ _ _ topGone_said (fun _ h => by cases h) (by kernel_rfl) (fun _ h => by cases h) topGone_row_tie rfl ⟨rfl, rfl⟩ (by kernel_rfl) rfl topGone_plain (by kernel_rfl)
#print axioms topGone_holds
end Go.Proofs.YtilgpdpooildcaaGreatDoor
