/- The law TopRounds: for every input the call returns true, and each argument reads behind the call as it read before. -/
import Derived.Test.YtilgpdpooildcaaGreatDoorCTopRounds
import Derived.Test.YtilgpdpooildcaaGreatDoorBV1
import Derived.Test.YtilgpdpooildcaaGreatDoorBV2
import Derived.Test.YtilgpdpooildcaaGreatDoorBV12
namespace Go.Proofs.YtilgpdpooildcaaGreatDoor
set_option maxHeartbeats 8000000
open Go.ChangeShapes Go.WideShapes Go.ChangeAt Go.RowKit
set_option linter.unusedVariables false
theorem topRounds_own : ownKnob Tryz.prog.godebug = none := by kernel_rfl
theorem topRounds_laidOut : laidOutB Tryz.prog = true := seat_laidOut
theorem topRounds_j1 : (Rows.topRoundsRow.wf (OpenSpec.ofChange Rows.topRoundsSpec)) = true := by kernel_rfl
theorem topRounds_j4 : (Tryz.f3.params.all (Tryz.pinned.checked.prog.readableRec ·)) = true := by kernel_rfl
theorem topRounds_j5 : (namedTie Tryz.pinned.checked.prog Rows.topRoundsRow.named Rows.topRoundsSpec.vars) = true := by kernel_rfl
theorem topRounds_j6 : ((Rows.topRoundsRow.stops == [])) = true := by kernel_rfl
theorem topRounds_j8 : ((Rows.topRoundsRow.knobs == [])) = true := by kernel_rfl
theorem topRounds_j10 : ((Rows.topRoundsRow.inPlace == Tryz.pinned.checked.prog.inPlace 3)) = true := by kernel_rfl
theorem topRounds_j11 : ((Rows.topRoundsRow.unfollowed == Tryz.pinned.checked.prog.unfollowed 3)) = true := by kernel_rfl
theorem topRounds_j12 : ((Rows.topRoundsRow.recurses == Tryz.pinned.checked.prog.recurses 3)) = true := by kernel_rfl
theorem topRounds_j13 : ((Rows.topRoundsRow.named == Tryz.pinned.checked.prog.varsNamed 3)) = true := by kernel_rfl
theorem topRounds_j14 : ((Rows.topRoundsRow.maps == (Tryz.f3.params.toList ++ Rows.topRoundsSpec.plain.varTypes Tryz.pinned.checked.prog).any (Tryz.pinned.checked.prog.mapsRec ·))) = true := by kernel_rfl
theorem topRounds_j15 : ((Rows.topRoundsRow.ifaces == (Tryz.f3.params.toList ++ Rows.topRoundsSpec.plain.varTypes Tryz.pinned.checked.prog).any (Tryz.pinned.checked.prog.ifacesRec ·))) = true := by kernel_rfl
theorem topRounds_j16 : ((Rows.topRoundsRow.mapsOut == Tryz.pinned.checked.prog.mapsAmong Tryz.f3.resultTypes.toList)) = true := by kernel_rfl
theorem topRounds_j17 : ((Rows.topRoundsRow.loops == (Tryz.f3.params.toList ++ Rows.topRoundsSpec.plain.varTypes Tryz.pinned.checked.prog).any (Tryz.pinned.checked.prog.loopsFrom ·))) = true := by kernel_rfl
theorem topRounds_j18 : ((Rows.topRoundsRow.wideKeys == (Tryz.f3.params.toList ++ Rows.topRoundsSpec.plain.varTypes Tryz.pinned.checked.prog ++ Tryz.f3.resultTypes.toList).any (Tryz.pinned.checked.prog.wideKeysFrom ·))) = true := by kernel_rfl
theorem topRounds_j19 : (Rows.topRoundsSpec.vars.all (Tryz.pinned.checked.prog.varReadable ·)) = true := by kernel_rfl
theorem topRounds_j20 : (Tryz.f3.resultTypes.all (fun t => Tryz.pinned.checked.prog.readableRec t && decide (t < Tryz.pinned.checked.prog.types.size))) = true := by kernel_rfl
theorem topRounds_j21 : ((Rows.topRoundsRow.ifacesOut == Tryz.f3.resultTypes.toList.any (Tryz.pinned.checked.prog.ifacesRec ·))) = true := by kernel_rfl
theorem topRounds_j22 : ((Rows.topRoundsRow.loopsOut == Tryz.f3.resultTypes.toList.any (Tryz.pinned.checked.prog.loopsFrom ·))) = true := by kernel_rfl
theorem topRounds_j23 : ((Rows.topRoundsRow.plainKeys == Tryz.pinned.checked.prog.plainKeys)) = true := by kernel_rfl
theorem topRounds_j24 : (Rows.topRoundsRow.shortTexts.isNone) = true := by kernel_rfl
theorem topRounds_j27 : (Rows.topRoundsRow.lifted == Tryz.pinned.checked.prog.liftsFinal) = true := (congrArg (fun b => Rows.topRoundsRow.lifted == b) seat_liftsFinal).trans (by kernel_rfl)
theorem topRounds_j28 : (Tryz.pinned.checked.prog.make == some Rows.topRoundsRow.make) = true := (congrArg (fun b => b == some Rows.topRoundsRow.make) seat_make).trans (by kernel_rfl)
theorem topRounds_j29 : ((Rows.topRoundsRow.kinds == (if Rows.topRoundsRow.domain.isEmpty then [] else Tryz.f3.params.toList.map fun t => match Tryz.pinned.checked.prog.underlying t with | some (.int k) => some k | _ => none))) = true := by kernel_rfl
theorem topRounds_j30 : ((Rows.topRoundsRow.pinned == Rows.topRoundsRow.pinnedBy)) = true := by kernel_rfl
theorem topRounds_j31 : ((Rows.topRoundsRow.veiled == (Tryz.f3.params.toList ++ Rows.topRoundsSpec.plain.varTypes Tryz.pinned.checked.prog ++ Tryz.f3.resultTypes.toList).any (Tryz.pinned.checked.prog.veiledRec ·))) = true := by kernel_rfl
theorem topRounds_j32 : (Rows.topRoundsRow.veiledFits Tryz.pinned.checked.prog Tryz.f3.params.toList (Tryz.f3.params.toList ++ Rows.topRoundsSpec.plain.varTypes Tryz.pinned.checked.prog ++ Tryz.f3.resultTypes.toList)) = true := by kernel_rfl
theorem topRounds_met (os : Os) : laidMet Tryz.prog Rows.topRoundsRow.laid ((topWorld os).forCall (fun _ _ => 0) ⟨#[], #[.slice none 0 0], []⟩).memory :=
  laidMet_of_run' 8 (by kernel_rfl) (by kernel_rfl)
theorem topRounds_reads (os : Os) {H : Type} (enc : TypeId × Value → H) : ∃ x, DataW.whole enc Tryz.prog ((topWorld os).forCall (fun _ _ => 0) ⟨#[], #[.slice none 0 0], []⟩).memory Tryz.f3.params.toList Rows.topRoundsSpec.vars false (#[.slice none 0 0] : Array Value).toList 8 = some x :=
  Option.isSome_iff_exists.1 (by kernel_rfl)
set_option maxRecDepth 100000 in
theorem topRounds_lifted (os : Os) (started : os.Started) (H : Type) (enc : TypeId × Value → H) (F : Stop.Interp) :
    ReturnsInHanded {} Tryz.checked os 3 .any ((OpenSpec.ofChange Rows.topRoundsSpec).preRow enc Tryz.prog Tryz.f3 Rows.topRoundsRow.domain false Rows.topRoundsRow.laid) (((OpenSpec.ofChange Rows.topRoundsSpec).at F).post enc Tryz.prog Tryz.f3 false true false false) := by
 obtain ⟨places, hx⟩ := topRounds_reads os enc
 refine returnsInHanded_of_row (C := Tryz.checked) (s := OpenSpec.ofChange Rows.topRoundsSpec) topRounds_own started (by kernel_rfl) Tryz.func3
  (witness_row_at (enc := enc) (C := Tryz.checked) false (topWorld os) #[.slice none 0 0] rfl (by kernel_rfl) (by kernel_rfl) (by kernel_rfl)
   (OpenSpec.preRow_of_cond 8 hx rfl (fun k hk => by cases hk) (by kernel_rfl) (topRounds_met os))) ?_
 intro W base args ds gs before hval0 hW _ _ hsz hL _ _
 have hval : ∀ (j : Nat) t v, Tryz.f3.params[j]? = some t → args[j]? = some v → Value.okWide Tryz.prog W .any base t v := hval0
 have hW' := hW
 obtain ⟨p, q, hA0, hV, rfl, hfz, hnd⟩ := hW
 have hA : DataW.TrodAll enc Tryz.prog W 0 (fun _ => true) true Tryz.f3.params.toList args.toList ds p := hA0
 rw [Tryz.params3] at hA hval
 have hT := top_met hL
 obtain ⟨v0, vs0, d0, ds0, p0, q0, hargs, rfl, rfl, h0, r0⟩ := trodAll_cons hA
 obtain ⟨rfl, rfl, rfl⟩ := trodAll_nil r0
 obtain rfl : args = #[v0] := by cases args; simp_all
 obtain ⟨rfl, rfl⟩ := trodVars_none hV
 have k0 := h0
 have lt0 : ∀ x ∈ p0, x.block < W.heap.size := by obtain ⟨m, hm⟩ := k0; exact DataW.trod_lt m _ _ _ hm
 obtain ⟨a0, len0, cap0, rfl⟩ := okWide_slice Tryz.underlying22 (hval 0 22 v0 rfl rfl)
 obtain ⟨l0, w0⟩ : ∃ l, Ges (whole W) (.slice a0 len0 cap0) l := by
  obtain ⟨fuel, hf⟩ := h0
  exact rd_gears Tryz.underlying22 Tryz.underlying31 (by kernel_rfl) (by kernel_rfl) rfl rfl rfl rfl rfl Tryz.underlying3 hf
 clear hA0 hval0
 refine (topRounds_walk W hT (.slice a0 len0 cap0) l0 w0).mono fun e W' ⟨he, bel⟩ => ?_
 subst he
 exact ⟨_, rfl, _, _, _, [], _, [], hW', trodAll_mk1 (shut_bool Tryz.underlying4 _), (trodAll_cons_mk (Below.trod topRounds_laidOut (by kernel_rfl) (of_decide_eq_true (by kernel_rfl)) k0 bel lt0) trodAll_mk0), rfl, bel.frame _, fun h => by cases h⟩
set_option maxRecDepth 1000000 in
theorem topRounds_said : Rows.TopRoundsSaid :=
  OpenClaim.holds_of_cond 3 Tryz.f3 rfl rfl rfl rfl rfl rfl rfl ⟨rfl, rfl, rfl, rfl, rfl⟩ rfl rfl rfl rfl rfl (by as_aux_lemma => kernel_rfl) Tryz.func3 (joined_mk topRounds_j1 seat_laidOut seat_mapsRowed topRounds_j4 topRounds_j5 topRounds_j6 seat_stops topRounds_j8 seat_stopKnobs topRounds_j10 topRounds_j11 topRounds_j12 topRounds_j13 topRounds_j14 topRounds_j15 topRounds_j16 topRounds_j17 topRounds_j18 topRounds_j19 topRounds_j20 topRounds_j21 topRounds_j22 topRounds_j23 topRounds_j24 seat_stopsHeard seat_mayEnter topRounds_j27 topRounds_j28 topRounds_j29 topRounds_j30 topRounds_j31 topRounds_j32)
    (of_decide_eq_true (by as_aux_lemma => kernel_rfl)) (by unfold Func.isWrapper; first | (rw [if_pos (by decide +kernel)]; kernel_rfl) | (rw [if_neg (by decide +kernel)]; exact ⟨rfl, rfl⟩))
    (fun os started H enc _ F => by rw [OpenClaim.pre_eq_preRow]; exact topRounds_lifted os started H enc F)
theorem topRounds_plain (f : FuncId) (fn : Func) (hf : Tryz.pinned.checked.prog.funcNamed "canopy/canopytop.TopRounds" = some f) (hfn : Tryz.pinned.checked.prog.funcs[f]? = some fn) :
    false = Tryz.pinned.checked.prog.looks [] ∧ ∀ (j : Nat) t, fn.params[j]? = some t → Tryz.pinned.checked.prog.wantsStandIn t = false := by
 obtain rfl : f = 3 := Option.some.inj ((show Tryz.prog.funcNamed "canopy/canopytop.TopRounds" = some 3 by kernel_rfl).symm.trans hf) |>.symm
 obtain rfl : fn = Tryz.f3 := (Option.some.inj (Tryz.func3.symm.trans hfn)).symm
 refine ⟨by kernel_rfl, fun j t ht => ?_⟩
 have hall : (Tryz.f3.params.all fun t => !Tryz.prog.wantsStandIn t) = true := by kernel_rfl
 have := Array.all_eq_true_iff_forall_mem.1 hall t (Array.mem_of_getElem? ht)
 show Tryz.prog.wantsStandIn t = false
 simpa using this
set_option maxRecDepth 1000000 in
theorem topRounds_holds : Rows.TopRoundsCardSaid :=
  Claim7.holds_tied_plain_at .later [] _ _ _ _ topRounds_said (fun _ h => by cases h) (by kernel_rfl) (fun _ h => by cases h) topRounds_row_tie rfl ⟨rfl, rfl⟩ (by kernel_rfl) rfl topRounds_plain (by kernel_rfl)
#print axioms topRounds_holds
end Go.Proofs.YtilgpdpooildcaaGreatDoor
