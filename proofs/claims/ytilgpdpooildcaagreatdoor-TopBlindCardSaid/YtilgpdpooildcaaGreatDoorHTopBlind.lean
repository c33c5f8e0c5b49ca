/- The law TopBlind: for every input the call returns true, and each argument reads behind the call as it read before. -/
import Derived.Test.YtilgpdpooildcaaGreatDoorCTopBlind
import Derived.Test.YtilgpdpooildcaaGreatDoorBU1
import Derived.Test.YtilgpdpooildcaaGreatDoorBU2
import Derived.Test.YtilgpdpooildcaaGreatDoorBU12
namespace Go.Proofs.YtilgpdpooildcaaGreatDoor
set_option maxHeartbeats 8000000
open Go.ChangeShapes Go.WideShapes Go.ChangeAt Go.RowKit
set_option linter.unusedVariables false
theorem topBlind_own : ownKnob Tryz.prog.godebug = none := by kernel_rfl
theorem topBlind_laidOut : laidOutB Tryz.prog = true := seat_laidOut
theorem topBlind_j1 : (Rows.topBlindRow.wf (OpenSpec.ofChange Rows.topBlindSpec)) = true := by kernel_rfl
theorem topBlind_j4 : (Tryz.f10.params.all (Tryz.pinned.checked.prog.readableRec ·)) = true := by kernel_rfl
theorem topBlind_j5 : (namedTie Tryz.pinned.checked.prog Rows.topBlindRow.named Rows.topBlindSpec.vars) = true := by kernel_rfl
theorem topBlind_j6 : ((Rows.topBlindRow.stops == [])) = true := by kernel_rfl
theorem topBlind_j8 : ((Rows.topBlindRow.knobs == [])) = true := by kernel_rfl
theorem topBlind_j10 : ((Rows.topBlindRow.inPlace == Tryz.pinned.checked.prog.inPlace 10)) = true := by kernel_rfl
theorem topBlind_j11 : ((Rows.topBlindRow.unfollowed == Tryz.pinned.checked.prog.unfollowed 10)) = true := by kernel_rfl
theorem topBlind_j12 : ((Rows.topBlindRow.recurses == Tryz.pinned.checked.prog.recurses 10)) = true := by kernel_rfl
theorem topBlind_j13 : ((Rows.topBlindRow.named == Tryz.pinned.checked.prog.varsNamed 10)) = true := by kernel_rfl
theorem topBlind_j14 : ((Rows.topBlindRow.maps == (Tryz.f10.params.toList ++ Rows.topBlindSpec.plain.varTypes Tryz.pinned.checked.prog).any (Tryz.pinned.checked.prog.mapsRec ·))) = true := by kernel_rfl
theorem topBlind_j15 : ((Rows.topBlindRow.ifaces == (Tryz.f10.params.toList ++ Rows.topBlindSpec.plain.varTypes Tryz.pinned.checked.prog).any (Tryz.pinned.checked.prog.ifacesRec ·))) = true := by kernel_rfl
theorem topBlind_j16 : ((Rows.topBlindRow.mapsOut == Tryz.pinned.checked.prog.mapsAmong Tryz.f10.resultTypes.toList)) = true := by kernel_rfl
theorem topBlind_j17 : ((Rows.topBlindRow.loops == (Tryz.f10.params.toList ++ Rows.topBlindSpec.plain.varTypes Tryz.pinned.checked.prog).any (Tryz.pinned.checked.prog.loopsFrom ·))) = true := by kernel_rfl
theorem topBlind_j18 : ((Rows.topBlindRow.wideKeys == (Tryz.f10.params.toList ++ Rows.topBlindSpec.plain.varTypes Tryz.pinned.checked.prog ++ Tryz.f10.resultTypes.toList).any (Tryz.pinned.checked.prog.wideKeysFrom ·))) = true := by kernel_rfl
theorem topBlind_j19 : (Rows.topBlindSpec.vars.all (Tryz.pinned.checked.prog.varReadable ·)) = true := by kernel_rfl
theorem topBlind_j20 : (Tryz.f10.resultTypes.all (fun t => Tryz.pinned.checked.prog.readableRec t && decide (t < Tryz.pinned.checked.prog.types.size))) = true := by kernel_rfl
theorem topBlind_j21 : ((Rows.topBlindRow.ifacesOut == Tryz.f10.resultTypes.toList.any (Tryz.pinned.checked.prog.ifacesRec ·))) = true := by kernel_rfl
theorem topBlind_j22 : ((Rows.topBlindRow.loopsOut == Tryz.f10.resultTypes.toList.any (Tryz.pinned.checked.prog.loopsFrom ·))) = true := by kernel_rfl
theorem topBlind_j23 : ((Rows.topBlindRow.plainKeys == Tryz.pinned.checked.prog.plainKeys)) = true := by kernel_rfl
theorem topBlind_j24 : (Rows.topBlindRow.shortTexts.isNone) = true := by kernel_rfl
theorem topBlind_j27 : (Rows.topBlindRow.lifted == Tryz.pinned.checked.prog.liftsFinal) = true := (congrArg (fun b => Rows.topBlindRow.lifted == b) seat_liftsFinal).trans (by kernel_rfl)
theorem topBlind_j28 : (Tryz.pinned.checked.prog.make == some Rows.topBlindRow.make) = true := (congrArg (fun b => b == some Rows.topBlindRow.make) seat_make).trans (by kernel_rfl)
theorem topBlind_j29 : ((Rows.topBlindRow.kinds == (if Rows.topBlindRow.domain.isEmpty then [] else Tryz.f10.params.toList.map fun t => match Tryz.pinned.checked.prog.underlying t with | some (.int k) => some k | _ => none))) = true := by kernel_rfl
theorem topBlind_j30 : ((Rows.topBlindRow.pinned == Rows.topBlindRow.pinnedBy)) = true := by kernel_rfl
theorem topBlind_j31 : ((Rows.topBlindRow.veiled == (Tryz.f10.params.toList ++ Rows.topBlindSpec.plain.varTypes Tryz.pinned.checked.prog ++ Tryz.f10.resultTypes.toList).any (Tryz.pinned.checked.prog.veiledRec ·))) = true := by kernel_rfl
theorem topBlind_j32 : (Rows.topBlindRow.veiledFits Tryz.pinned.checked.prog Tryz.f10.params.toList (Tryz.f10.params.toList ++ Rows.topBlindSpec.plain.varTypes Tryz.pinned.checked.prog ++ Tryz.f10.resultTypes.toList)) = true := by kernel_rfl
theorem topBlind_met (os : Os) : laidMet Tryz.prog Rows.topBlindRow.laid ((topWorld os).forCall (fun _ _ => 0) ⟨#[], #[.slice none 0 0], []⟩).memory :=
  laidMet_of_run' 8 (by kernel_rfl) (by kernel_rfl)
theorem topBlind_reads (os : Os) {H : Type} (enc : TypeId × Value → H) : ∃ x, DataW.whole enc Tryz.prog ((topWorld os).forCall (fun _ _ => 0) ⟨#[], #[.slice none 0 0], []⟩).memory Tryz.f10.params.toList Rows.topBlindSpec.vars false (#[.slice none 0 0] : Array Value).toList 8 = some x :=
  Option.isSome_iff_exists.1 (by kernel_rfl)
set_option maxRecDepth 100000 in
theorem topBlind_lifted (os : Os) (started : os.Started) (H : Type) (enc : TypeId × Value → H) (F : Stop.Interp) :
    ReturnsInHanded {} Tryz.checked os 10 .any ((OpenSpec.ofChange Rows.topBlindSpec).preRow enc Tryz.prog Tryz.f10 Rows.topBlindRow.domain false Rows.topBlindRow.laid) (((OpenSpec.ofChange Rows.topBlindSpec).at F).post enc Tryz.prog Tryz.f10 false true false false) := by
 obtain ⟨places, hx⟩ := topBlind_reads os enc
 refine returnsInHanded_of_row (C := Tryz.checked) (s := OpenSpec.ofChange Rows.topBlindSpec) topBlind_own started (by kernel_rfl) Tryz.func10
  (witness_row_at (enc := enc) (C := Tryz.checked) false (topWorld os) #[.slice none 0 0] rfl (by kernel_rfl) (by kernel_rfl) (by kernel_rfl)
   (OpenSpec.preRow_of_cond 8 hx rfl (fun k hk => by cases hk) (by kernel_rfl) (topBlind_met os))) ?_
 intro W base args ds gs before hval0 hW _ _ hsz hL _ _
 have hval : ∀ (j : Nat) t v, Tryz.f10.params[j]? = some t → args[j]? = some v → Value.okWide Tryz.prog W .any base t v := hval0
 have hW' := hW
 obtain ⟨p, q, hA0, hV, rfl, hfz, hnd⟩ := hW
 have hA : DataW.TrodAll enc Tryz.prog W 0 (fun _ => true) true Tryz.f10.params.toList args.toList ds p := hA0
 rw [Tryz.params10] at hA hval
 have hT := top_met hL
 obtain ⟨v0, vs0, d0, ds0, p0, q0, hargs, rfl, rfl, h0, r0⟩ := trodAll_cons hA
 obtain ⟨rfl, rfl, rfl⟩ := trodAll_nil r0
 obtain rfl : args = #[v0] := by cases args; simp_all
 obtain ⟨rfl, rfl⟩ := trodVars_none hV
 have k0 := h0
 have lt0 : ∀ x ∈ p0, x.block < W.heap.size := by obtain ⟨m, hm⟩ := k0; exact DataW.trod_lt m _ _ _ hm
 obtain ⟨a0, len0, cap0, rfl⟩ := okWide_slice Tryz.underlying60 (hval 0 60 v0 rfl rfl)
 obtain ⟨l0, w0⟩ : ∃ l, Ints (whole W) (.slice a0 len0 cap0) l := by
  obtain ⟨fuel, hf⟩ := h0
  exact rd_ints Tryz.underlying60 Tryz.underlying3 (by kernel_rfl) hf
 clear hA0 hval0
 refine (topBlind_walk W hT (.slice a0 len0 cap0) l0 w0).mono fun e W' ⟨he, bel⟩ => ?_
 subst he
 exact ⟨_, rfl, _, _, _, [], _, [], hW', trodAll_mk1 (shut_bool Tryz.underlying4 _), (trodAll_cons_mk (Below.trod topBlind_laidOut (by kernel_rfl) (of_decide_eq_true (by kernel_rfl)) k0 bel lt0) trodAll_mk0), rfl, bel.frame _, fun h => by cases h⟩
set_option maxRecDepth 1000000 in
theorem topBlind_said : Rows.TopBlindSaid :=
  OpenClaim.holds_of_cond 10 Tryz.f10 rfl rfl rfl rfl rfl rfl rfl ⟨rfl, rfl, rfl, rfl, rfl⟩ rfl rfl rfl rfl rfl (by as_aux_lemma => kernel_rfl) Tryz.func10 (joined_mk topBlind_j1 seat_laidOut seat_mapsRowed topBlind_j4 topBlind_j5 topBlind_j6 seat_stops topBlind_j8 seat_stopKnobs topBlind_j10 topBlind_j11 topBlind_j12 topBlind_j13 topBlind_j14 topBlind_j15 topBlind_j16 topBlind_j17 topBlind_j18 topBlind_j19 topBlind_j20 topBlind_j21 topBlind_j22 topBlind_j23 topBlind_j24 seat_stopsHeard seat_mayEnter topBlind_j27 topBlind_j28 topBlind_j29 topBlind_j30 topBlind_j31 topBlind_j32)
    (of_decide_eq_true (by as_aux_lemma => kernel_rfl)) (by unfold Func.isWrapper; first | (rw [if_pos (by decide +kernel)]; kernel_rfl) | (rw [if_neg (by decide +kernel)]; exact ⟨rfl, rfl⟩))
    (fun os started H enc _ F => by rw [OpenClaim.pre_eq_preRow]; exact topBlind_lifted os started H enc F)
theorem topBlind_plain (f : FuncId) (fn : Func) (hf : Tryz.pinned.checked.prog.funcNamed "canopy/canopytop.TopBlind" = some f) (hfn : Tryz.pinned.checked.prog.funcs[f]? = some fn) :
    false = Tryz.pinned.checked.prog.looks [] ∧ ∀ (j : Nat) t, fn.params[j]? = some t → Tryz.pinned.checked.prog.wantsStandIn t = false := by
 obtain rfl : f = 10 := Option.some.inj ((show Tryz.prog.funcNamed "canopy/canopytop.TopBlind" = some 10 by kernel_rfl).symm.trans hf) |>.symm
 obtain rfl : fn = Tryz.f10 := (Option.some.inj (Tryz.func10.symm.trans hfn)).symm
 refine ⟨by kernel_rfl, fun j t ht => ?_⟩
 have hall : (Tryz.f10.params.all fun t => !Tryz.prog.wantsStandIn t) = true := by kernel_rfl
 have := Array.all_eq_true_iff_forall_mem.1 hall t (Array.mem_of_getElem? ht)
 show Tryz.prog.wantsStandIn t = false
 simpa using this
set_option maxRecDepth 1000000 in
theorem topBlind_holds : Rows.TopBlindCardSaid :=
  Claim7.holds_tied_plain_at .later [] _ _ _ _ topBlind_said (fun _ h => by cases h) (by kernel_rfl) (fun _ h => by cases h) topBlind_row_tie rfl ⟨rfl, rfl⟩ (by kernel_rfl) rfl topBlind_plain (by kernel_rfl)
#print axioms topBlind_holds
end Go.Proofs.YtilgpdpooildcaaGreatDoor
