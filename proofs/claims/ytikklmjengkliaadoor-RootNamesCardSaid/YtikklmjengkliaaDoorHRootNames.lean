/- The law RootNames: for every input the call returns true, and each argument reads behind the call as it read before. -/
import Derived.Test.YtikklmjengkliaaDoorCRootNames
import Derived.Test.YtikklmjengkliaaDoorBR1
import Derived.Test.YtikklmjengkliaaDoorBR4
import Derived.Test.YtikklmjengkliaaDoorBR11
namespace Go.Proofs.YtikklmjengkliaaDoor
open Go.ChangeShapes Go.WideShapes Go.ChangeAt Go.RowKit
set_option linter.unusedVariables false
theorem rootNames_own : ownKnob Tryd.prog.godebug = none := by kernel_rfl
theorem rootNames_laidOut : laidOutB Tryd.prog = true := seat_laidOut
theorem rootNames_j1 : (Rows.rootNamesRow.wf (OpenSpec.ofChange Rows.rootNamesSpec)) = true := by kernel_rfl
theorem rootNames_j4 : (Tryd.f4.params.all (Tryd.pinned.checked.prog.readableRec ·)) = true := by kernel_rfl
theorem rootNames_j5 : (namedTie Tryd.pinned.checked.prog Rows.rootNamesRow.named Rows.rootNamesSpec.vars) = true := by kernel_rfl
theorem rootNames_j6 : ((Rows.rootNamesRow.stops == [])) = true := by kernel_rfl
theorem rootNames_j8 : ((Rows.rootNamesRow.knobs == [])) = true := by kernel_rfl
theorem rootNames_j10 : ((Rows.rootNamesRow.inPlace == Tryd.pinned.checked.prog.inPlace 4)) = true := by kernel_rfl
theorem rootNames_j11 : ((Rows.rootNamesRow.unfollowed == Tryd.pinned.checked.prog.unfollowed 4)) = true := by kernel_rfl
theorem rootNames_j12 : ((Rows.rootNamesRow.recurses == Tryd.pinned.checked.prog.recurses 4)) = true := by kernel_rfl
theorem rootNames_j13 : ((Rows.rootNamesRow.named == Tryd.pinned.checked.prog.varsNamed 4)) = true := by kernel_rfl
theorem rootNames_j14 : ((Rows.rootNamesRow.maps == (Tryd.f4.params.toList ++ Rows.rootNamesSpec.plain.varTypes Tryd.pinned.checked.prog).any (Tryd.pinned.checked.prog.mapsRec ·))) = true := by kernel_rfl
theorem rootNames_j15 : ((Rows.rootNamesRow.ifaces == (Tryd.f4.params.toList ++ Rows.rootNamesSpec.plain.varTypes Tryd.pinned.checked.prog).any (Tryd.pinned.checked.prog.ifacesRec ·))) = true := by kernel_rfl
theorem rootNames_j16 : ((Rows.rootNamesRow.mapsOut == Tryd.pinned.checked.prog.mapsAmong Tryd.f4.resultTypes.toList)) = true := by kernel_rfl
theorem rootNames_j17 : ((Rows.rootNamesRow.loops == (Tryd.f4.params.toList ++ Rows.rootNamesSpec.plain.varTypes Tryd.pinned.checked.prog).any (Tryd.pinned.checked.prog.loopsFrom ·))) = true := by kernel_rfl
theorem rootNames_j18 : ((Rows.rootNamesRow.wideKeys == (Tryd.f4.params.toList ++ Rows.rootNamesSpec.plain.varTypes Tryd.pinned.checked.prog ++ Tryd.f4.resultTypes.toList).any (Tryd.pinned.checked.prog.wideKeysFrom ·))) = true := by kernel_rfl
theorem rootNames_j19 : (Rows.rootNamesSpec.vars.all (Tryd.pinned.checked.prog.varReadable ·)) = true := by kernel_rfl
theorem rootNames_j20 : (Tryd.f4.resultTypes.all (fun t => Tryd.pinned.checked.prog.readableRec t && decide (t < Tryd.pinned.checked.prog.types.size))) = true := by kernel_rfl
theorem rootNames_j21 : ((Rows.rootNamesRow.ifacesOut == Tryd.f4.resultTypes.toList.any (Tryd.pinned.checked.prog.ifacesRec ·))) = true := by kernel_rfl
theorem rootNames_j22 : ((Rows.rootNamesRow.loopsOut == Tryd.f4.resultTypes.toList.any (Tryd.pinned.checked.prog.loopsFrom ·))) = true := by kernel_rfl
theorem rootNames_j23 : ((Rows.rootNamesRow.plainKeys == Tryd.pinned.checked.prog.plainKeys)) = true := by kernel_rfl
theorem rootNames_j24 : (Rows.rootNamesRow.shortTexts.isNone) = true := by kernel_rfl
theorem rootNames_j27 : (Rows.rootNamesRow.lifted == Tryd.pinned.checked.prog.liftsFinal) = true := (congrArg (fun b => Rows.rootNamesRow.lifted == b) seat_liftsFinal).trans (by kernel_rfl)
theorem rootNames_j28 : (Tryd.pinned.checked.prog.make == some Rows.rootNamesRow.make) = true := (congrArg (fun b => b == some Rows.rootNamesRow.make) seat_make).trans (by kernel_rfl)
theorem rootNames_j29 : ((Rows.rootNamesRow.kinds == (if Rows.rootNamesRow.domain.isEmpty then [] else Tryd.f4.params.toList.map fun t => match Tryd.pinned.checked.prog.underlying t with | some (.int k) => some k | _ => none))) = true := by kernel_rfl
theorem rootNames_j30 : ((Rows.rootNamesRow.pinned == Rows.rootNamesRow.pinnedBy)) = true := by kernel_rfl
theorem rootNames_j31 : ((Rows.rootNamesRow.veiled == (Tryd.f4.params.toList ++ Rows.rootNamesSpec.plain.varTypes Tryd.pinned.checked.prog ++ Tryd.f4.resultTypes.toList).any (Tryd.pinned.checked.prog.veiledRec ·))) = true := by kernel_rfl
theorem rootNames_j32 : (Rows.rootNamesRow.veiledFits Tryd.pinned.checked.prog Tryd.f4.params.toList (Tryd.f4.params.toList ++ Rows.rootNamesSpec.plain.varTypes Tryd.pinned.checked.prog ++ Tryd.f4.resultTypes.toList)) = true := by kernel_rfl
theorem rootNames_met (os : Os) : laidMet Tryd.prog Rows.rootNamesRow.laid ((digWorld os).forCall (fun _ _ => 0) ⟨#[], #[.slice none 0 0], []⟩).memory :=
  laidMet_of_run' 8 (by kernel_rfl) (by kernel_rfl)
theorem rootNames_reads (os : Os) {H : Type} (enc : TypeId × Value → H) : ∃ x, DataW.whole enc Tryd.prog ((digWorld os).forCall (fun _ _ => 0) ⟨#[], #[.slice none 0 0], []⟩).memory Tryd.f4.params.toList Rows.rootNamesSpec.vars false (#[.slice none 0 0] : Array Value).toList 8 = some x :=
  Option.isSome_iff_exists.1 (by kernel_rfl)
set_option maxRecDepth 100000 in
theorem rootNames_lifted (os : Os) (started : os.Started) (H : Type) (enc : TypeId × Value → H) (F : Stop.Interp) :
    ReturnsInHanded {} Tryd.checked os 4 .any ((OpenSpec.ofChange Rows.rootNamesSpec).preRow enc Tryd.prog Tryd.f4 Rows.rootNamesRow.domain false Rows.rootNamesRow.laid) (((OpenSpec.ofChange Rows.rootNamesSpec).at F).post enc Tryd.prog Tryd.f4 false true false false) := by
  obtain ⟨places, hx⟩ := rootNames_reads os enc
  refine returnsInHanded_of_row (C := Tryd.checked) (s := OpenSpec.ofChange Rows.rootNamesSpec) rootNames_own started (by kernel_rfl) Tryd.func4
    (witness_row_at (enc := enc) (C := Tryd.checked) false (digWorld os) #[.slice none 0 0] rfl (by kernel_rfl) (by kernel_rfl) (by kernel_rfl)
      (OpenSpec.preRow_of_cond 8 hx rfl (fun k hk => by cases hk) (by kernel_rfl) (rootNames_met os))) ?_
  intro W base args ds gs before hval0 hW _ _ hsz hL _ _
  have hval : ∀ (j : Nat) t v, Tryd.f4.params[j]? = some t → args[j]? = some v → Value.okWide Tryd.prog W .any base t v := hval0
  have hW' := hW
  obtain ⟨p, q, hA0, hV, rfl, hfz, hnd⟩ := hW
  have hA : DataW.TrodAll enc Tryd.prog W 0 (fun _ => true) true Tryd.f4.params.toList args.toList ds p := hA0
  rw [Tryd.params4] at hA hval
  have hT := dig_met hL
  obtain ⟨v0, vs0, d0, ds0, p0, q0, hargs, rfl, rfl, h0, r0⟩ := trodAll_cons hA
  obtain ⟨rfl, rfl, rfl⟩ := trodAll_nil r0
  obtain rfl : args = #[v0] := by cases args; simp_all
  obtain ⟨rfl, rfl⟩ := trodVars_none hV
  have k0 := h0
  have lt0 : ∀ x ∈ p0, x.block < W.heap.size := by obtain ⟨m, hm⟩ := k0; exact DataW.trod_lt m _ _ _ hm
  obtain ⟨a0, len0, cap0, rfl⟩ := okWide_slice Tryd.underlying22 (hval 0 22 v0 rfl rfl)
  obtain ⟨l0, w0⟩ : ∃ l, Pls (whole W) (.slice a0 len0 cap0) l := by
    obtain ⟨fuel, hf⟩ := h0
    exact rd_places Tryd.underlying22 Tryd.underlying45 (by kernel_rfl) (by kernel_rfl) rfl rfl rfl rfl Tryd.underlying23 Tryd.underlying5 (by kernel_rfl) Tryd.underlying4 hf
  clear hA0 hval0
  refine (rootNames_walk W hT (.slice a0 len0 cap0) l0 w0).mono fun e W' ⟨he, bel⟩ => ?_
  subst he
  exact ⟨_, rfl, _, _, _, [], _, [], hW', trodAll_mk1 (shut_bool Tryd.underlying4 _), (trodAll_cons_mk (Below.trod rootNames_laidOut (by kernel_rfl) (of_decide_eq_true (by kernel_rfl)) k0 bel lt0) trodAll_mk0), rfl, bel.frame _, fun h => by cases h⟩
set_option maxRecDepth 1000000 in
theorem rootNames_said : Rows.RootNamesSaid :=
  OpenClaim.holds_of_cond 4 Tryd.f4 rfl rfl rfl rfl rfl rfl rfl ⟨rfl, rfl, rfl, rfl, rfl⟩ rfl rfl rfl rfl rfl (by as_aux_lemma => kernel_rfl) Tryd.func4 (joined_mk rootNames_j1 seat_laidOut seat_mapsRowed rootNames_j4 rootNames_j5 rootNames_j6 seat_stops rootNames_j8 seat_stopKnobs rootNames_j10 rootNames_j11 rootNames_j12 rootNames_j13 rootNames_j14 rootNames_j15 rootNames_j16 rootNames_j17 rootNames_j18 rootNames_j19 rootNames_j20 rootNames_j21 rootNames_j22 rootNames_j23 rootNames_j24 seat_stopsHeard seat_mayEnter rootNames_j27 rootNames_j28 rootNames_j29 rootNames_j30 rootNames_j31 rootNames_j32)
    (of_decide_eq_true (by as_aux_lemma => kernel_rfl)) (by unfold Func.isWrapper; first | (rw [if_pos (by decide +kernel)]; kernel_rfl) | (rw [if_neg (by decide +kernel)]; exact ⟨rfl, rfl⟩))
    (fun os started H enc _ F => by rw [OpenClaim.pre_eq_preRow]; exact rootNames_lifted os started H enc F)
theorem rootNames_plain (f : FuncId) (fn : Func) (hf : Tryd.pinned.checked.prog.funcNamed "canopy/canopykeep.RootNames" = some f) (hfn : Tryd.pinned.checked.prog.funcs[f]? = some fn) :
    false = Tryd.pinned.checked.prog.looks [] ∧ ∀ (j : Nat) t, fn.params[j]? = some t → Tryd.pinned.checked.prog.wantsStandIn t = false := by
  obtain rfl : f = 4 := Option.some.inj ((show Tryd.prog.funcNamed "canopy/canopykeep.RootNames" = some 4 by kernel_rfl).symm.trans hf) |>.symm
  obtain rfl : fn = Tryd.f4 := (Option.some.inj (Tryd.func4.symm.trans hfn)).symm
  refine ⟨by kernel_rfl, fun j t ht => ?_⟩
  have hall : (Tryd.f4.params.all fun t => !Tryd.prog.wantsStandIn t) = true := by kernel_rfl
  have := Array.all_eq_true_iff_forall_mem.1 hall t (Array.mem_of_getElem? ht)
  show Tryd.prog.wantsStandIn t = false
  simpa using this
set_option maxRecDepth 1000000 in
theorem rootNames_holds : Rows.RootNamesCardSaid :=
  Claim7.holds_tied_plain_at .later [] _ _ _ _ rootNames_said (fun _ h => by cases h) (by kernel_rfl) (fun _ h => by cases h) rootNames_row_tie rfl ⟨rfl, rfl⟩ (by kernel_rfl) rfl rootNames_plain (by kernel_rfl)
#print axioms rootNames_holds
end Go.Proofs.YtikklmjengkliaaDoor
