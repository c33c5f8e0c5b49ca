/- The law KnownSums: for every input the call returns true, and each argument reads behind the call as it read before. -/
import Derived.Test.YtcanckliggcllaaDoorCKnownSums
import Derived.Test.YtcanckliggcllaaDoorBX1
import Derived.Test.YtcanckliggcllaaDoorBX5
namespace Go.Proofs.YtcanckliggcllaaDoor
open Go.ChangeShapes Go.WideShapes Go.ChangeAt Go.RowKit
set_option linter.unusedVariables false
theorem knownSums_own : ownKnob Tryd.prog.godebug = none := by kernel_rfl
theorem knownSums_laidOut : laidOutB Tryd.prog = true := seat_laidOut
theorem knownSums_j1 : (Rows.knownSumsRow.wf (OpenSpec.ofChange Rows.knownSumsSpec)) = true := by kernel_rfl
theorem knownSums_j4 : (Tryd.f3.params.all (Tryd.pinned.checked.prog.readableRec ·)) = true := by kernel_rfl
theorem knownSums_j5 : (namedTie Tryd.pinned.checked.prog Rows.knownSumsRow.named Rows.knownSumsSpec.vars) = true := by kernel_rfl
theorem knownSums_j6 : ((Rows.knownSumsRow.stops == [])) = true := by kernel_rfl
theorem knownSums_j8 : ((Rows.knownSumsRow.knobs == [])) = true := by kernel_rfl
theorem knownSums_j10 : ((Rows.knownSumsRow.inPlace == Tryd.pinned.checked.prog.inPlace 3)) = true := by kernel_rfl
theorem knownSums_j11 : ((Rows.knownSumsRow.unfollowed == Tryd.pinned.checked.prog.unfollowed 3)) = true := by kernel_rfl
theorem knownSums_j12 : ((Rows.knownSumsRow.recurses == Tryd.pinned.checked.prog.recurses 3)) = true := by kernel_rfl
theorem knownSums_j13 : ((Rows.knownSumsRow.named == Tryd.pinned.checked.prog.varsNamed 3)) = true := by kernel_rfl
theorem knownSums_j14 : ((Rows.knownSumsRow.maps == (Tryd.f3.params.toList ++ Rows.knownSumsSpec.plain.varTypes Tryd.pinned.checked.prog).any (Tryd.pinned.checked.prog.mapsRec ·))) = true := by kernel_rfl
theorem knownSums_j15 : ((Rows.knownSumsRow.ifaces == (Tryd.f3.params.toList ++ Rows.knownSumsSpec.plain.varTypes Tryd.pinned.checked.prog).any (Tryd.pinned.checked.prog.ifacesRec ·))) = true := by kernel_rfl
theorem knownSums_j16 : ((Rows.knownSumsRow.mapsOut == Tryd.pinned.checked.prog.mapsAmong Tryd.f3.resultTypes.toList)) = true := by kernel_rfl
theorem knownSums_j17 : ((Rows.knownSumsRow.loops == (Tryd.f3.params.toList ++ Rows.knownSumsSpec.plain.varTypes Tryd.pinned.checked.prog).any (Tryd.pinned.checked.prog.loopsFrom ·))) = true := by kernel_rfl
theorem knownSums_j18 : ((Rows.knownSumsRow.wideKeys == (Tryd.f3.params.toList ++ Rows.knownSumsSpec.plain.varTypes Tryd.pinned.checked.prog ++ Tryd.f3.resultTypes.toList).any (Tryd.pinned.checked.prog.wideKeysFrom ·))) = true := by kernel_rfl
theorem knownSums_j19 : (Rows.knownSumsSpec.vars.all (Tryd.pinned.checked.prog.varReadable ·)) = true := by kernel_rfl
theorem knownSums_j20 : (Tryd.f3.resultTypes.all (fun t => Tryd.pinned.checked.prog.readableRec t && decide (t < Tryd.pinned.checked.prog.types.size))) = true := by kernel_rfl
theorem knownSums_j21 : ((Rows.knownSumsRow.ifacesOut == Tryd.f3.resultTypes.toList.any (Tryd.pinned.checked.prog.ifacesRec ·))) = true := by kernel_rfl
theorem knownSums_j22 : ((Rows.knownSumsRow.loopsOut == Tryd.f3.resultTypes.toList.any (Tryd.pinned.checked.prog.loopsFrom ·))) = true := by kernel_rfl
theorem knownSums_j23 : ((Rows.knownSumsRow.plainKeys == Tryd.pinned.checked.prog.plainKeys)) = true := by kernel_rfl
theorem knownSums_j24 : (Rows.knownSumsRow.shortTexts.isNone) = true := by kernel_rfl
theorem knownSums_j27 : (Rows.knownSumsRow.lifted == Tryd.pinned.checked.prog.liftsFinal) = true := (congrArg (fun b => Rows.knownSumsRow.lifted == b) seat_liftsFinal).trans (by kernel_rfl)
theorem knownSums_j28 : (Tryd.pinned.checked.prog.make == some Rows.knownSumsRow.make) = true := (congrArg (fun b => b == some Rows.knownSumsRow.make) seat_make).trans (by kernel_rfl)
theorem knownSums_j29 : ((Rows.knownSumsRow.kinds == (if Rows.knownSumsRow.domain.isEmpty then [] else Tryd.f3.params.toList.map fun t => match Tryd.pinned.checked.prog.underlying t with | some (.int k) => some k | _ => none))) = true := by kernel_rfl
theorem knownSums_j30 : ((Rows.knownSumsRow.pinned == Rows.knownSumsRow.pinnedBy)) = true := by kernel_rfl
theorem knownSums_j31 : ((Rows.knownSumsRow.veiled == (Tryd.f3.params.toList ++ Rows.knownSumsSpec.plain.varTypes Tryd.pinned.checked.prog ++ Tryd.f3.resultTypes.toList).any (Tryd.pinned.checked.prog.veiledRec ·))) = true := by kernel_rfl
theorem knownSums_j32 : (Rows.knownSumsRow.veiledFits Tryd.pinned.checked.prog Tryd.f3.params.toList (Tryd.f3.params.toList ++ Rows.knownSumsSpec.plain.varTypes Tryd.pinned.checked.prog ++ Tryd.f3.resultTypes.toList)) = true := by kernel_rfl
theorem knownSums_met (os : Os) : laidMet Tryd.prog Rows.knownSumsRow.laid ((digWorld os).forCall (fun _ _ => 0) ⟨#[], #[], []⟩).memory :=
  laidMet_of_run' 8 (by kernel_rfl) (by kernel_rfl)
theorem knownSums_reads (os : Os) {H : Type} (enc : TypeId × Value → H) : ∃ x, DataW.whole enc Tryd.prog ((digWorld os).forCall (fun _ _ => 0) ⟨#[], #[], []⟩).memory Tryd.f3.params.toList Rows.knownSumsSpec.vars false (#[] : Array Value).toList 8 = some x :=
  Option.isSome_iff_exists.1 (by kernel_rfl)
set_option maxRecDepth 100000 in
theorem knownSums_lifted (os : Os) (started : os.Started) (H : Type) (enc : TypeId × Value → H) (F : Stop.Interp) :
    ReturnsInHanded {} Tryd.checked os 3 .any ((OpenSpec.ofChange Rows.knownSumsSpec).preRow enc Tryd.prog Tryd.f3 Rows.knownSumsRow.domain false Rows.knownSumsRow.laid) (((OpenSpec.ofChange Rows.knownSumsSpec).at F).post enc Tryd.prog Tryd.f3 false true false false) := by
  obtain ⟨places, hx⟩ := knownSums_reads os enc
  refine returnsInHanded_of_row (C := Tryd.checked) (s := OpenSpec.ofChange Rows.knownSumsSpec) knownSums_own started (by kernel_rfl) Tryd.func3
    (witness_row_at (enc := enc) (C := Tryd.checked) false (digWorld os) #[] rfl (by kernel_rfl) (by kernel_rfl) (by kernel_rfl)
      (OpenSpec.preRow_of_cond 8 hx rfl (fun k hk => by cases hk) (by kernel_rfl) (knownSums_met os))) ?_
  intro W base args ds gs before hval0 hW _ _ hsz hL _ _
  have hval : ∀ (j : Nat) t v, Tryd.f3.params[j]? = some t → args[j]? = some v → Value.okWide Tryd.prog W .any base t v := hval0
  have hW' := hW
  obtain ⟨p, q, hA0, hV, rfl, hfz, hnd⟩ := hW
  have hA : DataW.TrodAll enc Tryd.prog W 0 (fun _ => true) true Tryd.f3.params.toList args.toList ds p := hA0
  rw [Tryd.params3] at hA hval
  have hT := dig_met hL
  obtain ⟨hargs, rfl, rfl⟩ := trodAll_nil hA
  obtain rfl : args = #[] := by cases args; simp_all
  obtain ⟨rfl, rfl⟩ := trodVars_none hV
  clear hA0 hval0
  refine (knownSums_walk W hT).mono fun e W' ⟨he, bel⟩ => ?_
  subst he
  exact ⟨_, rfl, _, _, _, [], _, [], hW', trodAll_mk1 (shut_bool Tryd.underlying4 _), trodAll_mk0, rfl, bel.frame _, fun h => by cases h⟩
set_option maxRecDepth 1000000 in
theorem knownSums_said : Rows.KnownSumsSaid :=
  OpenClaim.holds_of_cond 3 Tryd.f3 rfl rfl rfl rfl rfl rfl rfl ⟨rfl, rfl, rfl, rfl, rfl⟩ rfl rfl rfl rfl rfl (by as_aux_lemma => kernel_rfl) Tryd.func3 (joined_mk knownSums_j1 seat_laidOut seat_mapsRowed knownSums_j4 knownSums_j5 knownSums_j6 seat_stops knownSums_j8 seat_stopKnobs knownSums_j10 knownSums_j11 knownSums_j12 knownSums_j13 knownSums_j14 knownSums_j15 knownSums_j16 knownSums_j17 knownSums_j18 knownSums_j19 knownSums_j20 knownSums_j21 knownSums_j22 knownSums_j23 knownSums_j24 seat_stopsHeard seat_mayEnter knownSums_j27 knownSums_j28 knownSums_j29 knownSums_j30 knownSums_j31 knownSums_j32)
    (of_decide_eq_true (by as_aux_lemma => kernel_rfl)) (by unfold Func.isWrapper; first | (rw [if_pos (by decide +kernel)]; kernel_rfl) | (rw [if_neg (by decide +kernel)]; exact ⟨rfl, rfl⟩))
    (fun os started H enc _ F => by rw [OpenClaim.pre_eq_preRow]; exact knownSums_lifted os started H enc F)
theorem knownSums_plain (f : FuncId) (fn : Func) (hf : Tryd.pinned.checked.prog.funcNamed "canopy/canopykeep.KnownSums" = some f) (hfn : Tryd.pinned.checked.prog.funcs[f]? = some fn) :
    false = Tryd.pinned.checked.prog.looks [] ∧ ∀ (j : Nat) t, fn.params[j]? = some t → Tryd.pinned.checked.prog.wantsStandIn t = false := by
  obtain rfl : f = 3 := Option.some.inj ((show Tryd.prog.funcNamed "canopy/canopykeep.KnownSums" = some 3 by kernel_rfl).symm.trans hf) |>.symm
  obtain rfl : fn = Tryd.f3 := (Option.some.inj (Tryd.func3.symm.trans hfn)).symm
  refine ⟨by kernel_rfl, fun j t ht => ?_⟩
  have hall : (Tryd.f3.params.all fun t => !Tryd.prog.wantsStandIn t) = true := by kernel_rfl
  have := Array.all_eq_true_iff_forall_mem.1 hall t (Array.mem_of_getElem? ht)
  show Tryd.prog.wantsStandIn t = false
  simpa using this
set_option maxRecDepth 1000000 in
theorem knownSums_holds : Rows.KnownSumsCardSaid :=
  Claim7.holds_tied_plain_at .later [] _ _ _ _ knownSums_said (fun _ h => by cases h) (by kernel_rfl) (fun _ h => by cases h) knownSums_row_tie rfl ⟨rfl, rfl⟩ (by kernel_rfl) rfl knownSums_plain (by kernel_rfl)
#print axioms knownSums_holds
end Go.Proofs.YtcanckliggcllaaDoor
