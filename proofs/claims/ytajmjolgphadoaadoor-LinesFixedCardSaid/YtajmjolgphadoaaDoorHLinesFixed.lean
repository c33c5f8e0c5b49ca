/- The law LinesFixed: for every input the call returns true, and each argument reads behind the call as it read before. -/
import Derived.Test.YtajmjolgphadoaaDoorCLinesFixed
import Derived.Test.YtajmjolgphadoaaDoorCN1
import Derived.Test.YtajmjolgphadoaaDoorCN6
namespace Go.Proofs.YtajmjolgphadoaaDoor
open Go.ChangeShapes Go.WideShapes Go.ChangeAt Go.RowKit
set_option linter.unusedVariables false
theorem linesFixed_own : ownKnob Tryd.prog.godebug = none := by kernel_rfl
theorem linesFixed_laidOut : laidOutB Tryd.prog = true := seat_laidOut
theorem linesFixed_j1 : (Rows.linesFixedRow.wf (OpenSpec.ofChange Rows.linesFixedSpec)) = true := by kernel_rfl
theorem linesFixed_j4 : (Tryd.f5.params.all (Tryd.pinned.checked.prog.readableRec ·)) = true := by kernel_rfl
theorem linesFixed_j5 : (namedTie Tryd.pinned.checked.prog Rows.linesFixedRow.named Rows.linesFixedSpec.vars) = true := by kernel_rfl
theorem linesFixed_j6 : ((Rows.linesFixedRow.stops == [])) = true := by kernel_rfl
theorem linesFixed_j8 : ((Rows.linesFixedRow.knobs == [])) = true := by kernel_rfl
theorem linesFixed_j10 : ((Rows.linesFixedRow.inPlace == Tryd.pinned.checked.prog.inPlace 5)) = true := by kernel_rfl
theorem linesFixed_j11 : ((Rows.linesFixedRow.unfollowed == Tryd.pinned.checked.prog.unfollowed 5)) = true := by kernel_rfl
theorem linesFixed_j12 : ((Rows.linesFixedRow.recurses == Tryd.pinned.checked.prog.recurses 5)) = true := by kernel_rfl
theorem linesFixed_j13 : ((Rows.linesFixedRow.named == Tryd.pinned.checked.prog.varsNamed 5)) = true := by kernel_rfl
theorem linesFixed_j14 : ((Rows.linesFixedRow.maps == (Tryd.f5.params.toList ++ Rows.linesFixedSpec.plain.varTypes Tryd.pinned.checked.prog).any (Tryd.pinned.checked.prog.mapsRec ·))) = true := by kernel_rfl
theorem linesFixed_j15 : ((Rows.linesFixedRow.ifaces == (Tryd.f5.params.toList ++ Rows.linesFixedSpec.plain.varTypes Tryd.pinned.checked.prog).any (Tryd.pinned.checked.prog.ifacesRec ·))) = true := by kernel_rfl
theorem linesFixed_j16 : ((Rows.linesFixedRow.mapsOut == Tryd.pinned.checked.prog.mapsAmong Tryd.f5.resultTypes.toList)) = true := by kernel_rfl
theorem linesFixed_j17 : ((Rows.linesFixedRow.loops == (Tryd.f5.params.toList ++ Rows.linesFixedSpec.plain.varTypes Tryd.pinned.checked.prog).any (Tryd.pinned.checked.prog.loopsFrom ·))) = true := by kernel_rfl
theorem linesFixed_j18 : ((Rows.linesFixedRow.wideKeys == (Tryd.f5.params.toList ++ Rows.linesFixedSpec.plain.varTypes Tryd.pinned.checked.prog ++ Tryd.f5.resultTypes.toList).any (Tryd.pinned.checked.prog.wideKeysFrom ·))) = true := by kernel_rfl
theorem linesFixed_j19 : (Rows.linesFixedSpec.vars.all (Tryd.pinned.checked.prog.varReadable ·)) = true := by kernel_rfl
theorem linesFixed_j20 : (Tryd.f5.resultTypes.all (fun t => Tryd.pinned.checked.prog.readableRec t && decide (t < Tryd.pinned.checked.prog.types.size))) = true := by kernel_rfl
theorem linesFixed_j21 : ((Rows.linesFixedRow.ifacesOut == Tryd.f5.resultTypes.toList.any (Tryd.pinned.checked.prog.ifacesRec ·))) = true := by kernel_rfl
theorem linesFixed_j22 : ((Rows.linesFixedRow.loopsOut == Tryd.f5.resultTypes.toList.any (Tryd.pinned.checked.prog.loopsFrom ·))) = true := by kernel_rfl
theorem linesFixed_j23 : ((Rows.linesFixedRow.plainKeys == Tryd.pinned.checked.prog.plainKeys)) = true := by kernel_rfl
theorem linesFixed_j24 : (Rows.linesFixedRow.shortTexts.isNone) = true := by kernel_rfl
theorem linesFixed_j27 : (Rows.linesFixedRow.lifted == Tryd.pinned.checked.prog.liftsFinal) = true := (congrArg (fun b => Rows.linesFixedRow.lifted == b) seat_liftsFinal).trans (by kernel_rfl)
theorem linesFixed_j28 : (Tryd.pinned.checked.prog.make == some Rows.linesFixedRow.make) = true := (congrArg (fun b => b == some Rows.linesFixedRow.make) seat_make).trans (by kernel_rfl)
theorem linesFixed_j29 : ((Rows.linesFixedRow.kinds == (if Rows.linesFixedRow.domain.isEmpty then [] else Tryd.f5.params.toList.map fun t => match Tryd.pinned.checked.prog.underlying t with | some (.int k) => some k | _ => none))) = true := by kernel_rfl
theorem linesFixed_j30 : ((Rows.linesFixedRow.pinned == Rows.linesFixedRow.pinnedBy)) = true := by kernel_rfl
theorem linesFixed_j31 : ((Rows.linesFixedRow.veiled == (Tryd.f5.params.toList ++ Rows.linesFixedSpec.plain.varTypes Tryd.pinned.checked.prog ++ Tryd.f5.resultTypes.toList).any (Tryd.pinned.checked.prog.veiledRec ·))) = true := by kernel_rfl
theorem linesFixed_j32 : (Rows.linesFixedRow.veiledFits Tryd.pinned.checked.prog Tryd.f5.params.toList (Tryd.f5.params.toList ++ Rows.linesFixedSpec.plain.varTypes Tryd.pinned.checked.prog ++ Tryd.f5.resultTypes.toList)) = true := by kernel_rfl
theorem linesFixed_met (os : Os) : laidMet Tryd.prog Rows.linesFixedRow.laid ((linWorld os).forCall (fun _ _ => 0) ⟨#[], #[.string .empty], []⟩).memory :=
  lin_laid os _
theorem linesFixed_reads (os : Os) {H : Type} (enc : TypeId × Value → H) : ∃ x, DataW.whole enc Tryd.prog ((linWorld os).forCall (fun _ _ => 0) ⟨#[], #[.string .empty], []⟩).memory Tryd.f5.params.toList Rows.linesFixedSpec.vars false (#[.string .empty] : Array Value).toList 8 = some x :=
  Option.isSome_iff_exists.1 (by kernel_rfl)
set_option maxRecDepth 100000 in
theorem linesFixed_lifted (os : Os) (started : os.Started) (H : Type) (enc : TypeId × Value → H) (F : Stop.Interp) :
    ReturnsInHanded {} Tryd.checked os 5 .any ((OpenSpec.ofChange Rows.linesFixedSpec).preRow enc Tryd.prog Tryd.f5 Rows.linesFixedRow.domain false Rows.linesFixedRow.laid) (((OpenSpec.ofChange Rows.linesFixedSpec).at F).post enc Tryd.prog Tryd.f5 false true false false) := by
  obtain ⟨places, hx⟩ := linesFixed_reads os enc
  refine returnsInHanded_of_row (C := Tryd.checked) (s := OpenSpec.ofChange Rows.linesFixedSpec) linesFixed_own started (by kernel_rfl) Tryd.func5
    (witness_row_atRef (enc := enc) (C := Tryd.checked) false (linWorld os) #[.string .empty] (World.laidAll_os _ _ _) (by kernel_rfl) (by kernel_rfl) (by kernel_rfl)
      (OpenSpec.preRow_of_cond 8 hx rfl (fun k hk => by cases hk) (by kernel_rfl) (linesFixed_met os))) ?_
  intro W base args ds gs before hval0 hW _ _ hsz hL hSh _
  have hval : ∀ (j : Nat) t v, Tryd.f5.params[j]? = some t → args[j]? = some v → Value.okWide Tryd.prog W .any base t v := hval0
  have hW' := hW
  obtain ⟨p, q, hA0, hV, rfl, hfz, hnd⟩ := hW
  have hA : DataW.TrodAll enc Tryd.prog W 0 (fun _ => true) true Tryd.f5.params.toList args.toList ds p := hA0
  rw [Tryd.params5] at hA hval
  obtain ⟨hTl, hWl⟩ := lin_met hL hSh
  obtain ⟨v0, vs0, d0, ds0, p0, q0, hargs, rfl, rfl, h0, r0⟩ := trodAll_cons hA
  obtain ⟨rfl, rfl, rfl⟩ := trodAll_nil r0
  obtain rfl : args = #[v0] := by cases args; simp_all
  obtain ⟨rfl, rfl⟩ := trodVars_none hV
  have k0 := h0
  have lt0 : ∀ x ∈ p0, x.block < W.heap.size := by obtain ⟨m, hm⟩ := k0; exact DataW.trod_lt m _ _ _ hm
  obtain ⟨s0, rfl, -, -, hs0⟩ := Go.ChangeMaps.open_string Tryd.underlying9 (hval 0 9 v0 rfl rfl) h0
  obtain ⟨l0, rfl⟩ : ∃ l : By, s0 = ⟨l.toArray⟩ := ⟨s0.data.toList, by cases s0; simp⟩
  clear hA0 hval0
  refine (linesFixed_walk W hTl hWl l0).mono fun e W' ⟨he, bel⟩ => ?_
  subst he
  exact ⟨_, rfl, _, _, _, [], _, [], hW', trodAll_mk1 (shut_bool Tryd.underlying4 _), (trodAll_cons_mk (Below.trod linesFixed_laidOut (by kernel_rfl) (of_decide_eq_true (by kernel_rfl)) k0 bel lt0) trodAll_mk0), rfl, bel.frame _, fun h => by cases h⟩
set_option maxRecDepth 1000000 in
theorem linesFixed_said : Rows.LinesFixedSaid :=
  OpenClaim.holds_of_cond 5 Tryd.f5 rfl rfl rfl rfl rfl rfl rfl ⟨rfl, rfl, rfl, rfl, rfl⟩ rfl rfl rfl rfl rfl (by as_aux_lemma => kernel_rfl) Tryd.func5 (joined_mk linesFixed_j1 seat_laidOut seat_mapsRowed linesFixed_j4 linesFixed_j5 linesFixed_j6 seat_stops linesFixed_j8 seat_stopKnobs linesFixed_j10 linesFixed_j11 linesFixed_j12 linesFixed_j13 linesFixed_j14 linesFixed_j15 linesFixed_j16 linesFixed_j17 linesFixed_j18 linesFixed_j19 linesFixed_j20 linesFixed_j21 linesFixed_j22 linesFixed_j23 linesFixed_j24 seat_stopsHeard seat_mayEnter linesFixed_j27 linesFixed_j28 linesFixed_j29 linesFixed_j30 linesFixed_j31 linesFixed_j32)
    (of_decide_eq_true (by as_aux_lemma => kernel_rfl)) (by unfold Func.isWrapper; first | (rw [if_pos (by decide +kernel)]; kernel_rfl) | (rw [if_neg (by decide +kernel)]; exact ⟨rfl, rfl⟩))
    (fun os started H enc _ F => by rw [OpenClaim.pre_eq_preRow]; exact linesFixed_lifted os started H enc F)
theorem linesFixed_plain (f : FuncId) (fn : Func) (hf : Tryd.pinned.checked.prog.funcNamed "canopy/canopykeep.LinesFixed" = some f) (hfn : Tryd.pinned.checked.prog.funcs[f]? = some fn) :
    true = Tryd.pinned.checked.prog.looks [] ∧ ∀ (j : Nat) t, fn.params[j]? = some t → Tryd.pinned.checked.prog.wantsStandIn t = false := by
  obtain rfl : f = 5 := Option.some.inj ((show Tryd.prog.funcNamed "canopy/canopykeep.LinesFixed" = some 5 by kernel_rfl).symm.trans hf) |>.symm
  obtain rfl : fn = Tryd.f5 := (Option.some.inj (Tryd.func5.symm.trans hfn)).symm
  refine ⟨by kernel_rfl, fun j t ht => ?_⟩
  have hall : (Tryd.f5.params.all fun t => !Tryd.prog.wantsStandIn t) = true := by kernel_rfl
  have := Array.all_eq_true_iff_forall_mem.1 hall t (Array.mem_of_getElem? ht)
  show Tryd.prog.wantsStandIn t = false
  simpa using this
set_option maxRecDepth 1000000 in
theorem linesFixed_holds : Rows.LinesFixedCardSaid :=
  Claim7.holds_tied_plain_at .later [] _ _ _ _ linesFixed_said (fun _ h => by cases h) (by kernel_rfl) (fun _ h => by cases h) linesFixed_row_tie rfl ⟨rfl, rfl⟩ (by kernel_rfl) rfl linesFixed_plain (by kernel_rfl)
#print axioms linesFixed_holds
end Go.Proofs.YtajmjolgphadoaaDoor
