/- The law GetModel: for every input the call returns true, and each argument reads behind the call as it read before. -/
import Derived.Test.YtlimmmidfhpakaaCGetModel
import Derived.Test.YtlimmmidfhpakaaGM1
import Derived.Test.YtlimmmidfhpakaaGM2
namespace Go.Proofs.Ytlimmmidfhpakaa
open Go.ChangeShapes Go.WideShapes Go.ChangeAt Go.RowKit
set_option linter.unusedVariables false
theorem getModel_own : ownKnob Try.prog.godebug = none := by kernel_rfl
theorem getModel_laidOut : laidOutB Try.prog = true := seat_laidOut
theorem getModel_j1 : (Rows.getModelRow.wf (OpenSpec.ofChange Rows.getModelSpec)) = true := by kernel_rfl
theorem getModel_j4 : (Try.f3.params.all (Try.pinned.checked.prog.readableRec ·)) = true := by kernel_rfl
theorem getModel_j5 : (namedTie Try.pinned.checked.prog Rows.getModelRow.named Rows.getModelSpec.vars) = true := by kernel_rfl
theorem getModel_j6 : ((Rows.getModelRow.stops == [])) = true := by kernel_rfl
theorem getModel_j8 : ((Rows.getModelRow.knobs == [])) = true := by kernel_rfl
theorem getModel_j10 : ((Rows.getModelRow.inPlace == Try.pinned.checked.prog.inPlace 3)) = true := by kernel_rfl
theorem getModel_j11 : ((Rows.getModelRow.unfollowed == Try.pinned.checked.prog.unfollowed 3)) = true := by kernel_rfl
theorem getModel_j12 : ((Rows.getModelRow.recurses == Try.pinned.checked.prog.recurses 3)) = true := by kernel_rfl
theorem getModel_j13 : ((Rows.getModelRow.named == Try.pinned.checked.prog.varsNamed 3)) = true := by kernel_rfl
theorem getModel_j14 : ((Rows.getModelRow.maps == (Try.f3.params.toList ++ Rows.getModelSpec.plain.varTypes Try.pinned.checked.prog).any (Try.pinned.checked.prog.mapsRec ·))) = true := by kernel_rfl
theorem getModel_j15 : ((Rows.getModelRow.ifaces == (Try.f3.params.toList ++ Rows.getModelSpec.plain.varTypes Try.pinned.checked.prog).any (Try.pinned.checked.prog.ifacesRec ·))) = true := by kernel_rfl
theorem getModel_j16 : ((Rows.getModelRow.mapsOut == Try.pinned.checked.prog.mapsAmong Try.f3.resultTypes.toList)) = true := by kernel_rfl
theorem getModel_j17 : ((Rows.getModelRow.loops == (Try.f3.params.toList ++ Rows.getModelSpec.plain.varTypes Try.pinned.checked.prog).any (Try.pinned.checked.prog.loopsFrom ·))) = true := by kernel_rfl
theorem getModel_j18 : ((Rows.getModelRow.wideKeys == (Try.f3.params.toList ++ Rows.getModelSpec.plain.varTypes Try.pinned.checked.prog ++ Try.f3.resultTypes.toList).any (Try.pinned.checked.prog.wideKeysFrom ·))) = true := by kernel_rfl
theorem getModel_j19 : (Rows.getModelSpec.vars.all (Try.pinned.checked.prog.varReadable ·)) = true := by kernel_rfl
theorem getModel_j20 : (Try.f3.resultTypes.all (fun t => Try.pinned.checked.prog.readableRec t && decide (t < Try.pinned.checked.prog.types.size))) = true := by kernel_rfl
theorem getModel_j21 : ((Rows.getModelRow.ifacesOut == Try.f3.resultTypes.toList.any (Try.pinned.checked.prog.ifacesRec ·))) = true := by kernel_rfl
theorem getModel_j22 : ((Rows.getModelRow.loopsOut == Try.f3.resultTypes.toList.any (Try.pinned.checked.prog.loopsFrom ·))) = true := by kernel_rfl
theorem getModel_j23 : ((Rows.getModelRow.plainKeys == Try.pinned.checked.prog.plainKeys)) = true := by kernel_rfl
theorem getModel_j24 : (Rows.getModelRow.shortTexts.isNone) = true := by kernel_rfl
theorem getModel_j27 : (Rows.getModelRow.lifted == Try.pinned.checked.prog.liftsFinal) = true := (congrArg (fun b => Rows.getModelRow.lifted == b) seat_liftsFinal).trans (by kernel_rfl)
theorem getModel_j28 : (Try.pinned.checked.prog.make == some Rows.getModelRow.make) = true := (congrArg (fun b => b == some Rows.getModelRow.make) seat_make).trans (by kernel_rfl)
theorem getModel_j29 : ((Rows.getModelRow.kinds == (if Rows.getModelRow.domain.isEmpty then [] else Try.f3.params.toList.map fun t => match Try.pinned.checked.prog.underlying t with | some (.int k) => some k | _ => none))) = true := by kernel_rfl
theorem getModel_j30 : ((Rows.getModelRow.pinned == Rows.getModelRow.pinnedBy)) = true := by kernel_rfl
theorem getModel_j31 : ((Rows.getModelRow.veiled == (Try.f3.params.toList ++ Rows.getModelSpec.plain.varTypes Try.pinned.checked.prog ++ Try.f3.resultTypes.toList).any (Try.pinned.checked.prog.veiledRec ·))) = true := by kernel_rfl
theorem getModel_j32 : (Rows.getModelRow.veiledFits Try.pinned.checked.prog Try.f3.params.toList (Try.f3.params.toList ++ Rows.getModelSpec.plain.varTypes Try.pinned.checked.prog ++ Try.f3.resultTypes.toList)) = true := by kernel_rfl
set_option maxRecDepth 100000 in
theorem getModel_lifted (os : Os) (started : os.Started) (H : Type) (enc : TypeId × Value → H) :
    ReturnsInHanded {} Try.checked os 3 .any (Rows.getModelSpec.pre6 enc Try.prog Try.f3 Rows.getModelRow.domain false) (Rows.getModelSpec.post enc Try.prog Try.f3 false true false false) := by
  refine returnsInHanded_of_change (C := Try.checked) getModel_own started (by kernel_rfl) Try.func3
    (ChangeSpec.witness6 (enc := enc) (C := Try.checked) false ⟨#[], #[.slice none 0 0], []⟩ 8 (by kernel_rfl) (by kernel_rfl) (by kernel_rfl) (by kernel_rfl)) ?_
  intro W base args ds gs before hval0 hW hcnd _
  have hval : ∀ (j : Nat) t v, Try.f3.params[j]? = some t → args[j]? = some v → Value.okWide Try.prog W .any base t v := hval0
  have hW' := hW
  obtain ⟨p, q, hA0, hV, rfl, hfz, hnd⟩ := hW
  have hA : DataW.TrodAll enc Try.prog W 0 (fun _ => true) true Try.f3.params.toList args.toList ds p := hA0
  rw [Try.params3] at hA hval
  obtain ⟨v0, vs0, d0, ds0, p0, q0, hargs, rfl, rfl, h0, r0⟩ := trodAll_cons hA
  obtain ⟨rfl, rfl, rfl⟩ := trodAll_nil r0
  obtain rfl : args = #[v0] := by cases args; simp_all
  obtain ⟨rfl, rfl⟩ := trodVars_none hV
  have k0 := h0
  have lt0 : ∀ x ∈ p0, x.block < W.heap.size := by obtain ⟨m, hm⟩ := k0; exact DataW.trod_lt m _ _ _ hm
  obtain ⟨a0, len0, cap0, rfl⟩ := okWide_slice Try.underlying22 (hval 0 22 v0 rfl rfl)
  obtain ⟨l0, w0⟩ : ∃ l, Pls (whole W) (.slice a0 len0 cap0) l := by
    obtain ⟨fuel, hf⟩ := h0
    exact rd_places Try.underlying22 Try.underlying30 (by kernel_rfl) (by kernel_rfl) rfl rfl rfl rfl Try.underlying25 Try.underlying5 (by kernel_rfl) Try.underlying4 hf
  clear hA0 hval0
  refine (getModel_walk W (.slice a0 len0 cap0) l0 w0).mono fun e W' ⟨he, bel⟩ => ?_
  subst he
  exact ⟨_, rfl, _, _, _, [], _, [], hW', trodAll_mk1 (shut_bool Try.underlying4 _), (trodAll_cons_mk (Below.trod getModel_laidOut (by kernel_rfl) (of_decide_eq_true (by kernel_rfl)) k0 bel lt0) trodAll_mk0), rfl, bel.frame _, fun h => by cases h⟩
set_option maxRecDepth 1000000 in
theorem getModel_holds : Rows.GetModelSaid :=
  OpenClaim.holds_of_wide 3 Try.f3 rfl rfl rfl rfl rfl rfl rfl ⟨rfl, rfl, rfl, rfl, rfl⟩ rfl rfl rfl rfl rfl (by as_aux_lemma => kernel_rfl) Try.func3 (joined_mk getModel_j1 seat_laidOut seat_mapsRowed getModel_j4 getModel_j5 getModel_j6 seat_stops getModel_j8 seat_stopKnobs getModel_j10 getModel_j11 getModel_j12 getModel_j13 getModel_j14 getModel_j15 getModel_j16 getModel_j17 getModel_j18 getModel_j19 getModel_j20 getModel_j21 getModel_j22 getModel_j23 getModel_j24 seat_stopsHeard seat_mayEnter getModel_j27 getModel_j28 getModel_j29 getModel_j30 getModel_j31 getModel_j32)
    (of_decide_eq_true (by as_aux_lemma => kernel_rfl)) (by unfold Func.isWrapper; first | (rw [if_pos (by decide +kernel)]; kernel_rfl) | (rw [if_neg (by decide +kernel)]; exact ⟨rfl, rfl⟩))
    (fun os started H enc _ => getModel_lifted os started H enc)
#print axioms getModel_holds
end Go.Proofs.Ytlimmmidfhpakaa
