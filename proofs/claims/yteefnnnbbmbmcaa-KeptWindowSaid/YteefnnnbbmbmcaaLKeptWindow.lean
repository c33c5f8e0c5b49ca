/- The law KeptWindow: for every input the call returns true, and each argument reads behind the call as it read before. -/
import Derived.Test.YteefnnnbbmbmcaaC1
import Derived.Test.YteefnnnbbmbmcaaR
import Derived.Test.YteefnnnbbmbmcaaJ
namespace Go.Proofs.Yteefnnnbbmbmcaa
open Go.ChangeShapes Go.WideShapes Go.ChangeAt Go.RowKit
set_option linter.unusedVariables false
theorem keptWindow_own : ownKnob Try.prog.godebug = none := by kernel_rfl
theorem keptWindow_laidOut : laidOutB Try.prog = true := seat_laidOut
theorem keptWindow_j1 : (Rows.keptWindowRow.wf (OpenSpec.ofChange Rows.keptWindowSpec)) = true := by kernel_rfl
theorem keptWindow_j4 : (Try.f3.params.all (Try.pinned.checked.prog.readableRec ·)) = true := by kernel_rfl
theorem keptWindow_j5 : (namedTie Try.pinned.checked.prog Rows.keptWindowRow.named Rows.keptWindowSpec.vars) = true := by kernel_rfl
theorem keptWindow_j6 : ((Rows.keptWindowRow.stops == [])) = true := by kernel_rfl
theorem keptWindow_j8 : ((Rows.keptWindowRow.knobs == [])) = true := by kernel_rfl
theorem keptWindow_j10 : ((Rows.keptWindowRow.inPlace == Try.pinned.checked.prog.inPlace 3)) = true := by kernel_rfl
theorem keptWindow_j11 : ((Rows.keptWindowRow.unfollowed == Try.pinned.checked.prog.unfollowed 3)) = true := by kernel_rfl
theorem keptWindow_j12 : ((Rows.keptWindowRow.recurses == Try.pinned.checked.prog.recurses 3)) = true := by kernel_rfl
theorem keptWindow_j13 : ((Rows.keptWindowRow.named == Try.pinned.checked.prog.varsNamed 3)) = true := by kernel_rfl
theorem keptWindow_j14 : ((Rows.keptWindowRow.maps == (Try.f3.params.toList ++ Rows.keptWindowSpec.plain.varTypes Try.pinned.checked.prog).any (Try.pinned.checked.prog.mapsRec ·))) = true := by kernel_rfl
theorem keptWindow_j15 : ((Rows.keptWindowRow.ifaces == (Try.f3.params.toList ++ Rows.keptWindowSpec.plain.varTypes Try.pinned.checked.prog).any (Try.pinned.checked.prog.ifacesRec ·))) = true := by kernel_rfl
theorem keptWindow_j16 : ((Rows.keptWindowRow.mapsOut == Try.pinned.checked.prog.mapsAmong Try.f3.resultTypes.toList)) = true := by kernel_rfl
theorem keptWindow_j17 : ((Rows.keptWindowRow.loops == (Try.f3.params.toList ++ Rows.keptWindowSpec.plain.varTypes Try.pinned.checked.prog).any (Try.pinned.checked.prog.loopsFrom ·))) = true := by kernel_rfl
theorem keptWindow_j18 : ((Rows.keptWindowRow.wideKeys == (Try.f3.params.toList ++ Rows.keptWindowSpec.plain.varTypes Try.pinned.checked.prog ++ Try.f3.resultTypes.toList).any (Try.pinned.checked.prog.wideKeysFrom ·))) = true := by kernel_rfl
theorem keptWindow_j19 : (Rows.keptWindowSpec.vars.all (Try.pinned.checked.prog.varReadable ·)) = true := by kernel_rfl
theorem keptWindow_j20 : (Try.f3.resultTypes.all (fun t => Try.pinned.checked.prog.readableRec t && decide (t < Try.pinned.checked.prog.types.size))) = true := by kernel_rfl
theorem keptWindow_j21 : ((Rows.keptWindowRow.ifacesOut == Try.f3.resultTypes.toList.any (Try.pinned.checked.prog.ifacesRec ·))) = true := by kernel_rfl
theorem keptWindow_j22 : ((Rows.keptWindowRow.loopsOut == Try.f3.resultTypes.toList.any (Try.pinned.checked.prog.loopsFrom ·))) = true := by kernel_rfl
theorem keptWindow_j23 : ((Rows.keptWindowRow.plainKeys == Try.pinned.checked.prog.plainKeys)) = true := by kernel_rfl
theorem keptWindow_j24 : (Rows.keptWindowRow.shortTexts.isNone) = true := by kernel_rfl
theorem keptWindow_j27 : (Rows.keptWindowRow.lifted == Try.pinned.checked.prog.liftsFinal) = true := (congrArg (fun b => Rows.keptWindowRow.lifted == b) seat_liftsFinal).trans (by kernel_rfl)
theorem keptWindow_j28 : (Try.pinned.checked.prog.make == some Rows.keptWindowRow.make) = true := (congrArg (fun b => b == some Rows.keptWindowRow.make) seat_make).trans (by kernel_rfl)
theorem keptWindow_j29 : ((Rows.keptWindowRow.kinds == (if Rows.keptWindowRow.domain.isEmpty then [] else Try.f3.params.toList.map fun t => match Try.pinned.checked.prog.underlying t with | some (.int k) => some k | _ => none))) = true := by kernel_rfl
theorem keptWindow_j30 : ((Rows.keptWindowRow.pinned == Rows.keptWindowRow.pinnedBy)) = true := by kernel_rfl
theorem keptWindow_j31 : ((Rows.keptWindowRow.veiled == (Try.f3.params.toList ++ Rows.keptWindowSpec.plain.varTypes Try.pinned.checked.prog ++ Try.f3.resultTypes.toList).any (Try.pinned.checked.prog.veiledRec ·))) = true := by kernel_rfl
theorem keptWindow_j32 : (Rows.keptWindowRow.veiledFits Try.pinned.checked.prog Try.f3.params.toList (Try.f3.params.toList ++ Rows.keptWindowSpec.plain.varTypes Try.pinned.checked.prog ++ Try.f3.resultTypes.toList)) = true := by kernel_rfl
set_option maxRecDepth 100000 in
theorem keptWindow_lifted (os : Os) (started : os.Started) (H : Type) (enc : TypeId × Value → H) :
    ReturnsInHanded {} Try.checked os 3 .any (Rows.keptWindowSpec.pre6 enc Try.prog Try.f3 Rows.keptWindowRow.domain false) (Rows.keptWindowSpec.post enc Try.prog Try.f3 false true false false) := by
  refine returnsInHanded_of_change (C := Try.checked) keptWindow_own started (by kernel_rfl) Try.func3
    (ChangeSpec.witness6 (enc := enc) (C := Try.checked) false ⟨#[], #[.int .i64 0], []⟩ 8 (by kernel_rfl) (by kernel_rfl) (by kernel_rfl) (by kernel_rfl)) ?_
  intro W base args ds gs before hval0 hW hcnd _
  have hval : ∀ (j : Nat) t v, Try.f3.params[j]? = some t → args[j]? = some v → Value.okWide Try.prog W .any base t v := hval0
  have hW' := hW
  obtain ⟨p, q, hA0, hV, rfl, hfz, hnd⟩ := hW
  have hA : DataW.TrodAll enc Try.prog W 0 (fun _ => true) true Try.f3.params.toList args.toList ds p := hA0
  rw [Try.params3] at hA hval
  obtain ⟨v0, vs0, d0, ds0, p0, q0, hargs, rfl, rfl, h0, r0⟩ := trodAll_cons hA
  obtain ⟨rfl, rfl, rfl⟩ := trodAll_nil r0
  obtain rfl : args = #[v0] := by cases args; simp_all
  obtain ⟨rfl, rfl⟩ := trodVars_none hV
  have k0 := h0
  have lt0 : ∀ x ∈ p0, x.block < W.heap.size := by obtain ⟨m, hm⟩ := k0; exact DataW.trod_lt m _ _ _ hm
  obtain ⟨x0, rfl, _, _, wx0⟩ := open_int Try.underlying3 (hval 0 3 v0 rfl rfl) h0
  have b0 := bounds_i64 wx0
  clear hA0 hval0
  refine (keptWindow_walk x0 W b0.1 b0.2).mono fun e W' ⟨he, bel⟩ => ?_
  subst he
  exact ⟨_, rfl, _, _, _, [], _, [], hW', trodAll_mk1 (shut_bool Try.underlying4 _), (trodAll_cons_mk (Below.trod keptWindow_laidOut (by kernel_rfl) (of_decide_eq_true (by kernel_rfl)) k0 bel lt0) trodAll_mk0), rfl, bel.frame _, fun h => by cases h⟩
set_option maxRecDepth 1000000 in
theorem keptWindow_holds : Rows.KeptWindowSaid :=
  OpenClaim.holds_of_wide 3 Try.f3 rfl rfl rfl rfl rfl rfl rfl ⟨rfl, rfl, rfl, rfl, rfl⟩ rfl rfl rfl rfl rfl (by as_aux_lemma => kernel_rfl) Try.func3 (joined_mk keptWindow_j1 seat_laidOut seat_mapsRowed keptWindow_j4 keptWindow_j5 keptWindow_j6 seat_stops keptWindow_j8 seat_stopKnobs keptWindow_j10 keptWindow_j11 keptWindow_j12 keptWindow_j13 keptWindow_j14 keptWindow_j15 keptWindow_j16 keptWindow_j17 keptWindow_j18 keptWindow_j19 keptWindow_j20 keptWindow_j21 keptWindow_j22 keptWindow_j23 keptWindow_j24 seat_stopsHeard seat_mayEnter keptWindow_j27 keptWindow_j28 keptWindow_j29 keptWindow_j30 keptWindow_j31 keptWindow_j32)
    (of_decide_eq_true (by as_aux_lemma => kernel_rfl)) (by unfold Func.isWrapper; first | (rw [if_pos (by decide +kernel)]; kernel_rfl) | (rw [if_neg (by decide +kernel)]; exact ⟨rfl, rfl⟩))
    (fun os started H enc _ => keptWindow_lifted os started H enc)
#print axioms keptWindow_holds
end Go.Proofs.Yteefnnnbbmbmcaa
