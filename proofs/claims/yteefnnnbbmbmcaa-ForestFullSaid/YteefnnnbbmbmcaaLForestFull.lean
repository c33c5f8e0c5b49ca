/- The law ForestFull: for every input the call returns true, and each argument reads behind the call as it read before. -/
import Derived.Test.YteefnnnbbmbmcaaWForestFull
import Derived.Test.YteefnnnbbmbmcaaR
import Derived.Test.YteefnnnbbmbmcaaJ
namespace Go.Proofs.Yteefnnnbbmbmcaa
open Go.ChangeShapes Go.WideShapes Go.ChangeAt Go.RowKit
set_option linter.unusedVariables false
theorem forestFull_own : ownKnob Try.prog.godebug = none := by kernel_rfl
theorem forestFull_laidOut : laidOutB Try.prog = true := seat_laidOut
theorem forestFull_j1 : (Rows.forestFullRow.wf (OpenSpec.ofChange Rows.forestFullSpec)) = true := by kernel_rfl
theorem forestFull_j4 : (Try.f19.params.all (Try.pinned.checked.prog.readableRec ·)) = true := by kernel_rfl
theorem forestFull_j5 : (namedTie Try.pinned.checked.prog Rows.forestFullRow.named Rows.forestFullSpec.vars) = true := by kernel_rfl
theorem forestFull_j6 : ((Rows.forestFullRow.stops == [])) = true := by kernel_rfl
theorem forestFull_j8 : ((Rows.forestFullRow.knobs == [])) = true := by kernel_rfl
theorem forestFull_j10 : ((Rows.forestFullRow.inPlace == Try.pinned.checked.prog.inPlace 19)) = true := by kernel_rfl
theorem forestFull_j11 : ((Rows.forestFullRow.unfollowed == Try.pinned.checked.prog.unfollowed 19)) = true := by kernel_rfl
theorem forestFull_j12 : ((Rows.forestFullRow.recurses == Try.pinned.checked.prog.recurses 19)) = true := by kernel_rfl
theorem forestFull_j13 : ((Rows.forestFullRow.named == Try.pinned.checked.prog.varsNamed 19)) = true := by kernel_rfl
theorem forestFull_j14 : ((Rows.forestFullRow.maps == (Try.f19.params.toList ++ Rows.forestFullSpec.plain.varTypes Try.pinned.checked.prog).any (Try.pinned.checked.prog.mapsRec ·))) = true := by kernel_rfl
theorem forestFull_j15 : ((Rows.forestFullRow.ifaces == (Try.f19.params.toList ++ Rows.forestFullSpec.plain.varTypes Try.pinned.checked.prog).any (Try.pinned.checked.prog.ifacesRec ·))) = true := by kernel_rfl
theorem forestFull_j16 : ((Rows.forestFullRow.mapsOut == Try.pinned.checked.prog.mapsAmong Try.f19.resultTypes.toList)) = true := by kernel_rfl
theorem forestFull_j17 : ((Rows.forestFullRow.loops == (Try.f19.params.toList ++ Rows.forestFullSpec.plain.varTypes Try.pinned.checked.prog).any (Try.pinned.checked.prog.loopsFrom ·))) = true := by kernel_rfl
theorem forestFull_j18 : ((Rows.forestFullRow.wideKeys == (Try.f19.params.toList ++ Rows.forestFullSpec.plain.varTypes Try.pinned.checked.prog ++ Try.f19.resultTypes.toList).any (Try.pinned.checked.prog.wideKeysFrom ·))) = true := by kernel_rfl
theorem forestFull_j19 : (Rows.forestFullSpec.vars.all (Try.pinned.checked.prog.varReadable ·)) = true := by kernel_rfl
theorem forestFull_j20 : (Try.f19.resultTypes.all (fun t => Try.pinned.checked.prog.readableRec t && decide (t < Try.pinned.checked.prog.types.size))) = true := by kernel_rfl
theorem forestFull_j21 : ((Rows.forestFullRow.ifacesOut == Try.f19.resultTypes.toList.any (Try.pinned.checked.prog.ifacesRec ·))) = true := by kernel_rfl
theorem forestFull_j22 : ((Rows.forestFullRow.loopsOut == Try.f19.resultTypes.toList.any (Try.pinned.checked.prog.loopsFrom ·))) = true := by kernel_rfl
theorem forestFull_j23 : ((Rows.forestFullRow.plainKeys == Try.pinned.checked.prog.plainKeys)) = true := by kernel_rfl
theorem forestFull_j24 : (Rows.forestFullRow.shortTexts.isNone) = true := by kernel_rfl
theorem forestFull_j27 : (Rows.forestFullRow.lifted == Try.pinned.checked.prog.liftsFinal) = true := (congrArg (fun b => Rows.forestFullRow.lifted == b) seat_liftsFinal).trans (by kernel_rfl)
theorem forestFull_j28 : (Try.pinned.checked.prog.make == some Rows.forestFullRow.make) = true := (congrArg (fun b => b == some Rows.forestFullRow.make) seat_make).trans (by kernel_rfl)
theorem forestFull_j29 : ((Rows.forestFullRow.kinds == (if Rows.forestFullRow.domain.isEmpty then [] else Try.f19.params.toList.map fun t => match Try.pinned.checked.prog.underlying t with | some (.int k) => some k | _ => none))) = true := by kernel_rfl
theorem forestFull_j30 : ((Rows.forestFullRow.pinned == Rows.forestFullRow.pinnedBy)) = true := by kernel_rfl
theorem forestFull_j31 : ((Rows.forestFullRow.veiled == (Try.f19.params.toList ++ Rows.forestFullSpec.plain.varTypes Try.pinned.checked.prog ++ Try.f19.resultTypes.toList).any (Try.pinned.checked.prog.veiledRec ·))) = true := by kernel_rfl
theorem forestFull_j32 : (Rows.forestFullRow.veiledFits Try.pinned.checked.prog Try.f19.params.toList (Try.f19.params.toList ++ Rows.forestFullSpec.plain.varTypes Try.pinned.checked.prog ++ Try.f19.resultTypes.toList)) = true := by kernel_rfl
set_option maxRecDepth 100000 in
theorem forestFull_lifted (os : Os) (started : os.Started) (H : Type) (enc : TypeId × Value → H) :
    ReturnsInHanded {} Try.checked os 19 .any (Rows.forestFullSpec.pre6 enc Try.prog Try.f19 Rows.forestFullRow.domain false) (Rows.forestFullSpec.post enc Try.prog Try.f19 false true false false) := by
  refine returnsInHanded_of_change (C := Try.checked) forestFull_own started (by kernel_rfl) Try.func19
    (ChangeSpec.witness6 (enc := enc) (C := Try.checked) false ⟨#[], #[.int .i64 0], []⟩ 8 (by kernel_rfl) (by kernel_rfl) (by kernel_rfl) (by kernel_rfl)) ?_
  intro W base args ds gs before hval0 hW hcnd _
  have hval : ∀ (j : Nat) t v, Try.f19.params[j]? = some t → args[j]? = some v → Value.okWide Try.prog W .any base t v := hval0
  have hW' := hW
  obtain ⟨p, q, hA0, hV, rfl, hfz, hnd⟩ := hW
  have hA : DataW.TrodAll enc Try.prog W 0 (fun _ => true) true Try.f19.params.toList args.toList ds p := hA0
  rw [Try.params19] at hA hval
  obtain ⟨v0, vs0, d0, ds0, p0, q0, hargs, rfl, rfl, h0, r0⟩ := trodAll_cons hA
  obtain ⟨rfl, rfl, rfl⟩ := trodAll_nil r0
  obtain rfl : args = #[v0] := by cases args; simp_all
  obtain ⟨rfl, rfl⟩ := trodVars_none hV
  have k0 := h0
  have lt0 : ∀ x ∈ p0, x.block < W.heap.size := by obtain ⟨m, hm⟩ := k0; exact DataW.trod_lt m _ _ _ hm
  obtain ⟨x0, rfl, _, _, wx0⟩ := open_int Try.underlying3 (hval 0 3 v0 rfl rfl) h0
  have b0 := bounds_i64 wx0
  clear hA0 hval0
  refine (forestFull_walk W x0 b0.1 b0.2).mono fun e W' ⟨he, bel⟩ => ?_
  subst he
  exact ⟨_, rfl, _, _, _, [], _, [], hW', trodAll_mk1 (shut_bool Try.underlying4 _), (trodAll_cons_mk (Below.trod forestFull_laidOut (by kernel_rfl) (of_decide_eq_true (by kernel_rfl)) k0 bel lt0) trodAll_mk0), rfl, bel.frame _, fun h => by cases h⟩
set_option maxRecDepth 1000000 in
theorem forestFull_holds : Rows.ForestFullSaid :=
  OpenClaim.holds_of_wide 19 Try.f19 rfl rfl rfl rfl rfl rfl rfl ⟨rfl, rfl, rfl, rfl, rfl⟩ rfl rfl rfl rfl rfl (by as_aux_lemma => kernel_rfl) Try.func19 (joined_mk forestFull_j1 seat_laidOut seat_mapsRowed forestFull_j4 forestFull_j5 forestFull_j6 seat_stops forestFull_j8 seat_stopKnobs forestFull_j10 forestFull_j11 forestFull_j12 forestFull_j13 forestFull_j14 forestFull_j15 forestFull_j16 forestFull_j17 forestFull_j18 forestFull_j19 forestFull_j20 forestFull_j21 forestFull_j22 forestFull_j23 forestFull_j24 seat_stopsHeard seat_mayEnter forestFull_j27 forestFull_j28 forestFull_j29 forestFull_j30 forestFull_j31 forestFull_j32)
    (of_decide_eq_true (by as_aux_lemma => kernel_rfl)) (by unfold Func.isWrapper; first | (rw [if_pos (by decide +kernel)]; kernel_rfl) | (rw [if_neg (by decide +kernel)]; exact ⟨rfl, rfl⟩))
    (fun os started H enc _ => forestFull_lifted os started H enc)
#print axioms forestFull_holds
end Go.Proofs.Yteefnnnbbmbmcaa
