/- The law KeyLong: for every input the call returns true, and each argument reads behind the call as it read before. -/
import Derived.Test.YteefnnnbbmbmcaaC1
import Derived.Test.YteefnnnbbmbmcaaR
import Derived.Test.YteefnnnbbmbmcaaJ
namespace Go.Proofs.Yteefnnnbbmbmcaa
open Go.ChangeShapes Go.WideShapes Go.ChangeAt Go.RowKit
set_option linter.unusedVariables false
theorem keyLong_own : ownKnob Try.prog.godebug = none := by kernel_rfl
theorem keyLong_laidOut : laidOutB Try.prog = true := seat_laidOut
theorem keyLong_j1 : (Rows.keyLongRow.wf (OpenSpec.ofChange Rows.keyLongSpec)) = true := by kernel_rfl
theorem keyLong_j4 : (Try.f4.params.all (Try.pinned.checked.prog.readableRec ·)) = true := by kernel_rfl
theorem keyLong_j5 : (namedTie Try.pinned.checked.prog Rows.keyLongRow.named Rows.keyLongSpec.vars) = true := by kernel_rfl
theorem keyLong_j6 : ((Rows.keyLongRow.stops == [])) = true := by kernel_rfl
theorem keyLong_j8 : ((Rows.keyLongRow.knobs == [])) = true := by kernel_rfl
theorem keyLong_j10 : ((Rows.keyLongRow.inPlace == Try.pinned.checked.prog.inPlace 4)) = true := by kernel_rfl
theorem keyLong_j11 : ((Rows.keyLongRow.unfollowed == Try.pinned.checked.prog.unfollowed 4)) = true := by kernel_rfl
theorem keyLong_j12 : ((Rows.keyLongRow.recurses == Try.pinned.checked.prog.recurses 4)) = true := by kernel_rfl
theorem keyLong_j13 : ((Rows.keyLongRow.named == Try.pinned.checked.prog.varsNamed 4)) = true := by kernel_rfl
theorem keyLong_j14 : ((Rows.keyLongRow.maps == (Try.f4.params.toList ++ Rows.keyLongSpec.plain.varTypes Try.pinned.checked.prog).any (Try.pinned.checked.prog.mapsRec ·))) = true := by kernel_rfl
theorem keyLong_j15 : ((Rows.keyLongRow.ifaces == (Try.f4.params.toList ++ Rows.keyLongSpec.plain.varTypes Try.pinned.checked.prog).any (Try.pinned.checked.prog.ifacesRec ·))) = true := by kernel_rfl
theorem keyLong_j16 : ((Rows.keyLongRow.mapsOut == Try.pinned.checked.prog.mapsAmong Try.f4.resultTypes.toList)) = true := by kernel_rfl
theorem keyLong_j17 : ((Rows.keyLongRow.loops == (Try.f4.params.toList ++ Rows.keyLongSpec.plain.varTypes Try.pinned.checked.prog).any (Try.pinned.checked.prog.loopsFrom ·))) = true := by kernel_rfl
theorem keyLong_j18 : ((Rows.keyLongRow.wideKeys == (Try.f4.params.toList ++ Rows.keyLongSpec.plain.varTypes Try.pinned.checked.prog ++ Try.f4.resultTypes.toList).any (Try.pinned.checked.prog.wideKeysFrom ·))) = true := by kernel_rfl
theorem keyLong_j19 : (Rows.keyLongSpec.vars.all (Try.pinned.checked.prog.varReadable ·)) = true := by kernel_rfl
theorem keyLong_j20 : (Try.f4.resultTypes.all (fun t => Try.pinned.checked.prog.readableRec t && decide (t < Try.pinned.checked.prog.types.size))) = true := by kernel_rfl
theorem keyLong_j21 : ((Rows.keyLongRow.ifacesOut == Try.f4.resultTypes.toList.any (Try.pinned.checked.prog.ifacesRec ·))) = true := by kernel_rfl
theorem keyLong_j22 : ((Rows.keyLongRow.loopsOut == Try.f4.resultTypes.toList.any (Try.pinned.checked.prog.loopsFrom ·))) = true := by kernel_rfl
theorem keyLong_j23 : ((Rows.keyLongRow.plainKeys == Try.pinned.checked.prog.plainKeys)) = true := by kernel_rfl
theorem keyLong_j24 : (Rows.keyLongRow.shortTexts.isNone) = true := by kernel_rfl
theorem keyLong_j27 : (Rows.keyLongRow.lifted == Try.pinned.checked.prog.liftsFinal) = true := (congrArg (fun b => Rows.keyLongRow.lifted == b) seat_liftsFinal).trans (by kernel_rfl)
theorem keyLong_j28 : (Try.pinned.checked.prog.make == some Rows.keyLongRow.make) = true := (congrArg (fun b => b == some Rows.keyLongRow.make) seat_make).trans (by kernel_rfl)
theorem keyLong_j29 : ((Rows.keyLongRow.kinds == (if Rows.keyLongRow.domain.isEmpty then [] else Try.f4.params.toList.map fun t => match Try.pinned.checked.prog.underlying t with | some (.int k) => some k | _ => none))) = true := by kernel_rfl
theorem keyLong_j30 : ((Rows.keyLongRow.pinned == Rows.keyLongRow.pinnedBy)) = true := by kernel_rfl
theorem keyLong_j31 : ((Rows.keyLongRow.veiled == (Try.f4.params.toList ++ Rows.keyLongSpec.plain.varTypes Try.pinned.checked.prog ++ Try.f4.resultTypes.toList).any (Try.pinned.checked.prog.veiledRec ·))) = true := by kernel_rfl
theorem keyLong_j32 : (Rows.keyLongRow.veiledFits Try.pinned.checked.prog Try.f4.params.toList (Try.f4.params.toList ++ Rows.keyLongSpec.plain.varTypes Try.pinned.checked.prog ++ Try.f4.resultTypes.toList)) = true := by kernel_rfl
set_option maxRecDepth 100000 in
theorem keyLong_lifted (os : Os) (started : os.Started) (H : Type) (enc : TypeId × Value → H) :
    ReturnsInHanded {} Try.checked os 4 .any (Rows.keyLongSpec.pre6 enc Try.prog Try.f4 Rows.keyLongRow.domain false) (Rows.keyLongSpec.post enc Try.prog Try.f4 false true false false) := by
  refine returnsInHanded_of_change (C := Try.checked) keyLong_own started (by kernel_rfl) Try.func4
    (ChangeSpec.witness6 (enc := enc) (C := Try.checked) false ⟨#[], #[.int .i64 0], []⟩ 8 (by kernel_rfl) (by kernel_rfl) (by kernel_rfl) (by kernel_rfl)) ?_
  intro W base args ds gs before hval0 hW hcnd _
  have hval : ∀ (j : Nat) t v, Try.f4.params[j]? = some t → args[j]? = some v → Value.okWide Try.prog W .any base t v := hval0
  have hW' := hW
  obtain ⟨p, q, hA0, hV, rfl, hfz, hnd⟩ := hW
  have hA : DataW.TrodAll enc Try.prog W 0 (fun _ => true) true Try.f4.params.toList args.toList ds p := hA0
  rw [Try.params4] at hA hval
  obtain ⟨v0, vs0, d0, ds0, p0, q0, hargs, rfl, rfl, h0, r0⟩ := trodAll_cons hA
  obtain ⟨rfl, rfl, rfl⟩ := trodAll_nil r0
  obtain rfl : args = #[v0] := by cases args; simp_all
  obtain ⟨rfl, rfl⟩ := trodVars_none hV
  have k0 := h0
  have lt0 : ∀ x ∈ p0, x.block < W.heap.size := by obtain ⟨m, hm⟩ := k0; exact DataW.trod_lt m _ _ _ hm
  obtain ⟨x0, rfl, _, _, wx0⟩ := open_int Try.underlying3 (hval 0 3 v0 rfl rfl) h0
  have b0 := bounds_i64 wx0
  clear hA0 hval0
  refine (keyLong_walk x0 W b0.1 b0.2).mono fun e W' ⟨he, bel⟩ => ?_
  subst he
  exact ⟨_, rfl, _, _, _, [], _, [], hW', trodAll_mk1 (shut_bool Try.underlying4 _), (trodAll_cons_mk (Below.trod keyLong_laidOut (by kernel_rfl) (of_decide_eq_true (by kernel_rfl)) k0 bel lt0) trodAll_mk0), rfl, bel.frame _, fun h => by cases h⟩
set_option maxRecDepth 1000000 in
theorem keyLong_holds : Rows.KeyLongSaid :=
  OpenClaim.holds_of_wide 4 Try.f4 rfl rfl rfl rfl rfl rfl rfl ⟨rfl, rfl, rfl, rfl, rfl⟩ rfl rfl rfl rfl rfl (by as_aux_lemma => kernel_rfl) Try.func4 (joined_mk keyLong_j1 seat_laidOut seat_mapsRowed keyLong_j4 keyLong_j5 keyLong_j6 seat_stops keyLong_j8 seat_stopKnobs keyLong_j10 keyLong_j11 keyLong_j12 keyLong_j13 keyLong_j14 keyLong_j15 keyLong_j16 keyLong_j17 keyLong_j18 keyLong_j19 keyLong_j20 keyLong_j21 keyLong_j22 keyLong_j23 keyLong_j24 seat_stopsHeard seat_mayEnter keyLong_j27 keyLong_j28 keyLong_j29 keyLong_j30 keyLong_j31 keyLong_j32)
    (of_decide_eq_true (by as_aux_lemma => kernel_rfl)) (by unfold Func.isWrapper; first | (rw [if_pos (by decide +kernel)]; kernel_rfl) | (rw [if_neg (by decide +kernel)]; exact ⟨rfl, rfl⟩))
    (fun os started H enc _ => keyLong_lifted os started H enc)
#print axioms keyLong_holds
end Go.Proofs.Yteefnnnbbmbmcaa
