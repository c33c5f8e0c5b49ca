/- The law ActBare: for every input the call returns true, and each argument reads behind the call as it read before. -/
import Derived.Test.YteefnnnbbmbmcaaC4
import Derived.Test.YteefnnnbbmbmcaaR
import Derived.Test.YteefnnnbbmbmcaaJ
import Derived.Lib.SmallJoins
namespace Go.Proofs.Yteefnnnbbmbmcaa
open Go.ChangeShapes Go.WideShapes Go.ChangeAt Go.RowKit
set_option linter.unusedVariables false
theorem actBare_own : ownKnob Try.prog.godebug = none := by kernel_rfl
theorem actBare_laidOut : laidOutB Try.prog = true := seat_laidOut
theorem actBare_j1 : (Rows.actBareRow.wf (OpenSpec.ofChange Rows.actBareSpec)) = true := by kernel_rfl
theorem actBare_j4 : (Try.f5.params.all (Try.pinned.checked.prog.readableRec ·)) = true := by kernel_rfl
theorem actBare_j5 : (namedTie Try.pinned.checked.prog Rows.actBareRow.named Rows.actBareSpec.vars) = true := by kernel_rfl
theorem actBare_j6 : ((Rows.actBareRow.stops == [])) = true := by kernel_rfl
theorem actBare_j8 : ((Rows.actBareRow.knobs == [])) = true := by kernel_rfl
theorem actBare_j10 : ((Rows.actBareRow.inPlace == Try.pinned.checked.prog.inPlace 5)) = true := by kernel_rfl
theorem actBare_j11 : ((Rows.actBareRow.unfollowed == Try.pinned.checked.prog.unfollowed 5)) = true := by kernel_rfl
theorem actBare_j12 : ((Rows.actBareRow.recurses == Try.pinned.checked.prog.recurses 5)) = true := by kernel_rfl
theorem actBare_j13 : ((Rows.actBareRow.named == Try.pinned.checked.prog.varsNamed 5)) = true := by kernel_rfl
theorem actBare_j14 : ((Rows.actBareRow.maps == (Try.f5.params.toList ++ Rows.actBareSpec.plain.varTypes Try.pinned.checked.prog).any (Try.pinned.checked.prog.mapsRec ·))) = true := by kernel_rfl
theorem actBare_j15 : ((Rows.actBareRow.ifaces == (Try.f5.params.toList ++ Rows.actBareSpec.plain.varTypes Try.pinned.checked.prog).any (Try.pinned.checked.prog.ifacesRec ·))) = true := by kernel_rfl
theorem actBare_j16 : ((Rows.actBareRow.mapsOut == Try.pinned.checked.prog.mapsAmong Try.f5.resultTypes.toList)) = true := by kernel_rfl
theorem actBare_j17 : ((Rows.actBareRow.loops == (Try.f5.params.toList ++ Rows.actBareSpec.plain.varTypes Try.pinned.checked.prog).any (Try.pinned.checked.prog.loopsFrom ·))) = true := by kernel_rfl
theorem actBare_j18 : ((Rows.actBareRow.wideKeys == (Try.f5.params.toList ++ Rows.actBareSpec.plain.varTypes Try.pinned.checked.prog ++ Try.f5.resultTypes.toList).any (Try.pinned.checked.prog.wideKeysFrom ·))) = true := by kernel_rfl
theorem actBare_j19 : (Rows.actBareSpec.vars.all (Try.pinned.checked.prog.varReadable ·)) = true := by kernel_rfl
theorem actBare_j20 : (Try.f5.resultTypes.all (fun t => Try.pinned.checked.prog.readableRec t && decide (t < Try.pinned.checked.prog.types.size))) = true := by kernel_rfl
theorem actBare_j21 : ((Rows.actBareRow.ifacesOut == Try.f5.resultTypes.toList.any (Try.pinned.checked.prog.ifacesRec ·))) = true := by kernel_rfl
theorem actBare_j22 : ((Rows.actBareRow.loopsOut == Try.f5.resultTypes.toList.any (Try.pinned.checked.prog.loopsFrom ·))) = true := by kernel_rfl
theorem actBare_j23 : ((Rows.actBareRow.plainKeys == Try.pinned.checked.prog.plainKeys)) = true := by kernel_rfl
theorem actBare_j24 : (Rows.actBareRow.shortTexts.isNone) = true := by kernel_rfl
theorem actBare_j27 : (Rows.actBareRow.lifted == Try.pinned.checked.prog.liftsFinal) = true := (congrArg (fun b => Rows.actBareRow.lifted == b) seat_liftsFinal).trans (by kernel_rfl)
theorem actBare_j28 : (Try.pinned.checked.prog.make == some Rows.actBareRow.make) = true := (congrArg (fun b => b == some Rows.actBareRow.make) seat_make).trans (by kernel_rfl)
theorem actBare_j29 : ((Rows.actBareRow.kinds == (if Rows.actBareRow.domain.isEmpty then [] else Try.f5.params.toList.map fun t => match Try.pinned.checked.prog.underlying t with | some (.int k) => some k | _ => none))) = true := by kernel_rfl
theorem actBare_j30 : ((Rows.actBareRow.pinned == Rows.actBareRow.pinnedBy)) = true := by kernel_rfl
theorem actBare_j31 : ((Rows.actBareRow.veiled == (Try.f5.params.toList ++ Rows.actBareSpec.plain.varTypes Try.pinned.checked.prog ++ Try.f5.resultTypes.toList).any (Try.pinned.checked.prog.veiledRec ·))) = true := by kernel_rfl
theorem actBare_j32 : (Rows.actBareRow.veiledFits Try.pinned.checked.prog Try.f5.params.toList (Try.f5.params.toList ++ Rows.actBareSpec.plain.varTypes Try.pinned.checked.prog ++ Try.f5.resultTypes.toList)) = true := by kernel_rfl
set_option maxRecDepth 100000 in
theorem actBare_lifted (os : Os) (started : os.Started) (H : Type) (enc : TypeId × Value → H) :
    ReturnsInHanded {} Try.checked os 5 .any (Rows.actBareSpec.pre6 enc Try.prog Try.f5 Rows.actBareRow.domain false) (Rows.actBareSpec.post enc Try.prog Try.f5 false true false false) := by
  refine returnsInHanded_of_change (C := Try.checked) actBare_own started (by kernel_rfl) Try.func5
    (ChangeSpec.witness6 (enc := enc) (C := Try.checked) false ⟨#[], #[.agg #[.int .i64 0, .int .i64 0, .slice none 0 0], .int .i64 0], []⟩ 8 (by kernel_rfl) (by kernel_rfl) (by kernel_rfl) (by kernel_rfl)) ?_
  intro W base args ds gs before hval0 hW hcnd _
  have hval : ∀ (j : Nat) t v, Try.f5.params[j]? = some t → args[j]? = some v → Value.okWide Try.prog W .any base t v := hval0
  have hW' := hW
  obtain ⟨p, q, hA0, hV, rfl, hfz, hnd⟩ := hW
  have hA : DataW.TrodAll enc Try.prog W 0 (fun _ => true) true Try.f5.params.toList args.toList ds p := hA0
  rw [Try.params5] at hA hval
  obtain ⟨v0, vs0, d0, ds0, p0, q0, hargs, rfl, rfl, h0, r0⟩ := trodAll_cons hA
  obtain ⟨v1, vs1, d1, ds1, p1, q1, rfl, rfl, rfl, h1, r1⟩ := trodAll_cons r0
  obtain ⟨rfl, rfl, rfl⟩ := trodAll_nil r1
  obtain rfl : args = #[v0, v1] := by cases args; simp_all
  obtain ⟨rfl, rfl⟩ := trodVars_none hV
  have k0 := h0
  have lt0 : ∀ x ∈ p0, x.block < W.heap.size := by obtain ⟨m, hm⟩ := k0; exact DataW.trod_lt m _ _ _ hm
  obtain ⟨c0_0, c0_1, c0_2, y0_0, y0_1, y0_2, n0, rfl, _, _, t0_0, t0_1, t0_2⟩ := Joins.open_agg3 Try.underlying29 (by kernel_rfl) (by kernel_rfl) (hval 0 29 v0 rfl rfl) h0
  obtain ⟨z0_0, ez0_0, _, wz0_0⟩ := DataW.trod_int Try.underlying3 t0_0
  obtain rfl : c0_0 = _ := by simpa using ez0_0
  have b0_0 := bounds_i64 wz0_0
  obtain ⟨z0_1, ez0_1, _, wz0_1⟩ := DataW.trod_int Try.underlying3 t0_1
  obtain rfl : c0_1 = _ := by simpa using ez0_1
  have b0_1 := bounds_i64 wz0_1
  obtain ⟨l0_2, w0_2⟩ := rd_bytes_cells Try.underlying27 Try.underlying5 (by kernel_rfl) t0_2
  have k1 := h1
  have lt1 : ∀ x ∈ p1, x.block < W.heap.size := by obtain ⟨m, hm⟩ := k1; exact DataW.trod_lt m _ _ _ hm
  obtain ⟨x1, rfl, _, _, wx1⟩ := open_int Try.underlying3 (hval 1 3 v1 rfl rfl) h1
  have b1 := bounds_i64 wx1
  clear hA0 hval0
  refine (actBare_walk W z0_0 z0_1 c0_2 l0_2 x1 w0_2 b0_0.1 b0_0.2 b0_1.1 b0_1.2 b1.1 b1.2).mono fun e W' ⟨he, bel⟩ => ?_
  subst he
  exact ⟨_, rfl, _, _, _, [], _, [], hW', trodAll_mk1 (shut_bool Try.underlying4 _), (trodAll_cons_mk (Below.trod actBare_laidOut (by kernel_rfl) (of_decide_eq_true (by kernel_rfl)) k0 bel lt0) (trodAll_cons_mk (Below.trod actBare_laidOut (by kernel_rfl) (of_decide_eq_true (by kernel_rfl)) k1 bel lt1) trodAll_mk0)), rfl, bel.frame _, fun h => by cases h⟩
set_option maxRecDepth 1000000 in
theorem actBare_holds : Rows.ActBareSaid :=
  OpenClaim.holds_of_wide 5 Try.f5 rfl rfl rfl rfl rfl rfl rfl ⟨rfl, rfl, rfl, rfl, rfl⟩ rfl rfl rfl rfl rfl (by as_aux_lemma => kernel_rfl) Try.func5 (joined_mk actBare_j1 seat_laidOut seat_mapsRowed actBare_j4 actBare_j5 actBare_j6 seat_stops actBare_j8 seat_stopKnobs actBare_j10 actBare_j11 actBare_j12 actBare_j13 actBare_j14 actBare_j15 actBare_j16 actBare_j17 actBare_j18 actBare_j19 actBare_j20 actBare_j21 actBare_j22 actBare_j23 actBare_j24 seat_stopsHeard seat_mayEnter actBare_j27 actBare_j28 actBare_j29 actBare_j30 actBare_j31 actBare_j32)
    (of_decide_eq_true (by as_aux_lemma => kernel_rfl)) (by unfold Func.isWrapper; first | (rw [if_pos (by decide +kernel)]; kernel_rfl) | (rw [if_neg (by decide +kernel)]; exact ⟨rfl, rfl⟩))
    (fun os started H enc _ => actBare_lifted os started H enc)
#print axioms actBare_holds
end Go.Proofs.Yteefnnnbbmbmcaa
