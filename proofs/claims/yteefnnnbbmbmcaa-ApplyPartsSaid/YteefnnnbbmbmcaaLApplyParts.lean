/- The law ApplyParts: for every input the call returns true, and each argument reads behind the call as it read before. -/
import Derived.Test.YteefnnnbbmbmcaaWApplyParts
import Derived.Test.YteefnnnbbmbmcaaR
import Derived.Test.YteefnnnbbmbmcaaJ
import Derived.Test.YteefnnnbbmbmcaaR2
namespace Go.Proofs.Yteefnnnbbmbmcaa
open Go.ChangeShapes Go.WideShapes Go.ChangeAt Go.RowKit
set_option linter.unusedVariables false
theorem applyParts_own : ownKnob Try.prog.godebug = none := by kernel_rfl
theorem applyParts_laidOut : laidOutB Try.prog = true := seat_laidOut
theorem applyParts_j1 : (Rows.applyPartsRow.wf (OpenSpec.ofChange Rows.applyPartsSpec)) = true := by kernel_rfl
theorem applyParts_j4 : (Try.f17.params.all (Try.pinned.checked.prog.readableRec ·)) = true := by kernel_rfl
theorem applyParts_j5 : (namedTie Try.pinned.checked.prog Rows.applyPartsRow.named Rows.applyPartsSpec.vars) = true := by kernel_rfl
theorem applyParts_j6 : ((Rows.applyPartsRow.stops == [])) = true := by kernel_rfl
theorem applyParts_j8 : ((Rows.applyPartsRow.knobs == [])) = true := by kernel_rfl
theorem applyParts_j10 : ((Rows.applyPartsRow.inPlace == Try.pinned.checked.prog.inPlace 17)) = true := by kernel_rfl
theorem applyParts_j11 : ((Rows.applyPartsRow.unfollowed == Try.pinned.checked.prog.unfollowed 17)) = true := by kernel_rfl
theorem applyParts_j12 : ((Rows.applyPartsRow.recurses == Try.pinned.checked.prog.recurses 17)) = true := by kernel_rfl
theorem applyParts_j13 : ((Rows.applyPartsRow.named == Try.pinned.checked.prog.varsNamed 17)) = true := by kernel_rfl
theorem applyParts_j14 : ((Rows.applyPartsRow.maps == (Try.f17.params.toList ++ Rows.applyPartsSpec.plain.varTypes Try.pinned.checked.prog).any (Try.pinned.checked.prog.mapsRec ·))) = true := by kernel_rfl
theorem applyParts_j15 : ((Rows.applyPartsRow.ifaces == (Try.f17.params.toList ++ Rows.applyPartsSpec.plain.varTypes Try.pinned.checked.prog).any (Try.pinned.checked.prog.ifacesRec ·))) = true := by kernel_rfl
theorem applyParts_j16 : ((Rows.applyPartsRow.mapsOut == Try.pinned.checked.prog.mapsAmong Try.f17.resultTypes.toList)) = true := by kernel_rfl
theorem applyParts_j17 : ((Rows.applyPartsRow.loops == (Try.f17.params.toList ++ Rows.applyPartsSpec.plain.varTypes Try.pinned.checked.prog).any (Try.pinned.checked.prog.loopsFrom ·))) = true := by kernel_rfl
theorem applyParts_j18 : ((Rows.applyPartsRow.wideKeys == (Try.f17.params.toList ++ Rows.applyPartsSpec.plain.varTypes Try.pinned.checked.prog ++ Try.f17.resultTypes.toList).any (Try.pinned.checked.prog.wideKeysFrom ·))) = true := by kernel_rfl
theorem applyParts_j19 : (Rows.applyPartsSpec.vars.all (Try.pinned.checked.prog.varReadable ·)) = true := by kernel_rfl
theorem applyParts_j20 : (Try.f17.resultTypes.all (fun t => Try.pinned.checked.prog.readableRec t && decide (t < Try.pinned.checked.prog.types.size))) = true := by kernel_rfl
theorem applyParts_j21 : ((Rows.applyPartsRow.ifacesOut == Try.f17.resultTypes.toList.any (Try.pinned.checked.prog.ifacesRec ·))) = true := by kernel_rfl
theorem applyParts_j22 : ((Rows.applyPartsRow.loopsOut == Try.f17.resultTypes.toList.any (Try.pinned.checked.prog.loopsFrom ·))) = true := by kernel_rfl
theorem applyParts_j23 : ((Rows.applyPartsRow.plainKeys == Try.pinned.checked.prog.plainKeys)) = true := by kernel_rfl
theorem applyParts_j24 : (Rows.applyPartsRow.shortTexts.isNone) = true := by kernel_rfl
theorem applyParts_j27 : (Rows.applyPartsRow.lifted == Try.pinned.checked.prog.liftsFinal) = true := (congrArg (fun b => Rows.applyPartsRow.lifted == b) seat_liftsFinal).trans (by kernel_rfl)
theorem applyParts_j28 : (Try.pinned.checked.prog.make == some Rows.applyPartsRow.make) = true := (congrArg (fun b => b == some Rows.applyPartsRow.make) seat_make).trans (by kernel_rfl)
theorem applyParts_j29 : ((Rows.applyPartsRow.kinds == (if Rows.applyPartsRow.domain.isEmpty then [] else Try.f17.params.toList.map fun t => match Try.pinned.checked.prog.underlying t with | some (.int k) => some k | _ => none))) = true := by kernel_rfl
theorem applyParts_j30 : ((Rows.applyPartsRow.pinned == Rows.applyPartsRow.pinnedBy)) = true := by kernel_rfl
theorem applyParts_j31 : ((Rows.applyPartsRow.veiled == (Try.f17.params.toList ++ Rows.applyPartsSpec.plain.varTypes Try.pinned.checked.prog ++ Try.f17.resultTypes.toList).any (Try.pinned.checked.prog.veiledRec ·))) = true := by kernel_rfl
theorem applyParts_j32 : (Rows.applyPartsRow.veiledFits Try.pinned.checked.prog Try.f17.params.toList (Try.f17.params.toList ++ Rows.applyPartsSpec.plain.varTypes Try.pinned.checked.prog ++ Try.f17.resultTypes.toList)) = true := by kernel_rfl
set_option maxRecDepth 100000 in
theorem applyParts_lifted (os : Os) (started : os.Started) (H : Type) (enc : TypeId × Value → H) :
    ReturnsInHanded {} Try.checked os 17 .any (Rows.applyPartsSpec.pre6 enc Try.prog Try.f17 Rows.applyPartsRow.domain false) (Rows.applyPartsSpec.post enc Try.prog Try.f17 false true false false) := by
  refine returnsInHanded_of_change (C := Try.checked) applyParts_own started (by kernel_rfl) Try.func17
    (ChangeSpec.witness6 (enc := enc) (C := Try.checked) false ⟨#[], #[.slice none 0 0, .slice none 0 0, .slice none 0 0], []⟩ 8 (by kernel_rfl) (by kernel_rfl) (by kernel_rfl) (by kernel_rfl)) ?_
  intro W base args ds gs before hval0 hW hcnd _
  have hval : ∀ (j : Nat) t v, Try.f17.params[j]? = some t → args[j]? = some v → Value.okWide Try.prog W .any base t v := hval0
  have hW' := hW
  obtain ⟨p, q, hA0, hV, rfl, hfz, hnd⟩ := hW
  have hA : DataW.TrodAll enc Try.prog W 0 (fun _ => true) true Try.f17.params.toList args.toList ds p := hA0
  rw [Try.params17] at hA hval
  obtain ⟨v0, vs0, d0, ds0, p0, q0, hargs, rfl, rfl, h0, r0⟩ := trodAll_cons hA
  obtain ⟨v1, vs1, d1, ds1, p1, q1, rfl, rfl, rfl, h1, r1⟩ := trodAll_cons r0
  obtain ⟨v2, vs2, d2, ds2, p2, q2, rfl, rfl, rfl, h2, r2⟩ := trodAll_cons r1
  obtain ⟨rfl, rfl, rfl⟩ := trodAll_nil r2
  obtain rfl : args = #[v0, v1, v2] := by cases args; simp_all
  obtain ⟨rfl, rfl⟩ := trodVars_none hV
  have k0 := h0
  have lt0 : ∀ x ∈ p0, x.block < W.heap.size := by obtain ⟨m, hm⟩ := k0; exact DataW.trod_lt m _ _ _ hm
  obtain ⟨a0, len0, cap0, rfl⟩ := okWide_slice Try.underlying64 (hval 0 64 v0 rfl rfl)
  obtain ⟨l0, w0⟩ : ∃ l, Pls (whole W) (.slice a0 len0 cap0) l := by
    obtain ⟨fuel, hf⟩ := h0
    exact rd_places Try.underlying64 Try.underlying70 (by kernel_rfl) (by kernel_rfl) rfl rfl rfl rfl Try.underlying27 Try.underlying5 (by kernel_rfl) Try.underlying4 hf
  have k1 := h1
  have lt1 : ∀ x ∈ p1, x.block < W.heap.size := by obtain ⟨m, hm⟩ := k1; exact DataW.trod_lt m _ _ _ hm
  obtain ⟨a1, len1, cap1, rfl⟩ := okWide_slice Try.underlying64 (hval 1 64 v1 rfl rfl)
  obtain ⟨l1, w1⟩ : ∃ l, Pls (whole W) (.slice a1 len1 cap1) l := by
    obtain ⟨fuel, hf⟩ := h1
    exact rd_places Try.underlying64 Try.underlying70 (by kernel_rfl) (by kernel_rfl) rfl rfl rfl rfl Try.underlying27 Try.underlying5 (by kernel_rfl) Try.underlying4 hf
  have k2 := h2
  have lt2 : ∀ x ∈ p2, x.block < W.heap.size := by obtain ⟨m, hm⟩ := k2; exact DataW.trod_lt m _ _ _ hm
  obtain ⟨a2, len2, cap2, rfl⟩ := okWide_slice Try.underlying64 (hval 2 64 v2 rfl rfl)
  obtain ⟨l2, w2⟩ : ∃ l, Pls (whole W) (.slice a2 len2 cap2) l := by
    obtain ⟨fuel, hf⟩ := h2
    exact rd_places Try.underlying64 Try.underlying70 (by kernel_rfl) (by kernel_rfl) rfl rfl rfl rfl Try.underlying27 Try.underlying5 (by kernel_rfl) Try.underlying4 hf
  clear hA0 hval0
  refine (applyParts_walk W (.slice a0 len0 cap0) l0 w0 (.slice a1 len1 cap1) l1 w1 (.slice a2 len2 cap2) l2 w2).mono fun e W' ⟨he, bel⟩ => ?_
  subst he
  exact ⟨_, rfl, _, _, _, [], _, [], hW', trodAll_mk1 (shut_bool Try.underlying4 _), (trodAll_cons_mk (Below.trod applyParts_laidOut (by kernel_rfl) (of_decide_eq_true (by kernel_rfl)) k0 bel lt0) (trodAll_cons_mk (Below.trod applyParts_laidOut (by kernel_rfl) (of_decide_eq_true (by kernel_rfl)) k1 bel lt1) (trodAll_cons_mk (Below.trod applyParts_laidOut (by kernel_rfl) (of_decide_eq_true (by kernel_rfl)) k2 bel lt2) trodAll_mk0))), rfl, bel.frame _, fun h => by cases h⟩
set_option maxRecDepth 1000000 in
theorem applyParts_holds : Rows.ApplyPartsSaid :=
  OpenClaim.holds_of_wide 17 Try.f17 rfl rfl rfl rfl rfl rfl rfl ⟨rfl, rfl, rfl, rfl, rfl⟩ rfl rfl rfl rfl rfl (by as_aux_lemma => kernel_rfl) Try.func17 (joined_mk applyParts_j1 seat_laidOut seat_mapsRowed applyParts_j4 applyParts_j5 applyParts_j6 seat_stops applyParts_j8 seat_stopKnobs applyParts_j10 applyParts_j11 applyParts_j12 applyParts_j13 applyParts_j14 applyParts_j15 applyParts_j16 applyParts_j17 applyParts_j18 applyParts_j19 applyParts_j20 applyParts_j21 applyParts_j22 applyParts_j23 applyParts_j24 seat_stopsHeard seat_mayEnter applyParts_j27 applyParts_j28 applyParts_j29 applyParts_j30 applyParts_j31 applyParts_j32)
    (of_decide_eq_true (by as_aux_lemma => kernel_rfl)) (by unfold Func.isWrapper; first | (rw [if_pos (by decide +kernel)]; kernel_rfl) | (rw [if_neg (by decide +kernel)]; exact ⟨rfl, rfl⟩))
    (fun os started H enc _ => applyParts_lifted os started H enc)
#print axioms applyParts_holds
end Go.Proofs.Yteefnnnbbmbmcaa
