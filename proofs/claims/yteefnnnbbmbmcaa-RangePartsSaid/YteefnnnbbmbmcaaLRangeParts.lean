/- The law RangeParts: for every input the call returns true, and each argument reads behind the call as it read before. -/
import Derived.Test.YteefnnnbbmbmcaaWRangeParts
import Derived.Test.YteefnnnbbmbmcaaR
import Derived.Test.YteefnnnbbmbmcaaJ
import Derived.Test.YteefnnnbbmbmcaaR2
namespace Go.Proofs.Yteefnnnbbmbmcaa
open Go.ChangeShapes Go.WideShapes Go.ChangeAt Go.RowKit
set_option linter.unusedVariables false
theorem rangeParts_own : ownKnob Try.prog.godebug = none := by kernel_rfl
theorem rangeParts_laidOut : laidOutB Try.prog = true := seat_laidOut
theorem rangeParts_j1 : (Rows.rangePartsRow.wf (OpenSpec.ofChange Rows.rangePartsSpec)) = true := by kernel_rfl
theorem rangeParts_j4 : (Try.f11.params.all (Try.pinned.checked.prog.readableRec ·)) = true := by kernel_rfl
theorem rangeParts_j5 : (namedTie Try.pinned.checked.prog Rows.rangePartsRow.named Rows.rangePartsSpec.vars) = true := by kernel_rfl
theorem rangeParts_j6 : ((Rows.rangePartsRow.stops == [])) = true := by kernel_rfl
theorem rangeParts_j8 : ((Rows.rangePartsRow.knobs == [])) = true := by kernel_rfl
theorem rangeParts_j10 : ((Rows.rangePartsRow.inPlace == Try.pinned.checked.prog.inPlace 11)) = true := by kernel_rfl
theorem rangeParts_j11 : ((Rows.rangePartsRow.unfollowed == Try.pinned.checked.prog.unfollowed 11)) = true := by kernel_rfl
theorem rangeParts_j12 : ((Rows.rangePartsRow.recurses == Try.pinned.checked.prog.recurses 11)) = true := by kernel_rfl
theorem rangeParts_j13 : ((Rows.rangePartsRow.named == Try.pinned.checked.prog.varsNamed 11)) = true := by kernel_rfl
theorem rangeParts_j14 : ((Rows.rangePartsRow.maps == (Try.f11.params.toList ++ Rows.rangePartsSpec.plain.varTypes Try.pinned.checked.prog).any (Try.pinned.checked.prog.mapsRec ·))) = true := by kernel_rfl
theorem rangeParts_j15 : ((Rows.rangePartsRow.ifaces == (Try.f11.params.toList ++ Rows.rangePartsSpec.plain.varTypes Try.pinned.checked.prog).any (Try.pinned.checked.prog.ifacesRec ·))) = true := by kernel_rfl
theorem rangeParts_j16 : ((Rows.rangePartsRow.mapsOut == Try.pinned.checked.prog.mapsAmong Try.f11.resultTypes.toList)) = true := by kernel_rfl
theorem rangeParts_j17 : ((Rows.rangePartsRow.loops == (Try.f11.params.toList ++ Rows.rangePartsSpec.plain.varTypes Try.pinned.checked.prog).any (Try.pinned.checked.prog.loopsFrom ·))) = true := by kernel_rfl
theorem rangeParts_j18 : ((Rows.rangePartsRow.wideKeys == (Try.f11.params.toList ++ Rows.rangePartsSpec.plain.varTypes Try.pinned.checked.prog ++ Try.f11.resultTypes.toList).any (Try.pinned.checked.prog.wideKeysFrom ·))) = true := by kernel_rfl
theorem rangeParts_j19 : (Rows.rangePartsSpec.vars.all (Try.pinned.checked.prog.varReadable ·)) = true := by kernel_rfl
theorem rangeParts_j20 : (Try.f11.resultTypes.all (fun t => Try.pinned.checked.prog.readableRec t && decide (t < Try.pinned.checked.prog.types.size))) = true := by kernel_rfl
theorem rangeParts_j21 : ((Rows.rangePartsRow.ifacesOut == Try.f11.resultTypes.toList.any (Try.pinned.checked.prog.ifacesRec ·))) = true := by kernel_rfl
theorem rangeParts_j22 : ((Rows.rangePartsRow.loopsOut == Try.f11.resultTypes.toList.any (Try.pinned.checked.prog.loopsFrom ·))) = true := by kernel_rfl
theorem rangeParts_j23 : ((Rows.rangePartsRow.plainKeys == Try.pinned.checked.prog.plainKeys)) = true := by kernel_rfl
theorem rangeParts_j24 : (Rows.rangePartsRow.shortTexts.isNone) = true := by kernel_rfl
theorem rangeParts_j27 : (Rows.rangePartsRow.lifted == Try.pinned.checked.prog.liftsFinal) = true := (congrArg (fun b => Rows.rangePartsRow.lifted == b) seat_liftsFinal).trans (by kernel_rfl)
theorem rangeParts_j28 : (Try.pinned.checked.prog.make == some Rows.rangePartsRow.make) = true := (congrArg (fun b => b == some Rows.rangePartsRow.make) seat_make).trans (by kernel_rfl)
theorem rangeParts_j29 : ((Rows.rangePartsRow.kinds == (if Rows.rangePartsRow.domain.isEmpty then [] else Try.f11.params.toList.map fun t => match Try.pinned.checked.prog.underlying t with | some (.int k) => some k | _ => none))) = true := by kernel_rfl
theorem rangeParts_j30 : ((Rows.rangePartsRow.pinned == Rows.rangePartsRow.pinnedBy)) = true := by kernel_rfl
theorem rangeParts_j31 : ((Rows.rangePartsRow.veiled == (Try.f11.params.toList ++ Rows.rangePartsSpec.plain.varTypes Try.pinned.checked.prog ++ Try.f11.resultTypes.toList).any (Try.pinned.checked.prog.veiledRec ·))) = true := by kernel_rfl
theorem rangeParts_j32 : (Rows.rangePartsRow.veiledFits Try.pinned.checked.prog Try.f11.params.toList (Try.f11.params.toList ++ Rows.rangePartsSpec.plain.varTypes Try.pinned.checked.prog ++ Try.f11.resultTypes.toList)) = true := by kernel_rfl
set_option maxRecDepth 100000 in
theorem rangeParts_lifted (os : Os) (started : os.Started) (H : Type) (enc : TypeId × Value → H) :
    ReturnsInHanded {} Try.checked os 11 .any (Rows.rangePartsSpec.pre6 enc Try.prog Try.f11 Rows.rangePartsRow.domain false) (Rows.rangePartsSpec.post enc Try.prog Try.f11 false true false false) := by
  refine returnsInHanded_of_change (C := Try.checked) rangeParts_own started (by kernel_rfl) Try.func11
    (ChangeSpec.witness6 (enc := enc) (C := Try.checked) false ⟨#[], #[.slice none 0 0, .slice none 0 0, .slice none 0 0, .slice none 0 0], []⟩ 8 (by kernel_rfl) (by kernel_rfl) (by kernel_rfl) (by kernel_rfl)) ?_
  intro W base args ds gs before hval0 hW hcnd _
  have hval : ∀ (j : Nat) t v, Try.f11.params[j]? = some t → args[j]? = some v → Value.okWide Try.prog W .any base t v := hval0
  have hW' := hW
  obtain ⟨p, q, hA0, hV, rfl, hfz, hnd⟩ := hW
  have hA : DataW.TrodAll enc Try.prog W 0 (fun _ => true) true Try.f11.params.toList args.toList ds p := hA0
  rw [Try.params11] at hA hval
  obtain ⟨v0, vs0, d0, ds0, p0, q0, hargs, rfl, rfl, h0, r0⟩ := trodAll_cons hA
  obtain ⟨v1, vs1, d1, ds1, p1, q1, rfl, rfl, rfl, h1, r1⟩ := trodAll_cons r0
  obtain ⟨v2, vs2, d2, ds2, p2, q2, rfl, rfl, rfl, h2, r2⟩ := trodAll_cons r1
  obtain ⟨v3, vs3, d3, ds3, p3, q3, rfl, rfl, rfl, h3, r3⟩ := trodAll_cons r2
  obtain ⟨rfl, rfl, rfl⟩ := trodAll_nil r3
  obtain rfl : args = #[v0, v1, v2, v3] := by cases args; simp_all
  obtain ⟨rfl, rfl⟩ := trodVars_none hV
  have k0 := h0
  have lt0 : ∀ x ∈ p0, x.block < W.heap.size := by obtain ⟨m, hm⟩ := k0; exact DataW.trod_lt m _ _ _ hm
  obtain ⟨a0, len0, cap0, rfl⟩ := okWide_slice Try.underlying43 (hval 0 43 v0 rfl rfl)
  obtain ⟨l0, w0⟩ : ∃ l, Prs (whole W) (.slice a0 len0 cap0) l := by
    obtain ⟨fuel, hf⟩ := h0
    exact rd_items Try.underlying43 Try.underlying57 (by kernel_rfl) (by kernel_rfl) rfl rfl Try.underlying27 Try.underlying5 (by kernel_rfl) hf
  have k1 := h1
  have lt1 : ∀ x ∈ p1, x.block < W.heap.size := by obtain ⟨m, hm⟩ := k1; exact DataW.trod_lt m _ _ _ hm
  obtain ⟨a1, len1, cap1, rfl⟩ := okWide_slice Try.underlying27 (hval 1 27 v1 rfl rfl)
  obtain ⟨l1, w1⟩ : ∃ l, Bs (whole W) (.slice a1 len1 cap1) l := by
    obtain ⟨fuel, hf⟩ := h1
    exact rd_bytes_cells Try.underlying27 Try.underlying5 (by kernel_rfl) hf
  have k2 := h2
  have lt2 : ∀ x ∈ p2, x.block < W.heap.size := by obtain ⟨m, hm⟩ := k2; exact DataW.trod_lt m _ _ _ hm
  obtain ⟨a2, len2, cap2, rfl⟩ := okWide_slice Try.underlying27 (hval 2 27 v2 rfl rfl)
  obtain ⟨l2, w2⟩ : ∃ l, Bs (whole W) (.slice a2 len2 cap2) l := by
    obtain ⟨fuel, hf⟩ := h2
    exact rd_bytes_cells Try.underlying27 Try.underlying5 (by kernel_rfl) hf
  have k3 := h3
  have lt3 : ∀ x ∈ p3, x.block < W.heap.size := by obtain ⟨m, hm⟩ := k3; exact DataW.trod_lt m _ _ _ hm
  obtain ⟨a3, len3, cap3, rfl⟩ := okWide_slice Try.underlying27 (hval 3 27 v3 rfl rfl)
  obtain ⟨l3, w3⟩ : ∃ l, Bs (whole W) (.slice a3 len3 cap3) l := by
    obtain ⟨fuel, hf⟩ := h3
    exact rd_bytes_cells Try.underlying27 Try.underlying5 (by kernel_rfl) hf
  clear hA0 hval0
  refine (rangeParts_walk W (.slice a0 len0 cap0) l0 w0 (.slice a1 len1 cap1) l1 w1 (.slice a2 len2 cap2) l2 w2 (.slice a3 len3 cap3) l3 w3).mono fun e W' ⟨he, bel⟩ => ?_
  subst he
  exact ⟨_, rfl, _, _, _, [], _, [], hW', trodAll_mk1 (shut_bool Try.underlying4 _), (trodAll_cons_mk (Below.trod rangeParts_laidOut (by kernel_rfl) (of_decide_eq_true (by kernel_rfl)) k0 bel lt0) (trodAll_cons_mk (Below.trod rangeParts_laidOut (by kernel_rfl) (of_decide_eq_true (by kernel_rfl)) k1 bel lt1) (trodAll_cons_mk (Below.trod rangeParts_laidOut (by kernel_rfl) (of_decide_eq_true (by kernel_rfl)) k2 bel lt2) (trodAll_cons_mk (Below.trod rangeParts_laidOut (by kernel_rfl) (of_decide_eq_true (by kernel_rfl)) k3 bel lt3) trodAll_mk0)))), rfl, bel.frame _, fun h => by cases h⟩
set_option maxRecDepth 1000000 in
theorem rangeParts_holds : Rows.RangePartsSaid :=
  OpenClaim.holds_of_wide 11 Try.f11 rfl rfl rfl rfl rfl rfl rfl ⟨rfl, rfl, rfl, rfl, rfl⟩ rfl rfl rfl rfl rfl (by as_aux_lemma => kernel_rfl) Try.func11 (joined_mk rangeParts_j1 seat_laidOut seat_mapsRowed rangeParts_j4 rangeParts_j5 rangeParts_j6 seat_stops rangeParts_j8 seat_stopKnobs rangeParts_j10 rangeParts_j11 rangeParts_j12 rangeParts_j13 rangeParts_j14 rangeParts_j15 rangeParts_j16 rangeParts_j17 rangeParts_j18 rangeParts_j19 rangeParts_j20 rangeParts_j21 rangeParts_j22 rangeParts_j23 rangeParts_j24 seat_stopsHeard seat_mayEnter rangeParts_j27 rangeParts_j28 rangeParts_j29 rangeParts_j30 rangeParts_j31 rangeParts_j32)
    (of_decide_eq_true (by as_aux_lemma => kernel_rfl)) (by unfold Func.isWrapper; first | (rw [if_pos (by decide +kernel)]; kernel_rfl) | (rw [if_neg (by decide +kernel)]; exact ⟨rfl, rfl⟩))
    (fun os started H enc _ => rangeParts_lifted os started H enc)
#print axioms rangeParts_holds
end Go.Proofs.Yteefnnnbbmbmcaa
