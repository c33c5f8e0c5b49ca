/- The law RangeAll: for every input the call returns true, and each argument reads behind the call as it read before. -/
import Derived.Test.YteefnnnbbmbmcaaWRangeAll
import Derived.Test.YteefnnnbbmbmcaaR
import Derived.Test.YteefnnnbbmbmcaaJ
import Derived.Test.YteefnnnbbmbmcaaR2
namespace Go.Proofs.Yteefnnnbbmbmcaa
open Go.ChangeShapes Go.WideShapes Go.ChangeAt Go.RowKit
set_option linter.unusedVariables false
theorem rangeAll_own : ownKnob Try.prog.godebug = none := by kernel_rfl
theorem rangeAll_laidOut : laidOutB Try.prog = true := seat_laidOut
theorem rangeAll_j1 : (Rows.rangeAllRow.wf (OpenSpec.ofChange Rows.rangeAllSpec)) = true := by kernel_rfl
theorem rangeAll_j4 : (Try.f10.params.all (Try.pinned.checked.prog.readableRec ·)) = true := by kernel_rfl
theorem rangeAll_j5 : (namedTie Try.pinned.checked.prog Rows.rangeAllRow.named Rows.rangeAllSpec.vars) = true := by kernel_rfl
theorem rangeAll_j6 : ((Rows.rangeAllRow.stops == [])) = true := by kernel_rfl
theorem rangeAll_j8 : ((Rows.rangeAllRow.knobs == [])) = true := by kernel_rfl
theorem rangeAll_j10 : ((Rows.rangeAllRow.inPlace == Try.pinned.checked.prog.inPlace 10)) = true := by kernel_rfl
theorem rangeAll_j11 : ((Rows.rangeAllRow.unfollowed == Try.pinned.checked.prog.unfollowed 10)) = true := by kernel_rfl
theorem rangeAll_j12 : ((Rows.rangeAllRow.recurses == Try.pinned.checked.prog.recurses 10)) = true := by kernel_rfl
theorem rangeAll_j13 : ((Rows.rangeAllRow.named == Try.pinned.checked.prog.varsNamed 10)) = true := by kernel_rfl
theorem rangeAll_j14 : ((Rows.rangeAllRow.maps == (Try.f10.params.toList ++ Rows.rangeAllSpec.plain.varTypes Try.pinned.checked.prog).any (Try.pinned.checked.prog.mapsRec ·))) = true := by kernel_rfl
theorem rangeAll_j15 : ((Rows.rangeAllRow.ifaces == (Try.f10.params.toList ++ Rows.rangeAllSpec.plain.varTypes Try.pinned.checked.prog).any (Try.pinned.checked.prog.ifacesRec ·))) = true := by kernel_rfl
theorem rangeAll_j16 : ((Rows.rangeAllRow.mapsOut == Try.pinned.checked.prog.mapsAmong Try.f10.resultTypes.toList)) = true := by kernel_rfl
theorem rangeAll_j17 : ((Rows.rangeAllRow.loops == (Try.f10.params.toList ++ Rows.rangeAllSpec.plain.varTypes Try.pinned.checked.prog).any (Try.pinned.checked.prog.loopsFrom ·))) = true := by kernel_rfl
theorem rangeAll_j18 : ((Rows.rangeAllRow.wideKeys == (Try.f10.params.toList ++ Rows.rangeAllSpec.plain.varTypes Try.pinned.checked.prog ++ Try.f10.resultTypes.toList).any (Try.pinned.checked.prog.wideKeysFrom ·))) = true := by kernel_rfl
theorem rangeAll_j19 : (Rows.rangeAllSpec.vars.all (Try.pinned.checked.prog.varReadable ·)) = true := by kernel_rfl
theorem rangeAll_j20 : (Try.f10.resultTypes.all (fun t => Try.pinned.checked.prog.readableRec t && decide (t < Try.pinned.checked.prog.types.size))) = true := by kernel_rfl
theorem rangeAll_j21 : ((Rows.rangeAllRow.ifacesOut == Try.f10.resultTypes.toList.any (Try.pinned.checked.prog.ifacesRec ·))) = true := by kernel_rfl
theorem rangeAll_j22 : ((Rows.rangeAllRow.loopsOut == Try.f10.resultTypes.toList.any (Try.pinned.checked.prog.loopsFrom ·))) = true := by kernel_rfl
theorem rangeAll_j23 : ((Rows.rangeAllRow.plainKeys == Try.pinned.checked.prog.plainKeys)) = true := by kernel_rfl
theorem rangeAll_j24 : (Rows.rangeAllRow.shortTexts.isNone) = true := by kernel_rfl
theorem rangeAll_j27 : (Rows.rangeAllRow.lifted == Try.pinned.checked.prog.liftsFinal) = true := (congrArg (fun b => Rows.rangeAllRow.lifted == b) seat_liftsFinal).trans (by kernel_rfl)
theorem rangeAll_j28 : (Try.pinned.checked.prog.make == some Rows.rangeAllRow.make) = true := (congrArg (fun b => b == some Rows.rangeAllRow.make) seat_make).trans (by kernel_rfl)
theorem rangeAll_j29 : ((Rows.rangeAllRow.kinds == (if Rows.rangeAllRow.domain.isEmpty then [] else Try.f10.params.toList.map fun t => match Try.pinned.checked.prog.underlying t with | some (.int k) => some k | _ => none))) = true := by kernel_rfl
theorem rangeAll_j30 : ((Rows.rangeAllRow.pinned == Rows.rangeAllRow.pinnedBy)) = true := by kernel_rfl
theorem rangeAll_j31 : ((Rows.rangeAllRow.veiled == (Try.f10.params.toList ++ Rows.rangeAllSpec.plain.varTypes Try.pinned.checked.prog ++ Try.f10.resultTypes.toList).any (Try.pinned.checked.prog.veiledRec ·))) = true := by kernel_rfl
theorem rangeAll_j32 : (Rows.rangeAllRow.veiledFits Try.pinned.checked.prog Try.f10.params.toList (Try.f10.params.toList ++ Rows.rangeAllSpec.plain.varTypes Try.pinned.checked.prog ++ Try.f10.resultTypes.toList)) = true := by kernel_rfl
set_option maxRecDepth 100000 in
theorem rangeAll_lifted (os : Os) (started : os.Started) (H : Type) (enc : TypeId × Value → H) :
    ReturnsInHanded {} Try.checked os 10 .any (Rows.rangeAllSpec.pre6 enc Try.prog Try.f10 Rows.rangeAllRow.domain false) (Rows.rangeAllSpec.post enc Try.prog Try.f10 false true false false) := by
  refine returnsInHanded_of_change (C := Try.checked) rangeAll_own started (by kernel_rfl) Try.func10
    (ChangeSpec.witness6 (enc := enc) (C := Try.checked) false ⟨#[], #[.slice none 0 0, .slice none 0 0, .slice none 0 0], []⟩ 8 (by kernel_rfl) (by kernel_rfl) (by kernel_rfl) (by kernel_rfl)) ?_
  intro W base args ds gs before hval0 hW hcnd _
  have hval : ∀ (j : Nat) t v, Try.f10.params[j]? = some t → args[j]? = some v → Value.okWide Try.prog W .any base t v := hval0
  have hW' := hW
  obtain ⟨p, q, hA0, hV, rfl, hfz, hnd⟩ := hW
  have hA : DataW.TrodAll enc Try.prog W 0 (fun _ => true) true Try.f10.params.toList args.toList ds p := hA0
  rw [Try.params10] at hA hval
  obtain ⟨v0, vs0, d0, ds0, p0, q0, hargs, rfl, rfl, h0, r0⟩ := trodAll_cons hA
  obtain ⟨v1, vs1, d1, ds1, p1, q1, rfl, rfl, rfl, h1, r1⟩ := trodAll_cons r0
  obtain ⟨v2, vs2, d2, ds2, p2, q2, rfl, rfl, rfl, h2, r2⟩ := trodAll_cons r1
  obtain ⟨rfl, rfl, rfl⟩ := trodAll_nil r2
  obtain rfl : args = #[v0, v1, v2] := by cases args; simp_all
  obtain ⟨rfl, rfl⟩ := trodVars_none hV
  have k0 := h0
  have lt0 : ∀ x ∈ p0, x.block < W.heap.size := by obtain ⟨m, hm⟩ := k0; exact DataW.trod_lt m _ _ _ hm
  obtain ⟨a0, len0, cap0, rfl⟩ := okWide_slice Try.underlying43 (hval 0 43 v0 rfl rfl)
  obtain ⟨l0, w0⟩ : ∃ l, Prs (whole W) (.slice a0 len0 cap0) l := by
    obtain ⟨fuel, hf⟩ := h0
    exact rd_items Try.underlying43 Try.underlying57 (by kernel_rfl) (by kernel_rfl) rfl rfl Try.underlying27 Try.underlying5 (by kernel_rfl) hf
  have k1 := h1
  have lt1 : ∀ x ∈ p1, x.block < W.heap.size := by obtain ⟨m, hm⟩ := k1; exact DataW.trod_lt m _ _ _ hm
  obtain ⟨a1, len1, cap1, rfl⟩ := okWide_slice Try.underlying27 (hval 1 27 v1 rfl rfl)
  obtain ⟨l1, w1⟩ : ∃ l, Bs (whole W) (.slice a1 len1 cap1) l := by
    obtain ⟨fuel, hf⟩ := h1
    exact rd_bytes_cells Try.underlying27 Try.underlying5 (by kernel_rfl) hf
  have k2 := h2
  have lt2 : ∀ x ∈ p2, x.block < W.heap.size := by obtain ⟨m, hm⟩ := k2; exact DataW.trod_lt m _ _ _ hm
  obtain ⟨a2, len2, cap2, rfl⟩ := okWide_slice Try.underlying27 (hval 2 27 v2 rfl rfl)
  obtain ⟨l2, w2⟩ : ∃ l, Bs (whole W) (.slice a2 len2 cap2) l := by
    obtain ⟨fuel, hf⟩ := h2
    exact rd_bytes_cells Try.underlying27 Try.underlying5 (by kernel_rfl) hf
  clear hA0 hval0
  refine (rangeAll_walk W (.slice a0 len0 cap0) l0 w0 (.slice a1 len1 cap1) l1 w1 (.slice a2 len2 cap2) l2 w2).mono fun e W' ⟨he, bel⟩ => ?_
  subst he
  exact ⟨_, rfl, _, _, _, [], _, [], hW', trodAll_mk1 (shut_bool Try.underlying4 _), (trodAll_cons_mk (Below.trod rangeAll_laidOut (by kernel_rfl) (of_decide_eq_true (by kernel_rfl)) k0 bel lt0) (trodAll_cons_mk (Below.trod rangeAll_laidOut (by kernel_rfl) (of_decide_eq_true (by kernel_rfl)) k1 bel lt1) (trodAll_cons_mk (Below.trod rangeAll_laidOut (by kernel_rfl) (of_decide_eq_true (by kernel_rfl)) k2 bel lt2) trodAll_mk0))), rfl, bel.frame _, fun h => by cases h⟩
set_option maxRecDepth 1000000 in
theorem rangeAll_holds : Rows.RangeAllSaid :=
  OpenClaim.holds_of_wide 10 Try.f10 rfl rfl rfl rfl rfl rfl rfl ⟨rfl, rfl, rfl, rfl, rfl⟩ rfl rfl rfl rfl rfl (by as_aux_lemma => kernel_rfl) Try.func10 (joined_mk rangeAll_j1 seat_laidOut seat_mapsRowed rangeAll_j4 rangeAll_j5 rangeAll_j6 seat_stops rangeAll_j8 seat_stopKnobs rangeAll_j10 rangeAll_j11 rangeAll_j12 rangeAll_j13 rangeAll_j14 rangeAll_j15 rangeAll_j16 rangeAll_j17 rangeAll_j18 rangeAll_j19 rangeAll_j20 rangeAll_j21 rangeAll_j22 rangeAll_j23 rangeAll_j24 seat_stopsHeard seat_mayEnter rangeAll_j27 rangeAll_j28 rangeAll_j29 rangeAll_j30 rangeAll_j31 rangeAll_j32)
    (of_decide_eq_true (by as_aux_lemma => kernel_rfl)) (by unfold Func.isWrapper; first | (rw [if_pos (by decide +kernel)]; kernel_rfl) | (rw [if_neg (by decide +kernel)]; exact ⟨rfl, rfl⟩))
    (fun os started H enc _ => rangeAll_lifted os started H enc)
#print axioms rangeAll_holds
end Go.Proofs.Yteefnnnbbmbmcaa
