/- The law DeleteGone: for every input the call returns true, and each argument reads behind the call as it read before. -/
import Derived.Test.YteefnnnbbmbmcaaWDeleteGone
import Derived.Test.YteefnnnbbmbmcaaR
import Derived.Test.YteefnnnbbmbmcaaJ
import Derived.Test.YteefnnnbbmbmcaaR2
namespace Go.Proofs.Yteefnnnbbmbmcaa
open Go.ChangeShapes Go.WideShapes Go.ChangeAt Go.RowKit
set_option linter.unusedVariables false
theorem deleteGone_own : ownKnob Try.prog.godebug = none := by kernel_rfl
theorem deleteGone_laidOut : laidOutB Try.prog = true := seat_laidOut
theorem deleteGone_j1 : (Rows.deleteGoneRow.wf (OpenSpec.ofChange Rows.deleteGoneSpec)) = true := by kernel_rfl
theorem deleteGone_j4 : (Try.f15.params.all (Try.pinned.checked.prog.readableRec ·)) = true := by kernel_rfl
theorem deleteGone_j5 : (namedTie Try.pinned.checked.prog Rows.deleteGoneRow.named Rows.deleteGoneSpec.vars) = true := by kernel_rfl
theorem deleteGone_j6 : ((Rows.deleteGoneRow.stops == [])) = true := by kernel_rfl
theorem deleteGone_j8 : ((Rows.deleteGoneRow.knobs == [])) = true := by kernel_rfl
theorem deleteGone_j10 : ((Rows.deleteGoneRow.inPlace == Try.pinned.checked.prog.inPlace 15)) = true := by kernel_rfl
theorem deleteGone_j11 : ((Rows.deleteGoneRow.unfollowed == Try.pinned.checked.prog.unfollowed 15)) = true := by kernel_rfl
theorem deleteGone_j12 : ((Rows.deleteGoneRow.recurses == Try.pinned.checked.prog.recurses 15)) = true := by kernel_rfl
theorem deleteGone_j13 : ((Rows.deleteGoneRow.named == Try.pinned.checked.prog.varsNamed 15)) = true := by kernel_rfl
theorem deleteGone_j14 : ((Rows.deleteGoneRow.maps == (Try.f15.params.toList ++ Rows.deleteGoneSpec.plain.varTypes Try.pinned.checked.prog).any (Try.pinned.checked.prog.mapsRec ·))) = true := by kernel_rfl
theorem deleteGone_j15 : ((Rows.deleteGoneRow.ifaces == (Try.f15.params.toList ++ Rows.deleteGoneSpec.plain.varTypes Try.pinned.checked.prog).any (Try.pinned.checked.prog.ifacesRec ·))) = true := by kernel_rfl
theorem deleteGone_j16 : ((Rows.deleteGoneRow.mapsOut == Try.pinned.checked.prog.mapsAmong Try.f15.resultTypes.toList)) = true := by kernel_rfl
theorem deleteGone_j17 : ((Rows.deleteGoneRow.loops == (Try.f15.params.toList ++ Rows.deleteGoneSpec.plain.varTypes Try.pinned.checked.prog).any (Try.pinned.checked.prog.loopsFrom ·))) = true := by kernel_rfl
theorem deleteGone_j18 : ((Rows.deleteGoneRow.wideKeys == (Try.f15.params.toList ++ Rows.deleteGoneSpec.plain.varTypes Try.pinned.checked.prog ++ Try.f15.resultTypes.toList).any (Try.pinned.checked.prog.wideKeysFrom ·))) = true := by kernel_rfl
theorem deleteGone_j19 : (Rows.deleteGoneSpec.vars.all (Try.pinned.checked.prog.varReadable ·)) = true := by kernel_rfl
theorem deleteGone_j20 : (Try.f15.resultTypes.all (fun t => Try.pinned.checked.prog.readableRec t && decide (t < Try.pinned.checked.prog.types.size))) = true := by kernel_rfl
theorem deleteGone_j21 : ((Rows.deleteGoneRow.ifacesOut == Try.f15.resultTypes.toList.any (Try.pinned.checked.prog.ifacesRec ·))) = true := by kernel_rfl
theorem deleteGone_j22 : ((Rows.deleteGoneRow.loopsOut == Try.f15.resultTypes.toList.any (Try.pinned.checked.prog.loopsFrom ·))) = true := by kernel_rfl
theorem deleteGone_j23 : ((Rows.deleteGoneRow.plainKeys == Try.pinned.checked.prog.plainKeys)) = true := by kernel_rfl
theorem deleteGone_j24 : (Rows.deleteGoneRow.shortTexts.isNone) = true := by kernel_rfl
theorem deleteGone_j27 : (Rows.deleteGoneRow.lifted == Try.pinned.checked.prog.liftsFinal) = true := (congrArg (fun b => Rows.deleteGoneRow.lifted == b) seat_liftsFinal).trans (by kernel_rfl)
theorem deleteGone_j28 : (Try.pinned.checked.prog.make == some Rows.deleteGoneRow.make) = true := (congrArg (fun b => b == some Rows.deleteGoneRow.make) seat_make).trans (by kernel_rfl)
theorem deleteGone_j29 : ((Rows.deleteGoneRow.kinds == (if Rows.deleteGoneRow.domain.isEmpty then [] else Try.f15.params.toList.map fun t => match Try.pinned.checked.prog.underlying t with | some (.int k) => some k | _ => none))) = true := by kernel_rfl
theorem deleteGone_j30 : ((Rows.deleteGoneRow.pinned == Rows.deleteGoneRow.pinnedBy)) = true := by kernel_rfl
theorem deleteGone_j31 : ((Rows.deleteGoneRow.veiled == (Try.f15.params.toList ++ Rows.deleteGoneSpec.plain.varTypes Try.pinned.checked.prog ++ Try.f15.resultTypes.toList).any (Try.pinned.checked.prog.veiledRec ·))) = true := by kernel_rfl
theorem deleteGone_j32 : (Rows.deleteGoneRow.veiledFits Try.pinned.checked.prog Try.f15.params.toList (Try.f15.params.toList ++ Rows.deleteGoneSpec.plain.varTypes Try.pinned.checked.prog ++ Try.f15.resultTypes.toList)) = true := by kernel_rfl
set_option maxRecDepth 100000 in
theorem deleteGone_lifted (os : Os) (started : os.Started) (H : Type) (enc : TypeId × Value → H) :
    ReturnsInHanded {} Try.checked os 15 .any (Rows.deleteGoneSpec.pre6 enc Try.prog Try.f15 Rows.deleteGoneRow.domain false) (Rows.deleteGoneSpec.post enc Try.prog Try.f15 false true false false) := by
  refine returnsInHanded_of_change (C := Try.checked) deleteGone_own started (by kernel_rfl) Try.func15
    (ChangeSpec.witness6 (enc := enc) (C := Try.checked) false ⟨#[], #[.slice none 0 0, .slice none 0 0, .slice none 0 0], []⟩ 8 (by kernel_rfl) (by kernel_rfl) (by kernel_rfl) (by kernel_rfl)) ?_
  intro W base args ds gs before hval0 hW hcnd _
  have hval : ∀ (j : Nat) t v, Try.f15.params[j]? = some t → args[j]? = some v → Value.okWide Try.prog W .any base t v := hval0
  have hW' := hW
  obtain ⟨p, q, hA0, hV, rfl, hfz, hnd⟩ := hW
  have hA : DataW.TrodAll enc Try.prog W 0 (fun _ => true) true Try.f15.params.toList args.toList ds p := hA0
  rw [Try.params15] at hA hval
  obtain ⟨v0, vs0, d0, ds0, p0, q0, hargs, rfl, rfl, h0, r0⟩ := trodAll_cons hA
  obtain ⟨v1, vs1, d1, ds1, p1, q1, rfl, rfl, rfl, h1, r1⟩ := trodAll_cons r0
  obtain ⟨v2, vs2, d2, ds2, p2, q2, rfl, rfl, rfl, h2, r2⟩ := trodAll_cons r1
  obtain ⟨rfl, rfl, rfl⟩ := trodAll_nil r2
  obtain rfl : args = #[v0, v1, v2] := by cases args; simp_all
  obtain ⟨rfl, rfl⟩ := trodVars_none hV
  have k0 := h0
  have lt0 : ∀ x ∈ p0, x.block < W.heap.size := by obtain ⟨m, hm⟩ := k0; exact DataW.trod_lt m _ _ _ hm
  obtain ⟨a0, len0, cap0, rfl⟩ := okWide_slice Try.underlying43 (hval 0 43 v0 rfl rfl)
  obtain ⟨l0, w0⟩ : ∃ l, Prs (whole W) (.slice a0 len0 cap0) l := by
    obtain ⟨fuel, hf⟩ := h0
    exact rd_items Try.underlying43 Try.underlying57 (by kernel_rfl) (by kernel_rfl) rfl rfl Try.underlying27 Try.underlying5 (by kernel_rfl) hf
  have k1 := h1
  have lt1 : ∀ x ∈ p1, x.block < W.heap.size := by obtain ⟨m, hm⟩ := k1; exact DataW.trod_lt m _ _ _ hm
  obtain ⟨a1, len1, cap1, rfl⟩ := okWide_slice Try.underlying27 (hval 1 27 v1 rfl rfl)
  obtain ⟨l1, w1⟩ : ∃ l, Bs (whole W) (.slice a1 len1 cap1) l := by
    obtain ⟨fuel, hf⟩ := h1
    exact rd_bytes_cells Try.underlying27 Try.underlying5 (by kernel_rfl) hf
  have k2 := h2
  have lt2 : ∀ x ∈ p2, x.block < W.heap.size := by obtain ⟨m, hm⟩ := k2; exact DataW.trod_lt m _ _ _ hm
  obtain ⟨a2, len2, cap2, rfl⟩ := okWide_slice Try.underlying27 (hval 2 27 v2 rfl rfl)
  obtain ⟨l2, w2⟩ : ∃ l, Bs (whole W) (.slice a2 len2 cap2) l := by
    obtain ⟨fuel, hf⟩ := h2
    exact rd_bytes_cells Try.underlying27 Try.underlying5 (by kernel_rfl) hf
  clear hA0 hval0
  refine (deleteGone_walk W (.slice a0 len0 cap0) l0 w0 (.slice a1 len1 cap1) l1 w1 (.slice a2 len2 cap2) l2 w2).mono fun e W' ⟨he, bel⟩ => ?_
  subst he
  exact ⟨_, rfl, _, _, _, [], _, [], hW', trodAll_mk1 (shut_bool Try.underlying4 _), (trodAll_cons_mk (Below.trod deleteGone_laidOut (by kernel_rfl) (of_decide_eq_true (by kernel_rfl)) k0 bel lt0) (trodAll_cons_mk (Below.trod deleteGone_laidOut (by kernel_rfl) (of_decide_eq_true (by kernel_rfl)) k1 bel lt1) (trodAll_cons_mk (Below.trod deleteGone_laidOut (by kernel_rfl) (of_decide_eq_true (by kernel_rfl)) k2 bel lt2) trodAll_mk0))), rfl, bel.frame _, fun h => by cases h⟩
set_option maxRecDepth 1000000 in
theorem deleteGone_holds : Rows.DeleteGoneSaid :=
  OpenClaim.holds_of_wide 15 Try.f15 rfl rfl rfl rfl rfl rfl rfl ⟨rfl, rfl, rfl, rfl, rfl⟩ rfl rfl rfl rfl rfl (by as_aux_lemma => kernel_rfl) Try.func15 (joined_mk deleteGone_j1 seat_laidOut seat_mapsRowed deleteGone_j4 deleteGone_j5 deleteGone_j6 seat_stops deleteGone_j8 seat_stopKnobs deleteGone_j10 deleteGone_j11 deleteGone_j12 deleteGone_j13 deleteGone_j14 deleteGone_j15 deleteGone_j16 deleteGone_j17 deleteGone_j18 deleteGone_j19 deleteGone_j20 deleteGone_j21 deleteGone_j22 deleteGone_j23 deleteGone_j24 seat_stopsHeard seat_mayEnter deleteGone_j27 deleteGone_j28 deleteGone_j29 deleteGone_j30 deleteGone_j31 deleteGone_j32)
    (of_decide_eq_true (by as_aux_lemma => kernel_rfl)) (by unfold Func.isWrapper; first | (rw [if_pos (by decide +kernel)]; kernel_rfl) | (rw [if_neg (by decide +kernel)]; exact ⟨rfl, rfl⟩))
    (fun os started H enc _ => deleteGone_lifted os started H enc)
#print axioms deleteGone_holds
end Go.Proofs.Yteefnnnbbmbmcaa
