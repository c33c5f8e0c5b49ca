/- The law PartThree: for every input the call returns true, and each argument reads behind the call as it read before. -/
import Derived.Test.YteefnnnbbmbmcaaC2
import Derived.Test.YteefnnnbbmbmcaaR
import Derived.Test.YteefnnnbbmbmcaaJ
namespace Go.Proofs.Yteefnnnbbmbmcaa
open Go.ChangeShapes Go.WideShapes Go.ChangeAt Go.RowKit
set_option linter.unusedVariables false
theorem partThree_own : ownKnob Try.prog.godebug = none := by kernel_rfl
theorem partThree_laidOut : laidOutB Try.prog = true := seat_laidOut
theorem partThree_j1 : (Rows.partThreeRow.wf (OpenSpec.ofChange Rows.partThreeSpec)) = true := by kernel_rfl
theorem partThree_j4 : (Try.f7.params.all (Try.pinned.checked.prog.readableRec ·)) = true := by kernel_rfl
theorem partThree_j5 : (namedTie Try.pinned.checked.prog Rows.partThreeRow.named Rows.partThreeSpec.vars) = true := by kernel_rfl
theorem partThree_j6 : ((Rows.partThreeRow.stops == [])) = true := by kernel_rfl
theorem partThree_j8 : ((Rows.partThreeRow.knobs == [])) = true := by kernel_rfl
theorem partThree_j10 : ((Rows.partThreeRow.inPlace == Try.pinned.checked.prog.inPlace 7)) = true := by kernel_rfl
theorem partThree_j11 : ((Rows.partThreeRow.unfollowed == Try.pinned.checked.prog.unfollowed 7)) = true := by kernel_rfl
theorem partThree_j12 : ((Rows.partThreeRow.recurses == Try.pinned.checked.prog.recurses 7)) = true := by kernel_rfl
theorem partThree_j13 : ((Rows.partThreeRow.named == Try.pinned.checked.prog.varsNamed 7)) = true := by kernel_rfl
theorem partThree_j14 : ((Rows.partThreeRow.maps == (Try.f7.params.toList ++ Rows.partThreeSpec.plain.varTypes Try.pinned.checked.prog).any (Try.pinned.checked.prog.mapsRec ·))) = true := by kernel_rfl
theorem partThree_j15 : ((Rows.partThreeRow.ifaces == (Try.f7.params.toList ++ Rows.partThreeSpec.plain.varTypes Try.pinned.checked.prog).any (Try.pinned.checked.prog.ifacesRec ·))) = true := by kernel_rfl
theorem partThree_j16 : ((Rows.partThreeRow.mapsOut == Try.pinned.checked.prog.mapsAmong Try.f7.resultTypes.toList)) = true := by kernel_rfl
theorem partThree_j17 : ((Rows.partThreeRow.loops == (Try.f7.params.toList ++ Rows.partThreeSpec.plain.varTypes Try.pinned.checked.prog).any (Try.pinned.checked.prog.loopsFrom ·))) = true := by kernel_rfl
theorem partThree_j18 : ((Rows.partThreeRow.wideKeys == (Try.f7.params.toList ++ Rows.partThreeSpec.plain.varTypes Try.pinned.checked.prog ++ Try.f7.resultTypes.toList).any (Try.pinned.checked.prog.wideKeysFrom ·))) = true := by kernel_rfl
theorem partThree_j19 : (Rows.partThreeSpec.vars.all (Try.pinned.checked.prog.varReadable ·)) = true := by kernel_rfl
theorem partThree_j20 : (Try.f7.resultTypes.all (fun t => Try.pinned.checked.prog.readableRec t && decide (t < Try.pinned.checked.prog.types.size))) = true := by kernel_rfl
theorem partThree_j21 : ((Rows.partThreeRow.ifacesOut == Try.f7.resultTypes.toList.any (Try.pinned.checked.prog.ifacesRec ·))) = true := by kernel_rfl
theorem partThree_j22 : ((Rows.partThreeRow.loopsOut == Try.f7.resultTypes.toList.any (Try.pinned.checked.prog.loopsFrom ·))) = true := by kernel_rfl
theorem partThree_j23 : ((Rows.partThreeRow.plainKeys == Try.pinned.checked.prog.plainKeys)) = true := by kernel_rfl
theorem partThree_j24 : (Rows.partThreeRow.shortTexts.isNone) = true := by kernel_rfl
theorem partThree_j27 : (Rows.partThreeRow.lifted == Try.pinned.checked.prog.liftsFinal) = true := (congrArg (fun b => Rows.partThreeRow.lifted == b) seat_liftsFinal).trans (by kernel_rfl)
theorem partThree_j28 : (Try.pinned.checked.prog.make == some Rows.partThreeRow.make) = true := (congrArg (fun b => b == some Rows.partThreeRow.make) seat_make).trans (by kernel_rfl)
theorem partThree_j29 : ((Rows.partThreeRow.kinds == (if Rows.partThreeRow.domain.isEmpty then [] else Try.f7.params.toList.map fun t => match Try.pinned.checked.prog.underlying t with | some (.int k) => some k | _ => none))) = true := by kernel_rfl
theorem partThree_j30 : ((Rows.partThreeRow.pinned == Rows.partThreeRow.pinnedBy)) = true := by kernel_rfl
theorem partThree_j31 : ((Rows.partThreeRow.veiled == (Try.f7.params.toList ++ Rows.partThreeSpec.plain.varTypes Try.pinned.checked.prog ++ Try.f7.resultTypes.toList).any (Try.pinned.checked.prog.veiledRec ·))) = true := by kernel_rfl
theorem partThree_j32 : (Rows.partThreeRow.veiledFits Try.pinned.checked.prog Try.f7.params.toList (Try.f7.params.toList ++ Rows.partThreeSpec.plain.varTypes Try.pinned.checked.prog ++ Try.f7.resultTypes.toList)) = true := by kernel_rfl
set_option maxRecDepth 100000 in
theorem partThree_lifted (os : Os) (started : os.Started) (H : Type) (enc : TypeId × Value → H) :
    ReturnsInHanded {} Try.checked os 7 .any (Rows.partThreeSpec.pre6 enc Try.prog Try.f7 Rows.partThreeRow.domain false) (Rows.partThreeSpec.post enc Try.prog Try.f7 false true false false) := by
  refine returnsInHanded_of_change (C := Try.checked) partThree_own started (by kernel_rfl) Try.func7
    (ChangeSpec.witness6 (enc := enc) (C := Try.checked) false ⟨#[], #[.slice none 0 0, .slice none 0 0, .slice none 0 0], []⟩ 8 (by kernel_rfl) (by kernel_rfl) (by kernel_rfl) (by kernel_rfl)) ?_
  intro W base args ds gs before hval0 hW hcnd _
  have hval : ∀ (j : Nat) t v, Try.f7.params[j]? = some t → args[j]? = some v → Value.okWide Try.prog W .any base t v := hval0
  have hW' := hW
  obtain ⟨p, q, hA0, hV, rfl, hfz, hnd⟩ := hW
  have hA : DataW.TrodAll enc Try.prog W 0 (fun _ => true) true Try.f7.params.toList args.toList ds p := hA0
  rw [Try.params7] at hA hval
  obtain ⟨v0, vs0, d0, ds0, p0, q0, hargs, rfl, rfl, h0, r0⟩ := trodAll_cons hA
  obtain ⟨v1, vs1, d1, ds1, p1, q1, rfl, rfl, rfl, h1, r1⟩ := trodAll_cons r0
  obtain ⟨v2, vs2, d2, ds2, p2, q2, rfl, rfl, rfl, h2, r2⟩ := trodAll_cons r1
  obtain ⟨rfl, rfl, rfl⟩ := trodAll_nil r2
  obtain rfl : args = #[v0, v1, v2] := by cases args; simp_all
  obtain ⟨rfl, rfl⟩ := trodVars_none hV
  have k0 := h0
  have lt0 : ∀ x ∈ p0, x.block < W.heap.size := by obtain ⟨m, hm⟩ := k0; exact DataW.trod_lt m _ _ _ hm
  obtain ⟨a0, len0, cap0, rfl⟩ := okWide_slice Try.underlying27 (hval 0 27 v0 rfl rfl)
  obtain ⟨l0, w0⟩ : ∃ l, Bs (whole W) (.slice a0 len0 cap0) l := by
    obtain ⟨fuel, hf⟩ := h0
    exact rd_bytes_cells Try.underlying27 Try.underlying5 (by kernel_rfl) hf
  have k1 := h1
  have lt1 : ∀ x ∈ p1, x.block < W.heap.size := by obtain ⟨m, hm⟩ := k1; exact DataW.trod_lt m _ _ _ hm
  obtain ⟨a1, len1, cap1, rfl⟩ := okWide_slice Try.underlying27 (hval 1 27 v1 rfl rfl)
  obtain ⟨l1, w1⟩ : ∃ l, Bs (whole W) (.slice a1 len1 cap1) l := by
    obtain ⟨fuel, hf⟩ := h1
    exact rd_bytes_cells Try.underlying27 Try.underlying5 (by kernel_rfl) hf
  have k2 := h2
  have lt2 : ∀ x ∈ p2, x.block < W.heap.size := by obtain ⟨m, hm⟩ := k2; exact DataW.trod_lt m _ _ _ hm
  obtain ⟨a2, len2, cap2, rfl⟩ := okWide_slice Try.underlying27 (hval 2 27 v2 rfl rfl)
  obtain ⟨l2, w2⟩ : ∃ l, Bs (whole W) (.slice a2 len2 cap2) l := by
    obtain ⟨fuel, hf⟩ := h2
    exact rd_bytes_cells Try.underlying27 Try.underlying5 (by kernel_rfl) hf
  clear hA0 hval0
  refine (partThree_walk W (.slice a0 len0 cap0) l0 w0 (.slice a1 len1 cap1) l1 w1 (.slice a2 len2 cap2) l2 w2).mono fun e W' ⟨he, bel⟩ => ?_
  subst he
  exact ⟨_, rfl, _, _, _, [], _, [], hW', trodAll_mk1 (shut_bool Try.underlying4 _), (trodAll_cons_mk (Below.trod partThree_laidOut (by kernel_rfl) (of_decide_eq_true (by kernel_rfl)) k0 bel lt0) (trodAll_cons_mk (Below.trod partThree_laidOut (by kernel_rfl) (of_decide_eq_true (by kernel_rfl)) k1 bel lt1) (trodAll_cons_mk (Below.trod partThree_laidOut (by kernel_rfl) (of_decide_eq_true (by kernel_rfl)) k2 bel lt2) trodAll_mk0))), rfl, bel.frame _, fun h => by cases h⟩
set_option maxRecDepth 1000000 in
theorem partThree_holds : Rows.PartThreeSaid :=
  OpenClaim.holds_of_wide 7 Try.f7 rfl rfl rfl rfl rfl rfl rfl ⟨rfl, rfl, rfl, rfl, rfl⟩ rfl rfl rfl rfl rfl (by as_aux_lemma => kernel_rfl) Try.func7 (joined_mk partThree_j1 seat_laidOut seat_mapsRowed partThree_j4 partThree_j5 partThree_j6 seat_stops partThree_j8 seat_stopKnobs partThree_j10 partThree_j11 partThree_j12 partThree_j13 partThree_j14 partThree_j15 partThree_j16 partThree_j17 partThree_j18 partThree_j19 partThree_j20 partThree_j21 partThree_j22 partThree_j23 partThree_j24 seat_stopsHeard seat_mayEnter partThree_j27 partThree_j28 partThree_j29 partThree_j30 partThree_j31 partThree_j32)
    (of_decide_eq_true (by as_aux_lemma => kernel_rfl)) (by unfold Func.isWrapper; first | (rw [if_pos (by decide +kernel)]; kernel_rfl) | (rw [if_neg (by decide +kernel)]; exact ⟨rfl, rfl⟩))
    (fun os started H enc _ => partThree_lifted os started H enc)
#print axioms partThree_holds
end Go.Proofs.Yteefnnnbbmbmcaa
