/- The law PartFirst: for every input the call returns true, and each argument reads behind the call as it read before. -/
import Derived.Test.YteefnnnbbmbmcaaC2
import Derived.Test.YteefnnnbbmbmcaaR
import Derived.Test.YteefnnnbbmbmcaaJ
namespace Go.Proofs.Yteefnnnbbmbmcaa
open Go.ChangeShapes Go.WideShapes Go.ChangeAt Go.RowKit
set_option linter.unusedVariables false
theorem partFirst_own : ownKnob Try.prog.godebug = none := by kernel_rfl
theorem partFirst_laidOut : laidOutB Try.prog = true := seat_laidOut
theorem partFirst_j1 : (Rows.partFirstRow.wf (OpenSpec.ofChange Rows.partFirstSpec)) = true := by kernel_rfl
theorem partFirst_j4 : (Try.f8.params.all (Try.pinned.checked.prog.readableRec ·)) = true := by kernel_rfl
theorem partFirst_j5 : (namedTie Try.pinned.checked.prog Rows.partFirstRow.named Rows.partFirstSpec.vars) = true := by kernel_rfl
theorem partFirst_j6 : ((Rows.partFirstRow.stops == [])) = true := by kernel_rfl
theorem partFirst_j8 : ((Rows.partFirstRow.knobs == [])) = true := by kernel_rfl
theorem partFirst_j10 : ((Rows.partFirstRow.inPlace == Try.pinned.checked.prog.inPlace 8)) = true := by kernel_rfl
theorem partFirst_j11 : ((Rows.partFirstRow.unfollowed == Try.pinned.checked.prog.unfollowed 8)) = true := by kernel_rfl
theorem partFirst_j12 : ((Rows.partFirstRow.recurses == Try.pinned.checked.prog.recurses 8)) = true := by kernel_rfl
theorem partFirst_j13 : ((Rows.partFirstRow.named == Try.pinned.checked.prog.varsNamed 8)) = true := by kernel_rfl
theorem partFirst_j14 : ((Rows.partFirstRow.maps == (Try.f8.params.toList ++ Rows.partFirstSpec.plain.varTypes Try.pinned.checked.prog).any (Try.pinned.checked.prog.mapsRec ·))) = true := by kernel_rfl
theorem partFirst_j15 : ((Rows.partFirstRow.ifaces == (Try.f8.params.toList ++ Rows.partFirstSpec.plain.varTypes Try.pinned.checked.prog).any (Try.pinned.checked.prog.ifacesRec ·))) = true := by kernel_rfl
theorem partFirst_j16 : ((Rows.partFirstRow.mapsOut == Try.pinned.checked.prog.mapsAmong Try.f8.resultTypes.toList)) = true := by kernel_rfl
theorem partFirst_j17 : ((Rows.partFirstRow.loops == (Try.f8.params.toList ++ Rows.partFirstSpec.plain.varTypes Try.pinned.checked.prog).any (Try.pinned.checked.prog.loopsFrom ·))) = true := by kernel_rfl
theorem partFirst_j18 : ((Rows.partFirstRow.wideKeys == (Try.f8.params.toList ++ Rows.partFirstSpec.plain.varTypes Try.pinned.checked.prog ++ Try.f8.resultTypes.toList).any (Try.pinned.checked.prog.wideKeysFrom ·))) = true := by kernel_rfl
theorem partFirst_j19 : (Rows.partFirstSpec.vars.all (Try.pinned.checked.prog.varReadable ·)) = true := by kernel_rfl
theorem partFirst_j20 : (Try.f8.resultTypes.all (fun t => Try.pinned.checked.prog.readableRec t && decide (t < Try.pinned.checked.prog.types.size))) = true := by kernel_rfl
theorem partFirst_j21 : ((Rows.partFirstRow.ifacesOut == Try.f8.resultTypes.toList.any (Try.pinned.checked.prog.ifacesRec ·))) = true := by kernel_rfl
theorem partFirst_j22 : ((Rows.partFirstRow.loopsOut == Try.f8.resultTypes.toList.any (Try.pinned.checked.prog.loopsFrom ·))) = true := by kernel_rfl
theorem partFirst_j23 : ((Rows.partFirstRow.plainKeys == Try.pinned.checked.prog.plainKeys)) = true := by kernel_rfl
theorem partFirst_j24 : (Rows.partFirstRow.shortTexts.isNone) = true := by kernel_rfl
theorem partFirst_j27 : (Rows.partFirstRow.lifted == Try.pinned.checked.prog.liftsFinal) = true := (congrArg (fun b => Rows.partFirstRow.lifted == b) seat_liftsFinal).trans (by kernel_rfl)
theorem partFirst_j28 : (Try.pinned.checked.prog.make == some Rows.partFirstRow.make) = true := (congrArg (fun b => b == some Rows.partFirstRow.make) seat_make).trans (by kernel_rfl)
theorem partFirst_j29 : ((Rows.partFirstRow.kinds == (if Rows.partFirstRow.domain.isEmpty then [] else Try.f8.params.toList.map fun t => match Try.pinned.checked.prog.underlying t with | some (.int k) => some k | _ => none))) = true := by kernel_rfl
theorem partFirst_j30 : ((Rows.partFirstRow.pinned == Rows.partFirstRow.pinnedBy)) = true := by kernel_rfl
theorem partFirst_j31 : ((Rows.partFirstRow.veiled == (Try.f8.params.toList ++ Rows.partFirstSpec.plain.varTypes Try.pinned.checked.prog ++ Try.f8.resultTypes.toList).any (Try.pinned.checked.prog.veiledRec ·))) = true := by kernel_rfl
theorem partFirst_j32 : (Rows.partFirstRow.veiledFits Try.pinned.checked.prog Try.f8.params.toList (Try.f8.params.toList ++ Rows.partFirstSpec.plain.varTypes Try.pinned.checked.prog ++ Try.f8.resultTypes.toList)) = true := by kernel_rfl
set_option maxRecDepth 100000 in
theorem partFirst_lifted (os : Os) (started : os.Started) (H : Type) (enc : TypeId × Value → H) :
    ReturnsInHanded {} Try.checked os 8 .any (Rows.partFirstSpec.pre6 enc Try.prog Try.f8 Rows.partFirstRow.domain false) (Rows.partFirstSpec.post enc Try.prog Try.f8 false true false false) := by
  refine returnsInHanded_of_change (C := Try.checked) partFirst_own started (by kernel_rfl) Try.func8
    (ChangeSpec.witness6 (enc := enc) (C := Try.checked) false ⟨#[], #[.slice none 0 0, .slice none 0 0], []⟩ 8 (by kernel_rfl) (by kernel_rfl) (by kernel_rfl) (by kernel_rfl)) ?_
  intro W base args ds gs before hval0 hW hcnd _
  have hval : ∀ (j : Nat) t v, Try.f8.params[j]? = some t → args[j]? = some v → Value.okWide Try.prog W .any base t v := hval0
  have hW' := hW
  obtain ⟨p, q, hA0, hV, rfl, hfz, hnd⟩ := hW
  have hA : DataW.TrodAll enc Try.prog W 0 (fun _ => true) true Try.f8.params.toList args.toList ds p := hA0
  rw [Try.params8] at hA hval
  obtain ⟨v0, vs0, d0, ds0, p0, q0, hargs, rfl, rfl, h0, r0⟩ := trodAll_cons hA
  obtain ⟨v1, vs1, d1, ds1, p1, q1, rfl, rfl, rfl, h1, r1⟩ := trodAll_cons r0
  obtain ⟨rfl, rfl, rfl⟩ := trodAll_nil r1
  obtain rfl : args = #[v0, v1] := by cases args; simp_all
  obtain ⟨rfl, rfl⟩ := trodVars_none hV
  have k0 := h0
  have lt0 : ∀ x ∈ p0, x.block < W.heap.size := by obtain ⟨m, hm⟩ := k0; exact DataW.trod_lt m _ _ _ hm
  obtain ⟨a0, len0, cap0, rfl⟩ := okWide_slice Try.underlying27 (hval 0 27 v0 rfl rfl)
  obtain ⟨l0, w0⟩ : ∃ l, Bs (whole W) (.slice a0 len0 cap0) l := by
    obtain ⟨fuel, hf⟩ := h0
    exact rd_bytes_cells Try.underlying27 Try.underlying5 (by kernel_rfl) hf
  have k1 := h1
  have lt1 : ∀ x ∈ p1, x.block < W.heap.size := by obtain ⟨m, hm⟩ := k1; exact DataW.trod_lt m _ _ _ hm
  obtain ⟨a1, len1, cap1, rfl⟩ := okWide_slice Try.underlying27 (hval 1 27 v1 rfl rfl)
  obtain ⟨l1, w1⟩ : ∃ l, Bs (whole W) (.slice a1 len1 cap1) l := by
    obtain ⟨fuel, hf⟩ := h1
    exact rd_bytes_cells Try.underlying27 Try.underlying5 (by kernel_rfl) hf
  clear hA0 hval0
  refine (partFirst_walk W (.slice a0 len0 cap0) l0 w0 (.slice a1 len1 cap1) l1 w1).mono fun e W' ⟨he, bel⟩ => ?_
  subst he
  exact ⟨_, rfl, _, _, _, [], _, [], hW', trodAll_mk1 (shut_bool Try.underlying4 _), (trodAll_cons_mk (Below.trod partFirst_laidOut (by kernel_rfl) (of_decide_eq_true (by kernel_rfl)) k0 bel lt0) (trodAll_cons_mk (Below.trod partFirst_laidOut (by kernel_rfl) (of_decide_eq_true (by kernel_rfl)) k1 bel lt1) trodAll_mk0)), rfl, bel.frame _, fun h => by cases h⟩
set_option maxRecDepth 1000000 in
theorem partFirst_holds : Rows.PartFirstSaid :=
  OpenClaim.holds_of_wide 8 Try.f8 rfl rfl rfl rfl rfl rfl rfl ⟨rfl, rfl, rfl, rfl, rfl⟩ rfl rfl rfl rfl rfl (by as_aux_lemma => kernel_rfl) Try.func8 (joined_mk partFirst_j1 seat_laidOut seat_mapsRowed partFirst_j4 partFirst_j5 partFirst_j6 seat_stops partFirst_j8 seat_stopKnobs partFirst_j10 partFirst_j11 partFirst_j12 partFirst_j13 partFirst_j14 partFirst_j15 partFirst_j16 partFirst_j17 partFirst_j18 partFirst_j19 partFirst_j20 partFirst_j21 partFirst_j22 partFirst_j23 partFirst_j24 seat_stopsHeard seat_mayEnter partFirst_j27 partFirst_j28 partFirst_j29 partFirst_j30 partFirst_j31 partFirst_j32)
    (of_decide_eq_true (by as_aux_lemma => kernel_rfl)) (by unfold Func.isWrapper; first | (rw [if_pos (by decide +kernel)]; kernel_rfl) | (rw [if_neg (by decide +kernel)]; exact ⟨rfl, rfl⟩))
    (fun os started H enc _ => partFirst_lifted os started H enc)
#print axioms partFirst_holds
end Go.Proofs.Yteefnnnbbmbmcaa
