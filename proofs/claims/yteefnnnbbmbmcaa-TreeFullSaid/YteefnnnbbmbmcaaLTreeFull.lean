/- The law TreeFull: for every input the call returns true, and each argument reads behind the call as it read before. -/
import Derived.Test.YteefnnnbbmbmcaaWTreeFull
import Derived.Test.YteefnnnbbmbmcaaR
import Derived.Test.YteefnnnbbmbmcaaJ
namespace Go.Proofs.Yteefnnnbbmbmcaa
open Go.ChangeShapes Go.WideShapes Go.ChangeAt Go.RowKit
set_option linter.unusedVariables false
theorem treeFull_own : ownKnob Try.prog.godebug = none := by kernel_rfl
theorem treeFull_laidOut : laidOutB Try.prog = true := seat_laidOut
theorem treeFull_j1 : (Rows.treeFullRow.wf (OpenSpec.ofChange Rows.treeFullSpec)) = true := by kernel_rfl
theorem treeFull_j4 : (Try.f13.params.all (Try.pinned.checked.prog.readableRec ·)) = true := by kernel_rfl
theorem treeFull_j5 : (namedTie Try.pinned.checked.prog Rows.treeFullRow.named Rows.treeFullSpec.vars) = true := by kernel_rfl
theorem treeFull_j6 : ((Rows.treeFullRow.stops == [])) = true := by kernel_rfl
theorem treeFull_j8 : ((Rows.treeFullRow.knobs == [])) = true := by kernel_rfl
theorem treeFull_j10 : ((Rows.treeFullRow.inPlace == Try.pinned.checked.prog.inPlace 13)) = true := by kernel_rfl
theorem treeFull_j11 : ((Rows.treeFullRow.unfollowed == Try.pinned.checked.prog.unfollowed 13)) = true := by kernel_rfl
theorem treeFull_j12 : ((Rows.treeFullRow.recurses == Try.pinned.checked.prog.recurses 13)) = true := by kernel_rfl
theorem treeFull_j13 : ((Rows.treeFullRow.named == Try.pinned.checked.prog.varsNamed 13)) = true := by kernel_rfl
theorem treeFull_j14 : ((Rows.treeFullRow.maps == (Try.f13.params.toList ++ Rows.treeFullSpec.plain.varTypes Try.pinned.checked.prog).any (Try.pinned.checked.prog.mapsRec ·))) = true := by kernel_rfl
theorem treeFull_j15 : ((Rows.treeFullRow.ifaces == (Try.f13.params.toList ++ Rows.treeFullSpec.plain.varTypes Try.pinned.checked.prog).any (Try.pinned.checked.prog.ifacesRec ·))) = true := by kernel_rfl
theorem treeFull_j16 : ((Rows.treeFullRow.mapsOut == Try.pinned.checked.prog.mapsAmong Try.f13.resultTypes.toList)) = true := by kernel_rfl
theorem treeFull_j17 : ((Rows.treeFullRow.loops == (Try.f13.params.toList ++ Rows.treeFullSpec.plain.varTypes Try.pinned.checked.prog).any (Try.pinned.checked.prog.loopsFrom ·))) = true := by kernel_rfl
theorem treeFull_j18 : ((Rows.treeFullRow.wideKeys == (Try.f13.params.toList ++ Rows.treeFullSpec.plain.varTypes Try.pinned.checked.prog ++ Try.f13.resultTypes.toList).any (Try.pinned.checked.prog.wideKeysFrom ·))) = true := by kernel_rfl
theorem treeFull_j19 : (Rows.treeFullSpec.vars.all (Try.pinned.checked.prog.varReadable ·)) = true := by kernel_rfl
theorem treeFull_j20 : (Try.f13.resultTypes.all (fun t => Try.pinned.checked.prog.readableRec t && decide (t < Try.pinned.checked.prog.types.size))) = true := by kernel_rfl
theorem treeFull_j21 : ((Rows.treeFullRow.ifacesOut == Try.f13.resultTypes.toList.any (Try.pinned.checked.prog.ifacesRec ·))) = true := by kernel_rfl
theorem treeFull_j22 : ((Rows.treeFullRow.loopsOut == Try.f13.resultTypes.toList.any (Try.pinned.checked.prog.loopsFrom ·))) = true := by kernel_rfl
theorem treeFull_j23 : ((Rows.treeFullRow.plainKeys == Try.pinned.checked.prog.plainKeys)) = true := by kernel_rfl
theorem treeFull_j24 : (Rows.treeFullRow.shortTexts.isNone) = true := by kernel_rfl
theorem treeFull_j27 : (Rows.treeFullRow.lifted == Try.pinned.checked.prog.liftsFinal) = true := (congrArg (fun b => Rows.treeFullRow.lifted == b) seat_liftsFinal).trans (by kernel_rfl)
theorem treeFull_j28 : (Try.pinned.checked.prog.make == some Rows.treeFullRow.make) = true := (congrArg (fun b => b == some Rows.treeFullRow.make) seat_make).trans (by kernel_rfl)
theorem treeFull_j29 : ((Rows.treeFullRow.kinds == (if Rows.treeFullRow.domain.isEmpty then [] else Try.f13.params.toList.map fun t => match Try.pinned.checked.prog.underlying t with | some (.int k) => some k | _ => none))) = true := by kernel_rfl
theorem treeFull_j30 : ((Rows.treeFullRow.pinned == Rows.treeFullRow.pinnedBy)) = true := by kernel_rfl
theorem treeFull_j31 : ((Rows.treeFullRow.veiled == (Try.f13.params.toList ++ Rows.treeFullSpec.plain.varTypes Try.pinned.checked.prog ++ Try.f13.resultTypes.toList).any (Try.pinned.checked.prog.veiledRec ·))) = true := by kernel_rfl
theorem treeFull_j32 : (Rows.treeFullRow.veiledFits Try.pinned.checked.prog Try.f13.params.toList (Try.f13.params.toList ++ Rows.treeFullSpec.plain.varTypes Try.pinned.checked.prog ++ Try.f13.resultTypes.toList)) = true := by kernel_rfl
set_option maxRecDepth 100000 in
theorem treeFull_lifted (os : Os) (started : os.Started) (H : Type) (enc : TypeId × Value → H) :
    ReturnsInHanded {} Try.checked os 13 .any (Rows.treeFullSpec.pre6 enc Try.prog Try.f13 Rows.treeFullRow.domain false) (Rows.treeFullSpec.post enc Try.prog Try.f13 false true false false) := by
  refine returnsInHanded_of_change (C := Try.checked) treeFull_own started (by kernel_rfl) Try.func13
    (ChangeSpec.witness6 (enc := enc) (C := Try.checked) false ⟨#[], #[.int .i64 0, .slice none 0 0], []⟩ 8 (by kernel_rfl) (by kernel_rfl) (by kernel_rfl) (by kernel_rfl)) ?_
  intro W base args ds gs before hval0 hW hcnd _
  have hval : ∀ (j : Nat) t v, Try.f13.params[j]? = some t → args[j]? = some v → Value.okWide Try.prog W .any base t v := hval0
  have hW' := hW
  obtain ⟨p, q, hA0, hV, rfl, hfz, hnd⟩ := hW
  have hA : DataW.TrodAll enc Try.prog W 0 (fun _ => true) true Try.f13.params.toList args.toList ds p := hA0
  rw [Try.params13] at hA hval
  obtain ⟨v0, vs0, d0, ds0, p0, q0, hargs, rfl, rfl, h0, r0⟩ := trodAll_cons hA
  obtain ⟨v1, vs1, d1, ds1, p1, q1, rfl, rfl, rfl, h1, r1⟩ := trodAll_cons r0
  obtain ⟨rfl, rfl, rfl⟩ := trodAll_nil r1
  obtain rfl : args = #[v0, v1] := by cases args; simp_all
  obtain ⟨rfl, rfl⟩ := trodVars_none hV
  have k0 := h0
  have lt0 : ∀ x ∈ p0, x.block < W.heap.size := by obtain ⟨m, hm⟩ := k0; exact DataW.trod_lt m _ _ _ hm
  obtain ⟨x0, rfl, _, _, wx0⟩ := open_int Try.underlying3 (hval 0 3 v0 rfl rfl) h0
  have b0 := bounds_i64 wx0
  have k1 := h1
  have lt1 : ∀ x ∈ p1, x.block < W.heap.size := by obtain ⟨m, hm⟩ := k1; exact DataW.trod_lt m _ _ _ hm
  obtain ⟨a1, len1, cap1, rfl⟩ := okWide_slice Try.underlying27 (hval 1 27 v1 rfl rfl)
  obtain ⟨l1, w1⟩ : ∃ l, Bs (whole W) (.slice a1 len1 cap1) l := by
    obtain ⟨fuel, hf⟩ := h1
    exact rd_bytes_cells Try.underlying27 Try.underlying5 (by kernel_rfl) hf
  clear hA0 hval0
  refine (treeFull_walk W x0 b0.1 b0.2 (.slice a1 len1 cap1) l1 w1).mono fun e W' ⟨he, bel⟩ => ?_
  subst he
  exact ⟨_, rfl, _, _, _, [], _, [], hW', trodAll_mk1 (shut_bool Try.underlying4 _), (trodAll_cons_mk (Below.trod treeFull_laidOut (by kernel_rfl) (of_decide_eq_true (by kernel_rfl)) k0 bel lt0) (trodAll_cons_mk (Below.trod treeFull_laidOut (by kernel_rfl) (of_decide_eq_true (by kernel_rfl)) k1 bel lt1) trodAll_mk0)), rfl, bel.frame _, fun h => by cases h⟩
set_option maxRecDepth 1000000 in
theorem treeFull_holds : Rows.TreeFullSaid :=
  OpenClaim.holds_of_wide 13 Try.f13 rfl rfl rfl rfl rfl rfl rfl ⟨rfl, rfl, rfl, rfl, rfl⟩ rfl rfl rfl rfl rfl (by as_aux_lemma => kernel_rfl) Try.func13 (joined_mk treeFull_j1 seat_laidOut seat_mapsRowed treeFull_j4 treeFull_j5 treeFull_j6 seat_stops treeFull_j8 seat_stopKnobs treeFull_j10 treeFull_j11 treeFull_j12 treeFull_j13 treeFull_j14 treeFull_j15 treeFull_j16 treeFull_j17 treeFull_j18 treeFull_j19 treeFull_j20 treeFull_j21 treeFull_j22 treeFull_j23 treeFull_j24 seat_stopsHeard seat_mayEnter treeFull_j27 treeFull_j28 treeFull_j29 treeFull_j30 treeFull_j31 treeFull_j32)
    (of_decide_eq_true (by as_aux_lemma => kernel_rfl)) (by unfold Func.isWrapper; first | (rw [if_pos (by decide +kernel)]; kernel_rfl) | (rw [if_neg (by decide +kernel)]; exact ⟨rfl, rfl⟩))
    (fun os started H enc _ => treeFull_lifted os started H enc)
#print axioms treeFull_holds
end Go.Proofs.Yteefnnnbbmbmcaa
