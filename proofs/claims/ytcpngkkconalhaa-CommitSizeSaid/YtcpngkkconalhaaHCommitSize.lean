/- The law CommitSize: for every input the call returns true, and each argument reads behind the call as it read before. -/
import Derived.Test.YtcpngkkconalhaaCCommitSize
import Derived.Test.YtcpngkkconalhaaT1
import Derived.Test.YtcpngkkconalhaaT4
namespace Go.Proofs.Ytcpngkkconalhaa
open Go.ChangeShapes Go.WideShapes Go.ChangeAt Go.RowKit
set_option linter.unusedVariables false
theorem commitSize_own : ownKnob Try.prog.godebug = none := by kernel_rfl
theorem commitSize_laidOut : laidOutB Try.prog = true := seat_laidOut
theorem commitSize_j1 : (Rows.commitSizeRow.wf (OpenSpec.ofChange Rows.commitSizeSpec)) = true := by kernel_rfl
theorem commitSize_j4 : (Try.f4.params.all (Try.pinned.checked.prog.readableRec ·)) = true := by kernel_rfl
theorem commitSize_j5 : (namedTie Try.pinned.checked.prog Rows.commitSizeRow.named Rows.commitSizeSpec.vars) = true := by kernel_rfl
theorem commitSize_j6 : ((Rows.commitSizeRow.stops == [])) = true := by kernel_rfl
theorem commitSize_j8 : ((Rows.commitSizeRow.knobs == [])) = true := by kernel_rfl
theorem commitSize_j10 : ((Rows.commitSizeRow.inPlace == Try.pinned.checked.prog.inPlace 4)) = true := by kernel_rfl
theorem commitSize_j11 : ((Rows.commitSizeRow.unfollowed == Try.pinned.checked.prog.unfollowed 4)) = true := by kernel_rfl
theorem commitSize_j12 : ((Rows.commitSizeRow.recurses == Try.pinned.checked.prog.recurses 4)) = true := by kernel_rfl
theorem commitSize_j13 : ((Rows.commitSizeRow.named == Try.pinned.checked.prog.varsNamed 4)) = true := by kernel_rfl
theorem commitSize_j14 : ((Rows.commitSizeRow.maps == (Try.f4.params.toList ++ Rows.commitSizeSpec.plain.varTypes Try.pinned.checked.prog).any (Try.pinned.checked.prog.mapsRec ·))) = true := by kernel_rfl
theorem commitSize_j15 : ((Rows.commitSizeRow.ifaces == (Try.f4.params.toList ++ Rows.commitSizeSpec.plain.varTypes Try.pinned.checked.prog).any (Try.pinned.checked.prog.ifacesRec ·))) = true := by kernel_rfl
theorem commitSize_j16 : ((Rows.commitSizeRow.mapsOut == Try.pinned.checked.prog.mapsAmong Try.f4.resultTypes.toList)) = true := by kernel_rfl
theorem commitSize_j17 : ((Rows.commitSizeRow.loops == (Try.f4.params.toList ++ Rows.commitSizeSpec.plain.varTypes Try.pinned.checked.prog).any (Try.pinned.checked.prog.loopsFrom ·))) = true := by kernel_rfl
theorem commitSize_j18 : ((Rows.commitSizeRow.wideKeys == (Try.f4.params.toList ++ Rows.commitSizeSpec.plain.varTypes Try.pinned.checked.prog ++ Try.f4.resultTypes.toList).any (Try.pinned.checked.prog.wideKeysFrom ·))) = true := by kernel_rfl
theorem commitSize_j19 : (Rows.commitSizeSpec.vars.all (Try.pinned.checked.prog.varReadable ·)) = true := by kernel_rfl
theorem commitSize_j20 : (Try.f4.resultTypes.all (fun t => Try.pinned.checked.prog.readableRec t && decide (t < Try.pinned.checked.prog.types.size))) = true := by kernel_rfl
theorem commitSize_j21 : ((Rows.commitSizeRow.ifacesOut == Try.f4.resultTypes.toList.any (Try.pinned.checked.prog.ifacesRec ·))) = true := by kernel_rfl
theorem commitSize_j22 : ((Rows.commitSizeRow.loopsOut == Try.f4.resultTypes.toList.any (Try.pinned.checked.prog.loopsFrom ·))) = true := by kernel_rfl
theorem commitSize_j23 : ((Rows.commitSizeRow.plainKeys == Try.pinned.checked.prog.plainKeys)) = true := by kernel_rfl
theorem commitSize_j24 : (Rows.commitSizeRow.shortTexts.isNone) = true := by kernel_rfl
theorem commitSize_j27 : (Rows.commitSizeRow.lifted == Try.pinned.checked.prog.liftsFinal) = true := (congrArg (fun b => Rows.commitSizeRow.lifted == b) seat_liftsFinal).trans (by kernel_rfl)
theorem commitSize_j28 : (Try.pinned.checked.prog.make == some Rows.commitSizeRow.make) = true := (congrArg (fun b => b == some Rows.commitSizeRow.make) seat_make).trans (by kernel_rfl)
theorem commitSize_j29 : ((Rows.commitSizeRow.kinds == (if Rows.commitSizeRow.domain.isEmpty then [] else Try.f4.params.toList.map fun t => match Try.pinned.checked.prog.underlying t with | some (.int k) => some k | _ => none))) = true := by kernel_rfl
theorem commitSize_j30 : ((Rows.commitSizeRow.pinned == Rows.commitSizeRow.pinnedBy)) = true := by kernel_rfl
theorem commitSize_j31 : ((Rows.commitSizeRow.veiled == (Try.f4.params.toList ++ Rows.commitSizeSpec.plain.varTypes Try.pinned.checked.prog ++ Try.f4.resultTypes.toList).any (Try.pinned.checked.prog.veiledRec ·))) = true := by kernel_rfl
theorem commitSize_j32 : (Rows.commitSizeRow.veiledFits Try.pinned.checked.prog Try.f4.params.toList (Try.f4.params.toList ++ Rows.commitSizeSpec.plain.varTypes Try.pinned.checked.prog ++ Try.f4.resultTypes.toList)) = true := by kernel_rfl
set_option maxRecDepth 100000 in
theorem commitSize_lifted (os : Os) (started : os.Started) (H : Type) (enc : TypeId × Value → H) :
    ReturnsInHanded {} Try.checked os 4 .any (Rows.commitSizeSpec.pre6 enc Try.prog Try.f4 Rows.commitSizeRow.domain false) (Rows.commitSizeSpec.post enc Try.prog Try.f4 false true false false) := by
  refine returnsInHanded_of_change (C := Try.checked) commitSize_own started (by kernel_rfl) Try.func4
    (ChangeSpec.witness6 (enc := enc) (C := Try.checked) false ⟨#[], #[.slice none 0 0, .int .i64 0], []⟩ 8 (by kernel_rfl) (by kernel_rfl) (by kernel_rfl) (by kernel_rfl)) ?_
  intro W base args ds gs before hval0 hW hcnd _
  have hval : ∀ (j : Nat) t v, Try.f4.params[j]? = some t → args[j]? = some v → Value.okWide Try.prog W .any base t v := hval0
  have hW' := hW
  obtain ⟨p, q, hA0, hV, rfl, hfz, hnd⟩ := hW
  have hA : DataW.TrodAll enc Try.prog W 0 (fun _ => true) true Try.f4.params.toList args.toList ds p := hA0
  rw [Try.params4] at hA hval
  obtain ⟨v0, vs0, d0, ds0, p0, q0, hargs, rfl, rfl, h0, r0⟩ := trodAll_cons hA
  obtain ⟨v1, vs1, d1, ds1, p1, q1, rfl, rfl, rfl, h1, r1⟩ := trodAll_cons r0
  obtain ⟨rfl, rfl, rfl⟩ := trodAll_nil r1
  obtain rfl : args = #[v0, v1] := by cases args; simp_all
  obtain ⟨rfl, rfl⟩ := trodVars_none hV
  have k0 := h0
  have lt0 : ∀ x ∈ p0, x.block < W.heap.size := by obtain ⟨m, hm⟩ := k0; exact DataW.trod_lt m _ _ _ hm
  obtain ⟨a0, len0, cap0, rfl⟩ := okWide_slice Try.underlying22 (hval 0 22 v0 rfl rfl)
  obtain ⟨l0, w0⟩ : ∃ l, Pls (whole W) (.slice a0 len0 cap0) l := by
    obtain ⟨fuel, hf⟩ := h0
    exact rd_places Try.underlying22 Try.underlying30 (by kernel_rfl) (by kernel_rfl) rfl rfl rfl rfl Try.underlying25 Try.underlying5 (by kernel_rfl) Try.underlying4 hf
  have k1 := h1
  have lt1 : ∀ x ∈ p1, x.block < W.heap.size := by obtain ⟨m, hm⟩ := k1; exact DataW.trod_lt m _ _ _ hm
  obtain ⟨x1, rfl, _, _, wx1⟩ := open_int Try.underlying3 (hval 1 3 v1 rfl rfl) h1
  have b1 := bounds_i64 wx1
  clear hA0 hval0
  refine (commitSize_walk W (.slice a0 len0 cap0) l0 w0 x1 b1.1 b1.2).mono fun e W' ⟨he, bel⟩ => ?_
  subst he
  exact ⟨_, rfl, _, _, _, [], _, [], hW', trodAll_mk1 (shut_bool Try.underlying4 _), (trodAll_cons_mk (Below.trod commitSize_laidOut (by kernel_rfl) (of_decide_eq_true (by kernel_rfl)) k0 bel lt0) (trodAll_cons_mk (Below.trod commitSize_laidOut (by kernel_rfl) (of_decide_eq_true (by kernel_rfl)) k1 bel lt1) trodAll_mk0)), rfl, bel.frame _, fun h => by cases h⟩
set_option maxRecDepth 1000000 in
theorem commitSize_holds : Rows.CommitSizeSaid :=
  OpenClaim.holds_of_wide 4 Try.f4 rfl rfl rfl rfl rfl rfl rfl ⟨rfl, rfl, rfl, rfl, rfl⟩ rfl rfl rfl rfl rfl (by as_aux_lemma => kernel_rfl) Try.func4 (joined_mk commitSize_j1 seat_laidOut seat_mapsRowed commitSize_j4 commitSize_j5 commitSize_j6 seat_stops commitSize_j8 seat_stopKnobs commitSize_j10 commitSize_j11 commitSize_j12 commitSize_j13 commitSize_j14 commitSize_j15 commitSize_j16 commitSize_j17 commitSize_j18 commitSize_j19 commitSize_j20 commitSize_j21 commitSize_j22 commitSize_j23 commitSize_j24 seat_stopsHeard seat_mayEnter commitSize_j27 commitSize_j28 commitSize_j29 commitSize_j30 commitSize_j31 commitSize_j32)
    (of_decide_eq_true (by as_aux_lemma => kernel_rfl)) (by unfold Func.isWrapper; first | (rw [if_pos (by decide +kernel)]; kernel_rfl) | (rw [if_neg (by decide +kernel)]; exact ⟨rfl, rfl⟩))
    (fun os started H enc _ => commitSize_lifted os started H enc)
#print axioms commitSize_holds
end Go.Proofs.Ytcpngkkconalhaa
