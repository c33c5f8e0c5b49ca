/- The law FoldNext: for every input the call returns true, and each argument reads behind the call as it read before. -/
import Derived.Test.YtcpngkkconalhaaCFoldNext
import Derived.Test.YtcpngkkconalhaaY1
import Derived.Test.YtcpngkkconalhaaY3
namespace Go.Proofs.Ytcpngkkconalhaa
open Go.ChangeShapes Go.WideShapes Go.ChangeAt Go.RowKit
set_option linter.unusedVariables false
theorem foldNext_own : ownKnob Try.prog.godebug = none := by kernel_rfl
theorem foldNext_laidOut : laidOutB Try.prog = true := seat_laidOut
theorem foldNext_j1 : (Rows.foldNextRow.wf (OpenSpec.ofChange Rows.foldNextSpec)) = true := by kernel_rfl
theorem foldNext_j4 : (Try.f6.params.all (Try.pinned.checked.prog.readableRec ·)) = true := by kernel_rfl
theorem foldNext_j5 : (namedTie Try.pinned.checked.prog Rows.foldNextRow.named Rows.foldNextSpec.vars) = true := by kernel_rfl
theorem foldNext_j6 : ((Rows.foldNextRow.stops == [])) = true := by kernel_rfl
theorem foldNext_j8 : ((Rows.foldNextRow.knobs == [])) = true := by kernel_rfl
theorem foldNext_j10 : ((Rows.foldNextRow.inPlace == Try.pinned.checked.prog.inPlace 6)) = true := by kernel_rfl
theorem foldNext_j11 : ((Rows.foldNextRow.unfollowed == Try.pinned.checked.prog.unfollowed 6)) = true := by kernel_rfl
theorem foldNext_j12 : ((Rows.foldNextRow.recurses == Try.pinned.checked.prog.recurses 6)) = true := by kernel_rfl
theorem foldNext_j13 : ((Rows.foldNextRow.named == Try.pinned.checked.prog.varsNamed 6)) = true := by kernel_rfl
theorem foldNext_j14 : ((Rows.foldNextRow.maps == (Try.f6.params.toList ++ Rows.foldNextSpec.plain.varTypes Try.pinned.checked.prog).any (Try.pinned.checked.prog.mapsRec ·))) = true := by kernel_rfl
theorem foldNext_j15 : ((Rows.foldNextRow.ifaces == (Try.f6.params.toList ++ Rows.foldNextSpec.plain.varTypes Try.pinned.checked.prog).any (Try.pinned.checked.prog.ifacesRec ·))) = true := by kernel_rfl
theorem foldNext_j16 : ((Rows.foldNextRow.mapsOut == Try.pinned.checked.prog.mapsAmong Try.f6.resultTypes.toList)) = true := by kernel_rfl
theorem foldNext_j17 : ((Rows.foldNextRow.loops == (Try.f6.params.toList ++ Rows.foldNextSpec.plain.varTypes Try.pinned.checked.prog).any (Try.pinned.checked.prog.loopsFrom ·))) = true := by kernel_rfl
theorem foldNext_j18 : ((Rows.foldNextRow.wideKeys == (Try.f6.params.toList ++ Rows.foldNextSpec.plain.varTypes Try.pinned.checked.prog ++ Try.f6.resultTypes.toList).any (Try.pinned.checked.prog.wideKeysFrom ·))) = true := by kernel_rfl
theorem foldNext_j19 : (Rows.foldNextSpec.vars.all (Try.pinned.checked.prog.varReadable ·)) = true := by kernel_rfl
theorem foldNext_j20 : (Try.f6.resultTypes.all (fun t => Try.pinned.checked.prog.readableRec t && decide (t < Try.pinned.checked.prog.types.size))) = true := by kernel_rfl
theorem foldNext_j21 : ((Rows.foldNextRow.ifacesOut == Try.f6.resultTypes.toList.any (Try.pinned.checked.prog.ifacesRec ·))) = true := by kernel_rfl
theorem foldNext_j22 : ((Rows.foldNextRow.loopsOut == Try.f6.resultTypes.toList.any (Try.pinned.checked.prog.loopsFrom ·))) = true := by kernel_rfl
theorem foldNext_j23 : ((Rows.foldNextRow.plainKeys == Try.pinned.checked.prog.plainKeys)) = true := by kernel_rfl
theorem foldNext_j24 : (Rows.foldNextRow.shortTexts.isNone) = true := by kernel_rfl
theorem foldNext_j27 : (Rows.foldNextRow.lifted == Try.pinned.checked.prog.liftsFinal) = true := (congrArg (fun b => Rows.foldNextRow.lifted == b) seat_liftsFinal).trans (by kernel_rfl)
theorem foldNext_j28 : (Try.pinned.checked.prog.make == some Rows.foldNextRow.make) = true := (congrArg (fun b => b == some Rows.foldNextRow.make) seat_make).trans (by kernel_rfl)
theorem foldNext_j29 : ((Rows.foldNextRow.kinds == (if Rows.foldNextRow.domain.isEmpty then [] else Try.f6.params.toList.map fun t => match Try.pinned.checked.prog.underlying t with | some (.int k) => some k | _ => none))) = true := by kernel_rfl
theorem foldNext_j30 : ((Rows.foldNextRow.pinned == Rows.foldNextRow.pinnedBy)) = true := by kernel_rfl
theorem foldNext_j31 : ((Rows.foldNextRow.veiled == (Try.f6.params.toList ++ Rows.foldNextSpec.plain.varTypes Try.pinned.checked.prog ++ Try.f6.resultTypes.toList).any (Try.pinned.checked.prog.veiledRec ·))) = true := by kernel_rfl
theorem foldNext_j32 : (Rows.foldNextRow.veiledFits Try.pinned.checked.prog Try.f6.params.toList (Try.f6.params.toList ++ Rows.foldNextSpec.plain.varTypes Try.pinned.checked.prog ++ Try.f6.resultTypes.toList)) = true := by kernel_rfl
set_option maxRecDepth 100000 in
theorem foldNext_lifted (os : Os) (started : os.Started) (H : Type) (enc : TypeId × Value → H) :
    ReturnsInHanded {} Try.checked os 6 .any (Rows.foldNextSpec.pre6 enc Try.prog Try.f6 Rows.foldNextRow.domain false) (Rows.foldNextSpec.post enc Try.prog Try.f6 false true false false) := by
  refine returnsInHanded_of_change (C := Try.checked) foldNext_own started (by kernel_rfl) Try.func6
    (ChangeSpec.witness6 (enc := enc) (C := Try.checked) false ⟨#[], #[.slice none 0 0, .int .i64 0], []⟩ 8 (by kernel_rfl) (by kernel_rfl) (by kernel_rfl) (by kernel_rfl)) ?_
  intro W base args ds gs before hval0 hW hcnd _
  have hval : ∀ (j : Nat) t v, Try.f6.params[j]? = some t → args[j]? = some v → Value.okWide Try.prog W .any base t v := hval0
  have hW' := hW
  obtain ⟨p, q, hA0, hV, rfl, hfz, hnd⟩ := hW
  have hA : DataW.TrodAll enc Try.prog W 0 (fun _ => true) true Try.f6.params.toList args.toList ds p := hA0
  rw [Try.params6] at hA hval
  obtain ⟨v0, vs0, d0, ds0, p0, q0, hargs, rfl, rfl, h0, r0⟩ := trodAll_cons hA
  obtain ⟨v1, vs1, d1, ds1, p1, q1, rfl, rfl, rfl, h1, r1⟩ := trodAll_cons r0
  obtain ⟨rfl, rfl, rfl⟩ := trodAll_nil r1
  obtain rfl : args = #[v0, v1] := by cases args; simp_all
  obtain ⟨rfl, rfl⟩ := trodVars_none hV
  have k0 := h0
  have lt0 : ∀ x ∈ p0, x.block < W.heap.size := by obtain ⟨m, hm⟩ := k0; exact DataW.trod_lt m _ _ _ hm
  obtain ⟨a0, len0, cap0, rfl⟩ := okWide_slice Try.underlying22 (hval 0 22 v0 rfl rfl)
  obtain ⟨l0, w0⟩ : ∃ l, Pls (whole W) (.slice a0 len0 cap0) l := by
    obtain ⟨fuel, hf⟩ := h0
    exact rd_places Try.underlying22 Try.underlying30 (by kernel_rfl) (by kernel_rfl) rfl rfl rfl rfl Try.underlying25 Try.underlying5 (by kernel_rfl) Try.underlying4 hf
  have k1 := h1
  have lt1 : ∀ x ∈ p1, x.block < W.heap.size := by obtain ⟨m, hm⟩ := k1; exact DataW.trod_lt m _ _ _ hm
  obtain ⟨x1, rfl, _, _, wx1⟩ := open_int Try.underlying3 (hval 1 3 v1 rfl rfl) h1
  have b1 := bounds_i64 wx1
  clear hA0 hval0
  refine (foldNext_walk W (.slice a0 len0 cap0) l0 w0 x1 b1.1 b1.2).mono fun e W' ⟨he, bel⟩ => ?_
  subst he
  exact ⟨_, rfl, _, _, _, [], _, [], hW', trodAll_mk1 (shut_bool Try.underlying4 _), (trodAll_cons_mk (Below.trod foldNext_laidOut (by kernel_rfl) (of_decide_eq_true (by kernel_rfl)) k0 bel lt0) (trodAll_cons_mk (Below.trod foldNext_laidOut (by kernel_rfl) (of_decide_eq_true (by kernel_rfl)) k1 bel lt1) trodAll_mk0)), rfl, bel.frame _, fun h => by cases h⟩
set_option maxRecDepth 1000000 in
theorem foldNext_holds : Rows.FoldNextSaid :=
  OpenClaim.holds_of_wide 6 Try.f6 rfl rfl rfl rfl rfl rfl rfl ⟨rfl, rfl, rfl, rfl, rfl⟩ rfl rfl rfl rfl rfl (by as_aux_lemma => kernel_rfl) Try.func6 (joined_mk foldNext_j1 seat_laidOut seat_mapsRowed foldNext_j4 foldNext_j5 foldNext_j6 seat_stops foldNext_j8 seat_stopKnobs foldNext_j10 foldNext_j11 foldNext_j12 foldNext_j13 foldNext_j14 foldNext_j15 foldNext_j16 foldNext_j17 foldNext_j18 foldNext_j19 foldNext_j20 foldNext_j21 foldNext_j22 foldNext_j23 foldNext_j24 seat_stopsHeard seat_mayEnter foldNext_j27 foldNext_j28 foldNext_j29 foldNext_j30 foldNext_j31 foldNext_j32)
    (of_decide_eq_true (by as_aux_lemma => kernel_rfl)) (by unfold Func.isWrapper; first | (rw [if_pos (by decide +kernel)]; kernel_rfl) | (rw [if_neg (by decide +kernel)]; exact ⟨rfl, rfl⟩))
    (fun os started H enc _ => foldNext_lifted os started H enc)
#print axioms foldNext_holds
end Go.Proofs.Ytcpngkkconalhaa
