/- The law CommitBack: for every input the call returns true, and each argument reads behind the call as it read before. -/
import Derived.Test.YtcpngkkconalhaaCCommitBack
import Derived.Test.YtcpngkkconalhaaT1
import Derived.Test.YtcpngkkconalhaaT4
namespace Go.Proofs.Ytcpngkkconalhaa
open Go.ChangeShapes Go.WideShapes Go.ChangeAt Go.RowKit
set_option linter.unusedVariables false
theorem commitBack_own : ownKnob Try.prog.godebug = none := by kernel_rfl
theorem commitBack_laidOut : laidOutB Try.prog = true := seat_laidOut
theorem commitBack_j1 : (Rows.commitBackRow.wf (OpenSpec.ofChange Rows.commitBackSpec)) = true := by kernel_rfl
theorem commitBack_j4 : (Try.f7.params.all (Try.pinned.checked.prog.readableRec ·)) = true := by kernel_rfl
theorem commitBack_j5 : (namedTie Try.pinned.checked.prog Rows.commitBackRow.named Rows.commitBackSpec.vars) = true := by kernel_rfl
theorem commitBack_j6 : ((Rows.commitBackRow.stops == [])) = true := by kernel_rfl
theorem commitBack_j8 : ((Rows.commitBackRow.knobs == [])) = true := by kernel_rfl
theorem commitBack_j10 : ((Rows.commitBackRow.inPlace == Try.pinned.checked.prog.inPlace 7)) = true := by kernel_rfl
theorem commitBack_j11 : ((Rows.commitBackRow.unfollowed == Try.pinned.checked.prog.unfollowed 7)) = true := by kernel_rfl
theorem commitBack_j12 : ((Rows.commitBackRow.recurses == Try.pinned.checked.prog.recurses 7)) = true := by kernel_rfl
theorem commitBack_j13 : ((Rows.commitBackRow.named == Try.pinned.checked.prog.varsNamed 7)) = true := by kernel_rfl
theorem commitBack_j14 : ((Rows.commitBackRow.maps == (Try.f7.params.toList ++ Rows.commitBackSpec.plain.varTypes Try.pinned.checked.prog).any (Try.pinned.checked.prog.mapsRec ·))) = true := by kernel_rfl
theorem commitBack_j15 : ((Rows.commitBackRow.ifaces == (Try.f7.params.toList ++ Rows.commitBackSpec.plain.varTypes Try.pinned.checked.prog).any (Try.pinned.checked.prog.ifacesRec ·))) = true := by kernel_rfl
theorem commitBack_j16 : ((Rows.commitBackRow.mapsOut == Try.pinned.checked.prog.mapsAmong Try.f7.resultTypes.toList)) = true := by kernel_rfl
theorem commitBack_j17 : ((Rows.commitBackRow.loops == (Try.f7.params.toList ++ Rows.commitBackSpec.plain.varTypes Try.pinned.checked.prog).any (Try.pinned.checked.prog.loopsFrom ·))) = true := by kernel_rfl
theorem commitBack_j18 : ((Rows.commitBackRow.wideKeys == (Try.f7.params.toList ++ Rows.commitBackSpec.plain.varTypes Try.pinned.checked.prog ++ Try.f7.resultTypes.toList).any (Try.pinned.checked.prog.wideKeysFrom ·))) = true := by kernel_rfl
theorem commitBack_j19 : (Rows.commitBackSpec.vars.all (Try.pinned.checked.prog.varReadable ·)) = true := by kernel_rfl
theorem commitBack_j20 : (Try.f7.resultTypes.all (fun t => Try.pinned.checked.prog.readableRec t && decide (t < Try.pinned.checked.prog.types.size))) = true := by kernel_rfl
theorem commitBack_j21 : ((Rows.commitBackRow.ifacesOut == Try.f7.resultTypes.toList.any (Try.pinned.checked.prog.ifacesRec ·))) = true := by kernel_rfl
theorem commitBack_j22 : ((Rows.commitBackRow.loopsOut == Try.f7.resultTypes.toList.any (Try.pinned.checked.prog.loopsFrom ·))) = true := by kernel_rfl
theorem commitBack_j23 : ((Rows.commitBackRow.plainKeys == Try.pinned.checked.prog.plainKeys)) = true := by kernel_rfl
theorem commitBack_j24 : (Rows.commitBackRow.shortTexts.isNone) = true := by kernel_rfl
theorem commitBack_j27 : (Rows.commitBackRow.lifted == Try.pinned.checked.prog.liftsFinal) = true := (congrArg (fun b => Rows.commitBackRow.lifted == b) seat_liftsFinal).trans (by kernel_rfl)
theorem commitBack_j28 : (Try.pinned.checked.prog.make == some Rows.commitBackRow.make) = true := (congrArg (fun b => b == some Rows.commitBackRow.make) seat_make).trans (by kernel_rfl)
theorem commitBack_j29 : ((Rows.commitBackRow.kinds == (if Rows.commitBackRow.domain.isEmpty then [] else Try.f7.params.toList.map fun t => match Try.pinned.checked.prog.underlying t with | some (.int k) => some k | _ => none))) = true := by kernel_rfl
theorem commitBack_j30 : ((Rows.commitBackRow.pinned == Rows.commitBackRow.pinnedBy)) = true := by kernel_rfl
theorem commitBack_j31 : ((Rows.commitBackRow.veiled == (Try.f7.params.toList ++ Rows.commitBackSpec.plain.varTypes Try.pinned.checked.prog ++ Try.f7.resultTypes.toList).any (Try.pinned.checked.prog.veiledRec ·))) = true := by kernel_rfl
theorem commitBack_j32 : (Rows.commitBackRow.veiledFits Try.pinned.checked.prog Try.f7.params.toList (Try.f7.params.toList ++ Rows.commitBackSpec.plain.varTypes Try.pinned.checked.prog ++ Try.f7.resultTypes.toList)) = true := by kernel_rfl
set_option maxRecDepth 100000 in
theorem commitBack_lifted (os : Os) (started : os.Started) (H : Type) (enc : TypeId × Value → H) :
    ReturnsInHanded {} Try.checked os 7 .any (Rows.commitBackSpec.pre6 enc Try.prog Try.f7 Rows.commitBackRow.domain false) (Rows.commitBackSpec.post enc Try.prog Try.f7 false true false false) := by
  refine returnsInHanded_of_change (C := Try.checked) commitBack_own started (by kernel_rfl) Try.func7
    (ChangeSpec.witness6 (enc := enc) (C := Try.checked) false ⟨#[], #[.slice none 0 0, .int .i64 0], []⟩ 8 (by kernel_rfl) (by kernel_rfl) (by kernel_rfl) (by kernel_rfl)) ?_
  intro W base args ds gs before hval0 hW hcnd _
  have hval : ∀ (j : Nat) t v, Try.f7.params[j]? = some t → args[j]? = some v → Value.okWide Try.prog W .any base t v := hval0
  have hW' := hW
  obtain ⟨p, q, hA0, hV, rfl, hfz, hnd⟩ := hW
  have hA : DataW.TrodAll enc Try.prog W 0 (fun _ => true) true Try.f7.params.toList args.toList ds p := hA0
  rw [Try.params7] at hA hval
  obtain ⟨v0, vs0, d0, ds0, p0, q0, hargs, rfl, rfl, h0, r0⟩ := trodAll_cons hA
  obtain ⟨v1, vs1, d1, ds1, p1, q1, rfl, rfl, rfl, h1, r1⟩ := trodAll_cons r0
  obtain ⟨rfl, rfl, rfl⟩ := trodAll_nil r1
  obtain rfl : args = #[v0, v1] := by cases args; simp_all
  obtain ⟨rfl, rfl⟩ := trodVars_none hV
  have k0 := h0
  have lt0 : ∀ x ∈ p0, x.block < W.heap.size := by obtain ⟨m, hm⟩ := k0; exact DataW.trod_lt m _ _ _ hm
  obtain ⟨a0, len0, cap0, rfl⟩ := okWide_slice Try.underlying22 (hval 0 22 v0 rfl rfl)
  obtain ⟨l0, w0⟩ : ∃ l, Pls (whole W) (.slice a0 len0 cap0) l := by
    obtain ⟨fuel, hf⟩ := h0
    exact rd_places Try.underlying22 Try.underlying30 (by kernel_rfl) (by kernel_rfl) rfl rfl rfl rfl Try.underlying25 Try.underlying5 (by kernel_rfl) Try.underlying4 hf
  have k1 := h1
  have lt1 : ∀ x ∈ p1, x.block < W.heap.size := by obtain ⟨m, hm⟩ := k1; exact DataW.trod_lt m _ _ _ hm
  obtain ⟨x1, rfl, _, _, wx1⟩ := open_int Try.underlying3 (hval 1 3 v1 rfl rfl) h1
  have b1 := bounds_i64 wx1
  clear hA0 hval0
  refine (commitBack_walk W (.slice a0 len0 cap0) l0 w0 x1 b1.1 b1.2).mono fun e W' ⟨he, bel⟩ => ?_
  subst he
  exact ⟨_, rfl, _, _, _, [], _, [], hW', trodAll_mk1 (shut_bool Try.underlying4 _), (trodAll_cons_mk (Below.trod commitBack_laidOut (by kernel_rfl) (of_decide_eq_true (by kernel_rfl)) k0 bel lt0) (trodAll_cons_mk (Below.trod commitBack_laidOut (by kernel_rfl) (of_decide_eq_true (by kernel_rfl)) k1 bel lt1) trodAll_mk0)), rfl, bel.frame _, fun h => by cases h⟩
set_option maxRecDepth 1000000 in
theorem commitBack_holds : Rows.CommitBackSaid :=
  OpenClaim.holds_of_wide 7 Try.f7 rfl rfl rfl rfl rfl rfl rfl ⟨rfl, rfl, rfl, rfl, rfl⟩ rfl rfl rfl rfl rfl (by as_aux_lemma => kernel_rfl) Try.func7 (joined_mk commitBack_j1 seat_laidOut seat_mapsRowed commitBack_j4 commitBack_j5 commitBack_j6 seat_stops commitBack_j8 seat_stopKnobs commitBack_j10 commitBack_j11 commitBack_j12 commitBack_j13 commitBack_j14 commitBack_j15 commitBack_j16 commitBack_j17 commitBack_j18 commitBack_j19 commitBack_j20 commitBack_j21 commitBack_j22 commitBack_j23 commitBack_j24 seat_stopsHeard seat_mayEnter commitBack_j27 commitBack_j28 commitBack_j29 commitBack_j30 commitBack_j31 commitBack_j32)
    (of_decide_eq_true (by as_aux_lemma => kernel_rfl)) (by unfold Func.isWrapper; first | (rw [if_pos (by decide +kernel)]; kernel_rfl) | (rw [if_neg (by decide +kernel)]; exact ⟨rfl, rfl⟩))
    (fun os started H enc _ => commitBack_lifted os started H enc)
#print axioms commitBack_holds
end Go.Proofs.Ytcpngkkconalhaa
