/- The law CommitTorn: for every input the call returns true, and each argument reads behind the call as it read before. -/
import Derived.Test.YtcpngkkconalhaaCCommitTorn
import Derived.Test.YtcpngkkconalhaaT1
import Derived.Test.YtcpngkkconalhaaT4
namespace Go.Proofs.Ytcpngkkconalhaa
open Go.ChangeShapes Go.WideShapes Go.ChangeAt Go.RowKit
set_option linter.unusedVariables false
theorem commitTorn_own : ownKnob Try.prog.godebug = none := by kernel_rfl
theorem commitTorn_laidOut : laidOutB Try.prog = true := seat_laidOut
theorem commitTorn_j1 : (Rows.commitTornRow.wf (OpenSpec.ofChange Rows.commitTornSpec)) = true := by kernel_rfl
theorem commitTorn_j4 : (Try.f9.params.all (Try.pinned.checked.prog.readableRec ·)) = true := by kernel_rfl
theorem commitTorn_j5 : (namedTie Try.pinned.checked.prog Rows.commitTornRow.named Rows.commitTornSpec.vars) = true := by kernel_rfl
theorem commitTorn_j6 : ((Rows.commitTornRow.stops == [])) = true := by kernel_rfl
theorem commitTorn_j8 : ((Rows.commitTornRow.knobs == [])) = true := by kernel_rfl
theorem commitTorn_j10 : ((Rows.commitTornRow.inPlace == Try.pinned.checked.prog.inPlace 9)) = true := by kernel_rfl
theorem commitTorn_j11 : ((Rows.commitTornRow.unfollowed == Try.pinned.checked.prog.unfollowed 9)) = true := by kernel_rfl
theorem commitTorn_j12 : ((Rows.commitTornRow.recurses == Try.pinned.checked.prog.recurses 9)) = true := by kernel_rfl
theorem commitTorn_j13 : ((Rows.commitTornRow.named == Try.pinned.checked.prog.varsNamed 9)) = true := by kernel_rfl
theorem commitTorn_j14 : ((Rows.commitTornRow.maps == (Try.f9.params.toList ++ Rows.commitTornSpec.plain.varTypes Try.pinned.checked.prog).any (Try.pinned.checked.prog.mapsRec ·))) = true := by kernel_rfl
theorem commitTorn_j15 : ((Rows.commitTornRow.ifaces == (Try.f9.params.toList ++ Rows.commitTornSpec.plain.varTypes Try.pinned.checked.prog).any (Try.pinned.checked.prog.ifacesRec ·))) = true := by kernel_rfl
theorem commitTorn_j16 : ((Rows.commitTornRow.mapsOut == Try.pinned.checked.prog.mapsAmong Try.f9.resultTypes.toList)) = true := by kernel_rfl
theorem commitTorn_j17 : ((Rows.commitTornRow.loops == (Try.f9.params.toList ++ Rows.commitTornSpec.plain.varTypes Try.pinned.checked.prog).any (Try.pinned.checked.prog.loopsFrom ·))) = true := by kernel_rfl
theorem commitTorn_j18 : ((Rows.commitTornRow.wideKeys == (Try.f9.params.toList ++ Rows.commitTornSpec.plain.varTypes Try.pinned.checked.prog ++ Try.f9.resultTypes.toList).any (Try.pinned.checked.prog.wideKeysFrom ·))) = true := by kernel_rfl
theorem commitTorn_j19 : (Rows.commitTornSpec.vars.all (Try.pinned.checked.prog.varReadable ·)) = true := by kernel_rfl
theorem commitTorn_j20 : (Try.f9.resultTypes.all (fun t => Try.pinned.checked.prog.readableRec t && decide (t < Try.pinned.checked.prog.types.size))) = true := by kernel_rfl
theorem commitTorn_j21 : ((Rows.commitTornRow.ifacesOut == Try.f9.resultTypes.toList.any (Try.pinned.checked.prog.ifacesRec ·))) = true := by kernel_rfl
theorem commitTorn_j22 : ((Rows.commitTornRow.loopsOut == Try.f9.resultTypes.toList.any (Try.pinned.checked.prog.loopsFrom ·))) = true := by kernel_rfl
theorem commitTorn_j23 : ((Rows.commitTornRow.plainKeys == Try.pinned.checked.prog.plainKeys)) = true := by kernel_rfl
theorem commitTorn_j24 : (Rows.commitTornRow.shortTexts.isNone) = true := by kernel_rfl
theorem commitTorn_j27 : (Rows.commitTornRow.lifted == Try.pinned.checked.prog.liftsFinal) = true := (congrArg (fun b => Rows.commitTornRow.lifted == b) seat_liftsFinal).trans (by kernel_rfl)
theorem commitTorn_j28 : (Try.pinned.checked.prog.make == some Rows.commitTornRow.make) = true := (congrArg (fun b => b == some Rows.commitTornRow.make) seat_make).trans (by kernel_rfl)
theorem commitTorn_j29 : ((Rows.commitTornRow.kinds == (if Rows.commitTornRow.domain.isEmpty then [] else Try.f9.params.toList.map fun t => match Try.pinned.checked.prog.underlying t with | some (.int k) => some k | _ => none))) = true := by kernel_rfl
theorem commitTorn_j30 : ((Rows.commitTornRow.pinned == Rows.commitTornRow.pinnedBy)) = true := by kernel_rfl
theorem commitTorn_j31 : ((Rows.commitTornRow.veiled == (Try.f9.params.toList ++ Rows.commitTornSpec.plain.varTypes Try.pinned.checked.prog ++ Try.f9.resultTypes.toList).any (Try.pinned.checked.prog.veiledRec ·))) = true := by kernel_rfl
theorem commitTorn_j32 : (Rows.commitTornRow.veiledFits Try.pinned.checked.prog Try.f9.params.toList (Try.f9.params.toList ++ Rows.commitTornSpec.plain.varTypes Try.pinned.checked.prog ++ Try.f9.resultTypes.toList)) = true := by kernel_rfl
set_option maxRecDepth 100000 in
theorem commitTorn_lifted (os : Os) (started : os.Started) (H : Type) (enc : TypeId × Value → H) :
    ReturnsInHanded {} Try.checked os 9 .any (Rows.commitTornSpec.pre6 enc Try.prog Try.f9 Rows.commitTornRow.domain false) (Rows.commitTornSpec.post enc Try.prog Try.f9 false true false false) := by
  refine returnsInHanded_of_change (C := Try.checked) commitTorn_own started (by kernel_rfl) Try.func9
    (ChangeSpec.witness6 (enc := enc) (C := Try.checked) false ⟨#[], #[.slice none 0 0, .int .i64 0], []⟩ 8 (by kernel_rfl) (by kernel_rfl) (by kernel_rfl) (by kernel_rfl)) ?_
  intro W base args ds gs before hval0 hW hcnd _
  have hval : ∀ (j : Nat) t v, Try.f9.params[j]? = some t → args[j]? = some v → Value.okWide Try.prog W .any base t v := hval0
  have hW' := hW
  obtain ⟨p, q, hA0, hV, rfl, hfz, hnd⟩ := hW
  have hA : DataW.TrodAll enc Try.prog W 0 (fun _ => true) true Try.f9.params.toList args.toList ds p := hA0
  rw [Try.params9] at hA hval
  obtain ⟨v0, vs0, d0, ds0, p0, q0, hargs, rfl, rfl, h0, r0⟩ := trodAll_cons hA
  obtain ⟨v1, vs1, d1, ds1, p1, q1, rfl, rfl, rfl, h1, r1⟩ := trodAll_cons r0
  obtain ⟨rfl, rfl, rfl⟩ := trodAll_nil r1
  obtain rfl : args = #[v0, v1] := by cases args; simp_all
  obtain ⟨rfl, rfl⟩ := trodVars_none hV
  have k0 := h0
  have lt0 : ∀ x ∈ p0, x.block < W.heap.size := by obtain ⟨m, hm⟩ := k0; exact DataW.trod_lt m _ _ _ hm
  obtain ⟨a0, len0, cap0, rfl⟩ := okWide_slice Try.underlying22 (hval 0 22 v0 rfl rfl)
  obtain ⟨l0, w0⟩ : ∃ l, Pls (whole W) (.slice a0 len0 cap0) l := by
    obtain ⟨fuel, hf⟩ := h0
    exact rd_places Try.underlying22 Try.underlying30 (by kernel_rfl) (by kernel_rfl) rfl rfl rfl rfl Try.underlying25 Try.underlying5 (by kernel_rfl) Try.underlying4 hf
  have k1 := h1
  have lt1 : ∀ x ∈ p1, x.block < W.heap.size := by obtain ⟨m, hm⟩ := k1; exact DataW.trod_lt m _ _ _ hm
  obtain ⟨x1, rfl, _, _, wx1⟩ := open_int Try.underlying3 (hval 1 3 v1 rfl rfl) h1
  have b1 := bounds_i64 wx1
  clear hA0 hval0
  refine (commitTorn_walk W (.slice a0 len0 cap0) l0 w0 x1 b1.1 b1.2).mono fun e W' ⟨he, bel⟩ => ?_
  subst he
  exact ⟨_, rfl, _, _, _, [], _, [], hW', trodAll_mk1 (shut_bool Try.underlying4 _), (trodAll_cons_mk (Below.trod commitTorn_laidOut (by kernel_rfl) (of_decide_eq_true (by kernel_rfl)) k0 bel lt0) (trodAll_cons_mk (Below.trod commitTorn_laidOut (by kernel_rfl) (of_decide_eq_true (by kernel_rfl)) k1 bel lt1) trodAll_mk0)), rfl, bel.frame _, fun h => by cases h⟩
set_option maxRecDepth 1000000 in
theorem commitTorn_holds : Rows.CommitTornSaid :=
  OpenClaim.holds_of_wide 9 Try.f9 rfl rfl rfl rfl rfl rfl rfl ⟨rfl, rfl, rfl, rfl, rfl⟩ rfl rfl rfl rfl rfl (by as_aux_lemma => kernel_rfl) Try.func9 (joined_mk commitTorn_j1 seat_laidOut seat_mapsRowed commitTorn_j4 commitTorn_j5 commitTorn_j6 seat_stops commitTorn_j8 seat_stopKnobs commitTorn_j10 commitTorn_j11 commitTorn_j12 commitTorn_j13 commitTorn_j14 commitTorn_j15 commitTorn_j16 commitTorn_j17 commitTorn_j18 commitTorn_j19 commitTorn_j20 commitTorn_j21 commitTorn_j22 commitTorn_j23 commitTorn_j24 seat_stopsHeard seat_mayEnter commitTorn_j27 commitTorn_j28 commitTorn_j29 commitTorn_j30 commitTorn_j31 commitTorn_j32)
    (of_decide_eq_true (by as_aux_lemma => kernel_rfl)) (by unfold Func.isWrapper; first | (rw [if_pos (by decide +kernel)]; kernel_rfl) | (rw [if_neg (by decide +kernel)]; exact ⟨rfl, rfl⟩))
    (fun os started H enc _ => commitTorn_lifted os started H enc)
#print axioms commitTorn_holds
end Go.Proofs.Ytcpngkkconalhaa
