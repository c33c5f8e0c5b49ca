/- The law CommitFixed: for every input the call returns true, and each argument reads behind the call as it read before. -/
import Derived.Test.YtcpngkkconalhaaCCommitFixed
import Derived.Test.YtcpngkkconalhaaBT1
import Derived.SizedLaws
namespace Go.Proofs.Ytcpngkkconalhaa
open Go.ChangeShapes Go.WideShapes Go.ChangeAt Go.RowKit
set_option linter.unusedVariables false
theorem commitFixed_own : ownKnob Try.prog.godebug = none := by kernel_rfl
theorem commitFixed_laidOut : laidOutB Try.prog = true := seat_laidOut
theorem commitFixed_j1 : (Rows.commitFixedRow.wf (OpenSpec.ofChange Rows.commitFixedSpec)) = true := by kernel_rfl
theorem commitFixed_j4 : (Try.f8.params.all (Try.pinned.checked.prog.readableRec ·)) = true := by kernel_rfl
theorem commitFixed_j5 : (namedTie Try.pinned.checked.prog Rows.commitFixedRow.named Rows.commitFixedSpec.vars) = true := by kernel_rfl
theorem commitFixed_j6 : ((Rows.commitFixedRow.stops == [])) = true := by kernel_rfl
theorem commitFixed_j8 : ((Rows.commitFixedRow.knobs == [])) = true := by kernel_rfl
theorem commitFixed_j10 : ((Rows.commitFixedRow.inPlace == Try.pinned.checked.prog.inPlace 8)) = true := by kernel_rfl
theorem commitFixed_j11 : ((Rows.commitFixedRow.unfollowed == Try.pinned.checked.prog.unfollowed 8)) = true := by kernel_rfl
theorem commitFixed_j12 : ((Rows.commitFixedRow.recurses == Try.pinned.checked.prog.recurses 8)) = true := by kernel_rfl
theorem commitFixed_j13 : ((Rows.commitFixedRow.named == Try.pinned.checked.prog.varsNamed 8)) = true := by kernel_rfl
theorem commitFixed_j14 : ((Rows.commitFixedRow.maps == (Try.f8.params.toList ++ Rows.commitFixedSpec.plain.varTypes Try.pinned.checked.prog).any (Try.pinned.checked.prog.mapsRec ·))) = true := by kernel_rfl
theorem commitFixed_j15 : ((Rows.commitFixedRow.ifaces == (Try.f8.params.toList ++ Rows.commitFixedSpec.plain.varTypes Try.pinned.checked.prog).any (Try.pinned.checked.prog.ifacesRec ·))) = true := by kernel_rfl
theorem commitFixed_j16 : ((Rows.commitFixedRow.mapsOut == Try.pinned.checked.prog.mapsAmong Try.f8.resultTypes.toList)) = true := by kernel_rfl
theorem commitFixed_j17 : ((Rows.commitFixedRow.loops == (Try.f8.params.toList ++ Rows.commitFixedSpec.plain.varTypes Try.pinned.checked.prog).any (Try.pinned.checked.prog.loopsFrom ·))) = true := by kernel_rfl
theorem commitFixed_j18 : ((Rows.commitFixedRow.wideKeys == (Try.f8.params.toList ++ Rows.commitFixedSpec.plain.varTypes Try.pinned.checked.prog ++ Try.f8.resultTypes.toList).any (Try.pinned.checked.prog.wideKeysFrom ·))) = true := by kernel_rfl
theorem commitFixed_j19 : (Rows.commitFixedSpec.vars.all (Try.pinned.checked.prog.varReadable ·)) = true := by kernel_rfl
theorem commitFixed_j20 : (Try.f8.resultTypes.all (fun t => Try.pinned.checked.prog.readableRec t && decide (t < Try.pinned.checked.prog.types.size))) = true := by kernel_rfl
theorem commitFixed_j21 : ((Rows.commitFixedRow.ifacesOut == Try.f8.resultTypes.toList.any (Try.pinned.checked.prog.ifacesRec ·))) = true := by kernel_rfl
theorem commitFixed_j22 : ((Rows.commitFixedRow.loopsOut == Try.f8.resultTypes.toList.any (Try.pinned.checked.prog.loopsFrom ·))) = true := by kernel_rfl
theorem commitFixed_j23 : ((Rows.commitFixedRow.plainKeys == Try.pinned.checked.prog.plainKeys)) = true := by kernel_rfl
theorem commitFixed_j24 : (Rows.commitFixedRow.shortTexts.isNone) = true := by kernel_rfl
theorem commitFixed_j27 : (Rows.commitFixedRow.lifted == Try.pinned.checked.prog.liftsFinal) = true := (congrArg (fun b => Rows.commitFixedRow.lifted == b) seat_liftsFinal).trans (by kernel_rfl)
theorem commitFixed_j28 : (Try.pinned.checked.prog.make == some Rows.commitFixedRow.make) = true := (congrArg (fun b => b == some Rows.commitFixedRow.make) seat_make).trans (by kernel_rfl)
theorem commitFixed_j29 : ((Rows.commitFixedRow.kinds == (if Rows.commitFixedRow.domain.isEmpty then [] else Try.f8.params.toList.map fun t => match Try.pinned.checked.prog.underlying t with | some (.int k) => some k | _ => none))) = true := by kernel_rfl
theorem commitFixed_j30 : ((Rows.commitFixedRow.pinned == Rows.commitFixedRow.pinnedBy)) = true := by kernel_rfl
theorem commitFixed_j31 : ((Rows.commitFixedRow.veiled == (Try.f8.params.toList ++ Rows.commitFixedSpec.plain.varTypes Try.pinned.checked.prog ++ Try.f8.resultTypes.toList).any (Try.pinned.checked.prog.veiledRec ·))) = true := by kernel_rfl
theorem commitFixed_j32 : (Rows.commitFixedRow.veiledFits Try.pinned.checked.prog Try.f8.params.toList (Try.f8.params.toList ++ Rows.commitFixedSpec.plain.varTypes Try.pinned.checked.prog ++ Try.f8.resultTypes.toList)) = true := by kernel_rfl
set_option maxRecDepth 100000 in
theorem commitFixed_lifted (os : Os) (started : os.Started) (H : Type) (enc : TypeId × Value → H) :
    ReturnsInHanded {} Try.checked os 8 .any (Rows.commitFixedSpec.pre6 enc Try.prog Try.f8 Rows.commitFixedRow.domain false) (Rows.commitFixedSpec.post enc Try.prog Try.f8 false true false false) := by
  refine returnsInHanded_of_change_sized (C := Try.checked) commitFixed_own started (by kernel_rfl) Try.func8
    (ChangeSpec.witness6 (enc := enc) (C := Try.checked) false ⟨#[], #[.slice none 0 0], []⟩ 8 (by kernel_rfl) (by kernel_rfl) (by kernel_rfl) (by kernel_rfl)) ?_
  intro W base args ds gs before hval0 hW hcnd hsz _
  have hval : ∀ (j : Nat) t v, Try.f8.params[j]? = some t → args[j]? = some v → Value.okWide Try.prog W .any base t v := hval0
  have hW' := hW
  obtain ⟨p, q, hA0, hV, rfl, hfz, hnd⟩ := hW
  have hA : DataW.TrodAll enc Try.prog W 0 (fun _ => true) true Try.f8.params.toList args.toList ds p := hA0
  rw [Try.params8] at hA hval
  obtain ⟨v0, vs0, d0, ds0, p0, q0, hargs, rfl, rfl, h0, r0⟩ := trodAll_cons hA
  obtain ⟨rfl, rfl, rfl⟩ := trodAll_nil r0
  obtain rfl : args = #[v0] := by cases args; simp_all
  obtain ⟨rfl, rfl⟩ := trodVars_none hV
  have k0 := h0
  have lt0 : ∀ x ∈ p0, x.block < W.heap.size := by obtain ⟨m, hm⟩ := k0; exact DataW.trod_lt m _ _ _ hm
  obtain ⟨a0, len0, cap0, rfl⟩ := okWide_slice Try.underlying25 (hval 0 25 v0 rfl rfl)
  obtain ⟨l0, w0⟩ : ∃ l, Bs (whole W) (.slice a0 len0 cap0) l := by
    obtain ⟨fuel, hf⟩ := h0
    exact rd_bytes_cells Try.underlying25 Try.underlying5 (by kernel_rfl) hf
  have hlen0 : l0.length ≤ 140737488355328 := by
    have hsh := w0.shape
    obtain ⟨_, _, e, _⟩ := hsh
    injection e with _ e _
    rw [← e]
    obtain ⟨fuel, hf⟩ := k0
    rcases Deep.open_slice Try.underlying25 hf with ⟨hc, _⟩ | ⟨a, len, cap, m, n, D, Pl, hc, _, _, _, _, hx, _⟩
    · simp [Value.cells] at hc; omega
    · simp only [Prod.mk.injEq] at hx
      obtain ⟨rfl, rfl⟩ := hx
      have hq := sized_slice hsz (j := 0) (t := 25) (e := 5) rfl rfl Try.underlying25
      rw [show Try.checked.prog.bytesOf 5 = 1 by kernel_rfl] at hq
      simp only [List.length_map, List.length_range, reachBytes] at hq
      simp [Value.cells] at hc
      omega
  clear hA0 hval0
  refine (commitFixed_walk W (.slice a0 len0 cap0) l0 w0 hlen0).mono fun e W' ⟨he, bel⟩ => ?_
  subst he
  exact ⟨_, rfl, _, _, _, [], _, [], hW', trodAll_mk1 (shut_bool Try.underlying4 _), (trodAll_cons_mk (Below.trod commitFixed_laidOut (by kernel_rfl) (of_decide_eq_true (by kernel_rfl)) k0 bel lt0) trodAll_mk0), rfl, bel.frame _, fun h => by cases h⟩
set_option maxRecDepth 1000000 in
theorem commitFixed_holds : Rows.CommitFixedSaid :=
  OpenClaim.holds_of_wide 8 Try.f8 rfl rfl rfl rfl rfl rfl rfl ⟨rfl, rfl, rfl, rfl, rfl⟩ rfl rfl rfl rfl rfl (by as_aux_lemma => kernel_rfl) Try.func8 (joined_mk commitFixed_j1 seat_laidOut seat_mapsRowed commitFixed_j4 commitFixed_j5 commitFixed_j6 seat_stops commitFixed_j8 seat_stopKnobs commitFixed_j10 commitFixed_j11 commitFixed_j12 commitFixed_j13 commitFixed_j14 commitFixed_j15 commitFixed_j16 commitFixed_j17 commitFixed_j18 commitFixed_j19 commitFixed_j20 commitFixed_j21 commitFixed_j22 commitFixed_j23 commitFixed_j24 seat_stopsHeard seat_mayEnter commitFixed_j27 commitFixed_j28 commitFixed_j29 commitFixed_j30 commitFixed_j31 commitFixed_j32)
    (of_decide_eq_true (by as_aux_lemma => kernel_rfl)) (by unfold Func.isWrapper; first | (rw [if_pos (by decide +kernel)]; kernel_rfl) | (rw [if_neg (by decide +kernel)]; exact ⟨rfl, rfl⟩))
    (fun os started H enc _ => commitFixed_lifted os started H enc)
#print axioms commitFixed_holds
end Go.Proofs.Ytcpngkkconalhaa
