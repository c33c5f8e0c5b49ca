/- The law NoteFull: for every input the call returns true, and each argument reads behind the call as it read before. -/
import Derived.Test.YtcpngkkconalhaaCNoteFull
import Derived.Test.YtcpngkkconalhaaZ1
namespace Go.Proofs.Ytcpngkkconalhaa
open Go.ChangeShapes Go.WideShapes Go.ChangeAt Go.RowKit
set_option linter.unusedVariables false
theorem noteFull_own : ownKnob Try.prog.godebug = none := by kernel_rfl
theorem noteFull_laidOut : laidOutB Try.prog = true := seat_laidOut
theorem noteFull_j1 : (Rows.noteFullRow.wf (OpenSpec.ofChange Rows.noteFullSpec)) = true := by kernel_rfl
theorem noteFull_j4 : (Try.f12.params.all (Try.pinned.checked.prog.readableRec ·)) = true := by kernel_rfl
theorem noteFull_j5 : (namedTie Try.pinned.checked.prog Rows.noteFullRow.named Rows.noteFullSpec.vars) = true := by kernel_rfl
theorem noteFull_j6 : ((Rows.noteFullRow.stops == [])) = true := by kernel_rfl
theorem noteFull_j8 : ((Rows.noteFullRow.knobs == [])) = true := by kernel_rfl
theorem noteFull_j10 : ((Rows.noteFullRow.inPlace == Try.pinned.checked.prog.inPlace 12)) = true := by kernel_rfl
theorem noteFull_j11 : ((Rows.noteFullRow.unfollowed == Try.pinned.checked.prog.unfollowed 12)) = true := by kernel_rfl
theorem noteFull_j12 : ((Rows.noteFullRow.recurses == Try.pinned.checked.prog.recurses 12)) = true := by kernel_rfl
theorem noteFull_j13 : ((Rows.noteFullRow.named == Try.pinned.checked.prog.varsNamed 12)) = true := by kernel_rfl
theorem noteFull_j14 : ((Rows.noteFullRow.maps == (Try.f12.params.toList ++ Rows.noteFullSpec.plain.varTypes Try.pinned.checked.prog).any (Try.pinned.checked.prog.mapsRec ·))) = true := by kernel_rfl
theorem noteFull_j15 : ((Rows.noteFullRow.ifaces == (Try.f12.params.toList ++ Rows.noteFullSpec.plain.varTypes Try.pinned.checked.prog).any (Try.pinned.checked.prog.ifacesRec ·))) = true := by kernel_rfl
theorem noteFull_j16 : ((Rows.noteFullRow.mapsOut == Try.pinned.checked.prog.mapsAmong Try.f12.resultTypes.toList)) = true := by kernel_rfl
theorem noteFull_j17 : ((Rows.noteFullRow.loops == (Try.f12.params.toList ++ Rows.noteFullSpec.plain.varTypes Try.pinned.checked.prog).any (Try.pinned.checked.prog.loopsFrom ·))) = true := by kernel_rfl
theorem noteFull_j18 : ((Rows.noteFullRow.wideKeys == (Try.f12.params.toList ++ Rows.noteFullSpec.plain.varTypes Try.pinned.checked.prog ++ Try.f12.resultTypes.toList).any (Try.pinned.checked.prog.wideKeysFrom ·))) = true := by kernel_rfl
theorem noteFull_j19 : (Rows.noteFullSpec.vars.all (Try.pinned.checked.prog.varReadable ·)) = true := by kernel_rfl
theorem noteFull_j20 : (Try.f12.resultTypes.all (fun t => Try.pinned.checked.prog.readableRec t && decide (t < Try.pinned.checked.prog.types.size))) = true := by kernel_rfl
theorem noteFull_j21 : ((Rows.noteFullRow.ifacesOut == Try.f12.resultTypes.toList.any (Try.pinned.checked.prog.ifacesRec ·))) = true := by kernel_rfl
theorem noteFull_j22 : ((Rows.noteFullRow.loopsOut == Try.f12.resultTypes.toList.any (Try.pinned.checked.prog.loopsFrom ·))) = true := by kernel_rfl
theorem noteFull_j23 : ((Rows.noteFullRow.plainKeys == Try.pinned.checked.prog.plainKeys)) = true := by kernel_rfl
theorem noteFull_j24 : (Rows.noteFullRow.shortTexts.isNone) = true := by kernel_rfl
theorem noteFull_j27 : (Rows.noteFullRow.lifted == Try.pinned.checked.prog.liftsFinal) = true := (congrArg (fun b => Rows.noteFullRow.lifted == b) seat_liftsFinal).trans (by kernel_rfl)
theorem noteFull_j28 : (Try.pinned.checked.prog.make == some Rows.noteFullRow.make) = true := (congrArg (fun b => b == some Rows.noteFullRow.make) seat_make).trans (by kernel_rfl)
theorem noteFull_j29 : ((Rows.noteFullRow.kinds == (if Rows.noteFullRow.domain.isEmpty then [] else Try.f12.params.toList.map fun t => match Try.pinned.checked.prog.underlying t with | some (.int k) => some k | _ => none))) = true := by kernel_rfl
theorem noteFull_j30 : ((Rows.noteFullRow.pinned == Rows.noteFullRow.pinnedBy)) = true := by kernel_rfl
theorem noteFull_j31 : ((Rows.noteFullRow.veiled == (Try.f12.params.toList ++ Rows.noteFullSpec.plain.varTypes Try.pinned.checked.prog ++ Try.f12.resultTypes.toList).any (Try.pinned.checked.prog.veiledRec ·))) = true := by kernel_rfl
theorem noteFull_j32 : (Rows.noteFullRow.veiledFits Try.pinned.checked.prog Try.f12.params.toList (Try.f12.params.toList ++ Rows.noteFullSpec.plain.varTypes Try.pinned.checked.prog ++ Try.f12.resultTypes.toList)) = true := by kernel_rfl
set_option maxRecDepth 100000 in
theorem noteFull_lifted (os : Os) (started : os.Started) (H : Type) (enc : TypeId × Value → H) :
    ReturnsInHanded {} Try.checked os 12 .any (Rows.noteFullSpec.pre6 enc Try.prog Try.f12 Rows.noteFullRow.domain false) (Rows.noteFullSpec.post enc Try.prog Try.f12 false true false false) := by
  refine returnsInHanded_of_change (C := Try.checked) noteFull_own started (by kernel_rfl) Try.func12
    (ChangeSpec.witness6 (enc := enc) (C := Try.checked) false ⟨#[], #[.int .i64 0], []⟩ 8 (by kernel_rfl) (by kernel_rfl) (by kernel_rfl) (by kernel_rfl)) ?_
  intro W base args ds gs before hval0 hW hcnd _
  have hval : ∀ (j : Nat) t v, Try.f12.params[j]? = some t → args[j]? = some v → Value.okWide Try.prog W .any base t v := hval0
  have hW' := hW
  obtain ⟨p, q, hA0, hV, rfl, hfz, hnd⟩ := hW
  have hA : DataW.TrodAll enc Try.prog W 0 (fun _ => true) true Try.f12.params.toList args.toList ds p := hA0
  rw [Try.params12] at hA hval
  obtain ⟨v0, vs0, d0, ds0, p0, q0, hargs, rfl, rfl, h0, r0⟩ := trodAll_cons hA
  obtain ⟨rfl, rfl, rfl⟩ := trodAll_nil r0
  obtain rfl : args = #[v0] := by cases args; simp_all
  obtain ⟨rfl, rfl⟩ := trodVars_none hV
  have k0 := h0
  have lt0 : ∀ x ∈ p0, x.block < W.heap.size := by obtain ⟨m, hm⟩ := k0; exact DataW.trod_lt m _ _ _ hm
  obtain ⟨x0, rfl, _, _, wx0⟩ := open_int Try.underlying3 (hval 0 3 v0 rfl rfl) h0
  have b0 := bounds_i64 wx0
  clear hA0 hval0
  refine (noteFull_walk W x0 b0.1 b0.2).mono fun e W' ⟨he, bel⟩ => ?_
  subst he
  exact ⟨_, rfl, _, _, _, [], _, [], hW', trodAll_mk1 (shut_bool Try.underlying4 _), (trodAll_cons_mk (Below.trod noteFull_laidOut (by kernel_rfl) (of_decide_eq_true (by kernel_rfl)) k0 bel lt0) trodAll_mk0), rfl, bel.frame _, fun h => by cases h⟩
set_option maxRecDepth 1000000 in
theorem noteFull_holds : Rows.NoteFullSaid :=
  OpenClaim.holds_of_wide 12 Try.f12 rfl rfl rfl rfl rfl rfl rfl ⟨rfl, rfl, rfl, rfl, rfl⟩ rfl rfl rfl rfl rfl (by as_aux_lemma => kernel_rfl) Try.func12 (joined_mk noteFull_j1 seat_laidOut seat_mapsRowed noteFull_j4 noteFull_j5 noteFull_j6 seat_stops noteFull_j8 seat_stopKnobs noteFull_j10 noteFull_j11 noteFull_j12 noteFull_j13 noteFull_j14 noteFull_j15 noteFull_j16 noteFull_j17 noteFull_j18 noteFull_j19 noteFull_j20 noteFull_j21 noteFull_j22 noteFull_j23 noteFull_j24 seat_stopsHeard seat_mayEnter noteFull_j27 noteFull_j28 noteFull_j29 noteFull_j30 noteFull_j31 noteFull_j32)
    (of_decide_eq_true (by as_aux_lemma => kernel_rfl)) (by unfold Func.isWrapper; first | (rw [if_pos (by decide +kernel)]; kernel_rfl) | (rw [if_neg (by decide +kernel)]; exact ⟨rfl, rfl⟩))
    (fun os started H enc _ => noteFull_lifted os started H enc)
#print axioms noteFull_holds
end Go.Proofs.Ytcpngkkconalhaa
