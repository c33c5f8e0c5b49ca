/- The law NoteOnce: for every input the call returns true, and each argument reads behind the call as it read before. -/
import Derived.Test.YtcpngkkconalhaaCNoteOnce
import Derived.Test.YtcpngkkconalhaaZ1
import Derived.Test.YtcpngkkconalhaaZ3
import Derived.Lib.SmallJoins
namespace Go.Proofs.Ytcpngkkconalhaa
open Go.ChangeShapes Go.WideShapes Go.ChangeAt Go.RowKit
set_option linter.unusedVariables false
theorem noteOnce_own : ownKnob Try.prog.godebug = none := by kernel_rfl
theorem noteOnce_laidOut : laidOutB Try.prog = true := seat_laidOut
theorem noteOnce_j1 : (Rows.noteOnceRow.wf (OpenSpec.ofChange Rows.noteOnceSpec)) = true := by kernel_rfl
theorem noteOnce_j4 : (Try.f11.params.all (Try.pinned.checked.prog.readableRec ·)) = true := by kernel_rfl
theorem noteOnce_j5 : (namedTie Try.pinned.checked.prog Rows.noteOnceRow.named Rows.noteOnceSpec.vars) = true := by kernel_rfl
theorem noteOnce_j6 : ((Rows.noteOnceRow.stops == [])) = true := by kernel_rfl
theorem noteOnce_j8 : ((Rows.noteOnceRow.knobs == [])) = true := by kernel_rfl
theorem noteOnce_j10 : ((Rows.noteOnceRow.inPlace == Try.pinned.checked.prog.inPlace 11)) = true := by kernel_rfl
theorem noteOnce_j11 : ((Rows.noteOnceRow.unfollowed == Try.pinned.checked.prog.unfollowed 11)) = true := by kernel_rfl
theorem noteOnce_j12 : ((Rows.noteOnceRow.recurses == Try.pinned.checked.prog.recurses 11)) = true := by kernel_rfl
theorem noteOnce_j13 : ((Rows.noteOnceRow.named == Try.pinned.checked.prog.varsNamed 11)) = true := by kernel_rfl
theorem noteOnce_j14 : ((Rows.noteOnceRow.maps == (Try.f11.params.toList ++ Rows.noteOnceSpec.plain.varTypes Try.pinned.checked.prog).any (Try.pinned.checked.prog.mapsRec ·))) = true := by kernel_rfl
theorem noteOnce_j15 : ((Rows.noteOnceRow.ifaces == (Try.f11.params.toList ++ Rows.noteOnceSpec.plain.varTypes Try.pinned.checked.prog).any (Try.pinned.checked.prog.ifacesRec ·))) = true := by kernel_rfl
theorem noteOnce_j16 : ((Rows.noteOnceRow.mapsOut == Try.pinned.checked.prog.mapsAmong Try.f11.resultTypes.toList)) = true := by kernel_rfl
theorem noteOnce_j17 : ((Rows.noteOnceRow.loops == (Try.f11.params.toList ++ Rows.noteOnceSpec.plain.varTypes Try.pinned.checked.prog).any (Try.pinned.checked.prog.loopsFrom ·))) = true := by kernel_rfl
theorem noteOnce_j18 : ((Rows.noteOnceRow.wideKeys == (Try.f11.params.toList ++ Rows.noteOnceSpec.plain.varTypes Try.pinned.checked.prog ++ Try.f11.resultTypes.toList).any (Try.pinned.checked.prog.wideKeysFrom ·))) = true := by kernel_rfl
theorem noteOnce_j19 : (Rows.noteOnceSpec.vars.all (Try.pinned.checked.prog.varReadable ·)) = true := by kernel_rfl
theorem noteOnce_j20 : (Try.f11.resultTypes.all (fun t => Try.pinned.checked.prog.readableRec t && decide (t < Try.pinned.checked.prog.types.size))) = true := by kernel_rfl
theorem noteOnce_j21 : ((Rows.noteOnceRow.ifacesOut == Try.f11.resultTypes.toList.any (Try.pinned.checked.prog.ifacesRec ·))) = true := by kernel_rfl
theorem noteOnce_j22 : ((Rows.noteOnceRow.loopsOut == Try.f11.resultTypes.toList.any (Try.pinned.checked.prog.loopsFrom ·))) = true := by kernel_rfl
theorem noteOnce_j23 : ((Rows.noteOnceRow.plainKeys == Try.pinned.checked.prog.plainKeys)) = true := by kernel_rfl
theorem noteOnce_j24 : (Rows.noteOnceRow.shortTexts.isNone) = true := by kernel_rfl
theorem noteOnce_j27 : (Rows.noteOnceRow.lifted == Try.pinned.checked.prog.liftsFinal) = true := (congrArg (fun b => Rows.noteOnceRow.lifted == b) seat_liftsFinal).trans (by kernel_rfl)
theorem noteOnce_j28 : (Try.pinned.checked.prog.make == some Rows.noteOnceRow.make) = true := (congrArg (fun b => b == some Rows.noteOnceRow.make) seat_make).trans (by kernel_rfl)
theorem noteOnce_j29 : ((Rows.noteOnceRow.kinds == (if Rows.noteOnceRow.domain.isEmpty then [] else Try.f11.params.toList.map fun t => match Try.pinned.checked.prog.underlying t with | some (.int k) => some k | _ => none))) = true := by kernel_rfl
theorem noteOnce_j30 : ((Rows.noteOnceRow.pinned == Rows.noteOnceRow.pinnedBy)) = true := by kernel_rfl
theorem noteOnce_j31 : ((Rows.noteOnceRow.veiled == (Try.f11.params.toList ++ Rows.noteOnceSpec.plain.varTypes Try.pinned.checked.prog ++ Try.f11.resultTypes.toList).any (Try.pinned.checked.prog.veiledRec ·))) = true := by kernel_rfl
theorem noteOnce_j32 : (Rows.noteOnceRow.veiledFits Try.pinned.checked.prog Try.f11.params.toList (Try.f11.params.toList ++ Rows.noteOnceSpec.plain.varTypes Try.pinned.checked.prog ++ Try.f11.resultTypes.toList)) = true := by kernel_rfl
set_option maxRecDepth 100000 in
theorem noteOnce_lifted (os : Os) (started : os.Started) (H : Type) (enc : TypeId × Value → H) :
    ReturnsInHanded {} Try.checked os 11 .any (Rows.noteOnceSpec.pre6 enc Try.prog Try.f11 Rows.noteOnceRow.domain false) (Rows.noteOnceSpec.post enc Try.prog Try.f11 false true false false) := by
  refine returnsInHanded_of_change (C := Try.checked) noteOnce_own started (by kernel_rfl) Try.func11
    (ChangeSpec.witness6 (enc := enc) (C := Try.checked) false ⟨#[], #[.slice none 0 0, .agg #[.slice none 0 0, .slice none 0 0, .slice none 0 0, .bool false]], []⟩ 8 (by kernel_rfl) (by kernel_rfl) (by kernel_rfl) (by kernel_rfl)) ?_
  intro W base args ds gs before hval0 hW hcnd _
  have hval : ∀ (j : Nat) t v, Try.f11.params[j]? = some t → args[j]? = some v → Value.okWide Try.prog W .any base t v := hval0
  have hW' := hW
  obtain ⟨p, q, hA0, hV, rfl, hfz, hnd⟩ := hW
  have hA : DataW.TrodAll enc Try.prog W 0 (fun _ => true) true Try.f11.params.toList args.toList ds p := hA0
  rw [Try.params11] at hA hval
  obtain ⟨v0, vs0, d0, ds0, p0, q0, hargs, rfl, rfl, h0, r0⟩ := trodAll_cons hA
  obtain ⟨v1, vs1, d1, ds1, p1, q1, rfl, rfl, rfl, h1, r1⟩ := trodAll_cons r0
  obtain ⟨rfl, rfl, rfl⟩ := trodAll_nil r1
  obtain rfl : args = #[v0, v1] := by cases args; simp_all
  obtain ⟨rfl, rfl⟩ := trodVars_none hV
  have k0 := h0
  have lt0 : ∀ x ∈ p0, x.block < W.heap.size := by obtain ⟨m, hm⟩ := k0; exact DataW.trod_lt m _ _ _ hm
  obtain ⟨a0, len0, cap0, rfl⟩ := okWide_slice Try.underlying22 (hval 0 22 v0 rfl rfl)
  obtain ⟨l0, w0⟩ : ∃ l, Pls (whole W) (.slice a0 len0 cap0) l := by
    obtain ⟨fuel, hf⟩ := h0
    exact rd_places Try.underlying22 Try.underlying30 (by kernel_rfl) (by kernel_rfl) rfl rfl rfl rfl Try.underlying25 Try.underlying5 (by kernel_rfl) Try.underlying4 hf
  have k1 := h1
  have lt1 : ∀ x ∈ p1, x.block < W.heap.size := by obtain ⟨m, hm⟩ := k1; exact DataW.trod_lt m _ _ _ hm
  obtain ⟨c1_0, c1_1, c1_2, c1_3, y1_0, y1_1, y1_2, y1_3, n1, rfl, _, _, t1_0, t1_1, t1_2, t1_3⟩ := Joins.open_agg4 Try.underlying30 (by kernel_rfl) (by kernel_rfl) (hval 1 30 v1 rfl rfl) h1
  obtain ⟨l1_0, w1_0⟩ := rd_bytes_cells Try.underlying25 Try.underlying5 (by kernel_rfl) t1_0
  obtain ⟨l1_1, w1_1⟩ := rd_bytes_cells Try.underlying25 Try.underlying5 (by kernel_rfl) t1_1
  obtain ⟨l1_2, w1_2⟩ := rd_bytes_cells Try.underlying25 Try.underlying5 (by kernel_rfl) t1_2
  obtain ⟨z1_3, ez1_3, _⟩ := DataW.trod_bool Try.underlying4 t1_3
  obtain rfl : c1_3 = _ := by simpa using ez1_3
  clear hA0 hval0
  refine (noteOnce_walk W (.slice a0 len0 cap0) l0 w0 (⟨l1_0, l1_1, l1_2, z1_3⟩ : Pl) c1_0 w1_0 c1_1 w1_1 c1_2 w1_2).mono fun e W' ⟨he, bel⟩ => ?_
  subst he
  exact ⟨_, rfl, _, _, _, [], _, [], hW', trodAll_mk1 (shut_bool Try.underlying4 _), (trodAll_cons_mk (Below.trod noteOnce_laidOut (by kernel_rfl) (of_decide_eq_true (by kernel_rfl)) k0 bel lt0) (trodAll_cons_mk (Below.trod noteOnce_laidOut (by kernel_rfl) (of_decide_eq_true (by kernel_rfl)) k1 bel lt1) trodAll_mk0)), rfl, bel.frame _, fun h => by cases h⟩
set_option maxRecDepth 1000000 in
theorem noteOnce_holds : Rows.NoteOnceSaid :=
  OpenClaim.holds_of_wide 11 Try.f11 rfl rfl rfl rfl rfl rfl rfl ⟨rfl, rfl, rfl, rfl, rfl⟩ rfl rfl rfl rfl rfl (by as_aux_lemma => kernel_rfl) Try.func11 (joined_mk noteOnce_j1 seat_laidOut seat_mapsRowed noteOnce_j4 noteOnce_j5 noteOnce_j6 seat_stops noteOnce_j8 seat_stopKnobs noteOnce_j10 noteOnce_j11 noteOnce_j12 noteOnce_j13 noteOnce_j14 noteOnce_j15 noteOnce_j16 noteOnce_j17 noteOnce_j18 noteOnce_j19 noteOnce_j20 noteOnce_j21 noteOnce_j22 noteOnce_j23 noteOnce_j24 seat_stopsHeard seat_mayEnter noteOnce_j27 noteOnce_j28 noteOnce_j29 noteOnce_j30 noteOnce_j31 noteOnce_j32)
    (of_decide_eq_true (by as_aux_lemma => kernel_rfl)) (by unfold Func.isWrapper; first | (rw [if_pos (by decide +kernel)]; kernel_rfl) | (rw [if_neg (by decide +kernel)]; exact ⟨rfl, rfl⟩))
    (fun os started H enc _ => noteOnce_lifted os started H enc)
#print axioms noteOnce_holds
end Go.Proofs.Ytcpngkkconalhaa
