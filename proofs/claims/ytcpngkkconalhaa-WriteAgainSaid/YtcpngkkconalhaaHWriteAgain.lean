/- The law WriteAgain: for every input the call returns true, and each argument reads behind the call as it read before. -/
import Derived.Test.YtcpngkkconalhaaCWriteAgain
import Derived.Test.YtcpngkkconalhaaZ1
import Derived.Test.YtcpngkkconalhaaZ3
import Derived.Lib.SmallJoins
namespace Go.Proofs.Ytcpngkkconalhaa
open Go.ChangeShapes Go.WideShapes Go.ChangeAt Go.RowKit
set_option linter.unusedVariables false
theorem writeAgain_own : ownKnob Try.prog.godebug = none := by kernel_rfl
theorem writeAgain_laidOut : laidOutB Try.prog = true := seat_laidOut
theorem writeAgain_j1 : (Rows.writeAgainRow.wf (OpenSpec.ofChange Rows.writeAgainSpec)) = true := by kernel_rfl
theorem writeAgain_j4 : (Try.f10.params.all (Try.pinned.checked.prog.readableRec ·)) = true := by kernel_rfl
theorem writeAgain_j5 : (namedTie Try.pinned.checked.prog Rows.writeAgainRow.named Rows.writeAgainSpec.vars) = true := by kernel_rfl
theorem writeAgain_j6 : ((Rows.writeAgainRow.stops == [])) = true := by kernel_rfl
theorem writeAgain_j8 : ((Rows.writeAgainRow.knobs == [])) = true := by kernel_rfl
theorem writeAgain_j10 : ((Rows.writeAgainRow.inPlace == Try.pinned.checked.prog.inPlace 10)) = true := by kernel_rfl
theorem writeAgain_j11 : ((Rows.writeAgainRow.unfollowed == Try.pinned.checked.prog.unfollowed 10)) = true := by kernel_rfl
theorem writeAgain_j12 : ((Rows.writeAgainRow.recurses == Try.pinned.checked.prog.recurses 10)) = true := by kernel_rfl
theorem writeAgain_j13 : ((Rows.writeAgainRow.named == Try.pinned.checked.prog.varsNamed 10)) = true := by kernel_rfl
theorem writeAgain_j14 : ((Rows.writeAgainRow.maps == (Try.f10.params.toList ++ Rows.writeAgainSpec.plain.varTypes Try.pinned.checked.prog).any (Try.pinned.checked.prog.mapsRec ·))) = true := by kernel_rfl
theorem writeAgain_j15 : ((Rows.writeAgainRow.ifaces == (Try.f10.params.toList ++ Rows.writeAgainSpec.plain.varTypes Try.pinned.checked.prog).any (Try.pinned.checked.prog.ifacesRec ·))) = true := by kernel_rfl
theorem writeAgain_j16 : ((Rows.writeAgainRow.mapsOut == Try.pinned.checked.prog.mapsAmong Try.f10.resultTypes.toList)) = true := by kernel_rfl
theorem writeAgain_j17 : ((Rows.writeAgainRow.loops == (Try.f10.params.toList ++ Rows.writeAgainSpec.plain.varTypes Try.pinned.checked.prog).any (Try.pinned.checked.prog.loopsFrom ·))) = true := by kernel_rfl
theorem writeAgain_j18 : ((Rows.writeAgainRow.wideKeys == (Try.f10.params.toList ++ Rows.writeAgainSpec.plain.varTypes Try.pinned.checked.prog ++ Try.f10.resultTypes.toList).any (Try.pinned.checked.prog.wideKeysFrom ·))) = true := by kernel_rfl
theorem writeAgain_j19 : (Rows.writeAgainSpec.vars.all (Try.pinned.checked.prog.varReadable ·)) = true := by kernel_rfl
theorem writeAgain_j20 : (Try.f10.resultTypes.all (fun t => Try.pinned.checked.prog.readableRec t && decide (t < Try.pinned.checked.prog.types.size))) = true := by kernel_rfl
theorem writeAgain_j21 : ((Rows.writeAgainRow.ifacesOut == Try.f10.resultTypes.toList.any (Try.pinned.checked.prog.ifacesRec ·))) = true := by kernel_rfl
theorem writeAgain_j22 : ((Rows.writeAgainRow.loopsOut == Try.f10.resultTypes.toList.any (Try.pinned.checked.prog.loopsFrom ·))) = true := by kernel_rfl
theorem writeAgain_j23 : ((Rows.writeAgainRow.plainKeys == Try.pinned.checked.prog.plainKeys)) = true := by kernel_rfl
theorem writeAgain_j24 : (Rows.writeAgainRow.shortTexts.isNone) = true := by kernel_rfl
theorem writeAgain_j27 : (Rows.writeAgainRow.lifted == Try.pinned.checked.prog.liftsFinal) = true := (congrArg (fun b => Rows.writeAgainRow.lifted == b) seat_liftsFinal).trans (by kernel_rfl)
theorem writeAgain_j28 : (Try.pinned.checked.prog.make == some Rows.writeAgainRow.make) = true := (congrArg (fun b => b == some Rows.writeAgainRow.make) seat_make).trans (by kernel_rfl)
theorem writeAgain_j29 : ((Rows.writeAgainRow.kinds == (if Rows.writeAgainRow.domain.isEmpty then [] else Try.f10.params.toList.map fun t => match Try.pinned.checked.prog.underlying t with | some (.int k) => some k | _ => none))) = true := by kernel_rfl
theorem writeAgain_j30 : ((Rows.writeAgainRow.pinned == Rows.writeAgainRow.pinnedBy)) = true := by kernel_rfl
theorem writeAgain_j31 : ((Rows.writeAgainRow.veiled == (Try.f10.params.toList ++ Rows.writeAgainSpec.plain.varTypes Try.pinned.checked.prog ++ Try.f10.resultTypes.toList).any (Try.pinned.checked.prog.veiledRec ·))) = true := by kernel_rfl
theorem writeAgain_j32 : (Rows.writeAgainRow.veiledFits Try.pinned.checked.prog Try.f10.params.toList (Try.f10.params.toList ++ Rows.writeAgainSpec.plain.varTypes Try.pinned.checked.prog ++ Try.f10.resultTypes.toList)) = true := by kernel_rfl
set_option maxRecDepth 100000 in
theorem writeAgain_lifted (os : Os) (started : os.Started) (H : Type) (enc : TypeId × Value → H) :
    ReturnsInHanded {} Try.checked os 10 .any (Rows.writeAgainSpec.pre6 enc Try.prog Try.f10 Rows.writeAgainRow.domain false) (Rows.writeAgainSpec.post enc Try.prog Try.f10 false true false false) := by
  refine returnsInHanded_of_change (C := Try.checked) writeAgain_own started (by kernel_rfl) Try.func10
    (ChangeSpec.witness6 (enc := enc) (C := Try.checked) false ⟨#[], #[.slice none 0 0, .agg #[.slice none 0 0, .slice none 0 0, .slice none 0 0, .bool false], .slice none 0 0], []⟩ 8 (by kernel_rfl) (by kernel_rfl) (by kernel_rfl) (by kernel_rfl)) ?_
  intro W base args ds gs before hval0 hW hcnd _
  have hval : ∀ (j : Nat) t v, Try.f10.params[j]? = some t → args[j]? = some v → Value.okWide Try.prog W .any base t v := hval0
  have hW' := hW
  obtain ⟨p, q, hA0, hV, rfl, hfz, hnd⟩ := hW
  have hA : DataW.TrodAll enc Try.prog W 0 (fun _ => true) true Try.f10.params.toList args.toList ds p := hA0
  rw [Try.params10] at hA hval
  obtain ⟨v0, vs0, d0, ds0, p0, q0, hargs, rfl, rfl, h0, r0⟩ := trodAll_cons hA
  obtain ⟨v1, vs1, d1, ds1, p1, q1, rfl, rfl, rfl, h1, r1⟩ := trodAll_cons r0
  obtain ⟨v2, vs2, d2, ds2, p2, q2, rfl, rfl, rfl, h2, r2⟩ := trodAll_cons r1
  obtain ⟨rfl, rfl, rfl⟩ := trodAll_nil r2
  obtain rfl : args = #[v0, v1, v2] := by cases args; simp_all
  obtain ⟨rfl, rfl⟩ := trodVars_none hV
  have k0 := h0
  have lt0 : ∀ x ∈ p0, x.block < W.heap.size := by obtain ⟨m, hm⟩ := k0; exact DataW.trod_lt m _ _ _ hm
  obtain ⟨a0, len0, cap0, rfl⟩ := okWide_slice Try.underlying22 (hval 0 22 v0 rfl rfl)
  obtain ⟨l0, w0⟩ : ∃ l, Pls (whole W) (.slice a0 len0 cap0) l := by
    obtain ⟨fuel, hf⟩ := h0
    exact rd_places Try.underlying22 Try.underlying30 (by kernel_rfl) (by kernel_rfl) rfl rfl rfl rfl Try.underlying25 Try.underlying5 (by kernel_rfl) Try.underlying4 hf
  have k1 := h1
  have lt1 : ∀ x ∈ p1, x.block < W.heap.size := by obtain ⟨m, hm⟩ := k1; exact DataW.trod_lt m _ _ _ hm
  obtain ⟨c1_0, c1_1, c1_2, c1_3, y1_0, y1_1, y1_2, y1_3, n1, rfl, _, _, t1_0, t1_1, t1_2, t1_3⟩ := Joins.open_agg4 Try.underlying30 (by kernel_rfl) (by kernel_rfl) (hval 1 30 v1 rfl rfl) h1
  obtain ⟨l1_0, w1_0⟩ := rd_bytes_cells Try.underlying25 Try.underlying5 (by kernel_rfl) t1_0
  obtain ⟨l1_1, w1_1⟩ := rd_bytes_cells Try.underlying25 Try.underlying5 (by kernel_rfl) t1_1
  obtain ⟨l1_2, w1_2⟩ := rd_bytes_cells Try.underlying25 Try.underlying5 (by kernel_rfl) t1_2
  obtain ⟨z1_3, ez1_3, _⟩ := DataW.trod_bool Try.underlying4 t1_3
  obtain rfl : c1_3 = _ := by simpa using ez1_3
  have k2 := h2
  have lt2 : ∀ x ∈ p2, x.block < W.heap.size := by obtain ⟨m, hm⟩ := k2; exact DataW.trod_lt m _ _ _ hm
  obtain ⟨a2, len2, cap2, rfl⟩ := okWide_slice Try.underlying25 (hval 2 25 v2 rfl rfl)
  obtain ⟨l2, w2⟩ : ∃ l, Bs (whole W) (.slice a2 len2 cap2) l := by
    obtain ⟨fuel, hf⟩ := h2
    exact rd_bytes_cells Try.underlying25 Try.underlying5 (by kernel_rfl) hf
  clear hA0 hval0
  refine (writeAgain_walk W (.slice a0 len0 cap0) l0 w0 (⟨l1_0, l1_1, l1_2, z1_3⟩ : Pl) c1_0 w1_0 c1_1 w1_1 c1_2 w1_2 (.slice a2 len2 cap2) l2 w2).mono fun e W' ⟨he, bel⟩ => ?_
  subst he
  exact ⟨_, rfl, _, _, _, [], _, [], hW', trodAll_mk1 (shut_bool Try.underlying4 _), (trodAll_cons_mk (Below.trod writeAgain_laidOut (by kernel_rfl) (of_decide_eq_true (by kernel_rfl)) k0 bel lt0) (trodAll_cons_mk (Below.trod writeAgain_laidOut (by kernel_rfl) (of_decide_eq_true (by kernel_rfl)) k1 bel lt1) (trodAll_cons_mk (Below.trod writeAgain_laidOut (by kernel_rfl) (of_decide_eq_true (by kernel_rfl)) k2 bel lt2) trodAll_mk0))), rfl, bel.frame _, fun h => by cases h⟩
set_option maxRecDepth 1000000 in
theorem writeAgain_holds : Rows.WriteAgainSaid :=
  OpenClaim.holds_of_wide 10 Try.f10 rfl rfl rfl rfl rfl rfl rfl ⟨rfl, rfl, rfl, rfl, rfl⟩ rfl rfl rfl rfl rfl (by as_aux_lemma => kernel_rfl) Try.func10 (joined_mk writeAgain_j1 seat_laidOut seat_mapsRowed writeAgain_j4 writeAgain_j5 writeAgain_j6 seat_stops writeAgain_j8 seat_stopKnobs writeAgain_j10 writeAgain_j11 writeAgain_j12 writeAgain_j13 writeAgain_j14 writeAgain_j15 writeAgain_j16 writeAgain_j17 writeAgain_j18 writeAgain_j19 writeAgain_j20 writeAgain_j21 writeAgain_j22 writeAgain_j23 writeAgain_j24 seat_stopsHeard seat_mayEnter writeAgain_j27 writeAgain_j28 writeAgain_j29 writeAgain_j30 writeAgain_j31 writeAgain_j32)
    (of_decide_eq_true (by as_aux_lemma => kernel_rfl)) (by unfold Func.isWrapper; first | (rw [if_pos (by decide +kernel)]; kernel_rfl) | (rw [if_neg (by decide +kernel)]; exact ⟨rfl, rfl⟩))
    (fun os started H enc _ => writeAgain_lifted os started H enc)
#print axioms writeAgain_holds
end Go.Proofs.Ytcpngkkconalhaa
