/- The law ForestRange: for every input the call returns true, and each argument reads behind the call as it read before. -/
import Derived.Test.YtcpngkkconalhaaCForestRange
import Derived.Test.YtcpngkkconalhaaY1
import Derived.Test.YtcpngkkconalhaaY3
import Derived.Lib.SmallJoins
namespace Go.Proofs.Ytcpngkkconalhaa
open Go.ChangeShapes Go.WideShapes Go.ChangeAt Go.RowKit
set_option linter.unusedVariables false
theorem forestRange_own : ownKnob Try.prog.godebug = none := by kernel_rfl
theorem forestRange_laidOut : laidOutB Try.prog = true := seat_laidOut
theorem forestRange_j1 : (Rows.forestRangeRow.wf (OpenSpec.ofChange Rows.forestRangeSpec)) = true := by kernel_rfl
theorem forestRange_j4 : (Try.f5.params.all (Try.pinned.checked.prog.readableRec ·)) = true := by kernel_rfl
theorem forestRange_j5 : (namedTie Try.pinned.checked.prog Rows.forestRangeRow.named Rows.forestRangeSpec.vars) = true := by kernel_rfl
theorem forestRange_j6 : ((Rows.forestRangeRow.stops == [])) = true := by kernel_rfl
theorem forestRange_j8 : ((Rows.forestRangeRow.knobs == [])) = true := by kernel_rfl
theorem forestRange_j10 : ((Rows.forestRangeRow.inPlace == Try.pinned.checked.prog.inPlace 5)) = true := by kernel_rfl
theorem forestRange_j11 : ((Rows.forestRangeRow.unfollowed == Try.pinned.checked.prog.unfollowed 5)) = true := by kernel_rfl
theorem forestRange_j12 : ((Rows.forestRangeRow.recurses == Try.pinned.checked.prog.recurses 5)) = true := by kernel_rfl
theorem forestRange_j13 : ((Rows.forestRangeRow.named == Try.pinned.checked.prog.varsNamed 5)) = true := by kernel_rfl
theorem forestRange_j14 : ((Rows.forestRangeRow.maps == (Try.f5.params.toList ++ Rows.forestRangeSpec.plain.varTypes Try.pinned.checked.prog).any (Try.pinned.checked.prog.mapsRec ·))) = true := by kernel_rfl
theorem forestRange_j15 : ((Rows.forestRangeRow.ifaces == (Try.f5.params.toList ++ Rows.forestRangeSpec.plain.varTypes Try.pinned.checked.prog).any (Try.pinned.checked.prog.ifacesRec ·))) = true := by kernel_rfl
theorem forestRange_j16 : ((Rows.forestRangeRow.mapsOut == Try.pinned.checked.prog.mapsAmong Try.f5.resultTypes.toList)) = true := by kernel_rfl
theorem forestRange_j17 : ((Rows.forestRangeRow.loops == (Try.f5.params.toList ++ Rows.forestRangeSpec.plain.varTypes Try.pinned.checked.prog).any (Try.pinned.checked.prog.loopsFrom ·))) = true := by kernel_rfl
theorem forestRange_j18 : ((Rows.forestRangeRow.wideKeys == (Try.f5.params.toList ++ Rows.forestRangeSpec.plain.varTypes Try.pinned.checked.prog ++ Try.f5.resultTypes.toList).any (Try.pinned.checked.prog.wideKeysFrom ·))) = true := by kernel_rfl
theorem forestRange_j19 : (Rows.forestRangeSpec.vars.all (Try.pinned.checked.prog.varReadable ·)) = true := by kernel_rfl
theorem forestRange_j20 : (Try.f5.resultTypes.all (fun t => Try.pinned.checked.prog.readableRec t && decide (t < Try.pinned.checked.prog.types.size))) = true := by kernel_rfl
theorem forestRange_j21 : ((Rows.forestRangeRow.ifacesOut == Try.f5.resultTypes.toList.any (Try.pinned.checked.prog.ifacesRec ·))) = true := by kernel_rfl
theorem forestRange_j22 : ((Rows.forestRangeRow.loopsOut == Try.f5.resultTypes.toList.any (Try.pinned.checked.prog.loopsFrom ·))) = true := by kernel_rfl
theorem forestRange_j23 : ((Rows.forestRangeRow.plainKeys == Try.pinned.checked.prog.plainKeys)) = true := by kernel_rfl
theorem forestRange_j24 : (Rows.forestRangeRow.shortTexts.isNone) = true := by kernel_rfl
theorem forestRange_j27 : (Rows.forestRangeRow.lifted == Try.pinned.checked.prog.liftsFinal) = true := (congrArg (fun b => Rows.forestRangeRow.lifted == b) seat_liftsFinal).trans (by kernel_rfl)
theorem forestRange_j28 : (Try.pinned.checked.prog.make == some Rows.forestRangeRow.make) = true := (congrArg (fun b => b == some Rows.forestRangeRow.make) seat_make).trans (by kernel_rfl)
theorem forestRange_j29 : ((Rows.forestRangeRow.kinds == (if Rows.forestRangeRow.domain.isEmpty then [] else Try.f5.params.toList.map fun t => match Try.pinned.checked.prog.underlying t with | some (.int k) => some k | _ => none))) = true := by kernel_rfl
theorem forestRange_j30 : ((Rows.forestRangeRow.pinned == Rows.forestRangeRow.pinnedBy)) = true := by kernel_rfl
theorem forestRange_j31 : ((Rows.forestRangeRow.veiled == (Try.f5.params.toList ++ Rows.forestRangeSpec.plain.varTypes Try.pinned.checked.prog ++ Try.f5.resultTypes.toList).any (Try.pinned.checked.prog.veiledRec ·))) = true := by kernel_rfl
theorem forestRange_j32 : (Rows.forestRangeRow.veiledFits Try.pinned.checked.prog Try.f5.params.toList (Try.f5.params.toList ++ Rows.forestRangeSpec.plain.varTypes Try.pinned.checked.prog ++ Try.f5.resultTypes.toList)) = true := by kernel_rfl
set_option maxRecDepth 100000 in
theorem forestRange_lifted (os : Os) (started : os.Started) (H : Type) (enc : TypeId × Value → H) :
    ReturnsInHanded {} Try.checked os 5 .any (Rows.forestRangeSpec.pre6 enc Try.prog Try.f5 Rows.forestRangeRow.domain false) (Rows.forestRangeSpec.post enc Try.prog Try.f5 false true false false) := by
  refine returnsInHanded_of_change (C := Try.checked) forestRange_own started (by kernel_rfl) Try.func5
    (ChangeSpec.witness6 (enc := enc) (C := Try.checked) false ⟨#[], #[.slice none 0 0, .agg #[.slice none 0 0, .slice none 0 0, .slice none 0 0, .bool false], .slice none 0 0], []⟩ 8 (by kernel_rfl) (by kernel_rfl) (by kernel_rfl) (by kernel_rfl)) ?_
  intro W base args ds gs before hval0 hW hcnd _
  have hval : ∀ (j : Nat) t v, Try.f5.params[j]? = some t → args[j]? = some v → Value.okWide Try.prog W .any base t v := hval0
  have hW' := hW
  obtain ⟨p, q, hA0, hV, rfl, hfz, hnd⟩ := hW
  have hA : DataW.TrodAll enc Try.prog W 0 (fun _ => true) true Try.f5.params.toList args.toList ds p := hA0
  rw [Try.params5] at hA hval
  obtain ⟨v0, vs0, d0, ds0, p0, q0, hargs, rfl, rfl, h0, r0⟩ := trodAll_cons hA
  obtain ⟨v1, vs1, d1, ds1, p1, q1, rfl, rfl, rfl, h1, r1⟩ := trodAll_cons r0
  obtain ⟨v2, vs2, d2, ds2, p2, q2, rfl, rfl, rfl, h2, r2⟩ := trodAll_cons r1
  obtain ⟨rfl, rfl, rfl⟩ := trodAll_nil r2
  obtain rfl : args = #[v0, v1, v2] := by cases args; simp_all
  obtain ⟨rfl, rfl⟩ := trodVars_none hV
  have k0 := h0
  have lt0 : ∀ x ∈ p0, x.block < W.heap.size := by obtain ⟨m, hm⟩ := k0; exact DataW.trod_lt m _ _ _ hm
  obtain ⟨a0, len0, cap0, rfl⟩ := okWide_slice Try.underlying22 (hval 0 22 v0 rfl rfl)
  obtain ⟨l0, w0⟩ : ∃ l, Pls (whole W) (.slice a0 len0 cap0) l := by
    obtain ⟨fuel, hf⟩ := h0
    exact rd_places Try.underlying22 Try.underlying30 (by kernel_rfl) (by kernel_rfl) rfl rfl rfl rfl Try.underlying25 Try.underlying5 (by kernel_rfl) Try.underlying4 hf
  have k1 := h1
  have lt1 : ∀ x ∈ p1, x.block < W.heap.size := by obtain ⟨m, hm⟩ := k1; exact DataW.trod_lt m _ _ _ hm
  obtain ⟨c1_0, c1_1, c1_2, c1_3, y1_0, y1_1, y1_2, y1_3, n1, rfl, _, _, t1_0, t1_1, t1_2, t1_3⟩ := Joins.open_agg4 Try.underlying30 (by kernel_rfl) (by kernel_rfl) (hval 1 30 v1 rfl rfl) h1
  obtain ⟨l1_0, w1_0⟩ := rd_bytes_cells Try.underlying25 Try.underlying5 (by kernel_rfl) t1_0
  obtain ⟨l1_1, w1_1⟩ := rd_bytes_cells Try.underlying25 Try.underlying5 (by kernel_rfl) t1_1
  obtain ⟨l1_2, w1_2⟩ := rd_bytes_cells Try.underlying25 Try.underlying5 (by kernel_rfl) t1_2
  obtain ⟨z1_3, ez1_3, _⟩ := DataW.trod_bool Try.underlying4 t1_3
  obtain rfl : c1_3 = _ := by simpa using ez1_3
  have k2 := h2
  have lt2 : ∀ x ∈ p2, x.block < W.heap.size := by obtain ⟨m, hm⟩ := k2; exact DataW.trod_lt m _ _ _ hm
  obtain ⟨a2, len2, cap2, rfl⟩ := okWide_slice Try.underlying25 (hval 2 25 v2 rfl rfl)
  obtain ⟨l2, w2⟩ : ∃ l, Bs (whole W) (.slice a2 len2 cap2) l := by
    obtain ⟨fuel, hf⟩ := h2
    exact rd_bytes_cells Try.underlying25 Try.underlying5 (by kernel_rfl) hf
  clear hA0 hval0
  refine (forestRange_walk W (.slice a0 len0 cap0) l0 w0 (⟨l1_0, l1_1, l1_2, z1_3⟩ : Pl) c1_0 w1_0 c1_1 w1_1 c1_2 w1_2 (.slice a2 len2 cap2) l2 w2).mono fun e W' ⟨he, bel⟩ => ?_
  subst he
  exact ⟨_, rfl, _, _, _, [], _, [], hW', trodAll_mk1 (shut_bool Try.underlying4 _), (trodAll_cons_mk (Below.trod forestRange_laidOut (by kernel_rfl) (of_decide_eq_true (by kernel_rfl)) k0 bel lt0) (trodAll_cons_mk (Below.trod forestRange_laidOut (by kernel_rfl) (of_decide_eq_true (by kernel_rfl)) k1 bel lt1) (trodAll_cons_mk (Below.trod forestRange_laidOut (by kernel_rfl) (of_decide_eq_true (by kernel_rfl)) k2 bel lt2) trodAll_mk0))), rfl, bel.frame _, fun h => by cases h⟩
set_option maxRecDepth 1000000 in
theorem forestRange_holds : Rows.ForestRangeSaid :=
  OpenClaim.holds_of_wide 5 Try.f5 rfl rfl rfl rfl rfl rfl rfl ⟨rfl, rfl, rfl, rfl, rfl⟩ rfl rfl rfl rfl rfl (by as_aux_lemma => kernel_rfl) Try.func5 (joined_mk forestRange_j1 seat_laidOut seat_mapsRowed forestRange_j4 forestRange_j5 forestRange_j6 seat_stops forestRange_j8 seat_stopKnobs forestRange_j10 forestRange_j11 forestRange_j12 forestRange_j13 forestRange_j14 forestRange_j15 forestRange_j16 forestRange_j17 forestRange_j18 forestRange_j19 forestRange_j20 forestRange_j21 forestRange_j22 forestRange_j23 forestRange_j24 seat_stopsHeard seat_mayEnter forestRange_j27 forestRange_j28 forestRange_j29 forestRange_j30 forestRange_j31 forestRange_j32)
    (of_decide_eq_true (by as_aux_lemma => kernel_rfl)) (by unfold Func.isWrapper; first | (rw [if_pos (by decide +kernel)]; kernel_rfl) | (rw [if_neg (by decide +kernel)]; exact ⟨rfl, rfl⟩))
    (fun os started H enc _ => forestRange_lifted os started H enc)
#print axioms forestRange_holds
end Go.Proofs.Ytcpngkkconalhaa
