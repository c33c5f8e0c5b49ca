/- The law LookApplied: for every input the call returns true, and each argument reads behind the call as it read before. -/
import Derived.Test.YtcpngkkconalhaaCLookApplied
import Derived.Test.YtcpngkkconalhaaZ1
import Derived.Test.YtcpngkkconalhaaZ4
import Derived.Lib.SmallJoins
namespace Go.Proofs.Ytcpngkkconalhaa
open Go.ChangeShapes Go.WideShapes Go.ChangeAt Go.RowKit
set_option linter.unusedVariables false
theorem lookApplied_own : ownKnob Try.prog.godebug = none := by kernel_rfl
theorem lookApplied_laidOut : laidOutB Try.prog = true := seat_laidOut
theorem lookApplied_j1 : (Rows.lookAppliedRow.wf (OpenSpec.ofChange Rows.lookAppliedSpec)) = true := by kernel_rfl
theorem lookApplied_j4 : (Try.f15.params.all (Try.pinned.checked.prog.readableRec ·)) = true := by kernel_rfl
theorem lookApplied_j5 : (namedTie Try.pinned.checked.prog Rows.lookAppliedRow.named Rows.lookAppliedSpec.vars) = true := by kernel_rfl
theorem lookApplied_j6 : ((Rows.lookAppliedRow.stops == [])) = true := by kernel_rfl
theorem lookApplied_j8 : ((Rows.lookAppliedRow.knobs == [])) = true := by kernel_rfl
theorem lookApplied_j10 : ((Rows.lookAppliedRow.inPlace == Try.pinned.checked.prog.inPlace 15)) = true := by kernel_rfl
theorem lookApplied_j11 : ((Rows.lookAppliedRow.unfollowed == Try.pinned.checked.prog.unfollowed 15)) = true := by kernel_rfl
theorem lookApplied_j12 : ((Rows.lookAppliedRow.recurses == Try.pinned.checked.prog.recurses 15)) = true := by kernel_rfl
theorem lookApplied_j13 : ((Rows.lookAppliedRow.named == Try.pinned.checked.prog.varsNamed 15)) = true := by kernel_rfl
theorem lookApplied_j14 : ((Rows.lookAppliedRow.maps == (Try.f15.params.toList ++ Rows.lookAppliedSpec.plain.varTypes Try.pinned.checked.prog).any (Try.pinned.checked.prog.mapsRec ·))) = true := by kernel_rfl
theorem lookApplied_j15 : ((Rows.lookAppliedRow.ifaces == (Try.f15.params.toList ++ Rows.lookAppliedSpec.plain.varTypes Try.pinned.checked.prog).any (Try.pinned.checked.prog.ifacesRec ·))) = true := by kernel_rfl
theorem lookApplied_j16 : ((Rows.lookAppliedRow.mapsOut == Try.pinned.checked.prog.mapsAmong Try.f15.resultTypes.toList)) = true := by kernel_rfl
theorem lookApplied_j17 : ((Rows.lookAppliedRow.loops == (Try.f15.params.toList ++ Rows.lookAppliedSpec.plain.varTypes Try.pinned.checked.prog).any (Try.pinned.checked.prog.loopsFrom ·))) = true := by kernel_rfl
theorem lookApplied_j18 : ((Rows.lookAppliedRow.wideKeys == (Try.f15.params.toList ++ Rows.lookAppliedSpec.plain.varTypes Try.pinned.checked.prog ++ Try.f15.resultTypes.toList).any (Try.pinned.checked.prog.wideKeysFrom ·))) = true := by kernel_rfl
theorem lookApplied_j19 : (Rows.lookAppliedSpec.vars.all (Try.pinned.checked.prog.varReadable ·)) = true := by kernel_rfl
theorem lookApplied_j20 : (Try.f15.resultTypes.all (fun t => Try.pinned.checked.prog.readableRec t && decide (t < Try.pinned.checked.prog.types.size))) = true := by kernel_rfl
theorem lookApplied_j21 : ((Rows.lookAppliedRow.ifacesOut == Try.f15.resultTypes.toList.any (Try.pinned.checked.prog.ifacesRec ·))) = true := by kernel_rfl
theorem lookApplied_j22 : ((Rows.lookAppliedRow.loopsOut == Try.f15.resultTypes.toList.any (Try.pinned.checked.prog.loopsFrom ·))) = true := by kernel_rfl
theorem lookApplied_j23 : ((Rows.lookAppliedRow.plainKeys == Try.pinned.checked.prog.plainKeys)) = true := by kernel_rfl
theorem lookApplied_j24 : (Rows.lookAppliedRow.shortTexts.isNone) = true := by kernel_rfl
theorem lookApplied_j27 : (Rows.lookAppliedRow.lifted == Try.pinned.checked.prog.liftsFinal) = true := (congrArg (fun b => Rows.lookAppliedRow.lifted == b) seat_liftsFinal).trans (by kernel_rfl)
theorem lookApplied_j28 : (Try.pinned.checked.prog.make == some Rows.lookAppliedRow.make) = true := (congrArg (fun b => b == some Rows.lookAppliedRow.make) seat_make).trans (by kernel_rfl)
theorem lookApplied_j29 : ((Rows.lookAppliedRow.kinds == (if Rows.lookAppliedRow.domain.isEmpty then [] else Try.f15.params.toList.map fun t => match Try.pinned.checked.prog.underlying t with | some (.int k) => some k | _ => none))) = true := by kernel_rfl
theorem lookApplied_j30 : ((Rows.lookAppliedRow.pinned == Rows.lookAppliedRow.pinnedBy)) = true := by kernel_rfl
theorem lookApplied_j31 : ((Rows.lookAppliedRow.veiled == (Try.f15.params.toList ++ Rows.lookAppliedSpec.plain.varTypes Try.pinned.checked.prog ++ Try.f15.resultTypes.toList).any (Try.pinned.checked.prog.veiledRec ·))) = true := by kernel_rfl
theorem lookApplied_j32 : (Rows.lookAppliedRow.veiledFits Try.pinned.checked.prog Try.f15.params.toList (Try.f15.params.toList ++ Rows.lookAppliedSpec.plain.varTypes Try.pinned.checked.prog ++ Try.f15.resultTypes.toList)) = true := by kernel_rfl
set_option maxRecDepth 100000 in
theorem lookApplied_lifted (os : Os) (started : os.Started) (H : Type) (enc : TypeId × Value → H) :
    ReturnsInHanded {} Try.checked os 15 .any (Rows.lookAppliedSpec.pre6 enc Try.prog Try.f15 Rows.lookAppliedRow.domain false) (Rows.lookAppliedSpec.post enc Try.prog Try.f15 false true false false) := by
  refine returnsInHanded_of_change (C := Try.checked) lookApplied_own started (by kernel_rfl) Try.func15
    (ChangeSpec.witness6 (enc := enc) (C := Try.checked) false ⟨#[], #[.slice none 0 0, .slice none 0 0, .agg #[.slice none 0 0, .slice none 0 0, .slice none 0 0, .bool false]], []⟩ 8 (by kernel_rfl) (by kernel_rfl) (by kernel_rfl) (by kernel_rfl)) ?_
  intro W base args ds gs before hval0 hW hcnd _
  have hval : ∀ (j : Nat) t v, Try.f15.params[j]? = some t → args[j]? = some v → Value.okWide Try.prog W .any base t v := hval0
  have hW' := hW
  obtain ⟨p, q, hA0, hV, rfl, hfz, hnd⟩ := hW
  have hA : DataW.TrodAll enc Try.prog W 0 (fun _ => true) true Try.f15.params.toList args.toList ds p := hA0
  rw [Try.params15] at hA hval
  obtain ⟨v0, vs0, d0, ds0, p0, q0, hargs, rfl, rfl, h0, r0⟩ := trodAll_cons hA
  obtain ⟨v1, vs1, d1, ds1, p1, q1, rfl, rfl, rfl, h1, r1⟩ := trodAll_cons r0
  obtain ⟨v2, vs2, d2, ds2, p2, q2, rfl, rfl, rfl, h2, r2⟩ := trodAll_cons r1
  obtain ⟨rfl, rfl, rfl⟩ := trodAll_nil r2
  obtain rfl : args = #[v0, v1, v2] := by cases args; simp_all
  obtain ⟨rfl, rfl⟩ := trodVars_none hV
  have k0 := h0
  have lt0 : ∀ x ∈ p0, x.block < W.heap.size := by obtain ⟨m, hm⟩ := k0; exact DataW.trod_lt m _ _ _ hm
  obtain ⟨a0, len0, cap0, rfl⟩ := okWide_slice Try.underlying22 (hval 0 22 v0 rfl rfl)
  obtain ⟨l0, w0⟩ : ∃ l, Pls (whole W) (.slice a0 len0 cap0) l := by
    obtain ⟨fuel, hf⟩ := h0
    exact rd_places Try.underlying22 Try.underlying30 (by kernel_rfl) (by kernel_rfl) rfl rfl rfl rfl Try.underlying25 Try.underlying5 (by kernel_rfl) Try.underlying4 hf
  have k1 := h1
  have lt1 : ∀ x ∈ p1, x.block < W.heap.size := by obtain ⟨m, hm⟩ := k1; exact DataW.trod_lt m _ _ _ hm
  obtain ⟨a1, len1, cap1, rfl⟩ := okWide_slice Try.underlying22 (hval 1 22 v1 rfl rfl)
  obtain ⟨l1, w1⟩ : ∃ l, Pls (whole W) (.slice a1 len1 cap1) l := by
    obtain ⟨fuel, hf⟩ := h1
    exact rd_places Try.underlying22 Try.underlying30 (by kernel_rfl) (by kernel_rfl) rfl rfl rfl rfl Try.underlying25 Try.underlying5 (by kernel_rfl) Try.underlying4 hf
  have k2 := h2
  have lt2 : ∀ x ∈ p2, x.block < W.heap.size := by obtain ⟨m, hm⟩ := k2; exact DataW.trod_lt m _ _ _ hm
  obtain ⟨c2_0, c2_1, c2_2, c2_3, y2_0, y2_1, y2_2, y2_3, n2, rfl, _, _, t2_0, t2_1, t2_2, t2_3⟩ := Joins.open_agg4 Try.underlying30 (by kernel_rfl) (by kernel_rfl) (hval 2 30 v2 rfl rfl) h2
  obtain ⟨l2_0, w2_0⟩ := rd_bytes_cells Try.underlying25 Try.underlying5 (by kernel_rfl) t2_0
  obtain ⟨l2_1, w2_1⟩ := rd_bytes_cells Try.underlying25 Try.underlying5 (by kernel_rfl) t2_1
  obtain ⟨l2_2, w2_2⟩ := rd_bytes_cells Try.underlying25 Try.underlying5 (by kernel_rfl) t2_2
  obtain ⟨z2_3, ez2_3, _⟩ := DataW.trod_bool Try.underlying4 t2_3
  obtain rfl : c2_3 = _ := by simpa using ez2_3
  clear hA0 hval0
  refine (lookApplied_walk W (.slice a0 len0 cap0) l0 w0 (.slice a1 len1 cap1) l1 w1 (⟨l2_0, l2_1, l2_2, z2_3⟩ : Pl) c2_0 w2_0 c2_1 w2_1 c2_2 w2_2).mono fun e W' ⟨he, bel⟩ => ?_
  subst he
  exact ⟨_, rfl, _, _, _, [], _, [], hW', trodAll_mk1 (shut_bool Try.underlying4 _), (trodAll_cons_mk (Below.trod lookApplied_laidOut (by kernel_rfl) (of_decide_eq_true (by kernel_rfl)) k0 bel lt0) (trodAll_cons_mk (Below.trod lookApplied_laidOut (by kernel_rfl) (of_decide_eq_true (by kernel_rfl)) k1 bel lt1) (trodAll_cons_mk (Below.trod lookApplied_laidOut (by kernel_rfl) (of_decide_eq_true (by kernel_rfl)) k2 bel lt2) trodAll_mk0))), rfl, bel.frame _, fun h => by cases h⟩
set_option maxRecDepth 1000000 in
theorem lookApplied_holds : Rows.LookAppliedSaid :=
  OpenClaim.holds_of_wide 15 Try.f15 rfl rfl rfl rfl rfl rfl rfl ⟨rfl, rfl, rfl, rfl, rfl⟩ rfl rfl rfl rfl rfl (by as_aux_lemma => kernel_rfl) Try.func15 (joined_mk lookApplied_j1 seat_laidOut seat_mapsRowed lookApplied_j4 lookApplied_j5 lookApplied_j6 seat_stops lookApplied_j8 seat_stopKnobs lookApplied_j10 lookApplied_j11 lookApplied_j12 lookApplied_j13 lookApplied_j14 lookApplied_j15 lookApplied_j16 lookApplied_j17 lookApplied_j18 lookApplied_j19 lookApplied_j20 lookApplied_j21 lookApplied_j22 lookApplied_j23 lookApplied_j24 seat_stopsHeard seat_mayEnter lookApplied_j27 lookApplied_j28 lookApplied_j29 lookApplied_j30 lookApplied_j31 lookApplied_j32)
    (of_decide_eq_true (by as_aux_lemma => kernel_rfl)) (by unfold Func.isWrapper; first | (rw [if_pos (by decide +kernel)]; kernel_rfl) | (rw [if_neg (by decide +kernel)]; exact ⟨rfl, rfl⟩))
    (fun os started H enc _ => lookApplied_lifted os started H enc)
#print axioms lookApplied_holds
end Go.Proofs.Ytcpngkkconalhaa
