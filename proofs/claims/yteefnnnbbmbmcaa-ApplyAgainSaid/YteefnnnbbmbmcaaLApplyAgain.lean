/- The law ApplyAgain: for every input the call returns true, and each argument reads behind the call as it read before. -/
import Derived.Test.YteefnnnbbmbmcaaWApplyAgain
import Derived.Test.YteefnnnbbmbmcaaR
import Derived.Test.YteefnnnbbmbmcaaJ
import Derived.Test.YteefnnnbbmbmcaaR2
import Derived.Lib.SmallJoins
namespace Go.Proofs.Yteefnnnbbmbmcaa
open Go.ChangeShapes Go.WideShapes Go.ChangeAt Go.RowKit
set_option linter.unusedVariables false
theorem applyAgain_own : ownKnob Try.prog.godebug = none := by kernel_rfl
theorem applyAgain_laidOut : laidOutB Try.prog = true := seat_laidOut
theorem applyAgain_j1 : (Rows.applyAgainRow.wf (OpenSpec.ofChange Rows.applyAgainSpec)) = true := by kernel_rfl
theorem applyAgain_j4 : (Try.f20.params.all (Try.pinned.checked.prog.readableRec ·)) = true := by kernel_rfl
theorem applyAgain_j5 : (namedTie Try.pinned.checked.prog Rows.applyAgainRow.named Rows.applyAgainSpec.vars) = true := by kernel_rfl
theorem applyAgain_j6 : ((Rows.applyAgainRow.stops == [])) = true := by kernel_rfl
theorem applyAgain_j8 : ((Rows.applyAgainRow.knobs == [])) = true := by kernel_rfl
theorem applyAgain_j10 : ((Rows.applyAgainRow.inPlace == Try.pinned.checked.prog.inPlace 20)) = true := by kernel_rfl
theorem applyAgain_j11 : ((Rows.applyAgainRow.unfollowed == Try.pinned.checked.prog.unfollowed 20)) = true := by kernel_rfl
theorem applyAgain_j12 : ((Rows.applyAgainRow.recurses == Try.pinned.checked.prog.recurses 20)) = true := by kernel_rfl
theorem applyAgain_j13 : ((Rows.applyAgainRow.named == Try.pinned.checked.prog.varsNamed 20)) = true := by kernel_rfl
theorem applyAgain_j14 : ((Rows.applyAgainRow.maps == (Try.f20.params.toList ++ Rows.applyAgainSpec.plain.varTypes Try.pinned.checked.prog).any (Try.pinned.checked.prog.mapsRec ·))) = true := by kernel_rfl
theorem applyAgain_j15 : ((Rows.applyAgainRow.ifaces == (Try.f20.params.toList ++ Rows.applyAgainSpec.plain.varTypes Try.pinned.checked.prog).any (Try.pinned.checked.prog.ifacesRec ·))) = true := by kernel_rfl
theorem applyAgain_j16 : ((Rows.applyAgainRow.mapsOut == Try.pinned.checked.prog.mapsAmong Try.f20.resultTypes.toList)) = true := by kernel_rfl
theorem applyAgain_j17 : ((Rows.applyAgainRow.loops == (Try.f20.params.toList ++ Rows.applyAgainSpec.plain.varTypes Try.pinned.checked.prog).any (Try.pinned.checked.prog.loopsFrom ·))) = true := by kernel_rfl
theorem applyAgain_j18 : ((Rows.applyAgainRow.wideKeys == (Try.f20.params.toList ++ Rows.applyAgainSpec.plain.varTypes Try.pinned.checked.prog ++ Try.f20.resultTypes.toList).any (Try.pinned.checked.prog.wideKeysFrom ·))) = true := by kernel_rfl
theorem applyAgain_j19 : (Rows.applyAgainSpec.vars.all (Try.pinned.checked.prog.varReadable ·)) = true := by kernel_rfl
theorem applyAgain_j20 : (Try.f20.resultTypes.all (fun t => Try.pinned.checked.prog.readableRec t && decide (t < Try.pinned.checked.prog.types.size))) = true := by kernel_rfl
theorem applyAgain_j21 : ((Rows.applyAgainRow.ifacesOut == Try.f20.resultTypes.toList.any (Try.pinned.checked.prog.ifacesRec ·))) = true := by kernel_rfl
theorem applyAgain_j22 : ((Rows.applyAgainRow.loopsOut == Try.f20.resultTypes.toList.any (Try.pinned.checked.prog.loopsFrom ·))) = true := by kernel_rfl
theorem applyAgain_j23 : ((Rows.applyAgainRow.plainKeys == Try.pinned.checked.prog.plainKeys)) = true := by kernel_rfl
theorem applyAgain_j24 : (Rows.applyAgainRow.shortTexts.isNone) = true := by kernel_rfl
theorem applyAgain_j27 : (Rows.applyAgainRow.lifted == Try.pinned.checked.prog.liftsFinal) = true := (congrArg (fun b => Rows.applyAgainRow.lifted == b) seat_liftsFinal).trans (by kernel_rfl)
theorem applyAgain_j28 : (Try.pinned.checked.prog.make == some Rows.applyAgainRow.make) = true := (congrArg (fun b => b == some Rows.applyAgainRow.make) seat_make).trans (by kernel_rfl)
theorem applyAgain_j29 : ((Rows.applyAgainRow.kinds == (if Rows.applyAgainRow.domain.isEmpty then [] else Try.f20.params.toList.map fun t => match Try.pinned.checked.prog.underlying t with | some (.int k) => some k | _ => none))) = true := by kernel_rfl
theorem applyAgain_j30 : ((Rows.applyAgainRow.pinned == Rows.applyAgainRow.pinnedBy)) = true := by kernel_rfl
theorem applyAgain_j31 : ((Rows.applyAgainRow.veiled == (Try.f20.params.toList ++ Rows.applyAgainSpec.plain.varTypes Try.pinned.checked.prog ++ Try.f20.resultTypes.toList).any (Try.pinned.checked.prog.veiledRec ·))) = true := by kernel_rfl
theorem applyAgain_j32 : (Rows.applyAgainRow.veiledFits Try.pinned.checked.prog Try.f20.params.toList (Try.f20.params.toList ++ Rows.applyAgainSpec.plain.varTypes Try.pinned.checked.prog ++ Try.f20.resultTypes.toList)) = true := by kernel_rfl
set_option maxRecDepth 100000 in
theorem applyAgain_lifted (os : Os) (started : os.Started) (H : Type) (enc : TypeId × Value → H) :
    ReturnsInHanded {} Try.checked os 20 .any (Rows.applyAgainSpec.pre6 enc Try.prog Try.f20 Rows.applyAgainRow.domain false) (Rows.applyAgainSpec.post enc Try.prog Try.f20 false true false false) := by
  refine returnsInHanded_of_change (C := Try.checked) applyAgain_own started (by kernel_rfl) Try.func20
    (ChangeSpec.witness6 (enc := enc) (C := Try.checked) false ⟨#[], #[.slice none 0 0, .agg #[.slice none 0 0, .slice none 0 0, .slice none 0 0, .bool false], .agg #[.slice none 0 0, .slice none 0 0, .slice none 0 0, .bool false]], []⟩ 8 (by kernel_rfl) (by kernel_rfl) (by kernel_rfl) (by kernel_rfl)) ?_
  intro W base args ds gs before hval0 hW hcnd _
  have hval : ∀ (j : Nat) t v, Try.f20.params[j]? = some t → args[j]? = some v → Value.okWide Try.prog W .any base t v := hval0
  have hW' := hW
  obtain ⟨p, q, hA0, hV, rfl, hfz, hnd⟩ := hW
  have hA : DataW.TrodAll enc Try.prog W 0 (fun _ => true) true Try.f20.params.toList args.toList ds p := hA0
  rw [Try.params20] at hA hval
  obtain ⟨v0, vs0, d0, ds0, p0, q0, hargs, rfl, rfl, h0, r0⟩ := trodAll_cons hA
  obtain ⟨v1, vs1, d1, ds1, p1, q1, rfl, rfl, rfl, h1, r1⟩ := trodAll_cons r0
  obtain ⟨v2, vs2, d2, ds2, p2, q2, rfl, rfl, rfl, h2, r2⟩ := trodAll_cons r1
  obtain ⟨rfl, rfl, rfl⟩ := trodAll_nil r2
  obtain rfl : args = #[v0, v1, v2] := by cases args; simp_all
  obtain ⟨rfl, rfl⟩ := trodVars_none hV
  have k0 := h0
  have lt0 : ∀ x ∈ p0, x.block < W.heap.size := by obtain ⟨m, hm⟩ := k0; exact DataW.trod_lt m _ _ _ hm
  obtain ⟨a0, len0, cap0, rfl⟩ := okWide_slice Try.underlying64 (hval 0 64 v0 rfl rfl)
  obtain ⟨l0, w0⟩ : ∃ l, Pls (whole W) (.slice a0 len0 cap0) l := by
    obtain ⟨fuel, hf⟩ := h0
    exact rd_places Try.underlying64 Try.underlying70 (by kernel_rfl) (by kernel_rfl) rfl rfl rfl rfl Try.underlying27 Try.underlying5 (by kernel_rfl) Try.underlying4 hf
  have k1 := h1
  have lt1 : ∀ x ∈ p1, x.block < W.heap.size := by obtain ⟨m, hm⟩ := k1; exact DataW.trod_lt m _ _ _ hm
  obtain ⟨c1_0, c1_1, c1_2, c1_3, y1_0, y1_1, y1_2, y1_3, n1, rfl, _, _, t1_0, t1_1, t1_2, t1_3⟩ := Joins.open_agg4 Try.underlying70 (by kernel_rfl) (by kernel_rfl) (hval 1 70 v1 rfl rfl) h1
  obtain ⟨l1_0, w1_0⟩ := rd_bytes_cells Try.underlying27 Try.underlying5 (by kernel_rfl) t1_0
  obtain ⟨l1_1, w1_1⟩ := rd_bytes_cells Try.underlying27 Try.underlying5 (by kernel_rfl) t1_1
  obtain ⟨l1_2, w1_2⟩ := rd_bytes_cells Try.underlying27 Try.underlying5 (by kernel_rfl) t1_2
  obtain ⟨z1_3, ez1_3, _⟩ := DataW.trod_bool Try.underlying4 t1_3
  obtain rfl : c1_3 = _ := by simpa using ez1_3
  have k2 := h2
  have lt2 : ∀ x ∈ p2, x.block < W.heap.size := by obtain ⟨m, hm⟩ := k2; exact DataW.trod_lt m _ _ _ hm
  obtain ⟨c2_0, c2_1, c2_2, c2_3, y2_0, y2_1, y2_2, y2_3, n2, rfl, _, _, t2_0, t2_1, t2_2, t2_3⟩ := Joins.open_agg4 Try.underlying70 (by kernel_rfl) (by kernel_rfl) (hval 2 70 v2 rfl rfl) h2
  obtain ⟨l2_0, w2_0⟩ := rd_bytes_cells Try.underlying27 Try.underlying5 (by kernel_rfl) t2_0
  obtain ⟨l2_1, w2_1⟩ := rd_bytes_cells Try.underlying27 Try.underlying5 (by kernel_rfl) t2_1
  obtain ⟨l2_2, w2_2⟩ := rd_bytes_cells Try.underlying27 Try.underlying5 (by kernel_rfl) t2_2
  obtain ⟨z2_3, ez2_3, _⟩ := DataW.trod_bool Try.underlying4 t2_3
  obtain rfl : c2_3 = _ := by simpa using ez2_3
  clear hA0 hval0
  refine (applyAgain_walk W (.slice a0 len0 cap0) l0 w0 (⟨l1_0, l1_1, l1_2, z1_3⟩ : Pl) c1_0 w1_0 c1_1 w1_1 c1_2 w1_2 (⟨l2_0, l2_1, l2_2, z2_3⟩ : Pl) c2_0 w2_0 c2_1 w2_1 c2_2 w2_2).mono fun e W' ⟨he, bel⟩ => ?_
  subst he
  exact ⟨_, rfl, _, _, _, [], _, [], hW', trodAll_mk1 (shut_bool Try.underlying4 _), (trodAll_cons_mk (Below.trod applyAgain_laidOut (by kernel_rfl) (of_decide_eq_true (by kernel_rfl)) k0 bel lt0) (trodAll_cons_mk (Below.trod applyAgain_laidOut (by kernel_rfl) (of_decide_eq_true (by kernel_rfl)) k1 bel lt1) (trodAll_cons_mk (Below.trod applyAgain_laidOut (by kernel_rfl) (of_decide_eq_true (by kernel_rfl)) k2 bel lt2) trodAll_mk0))), rfl, bel.frame _, fun h => by cases h⟩
set_option maxRecDepth 1000000 in
theorem applyAgain_holds : Rows.ApplyAgainSaid :=
  OpenClaim.holds_of_wide 20 Try.f20 rfl rfl rfl rfl rfl rfl rfl ⟨rfl, rfl, rfl, rfl, rfl⟩ rfl rfl rfl rfl rfl (by as_aux_lemma => kernel_rfl) Try.func20 (joined_mk applyAgain_j1 seat_laidOut seat_mapsRowed applyAgain_j4 applyAgain_j5 applyAgain_j6 seat_stops applyAgain_j8 seat_stopKnobs applyAgain_j10 applyAgain_j11 applyAgain_j12 applyAgain_j13 applyAgain_j14 applyAgain_j15 applyAgain_j16 applyAgain_j17 applyAgain_j18 applyAgain_j19 applyAgain_j20 applyAgain_j21 applyAgain_j22 applyAgain_j23 applyAgain_j24 seat_stopsHeard seat_mayEnter applyAgain_j27 applyAgain_j28 applyAgain_j29 applyAgain_j30 applyAgain_j31 applyAgain_j32)
    (of_decide_eq_true (by as_aux_lemma => kernel_rfl)) (by unfold Func.isWrapper; first | (rw [if_pos (by decide +kernel)]; kernel_rfl) | (rw [if_neg (by decide +kernel)]; exact ⟨rfl, rfl⟩))
    (fun os started H enc _ => applyAgain_lifted os started H enc)
#print axioms applyAgain_holds
end Go.Proofs.Yteefnnnbbmbmcaa
