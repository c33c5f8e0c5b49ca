/- The law ApplyTurns: for every input the call returns true, and each argument reads behind the call as it read before. -/
import Derived.Test.YteefnnnbbmbmcaaWApplyTurns
import Derived.Test.YteefnnnbbmbmcaaR
import Derived.Test.YteefnnnbbmbmcaaJ
import Derived.Test.YteefnnnbbmbmcaaR2
import Derived.Lib.SmallJoins
namespace Go.Proofs.Yteefnnnbbmbmcaa
open Go.ChangeShapes Go.WideShapes Go.ChangeAt Go.RowKit
set_option linter.unusedVariables false
theorem applyTurns_own : ownKnob Try.prog.godebug = none := by kernel_rfl
theorem applyTurns_laidOut : laidOutB Try.prog = true := seat_laidOut
theorem applyTurns_j1 : (Rows.applyTurnsRow.wf (OpenSpec.ofChange Rows.applyTurnsSpec)) = true := by kernel_rfl
theorem applyTurns_j4 : (Try.f18.params.all (Try.pinned.checked.prog.readableRec ·)) = true := by kernel_rfl
theorem applyTurns_j5 : (namedTie Try.pinned.checked.prog Rows.applyTurnsRow.named Rows.applyTurnsSpec.vars) = true := by kernel_rfl
theorem applyTurns_j6 : ((Rows.applyTurnsRow.stops == [])) = true := by kernel_rfl
theorem applyTurns_j8 : ((Rows.applyTurnsRow.knobs == [])) = true := by kernel_rfl
theorem applyTurns_j10 : ((Rows.applyTurnsRow.inPlace == Try.pinned.checked.prog.inPlace 18)) = true := by kernel_rfl
theorem applyTurns_j11 : ((Rows.applyTurnsRow.unfollowed == Try.pinned.checked.prog.unfollowed 18)) = true := by kernel_rfl
theorem applyTurns_j12 : ((Rows.applyTurnsRow.recurses == Try.pinned.checked.prog.recurses 18)) = true := by kernel_rfl
theorem applyTurns_j13 : ((Rows.applyTurnsRow.named == Try.pinned.checked.prog.varsNamed 18)) = true := by kernel_rfl
theorem applyTurns_j14 : ((Rows.applyTurnsRow.maps == (Try.f18.params.toList ++ Rows.applyTurnsSpec.plain.varTypes Try.pinned.checked.prog).any (Try.pinned.checked.prog.mapsRec ·))) = true := by kernel_rfl
theorem applyTurns_j15 : ((Rows.applyTurnsRow.ifaces == (Try.f18.params.toList ++ Rows.applyTurnsSpec.plain.varTypes Try.pinned.checked.prog).any (Try.pinned.checked.prog.ifacesRec ·))) = true := by kernel_rfl
theorem applyTurns_j16 : ((Rows.applyTurnsRow.mapsOut == Try.pinned.checked.prog.mapsAmong Try.f18.resultTypes.toList)) = true := by kernel_rfl
theorem applyTurns_j17 : ((Rows.applyTurnsRow.loops == (Try.f18.params.toList ++ Rows.applyTurnsSpec.plain.varTypes Try.pinned.checked.prog).any (Try.pinned.checked.prog.loopsFrom ·))) = true := by kernel_rfl
theorem applyTurns_j18 : ((Rows.applyTurnsRow.wideKeys == (Try.f18.params.toList ++ Rows.applyTurnsSpec.plain.varTypes Try.pinned.checked.prog ++ Try.f18.resultTypes.toList).any (Try.pinned.checked.prog.wideKeysFrom ·))) = true := by kernel_rfl
theorem applyTurns_j19 : (Rows.applyTurnsSpec.vars.all (Try.pinned.checked.prog.varReadable ·)) = true := by kernel_rfl
theorem applyTurns_j20 : (Try.f18.resultTypes.all (fun t => Try.pinned.checked.prog.readableRec t && decide (t < Try.pinned.checked.prog.types.size))) = true := by kernel_rfl
theorem applyTurns_j21 : ((Rows.applyTurnsRow.ifacesOut == Try.f18.resultTypes.toList.any (Try.pinned.checked.prog.ifacesRec ·))) = true := by kernel_rfl
theorem applyTurns_j22 : ((Rows.applyTurnsRow.loopsOut == Try.f18.resultTypes.toList.any (Try.pinned.checked.prog.loopsFrom ·))) = true := by kernel_rfl
theorem applyTurns_j23 : ((Rows.applyTurnsRow.plainKeys == Try.pinned.checked.prog.plainKeys)) = true := by kernel_rfl
theorem applyTurns_j24 : (Rows.applyTurnsRow.shortTexts.isNone) = true := by kernel_rfl
theorem applyTurns_j27 : (Rows.applyTurnsRow.lifted == Try.pinned.checked.prog.liftsFinal) = true := (congrArg (fun b => Rows.applyTurnsRow.lifted == b) seat_liftsFinal).trans (by kernel_rfl)
theorem applyTurns_j28 : (Try.pinned.checked.prog.make == some Rows.applyTurnsRow.make) = true := (congrArg (fun b => b == some Rows.applyTurnsRow.make) seat_make).trans (by kernel_rfl)
theorem applyTurns_j29 : ((Rows.applyTurnsRow.kinds == (if Rows.applyTurnsRow.domain.isEmpty then [] else Try.f18.params.toList.map fun t => match Try.pinned.checked.prog.underlying t with | some (.int k) => some k | _ => none))) = true := by kernel_rfl
theorem applyTurns_j30 : ((Rows.applyTurnsRow.pinned == Rows.applyTurnsRow.pinnedBy)) = true := by kernel_rfl
theorem applyTurns_j31 : ((Rows.applyTurnsRow.veiled == (Try.f18.params.toList ++ Rows.applyTurnsSpec.plain.varTypes Try.pinned.checked.prog ++ Try.f18.resultTypes.toList).any (Try.pinned.checked.prog.veiledRec ·))) = true := by kernel_rfl
theorem applyTurns_j32 : (Rows.applyTurnsRow.veiledFits Try.pinned.checked.prog Try.f18.params.toList (Try.f18.params.toList ++ Rows.applyTurnsSpec.plain.varTypes Try.pinned.checked.prog ++ Try.f18.resultTypes.toList)) = true := by kernel_rfl
set_option maxRecDepth 100000 in
theorem applyTurns_lifted (os : Os) (started : os.Started) (H : Type) (enc : TypeId × Value → H) :
    ReturnsInHanded {} Try.checked os 18 .any (Rows.applyTurnsSpec.pre6 enc Try.prog Try.f18 Rows.applyTurnsRow.domain false) (Rows.applyTurnsSpec.post enc Try.prog Try.f18 false true false false) := by
  refine returnsInHanded_of_change (C := Try.checked) applyTurns_own started (by kernel_rfl) Try.func18
    (ChangeSpec.witness6 (enc := enc) (C := Try.checked) false ⟨#[], #[.slice none 0 0, .agg #[.slice none 0 0, .slice none 0 0, .slice none 0 0, .bool false], .agg #[.slice none 0 0, .slice none 0 0, .slice none 0 0, .bool false]], []⟩ 8 (by kernel_rfl) (by kernel_rfl) (by kernel_rfl) (by kernel_rfl)) ?_
  intro W base args ds gs before hval0 hW hcnd _
  have hval : ∀ (j : Nat) t v, Try.f18.params[j]? = some t → args[j]? = some v → Value.okWide Try.prog W .any base t v := hval0
  have hW' := hW
  obtain ⟨p, q, hA0, hV, rfl, hfz, hnd⟩ := hW
  have hA : DataW.TrodAll enc Try.prog W 0 (fun _ => true) true Try.f18.params.toList args.toList ds p := hA0
  rw [Try.params18] at hA hval
  obtain ⟨v0, vs0, d0, ds0, p0, q0, hargs, rfl, rfl, h0, r0⟩ := trodAll_cons hA
  obtain ⟨v1, vs1, d1, ds1, p1, q1, rfl, rfl, rfl, h1, r1⟩ := trodAll_cons r0
  obtain ⟨v2, vs2, d2, ds2, p2, q2, rfl, rfl, rfl, h2, r2⟩ := trodAll_cons r1
  obtain ⟨rfl, rfl, rfl⟩ := trodAll_nil r2
  obtain rfl : args = #[v0, v1, v2] := by cases args; simp_all
  obtain ⟨rfl, rfl⟩ := trodVars_none hV
  have k0 := h0
  have lt0 : ∀ x ∈ p0, x.block < W.heap.size := by obtain ⟨m, hm⟩ := k0; exact DataW.trod_lt m _ _ _ hm
  obtain ⟨a0, len0, cap0, rfl⟩ := okWide_slice Try.underlying64 (hval 0 64 v0 rfl rfl)
  obtain ⟨l0, w0⟩ : ∃ l, Pls (whole W) (.slice a0 len0 cap0) l := by
    obtain ⟨fuel, hf⟩ := h0
    exact rd_places Try.underlying64 Try.underlying70 (by kernel_rfl) (by kernel_rfl) rfl rfl rfl rfl Try.underlying27 Try.underlying5 (by kernel_rfl) Try.underlying4 hf
  have k1 := h1
  have lt1 : ∀ x ∈ p1, x.block < W.heap.size := by obtain ⟨m, hm⟩ := k1; exact DataW.trod_lt m _ _ _ hm
  obtain ⟨c1_0, c1_1, c1_2, c1_3, y1_0, y1_1, y1_2, y1_3, n1, rfl, _, _, t1_0, t1_1, t1_2, t1_3⟩ := Joins.open_agg4 Try.underlying70 (by kernel_rfl) (by kernel_rfl) (hval 1 70 v1 rfl rfl) h1
  obtain ⟨l1_0, w1_0⟩ := rd_bytes_cells Try.underlying27 Try.underlying5 (by kernel_rfl) t1_0
  obtain ⟨l1_1, w1_1⟩ := rd_bytes_cells Try.underlying27 Try.underlying5 (by kernel_rfl) t1_1
  obtain ⟨l1_2, w1_2⟩ := rd_bytes_cells Try.underlying27 Try.underlying5 (by kernel_rfl) t1_2
  obtain ⟨z1_3, ez1_3, _⟩ := DataW.trod_bool Try.underlying4 t1_3
  obtain rfl : c1_3 = _ := by simpa using ez1_3
  have k2 := h2
  have lt2 : ∀ x ∈ p2, x.block < W.heap.size := by obtain ⟨m, hm⟩ := k2; exact DataW.trod_lt m _ _ _ hm
  obtain ⟨c2_0, c2_1, c2_2, c2_3, y2_0, y2_1, y2_2, y2_3, n2, rfl, _, _, t2_0, t2_1, t2_2, t2_3⟩ := Joins.open_agg4 Try.underlying70 (by kernel_rfl) (by kernel_rfl) (hval 2 70 v2 rfl rfl) h2
  obtain ⟨l2_0, w2_0⟩ := rd_bytes_cells Try.underlying27 Try.underlying5 (by kernel_rfl) t2_0
  obtain ⟨l2_1, w2_1⟩ := rd_bytes_cells Try.underlying27 Try.underlying5 (by kernel_rfl) t2_1
  obtain ⟨l2_2, w2_2⟩ := rd_bytes_cells Try.underlying27 Try.underlying5 (by kernel_rfl) t2_2
  obtain ⟨z2_3, ez2_3, _⟩ := DataW.trod_bool Try.underlying4 t2_3
  obtain rfl : c2_3 = _ := by simpa using ez2_3
  clear hA0 hval0
  refine (applyTurns_walk W (.slice a0 len0 cap0) l0 w0 (⟨l1_0, l1_1, l1_2, z1_3⟩ : Pl) c1_0 w1_0 c1_1 w1_1 c1_2 w1_2 (⟨l2_0, l2_1, l2_2, z2_3⟩ : Pl) c2_0 w2_0 c2_1 w2_1 c2_2 w2_2).mono fun e W' ⟨he, bel⟩ => ?_
  subst he
  exact ⟨_, rfl, _, _, _, [], _, [], hW', trodAll_mk1 (shut_bool Try.underlying4 _), (trodAll_cons_mk (Below.trod applyTurns_laidOut (by kernel_rfl) (of_decide_eq_true (by kernel_rfl)) k0 bel lt0) (trodAll_cons_mk (Below.trod applyTurns_laidOut (by kernel_rfl) (of_decide_eq_true (by kernel_rfl)) k1 bel lt1) (trodAll_cons_mk (Below.trod applyTurns_laidOut (by kernel_rfl) (of_decide_eq_true (by kernel_rfl)) k2 bel lt2) trodAll_mk0))), rfl, bel.frame _, fun h => by cases h⟩
set_option maxRecDepth 1000000 in
theorem applyTurns_holds : Rows.ApplyTurnsSaid :=
  OpenClaim.holds_of_wide 18 Try.f18 rfl rfl rfl rfl rfl rfl rfl ⟨rfl, rfl, rfl, rfl, rfl⟩ rfl rfl rfl rfl rfl (by as_aux_lemma => kernel_rfl) Try.func18 (joined_mk applyTurns_j1 seat_laidOut seat_mapsRowed applyTurns_j4 applyTurns_j5 applyTurns_j6 seat_stops applyTurns_j8 seat_stopKnobs applyTurns_j10 applyTurns_j11 applyTurns_j12 applyTurns_j13 applyTurns_j14 applyTurns_j15 applyTurns_j16 applyTurns_j17 applyTurns_j18 applyTurns_j19 applyTurns_j20 applyTurns_j21 applyTurns_j22 applyTurns_j23 applyTurns_j24 seat_stopsHeard seat_mayEnter applyTurns_j27 applyTurns_j28 applyTurns_j29 applyTurns_j30 applyTurns_j31 applyTurns_j32)
    (of_decide_eq_true (by as_aux_lemma => kernel_rfl)) (by unfold Func.isWrapper; first | (rw [if_pos (by decide +kernel)]; kernel_rfl) | (rw [if_neg (by decide +kernel)]; exact ⟨rfl, rfl⟩))
    (fun os started H enc _ => applyTurns_lifted os started H enc)
#print axioms applyTurns_holds
end Go.Proofs.Yteefnnnbbmbmcaa
