/- The law PutTurns: for every input the call returns true, and each argument reads behind the call as it read before. -/
import Derived.Test.YteefnnnbbmbmcaaWPutTurns
import Derived.Test.YteefnnnbbmbmcaaR
import Derived.Test.YteefnnnbbmbmcaaJ
import Derived.Test.YteefnnnbbmbmcaaR2
import Derived.Lib.SmallJoins
namespace Go.Proofs.Yteefnnnbbmbmcaa
open Go.ChangeShapes Go.WideShapes Go.ChangeAt Go.RowKit
set_option linter.unusedVariables false
theorem putTurns_own : ownKnob Try.prog.godebug = none := by kernel_rfl
theorem putTurns_laidOut : laidOutB Try.prog = true := seat_laidOut
theorem putTurns_j1 : (Rows.putTurnsRow.wf (OpenSpec.ofChange Rows.putTurnsSpec)) = true := by kernel_rfl
theorem putTurns_j4 : (Try.f12.params.all (Try.pinned.checked.prog.readableRec ·)) = true := by kernel_rfl
theorem putTurns_j5 : (namedTie Try.pinned.checked.prog Rows.putTurnsRow.named Rows.putTurnsSpec.vars) = true := by kernel_rfl
theorem putTurns_j6 : ((Rows.putTurnsRow.stops == [])) = true := by kernel_rfl
theorem putTurns_j8 : ((Rows.putTurnsRow.knobs == [])) = true := by kernel_rfl
theorem putTurns_j10 : ((Rows.putTurnsRow.inPlace == Try.pinned.checked.prog.inPlace 12)) = true := by kernel_rfl
theorem putTurns_j11 : ((Rows.putTurnsRow.unfollowed == Try.pinned.checked.prog.unfollowed 12)) = true := by kernel_rfl
theorem putTurns_j12 : ((Rows.putTurnsRow.recurses == Try.pinned.checked.prog.recurses 12)) = true := by kernel_rfl
theorem putTurns_j13 : ((Rows.putTurnsRow.named == Try.pinned.checked.prog.varsNamed 12)) = true := by kernel_rfl
theorem putTurns_j14 : ((Rows.putTurnsRow.maps == (Try.f12.params.toList ++ Rows.putTurnsSpec.plain.varTypes Try.pinned.checked.prog).any (Try.pinned.checked.prog.mapsRec ·))) = true := by kernel_rfl
theorem putTurns_j15 : ((Rows.putTurnsRow.ifaces == (Try.f12.params.toList ++ Rows.putTurnsSpec.plain.varTypes Try.pinned.checked.prog).any (Try.pinned.checked.prog.ifacesRec ·))) = true := by kernel_rfl
theorem putTurns_j16 : ((Rows.putTurnsRow.mapsOut == Try.pinned.checked.prog.mapsAmong Try.f12.resultTypes.toList)) = true := by kernel_rfl
theorem putTurns_j17 : ((Rows.putTurnsRow.loops == (Try.f12.params.toList ++ Rows.putTurnsSpec.plain.varTypes Try.pinned.checked.prog).any (Try.pinned.checked.prog.loopsFrom ·))) = true := by kernel_rfl
theorem putTurns_j18 : ((Rows.putTurnsRow.wideKeys == (Try.f12.params.toList ++ Rows.putTurnsSpec.plain.varTypes Try.pinned.checked.prog ++ Try.f12.resultTypes.toList).any (Try.pinned.checked.prog.wideKeysFrom ·))) = true := by kernel_rfl
theorem putTurns_j19 : (Rows.putTurnsSpec.vars.all (Try.pinned.checked.prog.varReadable ·)) = true := by kernel_rfl
theorem putTurns_j20 : (Try.f12.resultTypes.all (fun t => Try.pinned.checked.prog.readableRec t && decide (t < Try.pinned.checked.prog.types.size))) = true := by kernel_rfl
theorem putTurns_j21 : ((Rows.putTurnsRow.ifacesOut == Try.f12.resultTypes.toList.any (Try.pinned.checked.prog.ifacesRec ·))) = true := by kernel_rfl
theorem putTurns_j22 : ((Rows.putTurnsRow.loopsOut == Try.f12.resultTypes.toList.any (Try.pinned.checked.prog.loopsFrom ·))) = true := by kernel_rfl
theorem putTurns_j23 : ((Rows.putTurnsRow.plainKeys == Try.pinned.checked.prog.plainKeys)) = true := by kernel_rfl
theorem putTurns_j24 : (Rows.putTurnsRow.shortTexts.isNone) = true := by kernel_rfl
theorem putTurns_j27 : (Rows.putTurnsRow.lifted == Try.pinned.checked.prog.liftsFinal) = true := (congrArg (fun b => Rows.putTurnsRow.lifted == b) seat_liftsFinal).trans (by kernel_rfl)
theorem putTurns_j28 : (Try.pinned.checked.prog.make == some Rows.putTurnsRow.make) = true := (congrArg (fun b => b == some Rows.putTurnsRow.make) seat_make).trans (by kernel_rfl)
theorem putTurns_j29 : ((Rows.putTurnsRow.kinds == (if Rows.putTurnsRow.domain.isEmpty then [] else Try.f12.params.toList.map fun t => match Try.pinned.checked.prog.underlying t with | some (.int k) => some k | _ => none))) = true := by kernel_rfl
theorem putTurns_j30 : ((Rows.putTurnsRow.pinned == Rows.putTurnsRow.pinnedBy)) = true := by kernel_rfl
theorem putTurns_j31 : ((Rows.putTurnsRow.veiled == (Try.f12.params.toList ++ Rows.putTurnsSpec.plain.varTypes Try.pinned.checked.prog ++ Try.f12.resultTypes.toList).any (Try.pinned.checked.prog.veiledRec ·))) = true := by kernel_rfl
theorem putTurns_j32 : (Rows.putTurnsRow.veiledFits Try.pinned.checked.prog Try.f12.params.toList (Try.f12.params.toList ++ Rows.putTurnsSpec.plain.varTypes Try.pinned.checked.prog ++ Try.f12.resultTypes.toList)) = true := by kernel_rfl
set_option maxRecDepth 100000 in
theorem putTurns_lifted (os : Os) (started : os.Started) (H : Type) (enc : TypeId × Value → H) :
    ReturnsInHanded {} Try.checked os 12 .any (Rows.putTurnsSpec.pre6 enc Try.prog Try.f12 Rows.putTurnsRow.domain false) (Rows.putTurnsSpec.post enc Try.prog Try.f12 false true false false) := by
  refine returnsInHanded_of_change (C := Try.checked) putTurns_own started (by kernel_rfl) Try.func12
    (ChangeSpec.witness6 (enc := enc) (C := Try.checked) false ⟨#[], #[.slice none 0 0, .agg #[.slice none 0 0, .slice none 0 0], .agg #[.slice none 0 0, .slice none 0 0]], []⟩ 8 (by kernel_rfl) (by kernel_rfl) (by kernel_rfl) (by kernel_rfl)) ?_
  intro W base args ds gs before hval0 hW hcnd _
  have hval : ∀ (j : Nat) t v, Try.f12.params[j]? = some t → args[j]? = some v → Value.okWide Try.prog W .any base t v := hval0
  have hW' := hW
  obtain ⟨p, q, hA0, hV, rfl, hfz, hnd⟩ := hW
  have hA : DataW.TrodAll enc Try.prog W 0 (fun _ => true) true Try.f12.params.toList args.toList ds p := hA0
  rw [Try.params12] at hA hval
  obtain ⟨v0, vs0, d0, ds0, p0, q0, hargs, rfl, rfl, h0, r0⟩ := trodAll_cons hA
  obtain ⟨v1, vs1, d1, ds1, p1, q1, rfl, rfl, rfl, h1, r1⟩ := trodAll_cons r0
  obtain ⟨v2, vs2, d2, ds2, p2, q2, rfl, rfl, rfl, h2, r2⟩ := trodAll_cons r1
  obtain ⟨rfl, rfl, rfl⟩ := trodAll_nil r2
  obtain rfl : args = #[v0, v1, v2] := by cases args; simp_all
  obtain ⟨rfl, rfl⟩ := trodVars_none hV
  have k0 := h0
  have lt0 : ∀ x ∈ p0, x.block < W.heap.size := by obtain ⟨m, hm⟩ := k0; exact DataW.trod_lt m _ _ _ hm
  obtain ⟨a0, len0, cap0, rfl⟩ := okWide_slice Try.underlying43 (hval 0 43 v0 rfl rfl)
  obtain ⟨l0, w0⟩ : ∃ l, Prs (whole W) (.slice a0 len0 cap0) l := by
    obtain ⟨fuel, hf⟩ := h0
    exact rd_items Try.underlying43 Try.underlying57 (by kernel_rfl) (by kernel_rfl) rfl rfl Try.underlying27 Try.underlying5 (by kernel_rfl) hf
  have k1 := h1
  have lt1 : ∀ x ∈ p1, x.block < W.heap.size := by obtain ⟨m, hm⟩ := k1; exact DataW.trod_lt m _ _ _ hm
  obtain ⟨c1_0, c1_1, y1_0, y1_1, n1, rfl, _, _, t1_0, t1_1⟩ := Joins.open_agg2 Try.underlying57 (by kernel_rfl) (by kernel_rfl) (hval 1 57 v1 rfl rfl) h1
  obtain ⟨l1_0, w1_0⟩ := rd_bytes_cells Try.underlying27 Try.underlying5 (by kernel_rfl) t1_0
  obtain ⟨l1_1, w1_1⟩ := rd_bytes_cells Try.underlying27 Try.underlying5 (by kernel_rfl) t1_1
  have k2 := h2
  have lt2 : ∀ x ∈ p2, x.block < W.heap.size := by obtain ⟨m, hm⟩ := k2; exact DataW.trod_lt m _ _ _ hm
  obtain ⟨c2_0, c2_1, y2_0, y2_1, n2, rfl, _, _, t2_0, t2_1⟩ := Joins.open_agg2 Try.underlying57 (by kernel_rfl) (by kernel_rfl) (hval 2 57 v2 rfl rfl) h2
  obtain ⟨l2_0, w2_0⟩ := rd_bytes_cells Try.underlying27 Try.underlying5 (by kernel_rfl) t2_0
  obtain ⟨l2_1, w2_1⟩ := rd_bytes_cells Try.underlying27 Try.underlying5 (by kernel_rfl) t2_1
  clear hA0 hval0
  refine (putTurns_walk W (.slice a0 len0 cap0) l0 w0 c1_0 l1_0 w1_0 c1_1 l1_1 w1_1 c2_0 l2_0 w2_0 c2_1 l2_1 w2_1).mono fun e W' ⟨he, bel⟩ => ?_
  subst he
  exact ⟨_, rfl, _, _, _, [], _, [], hW', trodAll_mk1 (shut_bool Try.underlying4 _), (trodAll_cons_mk (Below.trod putTurns_laidOut (by kernel_rfl) (of_decide_eq_true (by kernel_rfl)) k0 bel lt0) (trodAll_cons_mk (Below.trod putTurns_laidOut (by kernel_rfl) (of_decide_eq_true (by kernel_rfl)) k1 bel lt1) (trodAll_cons_mk (Below.trod putTurns_laidOut (by kernel_rfl) (of_decide_eq_true (by kernel_rfl)) k2 bel lt2) trodAll_mk0))), rfl, bel.frame _, fun h => by cases h⟩
set_option maxRecDepth 1000000 in
theorem putTurns_holds : Rows.PutTurnsSaid :=
  OpenClaim.holds_of_wide 12 Try.f12 rfl rfl rfl rfl rfl rfl rfl ⟨rfl, rfl, rfl, rfl, rfl⟩ rfl rfl rfl rfl rfl (by as_aux_lemma => kernel_rfl) Try.func12 (joined_mk putTurns_j1 seat_laidOut seat_mapsRowed putTurns_j4 putTurns_j5 putTurns_j6 seat_stops putTurns_j8 seat_stopKnobs putTurns_j10 putTurns_j11 putTurns_j12 putTurns_j13 putTurns_j14 putTurns_j15 putTurns_j16 putTurns_j17 putTurns_j18 putTurns_j19 putTurns_j20 putTurns_j21 putTurns_j22 putTurns_j23 putTurns_j24 seat_stopsHeard seat_mayEnter putTurns_j27 putTurns_j28 putTurns_j29 putTurns_j30 putTurns_j31 putTurns_j32)
    (of_decide_eq_true (by as_aux_lemma => kernel_rfl)) (by unfold Func.isWrapper; first | (rw [if_pos (by decide +kernel)]; kernel_rfl) | (rw [if_neg (by decide +kernel)]; exact ⟨rfl, rfl⟩))
    (fun os started H enc _ => putTurns_lifted os started H enc)
#print axioms putTurns_holds
end Go.Proofs.Yteefnnnbbmbmcaa
