/- The law ChangesMake: for every input the call returns true, and each argument reads behind the call as it read before. -/
import Derived.Test.YtlimmmidfhpakaaCChangesMake
import Derived.Test.YtlimmmidfhpakaaGB1
import Derived.Test.YtlimmmidfhpakaaGB3
namespace Go.Proofs.Ytlimmmidfhpakaa
open Go.ChangeShapes Go.WideShapes Go.ChangeAt Go.RowKit
set_option linter.unusedVariables false
theorem changesMake_own : ownKnob Try.prog.godebug = none := by kernel_rfl
theorem changesMake_laidOut : laidOutB Try.prog = true := seat_laidOut
theorem changesMake_j1 : (Rows.changesMakeRow.wf (OpenSpec.ofChange Rows.changesMakeSpec)) = true := by kernel_rfl
theorem changesMake_j4 : (Try.f5.params.all (Try.pinned.checked.prog.readableRec ·)) = true := by kernel_rfl
theorem changesMake_j5 : (namedTie Try.pinned.checked.prog Rows.changesMakeRow.named Rows.changesMakeSpec.vars) = true := by kernel_rfl
theorem changesMake_j6 : ((Rows.changesMakeRow.stops == [])) = true := by kernel_rfl
theorem changesMake_j8 : ((Rows.changesMakeRow.knobs == [])) = true := by kernel_rfl
theorem changesMake_j10 : ((Rows.changesMakeRow.inPlace == Try.pinned.checked.prog.inPlace 5)) = true := by kernel_rfl
theorem changesMake_j11 : ((Rows.changesMakeRow.unfollowed == Try.pinned.checked.prog.unfollowed 5)) = true := by kernel_rfl
theorem changesMake_j12 : ((Rows.changesMakeRow.recurses == Try.pinned.checked.prog.recurses 5)) = true := by kernel_rfl
theorem changesMake_j13 : ((Rows.changesMakeRow.named == Try.pinned.checked.prog.varsNamed 5)) = true := by kernel_rfl
theorem changesMake_j14 : ((Rows.changesMakeRow.maps == (Try.f5.params.toList ++ Rows.changesMakeSpec.plain.varTypes Try.pinned.checked.prog).any (Try.pinned.checked.prog.mapsRec ·))) = true := by kernel_rfl
theorem changesMake_j15 : ((Rows.changesMakeRow.ifaces == (Try.f5.params.toList ++ Rows.changesMakeSpec.plain.varTypes Try.pinned.checked.prog).any (Try.pinned.checked.prog.ifacesRec ·))) = true := by kernel_rfl
theorem changesMake_j16 : ((Rows.changesMakeRow.mapsOut == Try.pinned.checked.prog.mapsAmong Try.f5.resultTypes.toList)) = true := by kernel_rfl
theorem changesMake_j17 : ((Rows.changesMakeRow.loops == (Try.f5.params.toList ++ Rows.changesMakeSpec.plain.varTypes Try.pinned.checked.prog).any (Try.pinned.checked.prog.loopsFrom ·))) = true := by kernel_rfl
theorem changesMake_j18 : ((Rows.changesMakeRow.wideKeys == (Try.f5.params.toList ++ Rows.changesMakeSpec.plain.varTypes Try.pinned.checked.prog ++ Try.f5.resultTypes.toList).any (Try.pinned.checked.prog.wideKeysFrom ·))) = true := by kernel_rfl
theorem changesMake_j19 : (Rows.changesMakeSpec.vars.all (Try.pinned.checked.prog.varReadable ·)) = true := by kernel_rfl
theorem changesMake_j20 : (Try.f5.resultTypes.all (fun t => Try.pinned.checked.prog.readableRec t && decide (t < Try.pinned.checked.prog.types.size))) = true := by kernel_rfl
theorem changesMake_j21 : ((Rows.changesMakeRow.ifacesOut == Try.f5.resultTypes.toList.any (Try.pinned.checked.prog.ifacesRec ·))) = true := by kernel_rfl
theorem changesMake_j22 : ((Rows.changesMakeRow.loopsOut == Try.f5.resultTypes.toList.any (Try.pinned.checked.prog.loopsFrom ·))) = true := by kernel_rfl
theorem changesMake_j23 : ((Rows.changesMakeRow.plainKeys == Try.pinned.checked.prog.plainKeys)) = true := by kernel_rfl
theorem changesMake_j24 : (Rows.changesMakeRow.shortTexts.isNone) = true := by kernel_rfl
theorem changesMake_j27 : (Rows.changesMakeRow.lifted == Try.pinned.checked.prog.liftsFinal) = true := (congrArg (fun b => Rows.changesMakeRow.lifted == b) seat_liftsFinal).trans (by kernel_rfl)
theorem changesMake_j28 : (Try.pinned.checked.prog.make == some Rows.changesMakeRow.make) = true := (congrArg (fun b => b == some Rows.changesMakeRow.make) seat_make).trans (by kernel_rfl)
theorem changesMake_j29 : ((Rows.changesMakeRow.kinds == (if Rows.changesMakeRow.domain.isEmpty then [] else Try.f5.params.toList.map fun t => match Try.pinned.checked.prog.underlying t with | some (.int k) => some k | _ => none))) = true := by kernel_rfl
theorem changesMake_j30 : ((Rows.changesMakeRow.pinned == Rows.changesMakeRow.pinnedBy)) = true := by kernel_rfl
theorem changesMake_j31 : ((Rows.changesMakeRow.veiled == (Try.f5.params.toList ++ Rows.changesMakeSpec.plain.varTypes Try.pinned.checked.prog ++ Try.f5.resultTypes.toList).any (Try.pinned.checked.prog.veiledRec ·))) = true := by kernel_rfl
theorem changesMake_j32 : (Rows.changesMakeRow.veiledFits Try.pinned.checked.prog Try.f5.params.toList (Try.f5.params.toList ++ Rows.changesMakeSpec.plain.varTypes Try.pinned.checked.prog ++ Try.f5.resultTypes.toList)) = true := by kernel_rfl
set_option maxRecDepth 100000 in
theorem changesMake_lifted (os : Os) (started : os.Started) (H : Type) (enc : TypeId × Value → H) :
    ReturnsInHanded {} Try.checked os 5 .any (Rows.changesMakeSpec.pre6 enc Try.prog Try.f5 Rows.changesMakeRow.domain false) (Rows.changesMakeSpec.post enc Try.prog Try.f5 false true false false) := by
  refine returnsInHanded_of_change (C := Try.checked) changesMake_own started (by kernel_rfl) Try.func5
    (ChangeSpec.witness6 (enc := enc) (C := Try.checked) false ⟨#[], #[.slice none 0 0, .int .i64 0, .int .i64 0], []⟩ 8 (by kernel_rfl) (by kernel_rfl) (by kernel_rfl) (by kernel_rfl)) ?_
  intro W base args ds gs before hval0 hW hcnd _
  have hval : ∀ (j : Nat) t v, Try.f5.params[j]? = some t → args[j]? = some v → Value.okWide Try.prog W .any base t v := hval0
  have hW' := hW
  obtain ⟨p, q, hA0, hV, rfl, hfz, hnd⟩ := hW
  have hA : DataW.TrodAll enc Try.prog W 0 (fun _ => true) true Try.f5.params.toList args.toList ds p := hA0
  rw [Try.params5] at hA hval
  obtain ⟨v0, vs0, d0, ds0, p0, q0, hargs, rfl, rfl, h0, r0⟩ := trodAll_cons hA
  obtain ⟨v1, vs1, d1, ds1, p1, q1, rfl, rfl, rfl, h1, r1⟩ := trodAll_cons r0
  obtain ⟨v2, vs2, d2, ds2, p2, q2, rfl, rfl, rfl, h2, r2⟩ := trodAll_cons r1
  obtain ⟨rfl, rfl, rfl⟩ := trodAll_nil r2
  obtain rfl : args = #[v0, v1, v2] := by cases args; simp_all
  obtain ⟨rfl, rfl⟩ := trodVars_none hV
  have k0 := h0
  have lt0 : ∀ x ∈ p0, x.block < W.heap.size := by obtain ⟨m, hm⟩ := k0; exact DataW.trod_lt m _ _ _ hm
  obtain ⟨a0, len0, cap0, rfl⟩ := okWide_slice Try.underlying22 (hval 0 22 v0 rfl rfl)
  obtain ⟨l0, w0⟩ : ∃ l, Pls (whole W) (.slice a0 len0 cap0) l := by
    obtain ⟨fuel, hf⟩ := h0
    exact rd_places Try.underlying22 Try.underlying30 (by kernel_rfl) (by kernel_rfl) rfl rfl rfl rfl Try.underlying25 Try.underlying5 (by kernel_rfl) Try.underlying4 hf
  have k1 := h1
  have lt1 : ∀ x ∈ p1, x.block < W.heap.size := by obtain ⟨m, hm⟩ := k1; exact DataW.trod_lt m _ _ _ hm
  obtain ⟨x1, rfl, _, _, wx1⟩ := open_int Try.underlying3 (hval 1 3 v1 rfl rfl) h1
  have b1 := bounds_i64 wx1
  have k2 := h2
  have lt2 : ∀ x ∈ p2, x.block < W.heap.size := by obtain ⟨m, hm⟩ := k2; exact DataW.trod_lt m _ _ _ hm
  obtain ⟨x2, rfl, _, _, wx2⟩ := open_int Try.underlying3 (hval 2 3 v2 rfl rfl) h2
  have b2 := bounds_i64 wx2
  clear hA0 hval0
  refine (changesMake_walk W (.slice a0 len0 cap0) l0 w0 x1 b1.1 b1.2 x2 b2.1 b2.2).mono fun e W' ⟨he, bel⟩ => ?_
  subst he
  exact ⟨_, rfl, _, _, _, [], _, [], hW', trodAll_mk1 (shut_bool Try.underlying4 _), (trodAll_cons_mk (Below.trod changesMake_laidOut (by kernel_rfl) (of_decide_eq_true (by kernel_rfl)) k0 bel lt0) (trodAll_cons_mk (Below.trod changesMake_laidOut (by kernel_rfl) (of_decide_eq_true (by kernel_rfl)) k1 bel lt1) (trodAll_cons_mk (Below.trod changesMake_laidOut (by kernel_rfl) (of_decide_eq_true (by kernel_rfl)) k2 bel lt2) trodAll_mk0))), rfl, bel.frame _, fun h => by cases h⟩
set_option maxRecDepth 1000000 in
theorem changesMake_holds : Rows.ChangesMakeSaid :=
  OpenClaim.holds_of_wide 5 Try.f5 rfl rfl rfl rfl rfl rfl rfl ⟨rfl, rfl, rfl, rfl, rfl⟩ rfl rfl rfl rfl rfl (by as_aux_lemma => kernel_rfl) Try.func5 (joined_mk changesMake_j1 seat_laidOut seat_mapsRowed changesMake_j4 changesMake_j5 changesMake_j6 seat_stops changesMake_j8 seat_stopKnobs changesMake_j10 changesMake_j11 changesMake_j12 changesMake_j13 changesMake_j14 changesMake_j15 changesMake_j16 changesMake_j17 changesMake_j18 changesMake_j19 changesMake_j20 changesMake_j21 changesMake_j22 changesMake_j23 changesMake_j24 seat_stopsHeard seat_mayEnter changesMake_j27 changesMake_j28 changesMake_j29 changesMake_j30 changesMake_j31 changesMake_j32)
    (of_decide_eq_true (by as_aux_lemma => kernel_rfl)) (by unfold Func.isWrapper; first | (rw [if_pos (by decide +kernel)]; kernel_rfl) | (rw [if_neg (by decide +kernel)]; exact ⟨rfl, rfl⟩))
    (fun os started H enc _ => changesMake_lifted os started H enc)
#print axioms changesMake_holds
end Go.Proofs.Ytlimmmidfhpakaa
