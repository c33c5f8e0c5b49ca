/- The law ChangesBack: for every input the call returns true, and each argument reads behind the call as it read before. -/
import Derived.Test.YtlimmmidfhpakaaCChangesBack
import Derived.Test.YtlimmmidfhpakaaGA1
import Derived.Test.YtlimmmidfhpakaaGA2
namespace Go.Proofs.Ytlimmmidfhpakaa
open Go.ChangeShapes Go.WideShapes Go.ChangeAt Go.RowKit
set_option linter.unusedVariables false
theorem changesBack_own : ownKnob Try.prog.godebug = none := by kernel_rfl
theorem changesBack_laidOut : laidOutB Try.prog = true := seat_laidOut
theorem changesBack_j1 : (Rows.changesBackRow.wf (OpenSpec.ofChange Rows.changesBackSpec)) = true := by kernel_rfl
theorem changesBack_j4 : (Try.f4.params.all (Try.pinned.checked.prog.readableRec ·)) = true := by kernel_rfl
theorem changesBack_j5 : (namedTie Try.pinned.checked.prog Rows.changesBackRow.named Rows.changesBackSpec.vars) = true := by kernel_rfl
theorem changesBack_j6 : ((Rows.changesBackRow.stops == [])) = true := by kernel_rfl
theorem changesBack_j8 : ((Rows.changesBackRow.knobs == [])) = true := by kernel_rfl
theorem changesBack_j10 : ((Rows.changesBackRow.inPlace == Try.pinned.checked.prog.inPlace 4)) = true := by kernel_rfl
theorem changesBack_j11 : ((Rows.changesBackRow.unfollowed == Try.pinned.checked.prog.unfollowed 4)) = true := by kernel_rfl
theorem changesBack_j12 : ((Rows.changesBackRow.recurses == Try.pinned.checked.prog.recurses 4)) = true := by kernel_rfl
theorem changesBack_j13 : ((Rows.changesBackRow.named == Try.pinned.checked.prog.varsNamed 4)) = true := by kernel_rfl
theorem changesBack_j14 : ((Rows.changesBackRow.maps == (Try.f4.params.toList ++ Rows.changesBackSpec.plain.varTypes Try.pinned.checked.prog).any (Try.pinned.checked.prog.mapsRec ·))) = true := by kernel_rfl
theorem changesBack_j15 : ((Rows.changesBackRow.ifaces == (Try.f4.params.toList ++ Rows.changesBackSpec.plain.varTypes Try.pinned.checked.prog).any (Try.pinned.checked.prog.ifacesRec ·))) = true := by kernel_rfl
theorem changesBack_j16 : ((Rows.changesBackRow.mapsOut == Try.pinned.checked.prog.mapsAmong Try.f4.resultTypes.toList)) = true := by kernel_rfl
theorem changesBack_j17 : ((Rows.changesBackRow.loops == (Try.f4.params.toList ++ Rows.changesBackSpec.plain.varTypes Try.pinned.checked.prog).any (Try.pinned.checked.prog.loopsFrom ·))) = true := by kernel_rfl
theorem changesBack_j18 : ((Rows.changesBackRow.wideKeys == (Try.f4.params.toList ++ Rows.changesBackSpec.plain.varTypes Try.pinned.checked.prog ++ Try.f4.resultTypes.toList).any (Try.pinned.checked.prog.wideKeysFrom ·))) = true := by kernel_rfl
theorem changesBack_j19 : (Rows.changesBackSpec.vars.all (Try.pinned.checked.prog.varReadable ·)) = true := by kernel_rfl
theorem changesBack_j20 : (Try.f4.resultTypes.all (fun t => Try.pinned.checked.prog.readableRec t && decide (t < Try.pinned.checked.prog.types.size))) = true := by kernel_rfl
theorem changesBack_j21 : ((Rows.changesBackRow.ifacesOut == Try.f4.resultTypes.toList.any (Try.pinned.checked.prog.ifacesRec ·))) = true := by kernel_rfl
theorem changesBack_j22 : ((Rows.changesBackRow.loopsOut == Try.f4.resultTypes.toList.any (Try.pinned.checked.prog.loopsFrom ·))) = true := by kernel_rfl
theorem changesBack_j23 : ((Rows.changesBackRow.plainKeys == Try.pinned.checked.prog.plainKeys)) = true := by kernel_rfl
theorem changesBack_j24 : (Rows.changesBackRow.shortTexts.isNone) = true := by kernel_rfl
theorem changesBack_j27 : (Rows.changesBackRow.lifted == Try.pinned.checked.prog.liftsFinal) = true := (congrArg (fun b => Rows.changesBackRow.lifted == b) seat_liftsFinal).trans (by kernel_rfl)
theorem changesBack_j28 : (Try.pinned.checked.prog.make == some Rows.changesBackRow.make) = true := (congrArg (fun b => b == some Rows.changesBackRow.make) seat_make).trans (by kernel_rfl)
theorem changesBack_j29 : ((Rows.changesBackRow.kinds == (if Rows.changesBackRow.domain.isEmpty then [] else Try.f4.params.toList.map fun t => match Try.pinned.checked.prog.underlying t with | some (.int k) => some k | _ => none))) = true := by kernel_rfl
theorem changesBack_j30 : ((Rows.changesBackRow.pinned == Rows.changesBackRow.pinnedBy)) = true := by kernel_rfl
theorem changesBack_j31 : ((Rows.changesBackRow.veiled == (Try.f4.params.toList ++ Rows.changesBackSpec.plain.varTypes Try.pinned.checked.prog ++ Try.f4.resultTypes.toList).any (Try.pinned.checked.prog.veiledRec ·))) = true := by kernel_rfl
theorem changesBack_j32 : (Rows.changesBackRow.veiledFits Try.pinned.checked.prog Try.f4.params.toList (Try.f4.params.toList ++ Rows.changesBackSpec.plain.varTypes Try.pinned.checked.prog ++ Try.f4.resultTypes.toList)) = true := by kernel_rfl
set_option maxRecDepth 100000 in
theorem changesBack_lifted (os : Os) (started : os.Started) (H : Type) (enc : TypeId × Value → H) :
    ReturnsInHanded {} Try.checked os 4 .any (Rows.changesBackSpec.pre6 enc Try.prog Try.f4 Rows.changesBackRow.domain false) (Rows.changesBackSpec.post enc Try.prog Try.f4 false true false false) := by
  refine returnsInHanded_of_change (C := Try.checked) changesBack_own started (by kernel_rfl) Try.func4
    (ChangeSpec.witness6 (enc := enc) (C := Try.checked) false ⟨#[], #[.slice none 0 0, .int .i64 0, .int .i64 0], []⟩ 8 (by kernel_rfl) (by kernel_rfl) (by kernel_rfl) (by kernel_rfl)) ?_
  intro W base args ds gs before hval0 hW hcnd _
  have hval : ∀ (j : Nat) t v, Try.f4.params[j]? = some t → args[j]? = some v → Value.okWide Try.prog W .any base t v := hval0
  have hW' := hW
  obtain ⟨p, q, hA0, hV, rfl, hfz, hnd⟩ := hW
  have hA : DataW.TrodAll enc Try.prog W 0 (fun _ => true) true Try.f4.params.toList args.toList ds p := hA0
  rw [Try.params4] at hA hval
  obtain ⟨v0, vs0, d0, ds0, p0, q0, hargs, rfl, rfl, h0, r0⟩ := trodAll_cons hA
  obtain ⟨v1, vs1, d1, ds1, p1, q1, rfl, rfl, rfl, h1, r1⟩ := trodAll_cons r0
  obtain ⟨v2, vs2, d2, ds2, p2, q2, rfl, rfl, rfl, h2, r2⟩ := trodAll_cons r1
  obtain ⟨rfl, rfl, rfl⟩ := trodAll_nil r2
  obtain rfl : args = #[v0, v1, v2] := by cases args; simp_all
  obtain ⟨rfl, rfl⟩ := trodVars_none hV
  have k0 := h0
  have lt0 : ∀ x ∈ p0, x.block < W.heap.size := by obtain ⟨m, hm⟩ := k0; exact DataW.trod_lt m _ _ _ hm
  obtain ⟨a0, len0, cap0, rfl⟩ := okWide_slice Try.underlying22 (hval 0 22 v0 rfl rfl)
  obtain ⟨l0, w0⟩ : ∃ l, Pls (whole W) (.slice a0 len0 cap0) l := by
    obtain ⟨fuel, hf⟩ := h0
    exact rd_places Try.underlying22 Try.underlying30 (by kernel_rfl) (by kernel_rfl) rfl rfl rfl rfl Try.underlying25 Try.underlying5 (by kernel_rfl) Try.underlying4 hf
  have k1 := h1
  have lt1 : ∀ x ∈ p1, x.block < W.heap.size := by obtain ⟨m, hm⟩ := k1; exact DataW.trod_lt m _ _ _ hm
  obtain ⟨x1, rfl, _, _, wx1⟩ := open_int Try.underlying3 (hval 1 3 v1 rfl rfl) h1
  have b1 := bounds_i64 wx1
  have k2 := h2
  have lt2 : ∀ x ∈ p2, x.block < W.heap.size := by obtain ⟨m, hm⟩ := k2; exact DataW.trod_lt m _ _ _ hm
  obtain ⟨x2, rfl, _, _, wx2⟩ := open_int Try.underlying3 (hval 2 3 v2 rfl rfl) h2
  have b2 := bounds_i64 wx2
  clear hA0 hval0
  refine (changesBack_walk W (.slice a0 len0 cap0) l0 w0 x1 b1.1 b1.2 x2 b2.1 b2.2).mono fun e W' ⟨he, bel⟩ => ?_
  subst he
  exact ⟨_, rfl, _, _, _, [], _, [], hW', trodAll_mk1 (shut_bool Try.underlying4 _), (trodAll_cons_mk (Below.trod changesBack_laidOut (by kernel_rfl) (of_decide_eq_true (by kernel_rfl)) k0 bel lt0) (trodAll_cons_mk (Below.trod changesBack_laidOut (by kernel_rfl) (of_decide_eq_true (by kernel_rfl)) k1 bel lt1) (trodAll_cons_mk (Below.trod changesBack_laidOut (by kernel_rfl) (of_decide_eq_true (by kernel_rfl)) k2 bel lt2) trodAll_mk0))), rfl, bel.frame _, fun h => by cases h⟩
set_option maxRecDepth 1000000 in
theorem changesBack_holds : Rows.ChangesBackSaid :=
  OpenClaim.holds_of_wide 4 Try.f4 rfl rfl rfl rfl rfl rfl rfl ⟨rfl, rfl, rfl, rfl, rfl⟩ rfl rfl rfl rfl rfl (by as_aux_lemma => kernel_rfl) Try.func4 (joined_mk changesBack_j1 seat_laidOut seat_mapsRowed changesBack_j4 changesBack_j5 changesBack_j6 seat_stops changesBack_j8 seat_stopKnobs changesBack_j10 changesBack_j11 changesBack_j12 changesBack_j13 changesBack_j14 changesBack_j15 changesBack_j16 changesBack_j17 changesBack_j18 changesBack_j19 changesBack_j20 changesBack_j21 changesBack_j22 changesBack_j23 changesBack_j24 seat_stopsHeard seat_mayEnter changesBack_j27 changesBack_j28 changesBack_j29 changesBack_j30 changesBack_j31 changesBack_j32)
    (of_decide_eq_true (by as_aux_lemma => kernel_rfl)) (by unfold Func.isWrapper; first | (rw [if_pos (by decide +kernel)]; kernel_rfl) | (rw [if_neg (by decide +kernel)]; exact ⟨rfl, rfl⟩))
    (fun os started H enc _ => changesBack_lifted os started H enc)
#print axioms changesBack_holds
end Go.Proofs.Ytlimmmidfhpakaa
