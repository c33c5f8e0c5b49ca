/- The law PartOrder: for every input the call returns true, and each argument reads behind the call as it read before. -/
import Derived.Test.YteefnnnbbmbmcaaC2
import Derived.Test.YteefnnnbbmbmcaaR
import Derived.Test.YteefnnnbbmbmcaaJ
namespace Go.Proofs.Yteefnnnbbmbmcaa
open Go.ChangeShapes Go.WideShapes Go.ChangeAt Go.RowKit
set_option linter.unusedVariables false
theorem partOrder_own : ownKnob Try.prog.godebug = none := by kernel_rfl
theorem partOrder_laidOut : laidOutB Try.prog = true := seat_laidOut
theorem partOrder_j1 : (Rows.partOrderRow.wf (OpenSpec.ofChange Rows.partOrderSpec)) = true := by kernel_rfl
theorem partOrder_j4 : (Try.f9.params.all (Try.pinned.checked.prog.readableRec ·)) = true := by kernel_rfl
theorem partOrder_j5 : (namedTie Try.pinned.checked.prog Rows.partOrderRow.named Rows.partOrderSpec.vars) = true := by kernel_rfl
theorem partOrder_j6 : ((Rows.partOrderRow.stops == [])) = true := by kernel_rfl
theorem partOrder_j8 : ((Rows.partOrderRow.knobs == [])) = true := by kernel_rfl
theorem partOrder_j10 : ((Rows.partOrderRow.inPlace == Try.pinned.checked.prog.inPlace 9)) = true := by kernel_rfl
theorem partOrder_j11 : ((Rows.partOrderRow.unfollowed == Try.pinned.checked.prog.unfollowed 9)) = true := by kernel_rfl
theorem partOrder_j12 : ((Rows.partOrderRow.recurses == Try.pinned.checked.prog.recurses 9)) = true := by kernel_rfl
theorem partOrder_j13 : ((Rows.partOrderRow.named == Try.pinned.checked.prog.varsNamed 9)) = true := by kernel_rfl
theorem partOrder_j14 : ((Rows.partOrderRow.maps == (Try.f9.params.toList ++ Rows.partOrderSpec.plain.varTypes Try.pinned.checked.prog).any (Try.pinned.checked.prog.mapsRec ·))) = true := by kernel_rfl
theorem partOrder_j15 : ((Rows.partOrderRow.ifaces == (Try.f9.params.toList ++ Rows.partOrderSpec.plain.varTypes Try.pinned.checked.prog).any (Try.pinned.checked.prog.ifacesRec ·))) = true := by kernel_rfl
theorem partOrder_j16 : ((Rows.partOrderRow.mapsOut == Try.pinned.checked.prog.mapsAmong Try.f9.resultTypes.toList)) = true := by kernel_rfl
theorem partOrder_j17 : ((Rows.partOrderRow.loops == (Try.f9.params.toList ++ Rows.partOrderSpec.plain.varTypes Try.pinned.checked.prog).any (Try.pinned.checked.prog.loopsFrom ·))) = true := by kernel_rfl
theorem partOrder_j18 : ((Rows.partOrderRow.wideKeys == (Try.f9.params.toList ++ Rows.partOrderSpec.plain.varTypes Try.pinned.checked.prog ++ Try.f9.resultTypes.toList).any (Try.pinned.checked.prog.wideKeysFrom ·))) = true := by kernel_rfl
theorem partOrder_j19 : (Rows.partOrderSpec.vars.all (Try.pinned.checked.prog.varReadable ·)) = true := by kernel_rfl
theorem partOrder_j20 : (Try.f9.resultTypes.all (fun t => Try.pinned.checked.prog.readableRec t && decide (t < Try.pinned.checked.prog.types.size))) = true := by kernel_rfl
theorem partOrder_j21 : ((Rows.partOrderRow.ifacesOut == Try.f9.resultTypes.toList.any (Try.pinned.checked.prog.ifacesRec ·))) = true := by kernel_rfl
theorem partOrder_j22 : ((Rows.partOrderRow.loopsOut == Try.f9.resultTypes.toList.any (Try.pinned.checked.prog.loopsFrom ·))) = true := by kernel_rfl
theorem partOrder_j23 : ((Rows.partOrderRow.plainKeys == Try.pinned.checked.prog.plainKeys)) = true := by kernel_rfl
theorem partOrder_j24 : (Rows.partOrderRow.shortTexts.isNone) = true := by kernel_rfl
theorem partOrder_j27 : (Rows.partOrderRow.lifted == Try.pinned.checked.prog.liftsFinal) = true := (congrArg (fun b => Rows.partOrderRow.lifted == b) seat_liftsFinal).trans (by kernel_rfl)
theorem partOrder_j28 : (Try.pinned.checked.prog.make == some Rows.partOrderRow.make) = true := (congrArg (fun b => b == some Rows.partOrderRow.make) seat_make).trans (by kernel_rfl)
theorem partOrder_j29 : ((Rows.partOrderRow.kinds == (if Rows.partOrderRow.domain.isEmpty then [] else Try.f9.params.toList.map fun t => match Try.pinned.checked.prog.underlying t with | some (.int k) => some k | _ => none))) = true := by kernel_rfl
theorem partOrder_j30 : ((Rows.partOrderRow.pinned == Rows.partOrderRow.pinnedBy)) = true := by kernel_rfl
theorem partOrder_j31 : ((Rows.partOrderRow.veiled == (Try.f9.params.toList ++ Rows.partOrderSpec.plain.varTypes Try.pinned.checked.prog ++ Try.f9.resultTypes.toList).any (Try.pinned.checked.prog.veiledRec ·))) = true := by kernel_rfl
theorem partOrder_j32 : (Rows.partOrderRow.veiledFits Try.pinned.checked.prog Try.f9.params.toList (Try.f9.params.toList ++ Rows.partOrderSpec.plain.varTypes Try.pinned.checked.prog ++ Try.f9.resultTypes.toList)) = true := by kernel_rfl
set_option maxRecDepth 100000 in
theorem partOrder_lifted (os : Os) (started : os.Started) (H : Type) (enc : TypeId × Value → H) :
    ReturnsInHanded {} Try.checked os 9 .any (Rows.partOrderSpec.pre6 enc Try.prog Try.f9 Rows.partOrderRow.domain false) (Rows.partOrderSpec.post enc Try.prog Try.f9 false true false false) := by
  refine returnsInHanded_of_change (C := Try.checked) partOrder_own started (by kernel_rfl) Try.func9
    (ChangeSpec.witness6 (enc := enc) (C := Try.checked) false ⟨#[], #[.slice none 0 0, .slice none 0 0], []⟩ 8 (by kernel_rfl) (by kernel_rfl) (by kernel_rfl) (by kernel_rfl)) ?_
  intro W base args ds gs before hval0 hW hcnd _
  have hval : ∀ (j : Nat) t v, Try.f9.params[j]? = some t → args[j]? = some v → Value.okWide Try.prog W .any base t v := hval0
  have hW' := hW
  obtain ⟨p, q, hA0, hV, rfl, hfz, hnd⟩ := hW
  have hA : DataW.TrodAll enc Try.prog W 0 (fun _ => true) true Try.f9.params.toList args.toList ds p := hA0
  rw [Try.params9] at hA hval
  obtain ⟨v0, vs0, d0, ds0, p0, q0, hargs, rfl, rfl, h0, r0⟩ := trodAll_cons hA
  obtain ⟨v1, vs1, d1, ds1, p1, q1, rfl, rfl, rfl, h1, r1⟩ := trodAll_cons r0
  obtain ⟨rfl, rfl, rfl⟩ := trodAll_nil r1
  obtain rfl : args = #[v0, v1] := by cases args; simp_all
  obtain ⟨rfl, rfl⟩ := trodVars_none hV
  have k0 := h0
  have lt0 : ∀ x ∈ p0, x.block < W.heap.size := by obtain ⟨m, hm⟩ := k0; exact DataW.trod_lt m _ _ _ hm
  obtain ⟨a0, len0, cap0, rfl⟩ := okWide_slice Try.underlying27 (hval 0 27 v0 rfl rfl)
  obtain ⟨l0, w0⟩ : ∃ l, Bs (whole W) (.slice a0 len0 cap0) l := by
    obtain ⟨fuel, hf⟩ := h0
    exact rd_bytes_cells Try.underlying27 Try.underlying5 (by kernel_rfl) hf
  have k1 := h1
  have lt1 : ∀ x ∈ p1, x.block < W.heap.size := by obtain ⟨m, hm⟩ := k1; exact DataW.trod_lt m _ _ _ hm
  obtain ⟨a1, len1, cap1, rfl⟩ := okWide_slice Try.underlying27 (hval 1 27 v1 rfl rfl)
  obtain ⟨l1, w1⟩ : ∃ l, Bs (whole W) (.slice a1 len1 cap1) l := by
    obtain ⟨fuel, hf⟩ := h1
    exact rd_bytes_cells Try.underlying27 Try.underlying5 (by kernel_rfl) hf
  clear hA0 hval0
  refine (partOrder_walk W (.slice a0 len0 cap0) l0 w0 (.slice a1 len1 cap1) l1 w1).mono fun e W' ⟨he, bel⟩ => ?_
  subst he
  exact ⟨_, rfl, _, _, _, [], _, [], hW', trodAll_mk1 (shut_bool Try.underlying4 _), (trodAll_cons_mk (Below.trod partOrder_laidOut (by kernel_rfl) (of_decide_eq_true (by kernel_rfl)) k0 bel lt0) (trodAll_cons_mk (Below.trod partOrder_laidOut (by kernel_rfl) (of_decide_eq_true (by kernel_rfl)) k1 bel lt1) trodAll_mk0)), rfl, bel.frame _, fun h => by cases h⟩
set_option maxRecDepth 1000000 in
theorem partOrder_holds : Rows.PartOrderSaid :=
  OpenClaim.holds_of_wide 9 Try.f9 rfl rfl rfl rfl rfl rfl rfl ⟨rfl, rfl, rfl, rfl, rfl⟩ rfl rfl rfl rfl rfl (by as_aux_lemma => kernel_rfl) Try.func9 (joined_mk partOrder_j1 seat_laidOut seat_mapsRowed partOrder_j4 partOrder_j5 partOrder_j6 seat_stops partOrder_j8 seat_stopKnobs partOrder_j10 partOrder_j11 partOrder_j12 partOrder_j13 partOrder_j14 partOrder_j15 partOrder_j16 partOrder_j17 partOrder_j18 partOrder_j19 partOrder_j20 partOrder_j21 partOrder_j22 partOrder_j23 partOrder_j24 seat_stopsHeard seat_mayEnter partOrder_j27 partOrder_j28 partOrder_j29 partOrder_j30 partOrder_j31 partOrder_j32)
    (of_decide_eq_true (by as_aux_lemma => kernel_rfl)) (by unfold Func.isWrapper; first | (rw [if_pos (by decide +kernel)]; kernel_rfl) | (rw [if_neg (by decide +kernel)]; exact ⟨rfl, rfl⟩))
    (fun os started H enc _ => partOrder_lifted os started H enc)
#print axioms partOrder_holds
end Go.Proofs.Yteefnnnbbmbmcaa
