/- The law BitsTell: for every input the call returns true, and each argument reads behind the call as it read before. -/
import Derived.Test.YteefnnnbbmbmcaaC3
import Derived.Test.YteefnnnbbmbmcaaR
import Derived.Test.YteefnnnbbmbmcaaJ
namespace Go.Proofs.Yteefnnnbbmbmcaa
open Go.ChangeShapes Go.WideShapes Go.ChangeAt Go.RowKit
set_option linter.unusedVariables false
theorem bitsTell_own : ownKnob Try.prog.godebug = none := by kernel_rfl
theorem bitsTell_laidOut : laidOutB Try.prog = true := seat_laidOut
theorem bitsTell_j1 : (Rows.bitsTellRow.wf (OpenSpec.ofChange Rows.bitsTellSpec)) = true := by kernel_rfl
theorem bitsTell_j4 : (Try.f6.params.all (Try.pinned.checked.prog.readableRec ·)) = true := by kernel_rfl
theorem bitsTell_j5 : (namedTie Try.pinned.checked.prog Rows.bitsTellRow.named Rows.bitsTellSpec.vars) = true := by kernel_rfl
theorem bitsTell_j6 : ((Rows.bitsTellRow.stops == [])) = true := by kernel_rfl
theorem bitsTell_j8 : ((Rows.bitsTellRow.knobs == [])) = true := by kernel_rfl
theorem bitsTell_j10 : ((Rows.bitsTellRow.inPlace == Try.pinned.checked.prog.inPlace 6)) = true := by kernel_rfl
theorem bitsTell_j11 : ((Rows.bitsTellRow.unfollowed == Try.pinned.checked.prog.unfollowed 6)) = true := by kernel_rfl
theorem bitsTell_j12 : ((Rows.bitsTellRow.recurses == Try.pinned.checked.prog.recurses 6)) = true := by kernel_rfl
theorem bitsTell_j13 : ((Rows.bitsTellRow.named == Try.pinned.checked.prog.varsNamed 6)) = true := by kernel_rfl
theorem bitsTell_j14 : ((Rows.bitsTellRow.maps == (Try.f6.params.toList ++ Rows.bitsTellSpec.plain.varTypes Try.pinned.checked.prog).any (Try.pinned.checked.prog.mapsRec ·))) = true := by kernel_rfl
theorem bitsTell_j15 : ((Rows.bitsTellRow.ifaces == (Try.f6.params.toList ++ Rows.bitsTellSpec.plain.varTypes Try.pinned.checked.prog).any (Try.pinned.checked.prog.ifacesRec ·))) = true := by kernel_rfl
theorem bitsTell_j16 : ((Rows.bitsTellRow.mapsOut == Try.pinned.checked.prog.mapsAmong Try.f6.resultTypes.toList)) = true := by kernel_rfl
theorem bitsTell_j17 : ((Rows.bitsTellRow.loops == (Try.f6.params.toList ++ Rows.bitsTellSpec.plain.varTypes Try.pinned.checked.prog).any (Try.pinned.checked.prog.loopsFrom ·))) = true := by kernel_rfl
theorem bitsTell_j18 : ((Rows.bitsTellRow.wideKeys == (Try.f6.params.toList ++ Rows.bitsTellSpec.plain.varTypes Try.pinned.checked.prog ++ Try.f6.resultTypes.toList).any (Try.pinned.checked.prog.wideKeysFrom ·))) = true := by kernel_rfl
theorem bitsTell_j19 : (Rows.bitsTellSpec.vars.all (Try.pinned.checked.prog.varReadable ·)) = true := by kernel_rfl
theorem bitsTell_j20 : (Try.f6.resultTypes.all (fun t => Try.pinned.checked.prog.readableRec t && decide (t < Try.pinned.checked.prog.types.size))) = true := by kernel_rfl
theorem bitsTell_j21 : ((Rows.bitsTellRow.ifacesOut == Try.f6.resultTypes.toList.any (Try.pinned.checked.prog.ifacesRec ·))) = true := by kernel_rfl
theorem bitsTell_j22 : ((Rows.bitsTellRow.loopsOut == Try.f6.resultTypes.toList.any (Try.pinned.checked.prog.loopsFrom ·))) = true := by kernel_rfl
theorem bitsTell_j23 : ((Rows.bitsTellRow.plainKeys == Try.pinned.checked.prog.plainKeys)) = true := by kernel_rfl
theorem bitsTell_j24 : (Rows.bitsTellRow.shortTexts.isNone) = true := by kernel_rfl
theorem bitsTell_j27 : (Rows.bitsTellRow.lifted == Try.pinned.checked.prog.liftsFinal) = true := (congrArg (fun b => Rows.bitsTellRow.lifted == b) seat_liftsFinal).trans (by kernel_rfl)
theorem bitsTell_j28 : (Try.pinned.checked.prog.make == some Rows.bitsTellRow.make) = true := (congrArg (fun b => b == some Rows.bitsTellRow.make) seat_make).trans (by kernel_rfl)
theorem bitsTell_j29 : ((Rows.bitsTellRow.kinds == (if Rows.bitsTellRow.domain.isEmpty then [] else Try.f6.params.toList.map fun t => match Try.pinned.checked.prog.underlying t with | some (.int k) => some k | _ => none))) = true := by kernel_rfl
theorem bitsTell_j30 : ((Rows.bitsTellRow.pinned == Rows.bitsTellRow.pinnedBy)) = true := by kernel_rfl
theorem bitsTell_j31 : ((Rows.bitsTellRow.veiled == (Try.f6.params.toList ++ Rows.bitsTellSpec.plain.varTypes Try.pinned.checked.prog ++ Try.f6.resultTypes.toList).any (Try.pinned.checked.prog.veiledRec ·))) = true := by kernel_rfl
theorem bitsTell_j32 : (Rows.bitsTellRow.veiledFits Try.pinned.checked.prog Try.f6.params.toList (Try.f6.params.toList ++ Rows.bitsTellSpec.plain.varTypes Try.pinned.checked.prog ++ Try.f6.resultTypes.toList)) = true := by kernel_rfl
set_option maxRecDepth 100000 in
theorem bitsTell_lifted (os : Os) (started : os.Started) (H : Type) (enc : TypeId × Value → H) :
    ReturnsInHanded {} Try.checked os 6 .any (Rows.bitsTellSpec.pre6 enc Try.prog Try.f6 Rows.bitsTellRow.domain false) (Rows.bitsTellSpec.post enc Try.prog Try.f6 false true false false) := by
  refine returnsInHanded_of_change (C := Try.checked) bitsTell_own started (by kernel_rfl) Try.func6
    (ChangeSpec.witness6 (enc := enc) (C := Try.checked) false ⟨#[], #[.slice none 0 0], []⟩ 8 (by kernel_rfl) (by kernel_rfl) (by kernel_rfl) (by kernel_rfl)) ?_
  intro W base args ds gs before hval0 hW hcnd _
  have hval : ∀ (j : Nat) t v, Try.f6.params[j]? = some t → args[j]? = some v → Value.okWide Try.prog W .any base t v := hval0
  have hW' := hW
  obtain ⟨p, q, hA0, hV, rfl, hfz, hnd⟩ := hW
  have hA : DataW.TrodAll enc Try.prog W 0 (fun _ => true) true Try.f6.params.toList args.toList ds p := hA0
  rw [Try.params6] at hA hval
  obtain ⟨v0, vs0, d0, ds0, p0, q0, hargs, rfl, rfl, h0, r0⟩ := trodAll_cons hA
  obtain ⟨rfl, rfl, rfl⟩ := trodAll_nil r0
  obtain rfl : args = #[v0] := by cases args; simp_all
  obtain ⟨rfl, rfl⟩ := trodVars_none hV
  have k0 := h0
  have lt0 : ∀ x ∈ p0, x.block < W.heap.size := by obtain ⟨m, hm⟩ := k0; exact DataW.trod_lt m _ _ _ hm
  obtain ⟨a0, len0, cap0, rfl⟩ := okWide_slice Try.underlying27 (hval 0 27 v0 rfl rfl)
  obtain ⟨l0, w0⟩ : ∃ l, Bs (whole W) (.slice a0 len0 cap0) l := by
    obtain ⟨fuel, hf⟩ := h0
    exact rd_bytes_cells Try.underlying27 Try.underlying5 (by kernel_rfl) hf
  clear hA0 hval0
  refine (bitsTell_walk W (.slice a0 len0 cap0) l0 w0).mono fun e W' ⟨he, bel⟩ => ?_
  subst he
  exact ⟨_, rfl, _, _, _, [], _, [], hW', trodAll_mk1 (shut_bool Try.underlying4 _), (trodAll_cons_mk (Below.trod bitsTell_laidOut (by kernel_rfl) (of_decide_eq_true (by kernel_rfl)) k0 bel lt0) trodAll_mk0), rfl, bel.frame _, fun h => by cases h⟩
set_option maxRecDepth 1000000 in
theorem bitsTell_holds : Rows.BitsTellSaid :=
  OpenClaim.holds_of_wide 6 Try.f6 rfl rfl rfl rfl rfl rfl rfl ⟨rfl, rfl, rfl, rfl, rfl⟩ rfl rfl rfl rfl rfl (by as_aux_lemma => kernel_rfl) Try.func6 (joined_mk bitsTell_j1 seat_laidOut seat_mapsRowed bitsTell_j4 bitsTell_j5 bitsTell_j6 seat_stops bitsTell_j8 seat_stopKnobs bitsTell_j10 bitsTell_j11 bitsTell_j12 bitsTell_j13 bitsTell_j14 bitsTell_j15 bitsTell_j16 bitsTell_j17 bitsTell_j18 bitsTell_j19 bitsTell_j20 bitsTell_j21 bitsTell_j22 bitsTell_j23 bitsTell_j24 seat_stopsHeard seat_mayEnter bitsTell_j27 bitsTell_j28 bitsTell_j29 bitsTell_j30 bitsTell_j31 bitsTell_j32)
    (of_decide_eq_true (by as_aux_lemma => kernel_rfl)) (by unfold Func.isWrapper; first | (rw [if_pos (by decide +kernel)]; kernel_rfl) | (rw [if_neg (by decide +kernel)]; exact ⟨rfl, rfl⟩))
    (fun os started H enc _ => bitsTell_lifted os started H enc)
#print axioms bitsTell_holds
end Go.Proofs.Yteefnnnbbmbmcaa
