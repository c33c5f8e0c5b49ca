/- The law PutGet: for every input the call returns true, and each argument reads behind the call as it read before. -/
import Derived.Test.YteefnnnbbmbmcaaWPutGet
import Derived.Test.YteefnnnbbmbmcaaR
import Derived.Test.YteefnnnbbmbmcaaJ
import Derived.Test.YteefnnnbbmbmcaaR2
namespace Go.Proofs.Yteefnnnbbmbmcaa
open Go.ChangeShapes Go.WideShapes Go.ChangeAt Go.RowKit
set_option linter.unusedVariables false
theorem putGet_own : ownKnob Try.prog.godebug = none := by kernel_rfl
theorem putGet_laidOut : laidOutB Try.prog = true := seat_laidOut
theorem putGet_j1 : (Rows.putGetRow.wf (OpenSpec.ofChange Rows.putGetSpec)) = true := by kernel_rfl
theorem putGet_j4 : (Try.f14.params.all (Try.pinned.checked.prog.readableRec ·)) = true := by kernel_rfl
theorem putGet_j5 : (namedTie Try.pinned.checked.prog Rows.putGetRow.named Rows.putGetSpec.vars) = true := by kernel_rfl
theorem putGet_j6 : ((Rows.putGetRow.stops == [])) = true := by kernel_rfl
theorem putGet_j8 : ((Rows.putGetRow.knobs == [])) = true := by kernel_rfl
theorem putGet_j10 : ((Rows.putGetRow.inPlace == Try.pinned.checked.prog.inPlace 14)) = true := by kernel_rfl
theorem putGet_j11 : ((Rows.putGetRow.unfollowed == Try.pinned.checked.prog.unfollowed 14)) = true := by kernel_rfl
theorem putGet_j12 : ((Rows.putGetRow.recurses == Try.pinned.checked.prog.recurses 14)) = true := by kernel_rfl
theorem putGet_j13 : ((Rows.putGetRow.named == Try.pinned.checked.prog.varsNamed 14)) = true := by kernel_rfl
theorem putGet_j14 : ((Rows.putGetRow.maps == (Try.f14.params.toList ++ Rows.putGetSpec.plain.varTypes Try.pinned.checked.prog).any (Try.pinned.checked.prog.mapsRec ·))) = true := by kernel_rfl
theorem putGet_j15 : ((Rows.putGetRow.ifaces == (Try.f14.params.toList ++ Rows.putGetSpec.plain.varTypes Try.pinned.checked.prog).any (Try.pinned.checked.prog.ifacesRec ·))) = true := by kernel_rfl
theorem putGet_j16 : ((Rows.putGetRow.mapsOut == Try.pinned.checked.prog.mapsAmong Try.f14.resultTypes.toList)) = true := by kernel_rfl
theorem putGet_j17 : ((Rows.putGetRow.loops == (Try.f14.params.toList ++ Rows.putGetSpec.plain.varTypes Try.pinned.checked.prog).any (Try.pinned.checked.prog.loopsFrom ·))) = true := by kernel_rfl
theorem putGet_j18 : ((Rows.putGetRow.wideKeys == (Try.f14.params.toList ++ Rows.putGetSpec.plain.varTypes Try.pinned.checked.prog ++ Try.f14.resultTypes.toList).any (Try.pinned.checked.prog.wideKeysFrom ·))) = true := by kernel_rfl
theorem putGet_j19 : (Rows.putGetSpec.vars.all (Try.pinned.checked.prog.varReadable ·)) = true := by kernel_rfl
theorem putGet_j20 : (Try.f14.resultTypes.all (fun t => Try.pinned.checked.prog.readableRec t && decide (t < Try.pinned.checked.prog.types.size))) = true := by kernel_rfl
theorem putGet_j21 : ((Rows.putGetRow.ifacesOut == Try.f14.resultTypes.toList.any (Try.pinned.checked.prog.ifacesRec ·))) = true := by kernel_rfl
theorem putGet_j22 : ((Rows.putGetRow.loopsOut == Try.f14.resultTypes.toList.any (Try.pinned.checked.prog.loopsFrom ·))) = true := by kernel_rfl
theorem putGet_j23 : ((Rows.putGetRow.plainKeys == Try.pinned.checked.prog.plainKeys)) = true := by kernel_rfl
theorem putGet_j24 : (Rows.putGetRow.shortTexts.isNone) = true := by kernel_rfl
theorem putGet_j27 : (Rows.putGetRow.lifted == Try.pinned.checked.prog.liftsFinal) = true := (congrArg (fun b => Rows.putGetRow.lifted == b) seat_liftsFinal).trans (by kernel_rfl)
theorem putGet_j28 : (Try.pinned.checked.prog.make == some Rows.putGetRow.make) = true := (congrArg (fun b => b == some Rows.putGetRow.make) seat_make).trans (by kernel_rfl)
theorem putGet_j29 : ((Rows.putGetRow.kinds == (if Rows.putGetRow.domain.isEmpty then [] else Try.f14.params.toList.map fun t => match Try.pinned.checked.prog.underlying t with | some (.int k) => some k | _ => none))) = true := by kernel_rfl
theorem putGet_j30 : ((Rows.putGetRow.pinned == Rows.putGetRow.pinnedBy)) = true := by kernel_rfl
theorem putGet_j31 : ((Rows.putGetRow.veiled == (Try.f14.params.toList ++ Rows.putGetSpec.plain.varTypes Try.pinned.checked.prog ++ Try.f14.resultTypes.toList).any (Try.pinned.checked.prog.veiledRec ·))) = true := by kernel_rfl
theorem putGet_j32 : (Rows.putGetRow.veiledFits Try.pinned.checked.prog Try.f14.params.toList (Try.f14.params.toList ++ Rows.putGetSpec.plain.varTypes Try.pinned.checked.prog ++ Try.f14.resultTypes.toList)) = true := by kernel_rfl
set_option maxRecDepth 100000 in
theorem putGet_lifted (os : Os) (started : os.Started) (H : Type) (enc : TypeId × Value → H) :
    ReturnsInHanded {} Try.checked os 14 .any (Rows.putGetSpec.pre6 enc Try.prog Try.f14 Rows.putGetRow.domain false) (Rows.putGetSpec.post enc Try.prog Try.f14 false true false false) := by
  refine returnsInHanded_of_change (C := Try.checked) putGet_own started (by kernel_rfl) Try.func14
    (ChangeSpec.witness6 (enc := enc) (C := Try.checked) false ⟨#[], #[.slice none 0 0, .slice none 0 0, .slice none 0 0, .slice none 0 0], []⟩ 8 (by kernel_rfl) (by kernel_rfl) (by kernel_rfl) (by kernel_rfl)) ?_
  intro W base args ds gs before hval0 hW hcnd _
  have hval : ∀ (j : Nat) t v, Try.f14.params[j]? = some t → args[j]? = some v → Value.okWide Try.prog W .any base t v := hval0
  have hW' := hW
  obtain ⟨p, q, hA0, hV, rfl, hfz, hnd⟩ := hW
  have hA : DataW.TrodAll enc Try.prog W 0 (fun _ => true) true Try.f14.params.toList args.toList ds p := hA0
  rw [Try.params14] at hA hval
  obtain ⟨v0, vs0, d0, ds0, p0, q0, hargs, rfl, rfl, h0, r0⟩ := trodAll_cons hA
  obtain ⟨v1, vs1, d1, ds1, p1, q1, rfl, rfl, rfl, h1, r1⟩ := trodAll_cons r0
  obtain ⟨v2, vs2, d2, ds2, p2, q2, rfl, rfl, rfl, h2, r2⟩ := trodAll_cons r1
  obtain ⟨v3, vs3, d3, ds3, p3, q3, rfl, rfl, rfl, h3, r3⟩ := trodAll_cons r2
  obtain ⟨rfl, rfl, rfl⟩ := trodAll_nil r3
  obtain rfl : args = #[v0, v1, v2, v3] := by cases args; simp_all
  obtain ⟨rfl, rfl⟩ := trodVars_none hV
  have k0 := h0
  have lt0 : ∀ x ∈ p0, x.block < W.heap.size := by obtain ⟨m, hm⟩ := k0; exact DataW.trod_lt m _ _ _ hm
  obtain ⟨a0, len0, cap0, rfl⟩ := okWide_slice Try.underlying43 (hval 0 43 v0 rfl rfl)
  obtain ⟨l0, w0⟩ : ∃ l, Prs (whole W) (.slice a0 len0 cap0) l := by
    obtain ⟨fuel, hf⟩ := h0
    exact rd_items Try.underlying43 Try.underlying57 (by kernel_rfl) (by kernel_rfl) rfl rfl Try.underlying27 Try.underlying5 (by kernel_rfl) hf
  have k1 := h1
  have lt1 : ∀ x ∈ p1, x.block < W.heap.size := by obtain ⟨m, hm⟩ := k1; exact DataW.trod_lt m _ _ _ hm
  obtain ⟨a1, len1, cap1, rfl⟩ := okWide_slice Try.underlying27 (hval 1 27 v1 rfl rfl)
  obtain ⟨l1, w1⟩ : ∃ l, Bs (whole W) (.slice a1 len1 cap1) l := by
    obtain ⟨fuel, hf⟩ := h1
    exact rd_bytes_cells Try.underlying27 Try.underlying5 (by kernel_rfl) hf
  have k2 := h2
  have lt2 : ∀ x ∈ p2, x.block < W.heap.size := by obtain ⟨m, hm⟩ := k2; exact DataW.trod_lt m _ _ _ hm
  obtain ⟨a2, len2, cap2, rfl⟩ := okWide_slice Try.underlying27 (hval 2 27 v2 rfl rfl)
  obtain ⟨l2, w2⟩ : ∃ l, Bs (whole W) (.slice a2 len2 cap2) l := by
    obtain ⟨fuel, hf⟩ := h2
    exact rd_bytes_cells Try.underlying27 Try.underlying5 (by kernel_rfl) hf
  have k3 := h3
  have lt3 : ∀ x ∈ p3, x.block < W.heap.size := by obtain ⟨m, hm⟩ := k3; exact DataW.trod_lt m _ _ _ hm
  obtain ⟨a3, len3, cap3, rfl⟩ := okWide_slice Try.underlying27 (hval 3 27 v3 rfl rfl)
  obtain ⟨l3, w3⟩ : ∃ l, Bs (whole W) (.slice a3 len3 cap3) l := by
    obtain ⟨fuel, hf⟩ := h3
    exact rd_bytes_cells Try.underlying27 Try.underlying5 (by kernel_rfl) hf
  clear hA0 hval0
  refine (putGet_walk W (.slice a0 len0 cap0) l0 w0 (.slice a1 len1 cap1) l1 w1 (.slice a2 len2 cap2) l2 w2 (.slice a3 len3 cap3) l3 w3).mono fun e W' ⟨he, bel⟩ => ?_
  subst he
  exact ⟨_, rfl, _, _, _, [], _, [], hW', trodAll_mk1 (shut_bool Try.underlying4 _), (trodAll_cons_mk (Below.trod putGet_laidOut (by kernel_rfl) (of_decide_eq_true (by kernel_rfl)) k0 bel lt0) (trodAll_cons_mk (Below.trod putGet_laidOut (by kernel_rfl) (of_decide_eq_true (by kernel_rfl)) k1 bel lt1) (trodAll_cons_mk (Below.trod putGet_laidOut (by kernel_rfl) (of_decide_eq_true (by kernel_rfl)) k2 bel lt2) (trodAll_cons_mk (Below.trod putGet_laidOut (by kernel_rfl) (of_decide_eq_true (by kernel_rfl)) k3 bel lt3) trodAll_mk0)))), rfl, bel.frame _, fun h => by cases h⟩
set_option maxRecDepth 1000000 in
theorem putGet_holds : Rows.PutGetSaid :=
  OpenClaim.holds_of_wide 14 Try.f14 rfl rfl rfl rfl rfl rfl rfl ⟨rfl, rfl, rfl, rfl, rfl⟩ rfl rfl rfl rfl rfl (by as_aux_lemma => kernel_rfl) Try.func14 (joined_mk putGet_j1 seat_laidOut seat_mapsRowed putGet_j4 putGet_j5 putGet_j6 seat_stops putGet_j8 seat_stopKnobs putGet_j10 putGet_j11 putGet_j12 putGet_j13 putGet_j14 putGet_j15 putGet_j16 putGet_j17 putGet_j18 putGet_j19 putGet_j20 putGet_j21 putGet_j22 putGet_j23 putGet_j24 seat_stopsHeard seat_mayEnter putGet_j27 putGet_j28 putGet_j29 putGet_j30 putGet_j31 putGet_j32)
    (of_decide_eq_true (by as_aux_lemma => kernel_rfl)) (by unfold Func.isWrapper; first | (rw [if_pos (by decide +kernel)]; kernel_rfl) | (rw [if_neg (by decide +kernel)]; exact ⟨rfl, rfl⟩))
    (fun os started H enc _ => putGet_lifted os started H enc)
#print axioms putGet_holds
end Go.Proofs.Yteefnnnbbmbmcaa
