/- The law ClashSeen: for every input the call returns true, and each argument reads behind the call as it read before. -/
import Derived.Test.YtcpngkkconalhaaCClashSeen
import Derived.Test.YtcpngkkconalhaaV1
import Derived.Test.YtcpngkkconalhaaV4
namespace Go.Proofs.Ytcpngkkconalhaa
open Go.ChangeShapes Go.WideShapes Go.ChangeAt Go.RowKit
set_option linter.unusedVariables false
theorem clashSeen_own : ownKnob Try.prog.godebug = none := by kernel_rfl
theorem clashSeen_laidOut : laidOutB Try.prog = true := seat_laidOut
theorem clashSeen_j1 : (Rows.clashSeenRow.wf (OpenSpec.ofChange Rows.clashSeenSpec)) = true := by kernel_rfl
theorem clashSeen_j4 : (Try.f18.params.all (Try.pinned.checked.prog.readableRec ·)) = true := by kernel_rfl
theorem clashSeen_j5 : (namedTie Try.pinned.checked.prog Rows.clashSeenRow.named Rows.clashSeenSpec.vars) = true := by kernel_rfl
theorem clashSeen_j6 : ((Rows.clashSeenRow.stops == [])) = true := by kernel_rfl
theorem clashSeen_j8 : ((Rows.clashSeenRow.knobs == [])) = true := by kernel_rfl
theorem clashSeen_j10 : ((Rows.clashSeenRow.inPlace == Try.pinned.checked.prog.inPlace 18)) = true := by kernel_rfl
theorem clashSeen_j11 : ((Rows.clashSeenRow.unfollowed == Try.pinned.checked.prog.unfollowed 18)) = true := by kernel_rfl
theorem clashSeen_j12 : ((Rows.clashSeenRow.recurses == Try.pinned.checked.prog.recurses 18)) = true := by kernel_rfl
theorem clashSeen_j13 : ((Rows.clashSeenRow.named == Try.pinned.checked.prog.varsNamed 18)) = true := by kernel_rfl
theorem clashSeen_j14 : ((Rows.clashSeenRow.maps == (Try.f18.params.toList ++ Rows.clashSeenSpec.plain.varTypes Try.pinned.checked.prog).any (Try.pinned.checked.prog.mapsRec ·))) = true := by kernel_rfl
theorem clashSeen_j15 : ((Rows.clashSeenRow.ifaces == (Try.f18.params.toList ++ Rows.clashSeenSpec.plain.varTypes Try.pinned.checked.prog).any (Try.pinned.checked.prog.ifacesRec ·))) = true := by kernel_rfl
theorem clashSeen_j16 : ((Rows.clashSeenRow.mapsOut == Try.pinned.checked.prog.mapsAmong Try.f18.resultTypes.toList)) = true := by kernel_rfl
theorem clashSeen_j17 : ((Rows.clashSeenRow.loops == (Try.f18.params.toList ++ Rows.clashSeenSpec.plain.varTypes Try.pinned.checked.prog).any (Try.pinned.checked.prog.loopsFrom ·))) = true := by kernel_rfl
theorem clashSeen_j18 : ((Rows.clashSeenRow.wideKeys == (Try.f18.params.toList ++ Rows.clashSeenSpec.plain.varTypes Try.pinned.checked.prog ++ Try.f18.resultTypes.toList).any (Try.pinned.checked.prog.wideKeysFrom ·))) = true := by kernel_rfl
theorem clashSeen_j19 : (Rows.clashSeenSpec.vars.all (Try.pinned.checked.prog.varReadable ·)) = true := by kernel_rfl
theorem clashSeen_j20 : (Try.f18.resultTypes.all (fun t => Try.pinned.checked.prog.readableRec t && decide (t < Try.pinned.checked.prog.types.size))) = true := by kernel_rfl
theorem clashSeen_j21 : ((Rows.clashSeenRow.ifacesOut == Try.f18.resultTypes.toList.any (Try.pinned.checked.prog.ifacesRec ·))) = true := by kernel_rfl
theorem clashSeen_j22 : ((Rows.clashSeenRow.loopsOut == Try.f18.resultTypes.toList.any (Try.pinned.checked.prog.loopsFrom ·))) = true := by kernel_rfl
theorem clashSeen_j23 : ((Rows.clashSeenRow.plainKeys == Try.pinned.checked.prog.plainKeys)) = true := by kernel_rfl
theorem clashSeen_j24 : (Rows.clashSeenRow.shortTexts.isNone) = true := by kernel_rfl
theorem clashSeen_j27 : (Rows.clashSeenRow.lifted == Try.pinned.checked.prog.liftsFinal) = true := (congrArg (fun b => Rows.clashSeenRow.lifted == b) seat_liftsFinal).trans (by kernel_rfl)
theorem clashSeen_j28 : (Try.pinned.checked.prog.make == some Rows.clashSeenRow.make) = true := (congrArg (fun b => b == some Rows.clashSeenRow.make) seat_make).trans (by kernel_rfl)
theorem clashSeen_j29 : ((Rows.clashSeenRow.kinds == (if Rows.clashSeenRow.domain.isEmpty then [] else Try.f18.params.toList.map fun t => match Try.pinned.checked.prog.underlying t with | some (.int k) => some k | _ => none))) = true := by kernel_rfl
theorem clashSeen_j30 : ((Rows.clashSeenRow.pinned == Rows.clashSeenRow.pinnedBy)) = true := by kernel_rfl
theorem clashSeen_j31 : ((Rows.clashSeenRow.veiled == (Try.f18.params.toList ++ Rows.clashSeenSpec.plain.varTypes Try.pinned.checked.prog ++ Try.f18.resultTypes.toList).any (Try.pinned.checked.prog.veiledRec ·))) = true := by kernel_rfl
theorem clashSeen_j32 : (Rows.clashSeenRow.veiledFits Try.pinned.checked.prog Try.f18.params.toList (Try.f18.params.toList ++ Rows.clashSeenSpec.plain.varTypes Try.pinned.checked.prog ++ Try.f18.resultTypes.toList)) = true := by kernel_rfl
set_option maxRecDepth 100000 in
theorem clashSeen_lifted (os : Os) (started : os.Started) (H : Type) (enc : TypeId × Value → H) :
    ReturnsInHanded {} Try.checked os 18 .any (Rows.clashSeenSpec.pre6 enc Try.prog Try.f18 Rows.clashSeenRow.domain false) (Rows.clashSeenSpec.post enc Try.prog Try.f18 false true false false) := by
  refine returnsInHanded_of_change (C := Try.checked) clashSeen_own started (by kernel_rfl) Try.func18
    (ChangeSpec.witness6 (enc := enc) (C := Try.checked) false ⟨#[], #[.slice none 0 0, .slice none 0 0, .int .i64 0], []⟩ 8 (by kernel_rfl) (by kernel_rfl) (by kernel_rfl) (by kernel_rfl)) ?_
  intro W base args ds gs before hval0 hW hcnd _
  have hval : ∀ (j : Nat) t v, Try.f18.params[j]? = some t → args[j]? = some v → Value.okWide Try.prog W .any base t v := hval0
  have hW' := hW
  obtain ⟨p, q, hA0, hV, rfl, hfz, hnd⟩ := hW
  have hA : DataW.TrodAll enc Try.prog W 0 (fun _ => true) true Try.f18.params.toList args.toList ds p := hA0
  rw [Try.params18] at hA hval
  obtain ⟨v0, vs0, d0, ds0, p0, q0, hargs, rfl, rfl, h0, r0⟩ := trodAll_cons hA
  obtain ⟨v1, vs1, d1, ds1, p1, q1, rfl, rfl, rfl, h1, r1⟩ := trodAll_cons r0
  obtain ⟨v2, vs2, d2, ds2, p2, q2, rfl, rfl, rfl, h2, r2⟩ := trodAll_cons r1
  obtain ⟨rfl, rfl, rfl⟩ := trodAll_nil r2
  obtain rfl : args = #[v0, v1, v2] := by cases args; simp_all
  obtain ⟨rfl, rfl⟩ := trodVars_none hV
  have k0 := h0
  have lt0 : ∀ x ∈ p0, x.block < W.heap.size := by obtain ⟨m, hm⟩ := k0; exact DataW.trod_lt m _ _ _ hm
  obtain ⟨a0, len0, cap0, rfl⟩ := okWide_slice Try.underlying22 (hval 0 22 v0 rfl rfl)
  obtain ⟨l0, w0⟩ : ∃ l, Pls (whole W) (.slice a0 len0 cap0) l := by
    obtain ⟨fuel, hf⟩ := h0
    exact rd_places Try.underlying22 Try.underlying30 (by kernel_rfl) (by kernel_rfl) rfl rfl rfl rfl Try.underlying25 Try.underlying5 (by kernel_rfl) Try.underlying4 hf
  have k1 := h1
  have lt1 : ∀ x ∈ p1, x.block < W.heap.size := by obtain ⟨m, hm⟩ := k1; exact DataW.trod_lt m _ _ _ hm
  obtain ⟨a1, len1, cap1, rfl⟩ := okWide_slice Try.underlying22 (hval 1 22 v1 rfl rfl)
  obtain ⟨l1, w1⟩ : ∃ l, Pls (whole W) (.slice a1 len1 cap1) l := by
    obtain ⟨fuel, hf⟩ := h1
    exact rd_places Try.underlying22 Try.underlying30 (by kernel_rfl) (by kernel_rfl) rfl rfl rfl rfl Try.underlying25 Try.underlying5 (by kernel_rfl) Try.underlying4 hf
  have k2 := h2
  have lt2 : ∀ x ∈ p2, x.block < W.heap.size := by obtain ⟨m, hm⟩ := k2; exact DataW.trod_lt m _ _ _ hm
  obtain ⟨x2, rfl, _, _, wx2⟩ := open_int Try.underlying3 (hval 2 3 v2 rfl rfl) h2
  have b2 := bounds_i64 wx2
  clear hA0 hval0
  refine (clashSeen_walk W (.slice a0 len0 cap0) l0 w0 (.slice a1 len1 cap1) l1 w1 x2 b2.1 b2.2).mono fun e W' ⟨he, bel⟩ => ?_
  subst he
  exact ⟨_, rfl, _, _, _, [], _, [], hW', trodAll_mk1 (shut_bool Try.underlying4 _), (trodAll_cons_mk (Below.trod clashSeen_laidOut (by kernel_rfl) (of_decide_eq_true (by kernel_rfl)) k0 bel lt0) (trodAll_cons_mk (Below.trod clashSeen_laidOut (by kernel_rfl) (of_decide_eq_true (by kernel_rfl)) k1 bel lt1) (trodAll_cons_mk (Below.trod clashSeen_laidOut (by kernel_rfl) (of_decide_eq_true (by kernel_rfl)) k2 bel lt2) trodAll_mk0))), rfl, bel.frame _, fun h => by cases h⟩
set_option maxRecDepth 1000000 in
theorem clashSeen_holds : Rows.ClashSeenSaid :=
  OpenClaim.holds_of_wide 18 Try.f18 rfl rfl rfl rfl rfl rfl rfl ⟨rfl, rfl, rfl, rfl, rfl⟩ rfl rfl rfl rfl rfl (by as_aux_lemma => kernel_rfl) Try.func18 (joined_mk clashSeen_j1 seat_laidOut seat_mapsRowed clashSeen_j4 clashSeen_j5 clashSeen_j6 seat_stops clashSeen_j8 seat_stopKnobs clashSeen_j10 clashSeen_j11 clashSeen_j12 clashSeen_j13 clashSeen_j14 clashSeen_j15 clashSeen_j16 clashSeen_j17 clashSeen_j18 clashSeen_j19 clashSeen_j20 clashSeen_j21 clashSeen_j22 clashSeen_j23 clashSeen_j24 seat_stopsHeard seat_mayEnter clashSeen_j27 clashSeen_j28 clashSeen_j29 clashSeen_j30 clashSeen_j31 clashSeen_j32)
    (of_decide_eq_true (by as_aux_lemma => kernel_rfl)) (by unfold Func.isWrapper; first | (rw [if_pos (by decide +kernel)]; kernel_rfl) | (rw [if_neg (by decide +kernel)]; exact ⟨rfl, rfl⟩))
    (fun os started H enc _ => clashSeen_lifted os started H enc)
#print axioms clashSeen_holds
end Go.Proofs.Ytcpngkkconalhaa
