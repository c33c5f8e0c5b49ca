/- The law TxnTwice: for every input the call returns true, and each argument reads behind the call as it read before. -/
import Derived.Test.YtcpngkkconalhaaCTxnTwice
import Derived.Test.YtcpngkkconalhaaBU1
import Derived.Test.YtcpngkkconalhaaBU4
namespace Go.Proofs.Ytcpngkkconalhaa
open Go.ChangeShapes Go.WideShapes Go.ChangeAt Go.RowKit
set_option linter.unusedVariables false
theorem txnTwice_own : ownKnob Try.prog.godebug = none := by kernel_rfl
theorem txnTwice_laidOut : laidOutB Try.prog = true := seat_laidOut
theorem txnTwice_j1 : (Rows.txnTwiceRow.wf (OpenSpec.ofChange Rows.txnTwiceSpec)) = true := by kernel_rfl
theorem txnTwice_j4 : (Try.f17.params.all (Try.pinned.checked.prog.readableRec ·)) = true := by kernel_rfl
theorem txnTwice_j5 : (namedTie Try.pinned.checked.prog Rows.txnTwiceRow.named Rows.txnTwiceSpec.vars) = true := by kernel_rfl
theorem txnTwice_j6 : ((Rows.txnTwiceRow.stops == [])) = true := by kernel_rfl
theorem txnTwice_j8 : ((Rows.txnTwiceRow.knobs == [])) = true := by kernel_rfl
theorem txnTwice_j10 : ((Rows.txnTwiceRow.inPlace == Try.pinned.checked.prog.inPlace 17)) = true := by kernel_rfl
theorem txnTwice_j11 : ((Rows.txnTwiceRow.unfollowed == Try.pinned.checked.prog.unfollowed 17)) = true := by kernel_rfl
theorem txnTwice_j12 : ((Rows.txnTwiceRow.recurses == Try.pinned.checked.prog.recurses 17)) = true := by kernel_rfl
theorem txnTwice_j13 : ((Rows.txnTwiceRow.named == Try.pinned.checked.prog.varsNamed 17)) = true := by kernel_rfl
theorem txnTwice_j14 : ((Rows.txnTwiceRow.maps == (Try.f17.params.toList ++ Rows.txnTwiceSpec.plain.varTypes Try.pinned.checked.prog).any (Try.pinned.checked.prog.mapsRec ·))) = true := by kernel_rfl
theorem txnTwice_j15 : ((Rows.txnTwiceRow.ifaces == (Try.f17.params.toList ++ Rows.txnTwiceSpec.plain.varTypes Try.pinned.checked.prog).any (Try.pinned.checked.prog.ifacesRec ·))) = true := by kernel_rfl
theorem txnTwice_j16 : ((Rows.txnTwiceRow.mapsOut == Try.pinned.checked.prog.mapsAmong Try.f17.resultTypes.toList)) = true := by kernel_rfl
theorem txnTwice_j17 : ((Rows.txnTwiceRow.loops == (Try.f17.params.toList ++ Rows.txnTwiceSpec.plain.varTypes Try.pinned.checked.prog).any (Try.pinned.checked.prog.loopsFrom ·))) = true := by kernel_rfl
theorem txnTwice_j18 : ((Rows.txnTwiceRow.wideKeys == (Try.f17.params.toList ++ Rows.txnTwiceSpec.plain.varTypes Try.pinned.checked.prog ++ Try.f17.resultTypes.toList).any (Try.pinned.checked.prog.wideKeysFrom ·))) = true := by kernel_rfl
theorem txnTwice_j19 : (Rows.txnTwiceSpec.vars.all (Try.pinned.checked.prog.varReadable ·)) = true := by kernel_rfl
theorem txnTwice_j20 : (Try.f17.resultTypes.all (fun t => Try.pinned.checked.prog.readableRec t && decide (t < Try.pinned.checked.prog.types.size))) = true := by kernel_rfl
theorem txnTwice_j21 : ((Rows.txnTwiceRow.ifacesOut == Try.f17.resultTypes.toList.any (Try.pinned.checked.prog.ifacesRec ·))) = true := by kernel_rfl
theorem txnTwice_j22 : ((Rows.txnTwiceRow.loopsOut == Try.f17.resultTypes.toList.any (Try.pinned.checked.prog.loopsFrom ·))) = true := by kernel_rfl
theorem txnTwice_j23 : ((Rows.txnTwiceRow.plainKeys == Try.pinned.checked.prog.plainKeys)) = true := by kernel_rfl
theorem txnTwice_j24 : (Rows.txnTwiceRow.shortTexts.isNone) = true := by kernel_rfl
theorem txnTwice_j27 : (Rows.txnTwiceRow.lifted == Try.pinned.checked.prog.liftsFinal) = true := (congrArg (fun b => Rows.txnTwiceRow.lifted == b) seat_liftsFinal).trans (by kernel_rfl)
theorem txnTwice_j28 : (Try.pinned.checked.prog.make == some Rows.txnTwiceRow.make) = true := (congrArg (fun b => b == some Rows.txnTwiceRow.make) seat_make).trans (by kernel_rfl)
theorem txnTwice_j29 : ((Rows.txnTwiceRow.kinds == (if Rows.txnTwiceRow.domain.isEmpty then [] else Try.f17.params.toList.map fun t => match Try.pinned.checked.prog.underlying t with | some (.int k) => some k | _ => none))) = true := by kernel_rfl
theorem txnTwice_j30 : ((Rows.txnTwiceRow.pinned == Rows.txnTwiceRow.pinnedBy)) = true := by kernel_rfl
theorem txnTwice_j31 : ((Rows.txnTwiceRow.veiled == (Try.f17.params.toList ++ Rows.txnTwiceSpec.plain.varTypes Try.pinned.checked.prog ++ Try.f17.resultTypes.toList).any (Try.pinned.checked.prog.veiledRec ·))) = true := by kernel_rfl
theorem txnTwice_j32 : (Rows.txnTwiceRow.veiledFits Try.pinned.checked.prog Try.f17.params.toList (Try.f17.params.toList ++ Rows.txnTwiceSpec.plain.varTypes Try.pinned.checked.prog ++ Try.f17.resultTypes.toList)) = true := by kernel_rfl
set_option maxRecDepth 100000 in
theorem txnTwice_lifted (os : Os) (started : os.Started) (H : Type) (enc : TypeId × Value → H) :
    ReturnsInHanded {} Try.checked os 17 .any (Rows.txnTwiceSpec.pre6 enc Try.prog Try.f17 Rows.txnTwiceRow.domain false) (Rows.txnTwiceSpec.post enc Try.prog Try.f17 false true false false) := by
  refine returnsInHanded_of_change (C := Try.checked) txnTwice_own started (by kernel_rfl) Try.func17
    (ChangeSpec.witness6 (enc := enc) (C := Try.checked) false ⟨#[], #[.slice none 0 0, .slice none 0 0, .int .i64 0], []⟩ 8 (by kernel_rfl) (by kernel_rfl) (by kernel_rfl) (by kernel_rfl)) ?_
  intro W base args ds gs before hval0 hW hcnd _
  have hval : ∀ (j : Nat) t v, Try.f17.params[j]? = some t → args[j]? = some v → Value.okWide Try.prog W .any base t v := hval0
  have hW' := hW
  obtain ⟨p, q, hA0, hV, rfl, hfz, hnd⟩ := hW
  have hA : DataW.TrodAll enc Try.prog W 0 (fun _ => true) true Try.f17.params.toList args.toList ds p := hA0
  rw [Try.params17] at hA hval
  obtain ⟨v0, vs0, d0, ds0, p0, q0, hargs, rfl, rfl, h0, r0⟩ := trodAll_cons hA
  obtain ⟨v1, vs1, d1, ds1, p1, q1, rfl, rfl, rfl, h1, r1⟩ := trodAll_cons r0
  obtain ⟨v2, vs2, d2, ds2, p2, q2, rfl, rfl, rfl, h2, r2⟩ := trodAll_cons r1
  obtain ⟨rfl, rfl, rfl⟩ := trodAll_nil r2
  obtain rfl : args = #[v0, v1, v2] := by cases args; simp_all
  obtain ⟨rfl, rfl⟩ := trodVars_none hV
  have k0 := h0
  have lt0 : ∀ x ∈ p0, x.block < W.heap.size := by obtain ⟨m, hm⟩ := k0; exact DataW.trod_lt m _ _ _ hm
  obtain ⟨a0, len0, cap0, rfl⟩ := okWide_slice Try.underlying22 (hval 0 22 v0 rfl rfl)
  obtain ⟨l0, w0⟩ : ∃ l, Pls (whole W) (.slice a0 len0 cap0) l := by
    obtain ⟨fuel, hf⟩ := h0
    exact rd_places Try.underlying22 Try.underlying30 (by kernel_rfl) (by kernel_rfl) rfl rfl rfl rfl Try.underlying25 Try.underlying5 (by kernel_rfl) Try.underlying4 hf
  have k1 := h1
  have lt1 : ∀ x ∈ p1, x.block < W.heap.size := by obtain ⟨m, hm⟩ := k1; exact DataW.trod_lt m _ _ _ hm
  obtain ⟨a1, len1, cap1, rfl⟩ := okWide_slice Try.underlying22 (hval 1 22 v1 rfl rfl)
  obtain ⟨l1, w1⟩ : ∃ l, Pls (whole W) (.slice a1 len1 cap1) l := by
    obtain ⟨fuel, hf⟩ := h1
    exact rd_places Try.underlying22 Try.underlying30 (by kernel_rfl) (by kernel_rfl) rfl rfl rfl rfl Try.underlying25 Try.underlying5 (by kernel_rfl) Try.underlying4 hf
  have k2 := h2
  have lt2 : ∀ x ∈ p2, x.block < W.heap.size := by obtain ⟨m, hm⟩ := k2; exact DataW.trod_lt m _ _ _ hm
  obtain ⟨x2, rfl, _, _, wx2⟩ := open_int Try.underlying3 (hval 2 3 v2 rfl rfl) h2
  have b2 := bounds_i64 wx2
  clear hA0 hval0
  refine (txnTwice_walk W (.slice a0 len0 cap0) l0 w0 (.slice a1 len1 cap1) l1 w1 x2 b2.1 b2.2).mono fun e W' ⟨he, bel⟩ => ?_
  subst he
  exact ⟨_, rfl, _, _, _, [], _, [], hW', trodAll_mk1 (shut_bool Try.underlying4 _), (trodAll_cons_mk (Below.trod txnTwice_laidOut (by kernel_rfl) (of_decide_eq_true (by kernel_rfl)) k0 bel lt0) (trodAll_cons_mk (Below.trod txnTwice_laidOut (by kernel_rfl) (of_decide_eq_true (by kernel_rfl)) k1 bel lt1) (trodAll_cons_mk (Below.trod txnTwice_laidOut (by kernel_rfl) (of_decide_eq_true (by kernel_rfl)) k2 bel lt2) trodAll_mk0))), rfl, bel.frame _, fun h => by cases h⟩
set_option maxRecDepth 1000000 in
theorem txnTwice_holds : Rows.TxnTwiceSaid :=
  OpenClaim.holds_of_wide 17 Try.f17 rfl rfl rfl rfl rfl rfl rfl ⟨rfl, rfl, rfl, rfl, rfl⟩ rfl rfl rfl rfl rfl (by as_aux_lemma => kernel_rfl) Try.func17 (joined_mk txnTwice_j1 seat_laidOut seat_mapsRowed txnTwice_j4 txnTwice_j5 txnTwice_j6 seat_stops txnTwice_j8 seat_stopKnobs txnTwice_j10 txnTwice_j11 txnTwice_j12 txnTwice_j13 txnTwice_j14 txnTwice_j15 txnTwice_j16 txnTwice_j17 txnTwice_j18 txnTwice_j19 txnTwice_j20 txnTwice_j21 txnTwice_j22 txnTwice_j23 txnTwice_j24 seat_stopsHeard seat_mayEnter txnTwice_j27 txnTwice_j28 txnTwice_j29 txnTwice_j30 txnTwice_j31 txnTwice_j32)
    (of_decide_eq_true (by as_aux_lemma => kernel_rfl)) (by unfold Func.isWrapper; first | (rw [if_pos (by decide +kernel)]; kernel_rfl) | (rw [if_neg (by decide +kernel)]; exact ⟨rfl, rfl⟩))
    (fun os started H enc _ => txnTwice_lifted os started H enc)
#print axioms txnTwice_holds
end Go.Proofs.Ytcpngkkconalhaa
