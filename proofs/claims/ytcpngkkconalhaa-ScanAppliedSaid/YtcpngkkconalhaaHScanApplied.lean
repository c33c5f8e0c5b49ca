/- The law ScanApplied: for every input the call returns true, and each argument reads behind the call as it read before. -/
import Derived.Test.YtcpngkkconalhaaCScanApplied
import Derived.Test.YtcpngkkconalhaaZ1
import Derived.Test.YtcpngkkconalhaaZ4
import Derived.Lib.SmallJoins
namespace Go.Proofs.Ytcpngkkconalhaa
open Go.ChangeShapes Go.WideShapes Go.ChangeAt Go.RowKit
set_option linter.unusedVariables false
theorem scanApplied_own : ownKnob Try.prog.godebug = none := by kernel_rfl
theorem scanApplied_laidOut : laidOutB Try.prog = true := seat_laidOut
theorem scanApplied_j1 : (Rows.scanAppliedRow.wf (OpenSpec.ofChange Rows.scanAppliedSpec)) = true := by kernel_rfl
theorem scanApplied_j4 : (Try.f16.params.all (Try.pinned.checked.prog.readableRec ·)) = true := by kernel_rfl
theorem scanApplied_j5 : (namedTie Try.pinned.checked.prog Rows.scanAppliedRow.named Rows.scanAppliedSpec.vars) = true := by kernel_rfl
theorem scanApplied_j6 : ((Rows.scanAppliedRow.stops == [])) = true := by kernel_rfl
theorem scanApplied_j8 : ((Rows.scanAppliedRow.knobs == [])) = true := by kernel_rfl
theorem scanApplied_j10 : ((Rows.scanAppliedRow.inPlace == Try.pinned.checked.prog.inPlace 16)) = true := by kernel_rfl
theorem scanApplied_j11 : ((Rows.scanAppliedRow.unfollowed == Try.pinned.checked.prog.unfollowed 16)) = true := by kernel_rfl
theorem scanApplied_j12 : ((Rows.scanAppliedRow.recurses == Try.pinned.checked.prog.recurses 16)) = true := by kernel_rfl
theorem scanApplied_j13 : ((Rows.scanAppliedRow.named == Try.pinned.checked.prog.varsNamed 16)) = true := by kernel_rfl
theorem scanApplied_j14 : ((Rows.scanAppliedRow.maps == (Try.f16.params.toList ++ Rows.scanAppliedSpec.plain.varTypes Try.pinned.checked.prog).any (Try.pinned.checked.prog.mapsRec ·))) = true := by kernel_rfl
theorem scanApplied_j15 : ((Rows.scanAppliedRow.ifaces == (Try.f16.params.toList ++ Rows.scanAppliedSpec.plain.varTypes Try.pinned.checked.prog).any (Try.pinned.checked.prog.ifacesRec ·))) = true := by kernel_rfl
theorem scanApplied_j16 : ((Rows.scanAppliedRow.mapsOut == Try.pinned.checked.prog.mapsAmong Try.f16.resultTypes.toList)) = true := by kernel_rfl
theorem scanApplied_j17 : ((Rows.scanAppliedRow.loops == (Try.f16.params.toList ++ Rows.scanAppliedSpec.plain.varTypes Try.pinned.checked.prog).any (Try.pinned.checked.prog.loopsFrom ·))) = true := by kernel_rfl
theorem scanApplied_j18 : ((Rows.scanAppliedRow.wideKeys == (Try.f16.params.toList ++ Rows.scanAppliedSpec.plain.varTypes Try.pinned.checked.prog ++ Try.f16.resultTypes.toList).any (Try.pinned.checked.prog.wideKeysFrom ·))) = true := by kernel_rfl
theorem scanApplied_j19 : (Rows.scanAppliedSpec.vars.all (Try.pinned.checked.prog.varReadable ·)) = true := by kernel_rfl
theorem scanApplied_j20 : (Try.f16.resultTypes.all (fun t => Try.pinned.checked.prog.readableRec t && decide (t < Try.pinned.checked.prog.types.size))) = true := by kernel_rfl
theorem scanApplied_j21 : ((Rows.scanAppliedRow.ifacesOut == Try.f16.resultTypes.toList.any (Try.pinned.checked.prog.ifacesRec ·))) = true := by kernel_rfl
theorem scanApplied_j22 : ((Rows.scanAppliedRow.loopsOut == Try.f16.resultTypes.toList.any (Try.pinned.checked.prog.loopsFrom ·))) = true := by kernel_rfl
theorem scanApplied_j23 : ((Rows.scanAppliedRow.plainKeys == Try.pinned.checked.prog.plainKeys)) = true := by kernel_rfl
theorem scanApplied_j24 : (Rows.scanAppliedRow.shortTexts.isNone) = true := by kernel_rfl
theorem scanApplied_j27 : (Rows.scanAppliedRow.lifted == Try.pinned.checked.prog.liftsFinal) = true := (congrArg (fun b => Rows.scanAppliedRow.lifted == b) seat_liftsFinal).trans (by kernel_rfl)
theorem scanApplied_j28 : (Try.pinned.checked.prog.make == some Rows.scanAppliedRow.make) = true := (congrArg (fun b => b == some Rows.scanAppliedRow.make) seat_make).trans (by kernel_rfl)
theorem scanApplied_j29 : ((Rows.scanAppliedRow.kinds == (if Rows.scanAppliedRow.domain.isEmpty then [] else Try.f16.params.toList.map fun t => match Try.pinned.checked.prog.underlying t with | some (.int k) => some k | _ => none))) = true := by kernel_rfl
theorem scanApplied_j30 : ((Rows.scanAppliedRow.pinned == Rows.scanAppliedRow.pinnedBy)) = true := by kernel_rfl
theorem scanApplied_j31 : ((Rows.scanAppliedRow.veiled == (Try.f16.params.toList ++ Rows.scanAppliedSpec.plain.varTypes Try.pinned.checked.prog ++ Try.f16.resultTypes.toList).any (Try.pinned.checked.prog.veiledRec ·))) = true := by kernel_rfl
theorem scanApplied_j32 : (Rows.scanAppliedRow.veiledFits Try.pinned.checked.prog Try.f16.params.toList (Try.f16.params.toList ++ Rows.scanAppliedSpec.plain.varTypes Try.pinned.checked.prog ++ Try.f16.resultTypes.toList)) = true := by kernel_rfl
set_option maxRecDepth 100000 in
theorem scanApplied_lifted (os : Os) (started : os.Started) (H : Type) (enc : TypeId × Value → H) :
    ReturnsInHanded {} Try.checked os 16 .any (Rows.scanAppliedSpec.pre6 enc Try.prog Try.f16 Rows.scanAppliedRow.domain false) (Rows.scanAppliedSpec.post enc Try.prog Try.f16 false true false false) := by
  refine returnsInHanded_of_change (C := Try.checked) scanApplied_own started (by kernel_rfl) Try.func16
    (ChangeSpec.witness6 (enc := enc) (C := Try.checked) false ⟨#[], #[.slice none 0 0, .slice none 0 0, .agg #[.slice none 0 0, .slice none 0 0, .slice none 0 0, .bool false], .slice none 0 0], []⟩ 8 (by kernel_rfl) (by kernel_rfl) (by kernel_rfl) (by kernel_rfl)) ?_
  intro W base args ds gs before hval0 hW hcnd _
  have hval : ∀ (j : Nat) t v, Try.f16.params[j]? = some t → args[j]? = some v → Value.okWide Try.prog W .any base t v := hval0
  have hW' := hW
  obtain ⟨p, q, hA0, hV, rfl, hfz, hnd⟩ := hW
  have hA : DataW.TrodAll enc Try.prog W 0 (fun _ => true) true Try.f16.params.toList args.toList ds p := hA0
  rw [Try.params16] at hA hval
  obtain ⟨v0, vs0, d0, ds0, p0, q0, hargs, rfl, rfl, h0, r0⟩ := trodAll_cons hA
  obtain ⟨v1, vs1, d1, ds1, p1, q1, rfl, rfl, rfl, h1, r1⟩ := trodAll_cons r0
  obtain ⟨v2, vs2, d2, ds2, p2, q2, rfl, rfl, rfl, h2, r2⟩ := trodAll_cons r1
  obtain ⟨v3, vs3, d3, ds3, p3, q3, rfl, rfl, rfl, h3, r3⟩ := trodAll_cons r2
  obtain ⟨rfl, rfl, rfl⟩ := trodAll_nil r3
  obtain rfl : args = #[v0, v1, v2, v3] := by cases args; simp_all
  obtain ⟨rfl, rfl⟩ := trodVars_none hV
  have k0 := h0
  have lt0 : ∀ x ∈ p0, x.block < W.heap.size := by obtain ⟨m, hm⟩ := k0; exact DataW.trod_lt m _ _ _ hm
  obtain ⟨a0, len0, cap0, rfl⟩ := okWide_slice Try.underlying22 (hval 0 22 v0 rfl rfl)
  obtain ⟨l0, w0⟩ : ∃ l, Pls (whole W) (.slice a0 len0 cap0) l := by
    obtain ⟨fuel, hf⟩ := h0
    exact rd_places Try.underlying22 Try.underlying30 (by kernel_rfl) (by kernel_rfl) rfl rfl rfl rfl Try.underlying25 Try.underlying5 (by kernel_rfl) Try.underlying4 hf
  have k1 := h1
  have lt1 : ∀ x ∈ p1, x.block < W.heap.size := by obtain ⟨m, hm⟩ := k1; exact DataW.trod_lt m _ _ _ hm
  obtain ⟨a1, len1, cap1, rfl⟩ := okWide_slice Try.underlying22 (hval 1 22 v1 rfl rfl)
  obtain ⟨l1, w1⟩ : ∃ l, Pls (whole W) (.slice a1 len1 cap1) l := by
    obtain ⟨fuel, hf⟩ := h1
    exact rd_places Try.underlying22 Try.underlying30 (by kernel_rfl) (by kernel_rfl) rfl rfl rfl rfl Try.underlying25 Try.underlying5 (by kernel_rfl) Try.underlying4 hf
  have k2 := h2
  have lt2 : ∀ x ∈ p2, x.block < W.heap.size := by obtain ⟨m, hm⟩ := k2; exact DataW.trod_lt m _ _ _ hm
  obtain ⟨c2_0, c2_1, c2_2, c2_3, y2_0, y2_1, y2_2, y2_3, n2, rfl, _, _, t2_0, t2_1, t2_2, t2_3⟩ := Joins.open_agg4 Try.underlying30 (by kernel_rfl) (by kernel_rfl) (hval 2 30 v2 rfl rfl) h2
  obtain ⟨l2_0, w2_0⟩ := rd_bytes_cells Try.underlying25 Try.underlying5 (by kernel_rfl) t2_0
  obtain ⟨l2_1, w2_1⟩ := rd_bytes_cells Try.underlying25 Try.underlying5 (by kernel_rfl) t2_1
  obtain ⟨l2_2, w2_2⟩ := rd_bytes_cells Try.underlying25 Try.underlying5 (by kernel_rfl) t2_2
  obtain ⟨z2_3, ez2_3, _⟩ := DataW.trod_bool Try.underlying4 t2_3
  obtain rfl : c2_3 = _ := by simpa using ez2_3
  have k3 := h3
  have lt3 : ∀ x ∈ p3, x.block < W.heap.size := by obtain ⟨m, hm⟩ := k3; exact DataW.trod_lt m _ _ _ hm
  obtain ⟨a3, len3, cap3, rfl⟩ := okWide_slice Try.underlying25 (hval 3 25 v3 rfl rfl)
  obtain ⟨l3, w3⟩ : ∃ l, Bs (whole W) (.slice a3 len3 cap3) l := by
    obtain ⟨fuel, hf⟩ := h3
    exact rd_bytes_cells Try.underlying25 Try.underlying5 (by kernel_rfl) hf
  clear hA0 hval0
  refine (scanApplied_walk W (.slice a0 len0 cap0) l0 w0 (.slice a1 len1 cap1) l1 w1 (⟨l2_0, l2_1, l2_2, z2_3⟩ : Pl) c2_0 w2_0 c2_1 w2_1 c2_2 w2_2 (.slice a3 len3 cap3) l3 w3).mono fun e W' ⟨he, bel⟩ => ?_
  subst he
  exact ⟨_, rfl, _, _, _, [], _, [], hW', trodAll_mk1 (shut_bool Try.underlying4 _), (trodAll_cons_mk (Below.trod scanApplied_laidOut (by kernel_rfl) (of_decide_eq_true (by kernel_rfl)) k0 bel lt0) (trodAll_cons_mk (Below.trod scanApplied_laidOut (by kernel_rfl) (of_decide_eq_true (by kernel_rfl)) k1 bel lt1) (trodAll_cons_mk (Below.trod scanApplied_laidOut (by kernel_rfl) (of_decide_eq_true (by kernel_rfl)) k2 bel lt2) (trodAll_cons_mk (Below.trod scanApplied_laidOut (by kernel_rfl) (of_decide_eq_true (by kernel_rfl)) k3 bel lt3) trodAll_mk0)))), rfl, bel.frame _, fun h => by cases h⟩
set_option maxRecDepth 1000000 in
theorem scanApplied_holds : Rows.ScanAppliedSaid :=
  OpenClaim.holds_of_wide 16 Try.f16 rfl rfl rfl rfl rfl rfl rfl ⟨rfl, rfl, rfl, rfl, rfl⟩ rfl rfl rfl rfl rfl (by as_aux_lemma => kernel_rfl) Try.func16 (joined_mk scanApplied_j1 seat_laidOut seat_mapsRowed scanApplied_j4 scanApplied_j5 scanApplied_j6 seat_stops scanApplied_j8 seat_stopKnobs scanApplied_j10 scanApplied_j11 scanApplied_j12 scanApplied_j13 scanApplied_j14 scanApplied_j15 scanApplied_j16 scanApplied_j17 scanApplied_j18 scanApplied_j19 scanApplied_j20 scanApplied_j21 scanApplied_j22 scanApplied_j23 scanApplied_j24 seat_stopsHeard seat_mayEnter scanApplied_j27 scanApplied_j28 scanApplied_j29 scanApplied_j30 scanApplied_j31 scanApplied_j32)
    (of_decide_eq_true (by as_aux_lemma => kernel_rfl)) (by unfold Func.isWrapper; first | (rw [if_pos (by decide +kernel)]; kernel_rfl) | (rw [if_neg (by decide +kernel)]; exact ⟨rfl, rfl⟩))
    (fun os started H enc _ => scanApplied_lifted os started H enc)
#print axioms scanApplied_holds
end Go.Proofs.Ytcpngkkconalhaa
