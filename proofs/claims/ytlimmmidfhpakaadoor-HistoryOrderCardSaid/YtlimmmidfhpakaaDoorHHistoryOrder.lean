/- The law HistoryOrder: for every input the call returns true, and each argument reads behind the call as it read before. -/
import Derived.Test.YtlimmmidfhpakaaDoorCHistoryOrder
import Derived.Test.YtlimmmidfhpakaaDoorCC1
import Derived.Test.YtlimmmidfhpakaaDoorCC2
import Derived.Test.YtlimmmidfhpakaaDoorCC6
namespace Go.Proofs.YtlimmmidfhpakaaDoor
open Go.ChangeShapes Go.WideShapes Go.ChangeAt Go.RowKit
set_option linter.unusedVariables false
theorem historyOrder_own : ownKnob Tryd.prog.godebug = none := by kernel_rfl
theorem historyOrder_laidOut : laidOutB Tryd.prog = true := seat_laidOut
theorem historyOrder_j1 : (Rows.historyOrderRow.wf (OpenSpec.ofChange Rows.historyOrderSpec)) = true := by kernel_rfl
theorem historyOrder_j4 : (Tryd.f3.params.all (Tryd.pinned.checked.prog.readableRec ·)) = true := by kernel_rfl
theorem historyOrder_j5 : (namedTie Tryd.pinned.checked.prog Rows.historyOrderRow.named Rows.historyOrderSpec.vars) = true := by kernel_rfl
theorem historyOrder_j6 : ((Rows.historyOrderRow.stops == [])) = true := by kernel_rfl
theorem historyOrder_j8 : ((Rows.historyOrderRow.knobs == [])) = true := by kernel_rfl
theorem historyOrder_j10 : ((Rows.historyOrderRow.inPlace == Tryd.pinned.checked.prog.inPlace 3)) = true := by kernel_rfl
theorem historyOrder_j11 : ((Rows.historyOrderRow.unfollowed == Tryd.pinned.checked.prog.unfollowed 3)) = true := by kernel_rfl
theorem historyOrder_j12 : ((Rows.historyOrderRow.recurses == Tryd.pinned.checked.prog.recurses 3)) = true := by kernel_rfl
theorem historyOrder_j13 : ((Rows.historyOrderRow.named == Tryd.pinned.checked.prog.varsNamed 3)) = true := by kernel_rfl
theorem historyOrder_j14 : ((Rows.historyOrderRow.maps == (Tryd.f3.params.toList ++ Rows.historyOrderSpec.plain.varTypes Tryd.pinned.checked.prog).any (Tryd.pinned.checked.prog.mapsRec ·))) = true := by kernel_rfl
theorem historyOrder_j15 : ((Rows.historyOrderRow.ifaces == (Tryd.f3.params.toList ++ Rows.historyOrderSpec.plain.varTypes Tryd.pinned.checked.prog).any (Tryd.pinned.checked.prog.ifacesRec ·))) = true := by kernel_rfl
theorem historyOrder_j16 : ((Rows.historyOrderRow.mapsOut == Tryd.pinned.checked.prog.mapsAmong Tryd.f3.resultTypes.toList)) = true := by kernel_rfl
theorem historyOrder_j17 : ((Rows.historyOrderRow.loops == (Tryd.f3.params.toList ++ Rows.historyOrderSpec.plain.varTypes Tryd.pinned.checked.prog).any (Tryd.pinned.checked.prog.loopsFrom ·))) = true := by kernel_rfl
theorem historyOrder_j18 : ((Rows.historyOrderRow.wideKeys == (Tryd.f3.params.toList ++ Rows.historyOrderSpec.plain.varTypes Tryd.pinned.checked.prog ++ Tryd.f3.resultTypes.toList).any (Tryd.pinned.checked.prog.wideKeysFrom ·))) = true := by kernel_rfl
theorem historyOrder_j19 : (Rows.historyOrderSpec.vars.all (Tryd.pinned.checked.prog.varReadable ·)) = true := by kernel_rfl
theorem historyOrder_j20 : (Tryd.f3.resultTypes.all (fun t => Tryd.pinned.checked.prog.readableRec t && decide (t < Tryd.pinned.checked.prog.types.size))) = true := by kernel_rfl
theorem historyOrder_j21 : ((Rows.historyOrderRow.ifacesOut == Tryd.f3.resultTypes.toList.any (Tryd.pinned.checked.prog.ifacesRec ·))) = true := by kernel_rfl
theorem historyOrder_j22 : ((Rows.historyOrderRow.loopsOut == Tryd.f3.resultTypes.toList.any (Tryd.pinned.checked.prog.loopsFrom ·))) = true := by kernel_rfl
theorem historyOrder_j23 : ((Rows.historyOrderRow.plainKeys == Tryd.pinned.checked.prog.plainKeys)) = true := by kernel_rfl
theorem historyOrder_j24 : (Rows.historyOrderRow.shortTexts.isNone) = true := by kernel_rfl
theorem historyOrder_j27 : (Rows.historyOrderRow.lifted == Tryd.pinned.checked.prog.liftsFinal) = true := (congrArg (fun b => Rows.historyOrderRow.lifted == b) seat_liftsFinal).trans (by kernel_rfl)
theorem historyOrder_j28 : (Tryd.pinned.checked.prog.make == some Rows.historyOrderRow.make) = true := (congrArg (fun b => b == some Rows.historyOrderRow.make) seat_make).trans (by kernel_rfl)
theorem historyOrder_j29 : ((Rows.historyOrderRow.kinds == (if Rows.historyOrderRow.domain.isEmpty then [] else Tryd.f3.params.toList.map fun t => match Tryd.pinned.checked.prog.underlying t with | some (.int k) => some k | _ => none))) = true := by kernel_rfl
theorem historyOrder_j30 : ((Rows.historyOrderRow.pinned == Rows.historyOrderRow.pinnedBy)) = true := by kernel_rfl
theorem historyOrder_j31 : ((Rows.historyOrderRow.veiled == (Tryd.f3.params.toList ++ Rows.historyOrderSpec.plain.varTypes Tryd.pinned.checked.prog ++ Tryd.f3.resultTypes.toList).any (Tryd.pinned.checked.prog.veiledRec ·))) = true := by kernel_rfl
theorem historyOrder_j32 : (Rows.historyOrderRow.veiledFits Tryd.pinned.checked.prog Tryd.f3.params.toList (Tryd.f3.params.toList ++ Rows.historyOrderSpec.plain.varTypes Tryd.pinned.checked.prog ++ Tryd.f3.resultTypes.toList)) = true := by kernel_rfl
theorem historyOrder_met (os : Os) : laidMet Tryd.prog Rows.historyOrderRow.laid ((digWorld os).forCall (fun _ _ => 0) ⟨#[], #[.slice none 0 0, .int .i64 0, .int .i64 0], []⟩).memory :=
  laidMet_of_run' 8 (by kernel_rfl) (by kernel_rfl)
theorem historyOrder_reads (os : Os) {H : Type} (enc : TypeId × Value → H) : ∃ x, DataW.whole enc Tryd.prog ((digWorld os).forCall (fun _ _ => 0) ⟨#[], #[.slice none 0 0, .int .i64 0, .int .i64 0], []⟩).memory Tryd.f3.params.toList Rows.historyOrderSpec.vars false (#[.slice none 0 0, .int .i64 0, .int .i64 0] : Array Value).toList 8 = some x :=
  Option.isSome_iff_exists.1 (by kernel_rfl)
set_option maxRecDepth 100000 in
theorem historyOrder_lifted (os : Os) (started : os.Started) (H : Type) (enc : TypeId × Value → H) (F : Stop.Interp) :
    ReturnsInHanded {} Tryd.checked os 3 .any ((OpenSpec.ofChange Rows.historyOrderSpec).preRow enc Tryd.prog Tryd.f3 Rows.historyOrderRow.domain false Rows.historyOrderRow.laid) (((OpenSpec.ofChange Rows.historyOrderSpec).at F).post enc Tryd.prog Tryd.f3 false true false false) := by
  obtain ⟨places, hx⟩ := historyOrder_reads os enc
  refine returnsInHanded_of_row (C := Tryd.checked) (s := OpenSpec.ofChange Rows.historyOrderSpec) historyOrder_own started (by kernel_rfl) Tryd.func3
    (witness_row_at (enc := enc) (C := Tryd.checked) false (digWorld os) #[.slice none 0 0, .int .i64 0, .int .i64 0] rfl (by kernel_rfl) (by kernel_rfl) (by kernel_rfl)
      (OpenSpec.preRow_of_cond 8 hx rfl (fun k hk => by cases hk) (by kernel_rfl) (historyOrder_met os))) ?_
  intro W base args ds gs before hval0 hW _ _ hsz hL _ _
  have hval : ∀ (j : Nat) t v, Tryd.f3.params[j]? = some t → args[j]? = some v → Value.okWide Tryd.prog W .any base t v := hval0
  have hW' := hW
  obtain ⟨p, q, hA0, hV, rfl, hfz, hnd⟩ := hW
  have hA : DataW.TrodAll enc Tryd.prog W 0 (fun _ => true) true Tryd.f3.params.toList args.toList ds p := hA0
  rw [Tryd.params3] at hA hval
  have hT := dig_met hL
  obtain ⟨v0, vs0, d0, ds0, p0, q0, hargs, rfl, rfl, h0, r0⟩ := trodAll_cons hA
  obtain ⟨v1, vs1, d1, ds1, p1, q1, rfl, rfl, rfl, h1, r1⟩ := trodAll_cons r0
  obtain ⟨v2, vs2, d2, ds2, p2, q2, rfl, rfl, rfl, h2, r2⟩ := trodAll_cons r1
  obtain ⟨rfl, rfl, rfl⟩ := trodAll_nil r2
  obtain rfl : args = #[v0, v1, v2] := by cases args; simp_all
  obtain ⟨rfl, rfl⟩ := trodVars_none hV
  have k0 := h0
  have lt0 : ∀ x ∈ p0, x.block < W.heap.size := by obtain ⟨m, hm⟩ := k0; exact DataW.trod_lt m _ _ _ hm
  obtain ⟨a0, len0, cap0, rfl⟩ := okWide_slice Tryd.underlying22 (hval 0 22 v0 rfl rfl)
  obtain ⟨l0, w0⟩ : ∃ l, Pls (whole W) (.slice a0 len0 cap0) l := by
    obtain ⟨fuel, hf⟩ := h0
    exact rd_places Tryd.underlying22 Tryd.underlying83 (by kernel_rfl) (by kernel_rfl) rfl rfl rfl rfl Tryd.underlying27 Tryd.underlying5 (by kernel_rfl) Tryd.underlying4 hf
  have k1 := h1
  have lt1 : ∀ x ∈ p1, x.block < W.heap.size := by obtain ⟨m, hm⟩ := k1; exact DataW.trod_lt m _ _ _ hm
  obtain ⟨x1, rfl, _, _, wx1⟩ := open_int Tryd.underlying3 (hval 1 3 v1 rfl rfl) h1
  have b1 := bounds_i64 wx1
  have k2 := h2
  have lt2 : ∀ x ∈ p2, x.block < W.heap.size := by obtain ⟨m, hm⟩ := k2; exact DataW.trod_lt m _ _ _ hm
  obtain ⟨x2, rfl, _, _, wx2⟩ := open_int Tryd.underlying3 (hval 2 3 v2 rfl rfl) h2
  have b2 := bounds_i64 wx2
  clear hA0 hval0
  refine (historyOrder_walk W hT (.slice a0 len0 cap0) l0 w0 x1 b1.1 b1.2 x2 b2.1 b2.2).mono fun e W' ⟨he, bel⟩ => ?_
  subst he
  exact ⟨_, rfl, _, _, _, [], _, [], hW', trodAll_mk1 (shut_bool Tryd.underlying4 _), (trodAll_cons_mk (Below.trod historyOrder_laidOut (by kernel_rfl) (of_decide_eq_true (by kernel_rfl)) k0 bel lt0) (trodAll_cons_mk (Below.trod historyOrder_laidOut (by kernel_rfl) (of_decide_eq_true (by kernel_rfl)) k1 bel lt1) (trodAll_cons_mk (Below.trod historyOrder_laidOut (by kernel_rfl) (of_decide_eq_true (by kernel_rfl)) k2 bel lt2) trodAll_mk0))), rfl, bel.frame _, fun h => by cases h⟩
set_option maxRecDepth 1000000 in
theorem historyOrder_said : Rows.HistoryOrderSaid :=
  OpenClaim.holds_of_cond 3 Tryd.f3 rfl rfl rfl rfl rfl rfl rfl ⟨rfl, rfl, rfl, rfl, rfl⟩ rfl rfl rfl rfl rfl (by as_aux_lemma => kernel_rfl) Tryd.func3 (joined_mk historyOrder_j1 seat_laidOut seat_mapsRowed historyOrder_j4 historyOrder_j5 historyOrder_j6 seat_stops historyOrder_j8 seat_stopKnobs historyOrder_j10 historyOrder_j11 historyOrder_j12 historyOrder_j13 historyOrder_j14 historyOrder_j15 historyOrder_j16 historyOrder_j17 historyOrder_j18 historyOrder_j19 historyOrder_j20 historyOrder_j21 historyOrder_j22 historyOrder_j23 historyOrder_j24 seat_stopsHeard seat_mayEnter historyOrder_j27 historyOrder_j28 historyOrder_j29 historyOrder_j30 historyOrder_j31 historyOrder_j32)
    (of_decide_eq_true (by as_aux_lemma => kernel_rfl)) (by unfold Func.isWrapper; first | (rw [if_pos (by decide +kernel)]; kernel_rfl) | (rw [if_neg (by decide +kernel)]; exact ⟨rfl, rfl⟩))
    (fun os started H enc _ F => by rw [OpenClaim.pre_eq_preRow]; exact historyOrder_lifted os started H enc F)
theorem historyOrder_plain (f : FuncId) (fn : Func) (hf : Tryd.pinned.checked.prog.funcNamed "canopy/canopykeep.HistoryOrder" = some f) (hfn : Tryd.pinned.checked.prog.funcs[f]? = some fn) :
    true = Tryd.pinned.checked.prog.looks [] ∧ ∀ (j : Nat) t, fn.params[j]? = some t → Tryd.pinned.checked.prog.wantsStandIn t = false := by
  obtain rfl : f = 3 := Option.some.inj ((show Tryd.prog.funcNamed "canopy/canopykeep.HistoryOrder" = some 3 by kernel_rfl).symm.trans hf) |>.symm
  obtain rfl : fn = Tryd.f3 := (Option.some.inj (Tryd.func3.symm.trans hfn)).symm
  refine ⟨by kernel_rfl, fun j t ht => ?_⟩
  have hall : (Tryd.f3.params.all fun t => !Tryd.prog.wantsStandIn t) = true := by kernel_rfl
  have := Array.all_eq_true_iff_forall_mem.1 hall t (Array.mem_of_getElem? ht)
  show Tryd.prog.wantsStandIn t = false
  simpa using this
set_option maxRecDepth 1000000 in
theorem historyOrder_holds : Rows.HistoryOrderCardSaid :=
  Claim7.holds_tied_plain_at .later [] _ _ _ _ historyOrder_said (fun _ h => by cases h) (by kernel_rfl) (fun _ h => by cases h) historyOrder_row_tie rfl ⟨rfl, rfl⟩ (by kernel_rfl) rfl historyOrder_plain (by kernel_rfl)
#print axioms historyOrder_holds
end Go.Proofs.YtlimmmidfhpakaaDoor
