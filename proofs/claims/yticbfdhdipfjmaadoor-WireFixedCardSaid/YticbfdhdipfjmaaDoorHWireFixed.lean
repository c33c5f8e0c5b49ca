/- The law WireFixed: for every input the call returns true, and each argument reads behind the call as it read before. -/
import Derived.Test.YticbfdhdipfjmaaDoorCWireFixed
import Derived.Test.YticbfdhdipfjmaaDoorBW1
import Derived.SizedLaws
import Derived.Test.YticbfdhdipfjmaaDoorBW5
namespace Go.Proofs.YticbfdhdipfjmaaDoor
open Go.ChangeShapes Go.WideShapes Go.ChangeAt Go.RowKit
set_option linter.unusedVariables false
theorem wireFixed_own : ownKnob Tryd.prog.godebug = none := by kernel_rfl
theorem wireFixed_laidOut : laidOutB Tryd.prog = true := seat_laidOut
theorem wireFixed_j1 : (Rows.wireFixedRow.wf (OpenSpec.ofChange Rows.wireFixedSpec)) = true := by kernel_rfl
theorem wireFixed_j4 : (Tryd.f4.params.all (Tryd.pinned.checked.prog.readableRec ·)) = true := by kernel_rfl
theorem wireFixed_j5 : (namedTie Tryd.pinned.checked.prog Rows.wireFixedRow.named Rows.wireFixedSpec.vars) = true := by kernel_rfl
theorem wireFixed_j6 : ((Rows.wireFixedRow.stops == [])) = true := by kernel_rfl
theorem wireFixed_j8 : ((Rows.wireFixedRow.knobs == [])) = true := by kernel_rfl
theorem wireFixed_j10 : ((Rows.wireFixedRow.inPlace == Tryd.pinned.checked.prog.inPlace 4)) = true := by kernel_rfl
theorem wireFixed_j11 : ((Rows.wireFixedRow.unfollowed == Tryd.pinned.checked.prog.unfollowed 4)) = true := by kernel_rfl
theorem wireFixed_j12 : ((Rows.wireFixedRow.recurses == Tryd.pinned.checked.prog.recurses 4)) = true := by kernel_rfl
theorem wireFixed_j13 : ((Rows.wireFixedRow.named == Tryd.pinned.checked.prog.varsNamed 4)) = true := by kernel_rfl
theorem wireFixed_j14 : ((Rows.wireFixedRow.maps == (Tryd.f4.params.toList ++ Rows.wireFixedSpec.plain.varTypes Tryd.pinned.checked.prog).any (Tryd.pinned.checked.prog.mapsRec ·))) = true := by kernel_rfl
theorem wireFixed_j15 : ((Rows.wireFixedRow.ifaces == (Tryd.f4.params.toList ++ Rows.wireFixedSpec.plain.varTypes Tryd.pinned.checked.prog).any (Tryd.pinned.checked.prog.ifacesRec ·))) = true := by kernel_rfl
theorem wireFixed_j16 : ((Rows.wireFixedRow.mapsOut == Tryd.pinned.checked.prog.mapsAmong Tryd.f4.resultTypes.toList)) = true := by kernel_rfl
theorem wireFixed_j17 : ((Rows.wireFixedRow.loops == (Tryd.f4.params.toList ++ Rows.wireFixedSpec.plain.varTypes Tryd.pinned.checked.prog).any (Tryd.pinned.checked.prog.loopsFrom ·))) = true := by kernel_rfl
theorem wireFixed_j18 : ((Rows.wireFixedRow.wideKeys == (Tryd.f4.params.toList ++ Rows.wireFixedSpec.plain.varTypes Tryd.pinned.checked.prog ++ Tryd.f4.resultTypes.toList).any (Tryd.pinned.checked.prog.wideKeysFrom ·))) = true := by kernel_rfl
theorem wireFixed_j19 : (Rows.wireFixedSpec.vars.all (Tryd.pinned.checked.prog.varReadable ·)) = true := by kernel_rfl
theorem wireFixed_j20 : (Tryd.f4.resultTypes.all (fun t => Tryd.pinned.checked.prog.readableRec t && decide (t < Tryd.pinned.checked.prog.types.size))) = true := by kernel_rfl
theorem wireFixed_j21 : ((Rows.wireFixedRow.ifacesOut == Tryd.f4.resultTypes.toList.any (Tryd.pinned.checked.prog.ifacesRec ·))) = true := by kernel_rfl
theorem wireFixed_j22 : ((Rows.wireFixedRow.loopsOut == Tryd.f4.resultTypes.toList.any (Tryd.pinned.checked.prog.loopsFrom ·))) = true := by kernel_rfl
theorem wireFixed_j23 : ((Rows.wireFixedRow.plainKeys == Tryd.pinned.checked.prog.plainKeys)) = true := by kernel_rfl
theorem wireFixed_j24 : (Rows.wireFixedRow.shortTexts.isNone) = true := by kernel_rfl
theorem wireFixed_j27 : (Rows.wireFixedRow.lifted == Tryd.pinned.checked.prog.liftsFinal) = true := (congrArg (fun b => Rows.wireFixedRow.lifted == b) seat_liftsFinal).trans (by kernel_rfl)
theorem wireFixed_j28 : (Tryd.pinned.checked.prog.make == some Rows.wireFixedRow.make) = true := (congrArg (fun b => b == some Rows.wireFixedRow.make) seat_make).trans (by kernel_rfl)
theorem wireFixed_j29 : ((Rows.wireFixedRow.kinds == (if Rows.wireFixedRow.domain.isEmpty then [] else Tryd.f4.params.toList.map fun t => match Tryd.pinned.checked.prog.underlying t with | some (.int k) => some k | _ => none))) = true := by kernel_rfl
theorem wireFixed_j30 : ((Rows.wireFixedRow.pinned == Rows.wireFixedRow.pinnedBy)) = true := by kernel_rfl
theorem wireFixed_j31 : ((Rows.wireFixedRow.veiled == (Tryd.f4.params.toList ++ Rows.wireFixedSpec.plain.varTypes Tryd.pinned.checked.prog ++ Tryd.f4.resultTypes.toList).any (Tryd.pinned.checked.prog.veiledRec ·))) = true := by kernel_rfl
theorem wireFixed_j32 : (Rows.wireFixedRow.veiledFits Tryd.pinned.checked.prog Tryd.f4.params.toList (Tryd.f4.params.toList ++ Rows.wireFixedSpec.plain.varTypes Tryd.pinned.checked.prog ++ Tryd.f4.resultTypes.toList)) = true := by kernel_rfl
theorem wireFixed_met (os : Os) : laidMet Tryd.prog Rows.wireFixedRow.laid ((hasWorld os).forCall (fun _ _ => 0) ⟨#[], #[.slice none 0 0], []⟩).memory :=
  laidMet_of_run' 8 (by kernel_rfl) (by kernel_rfl)
theorem wireFixed_reads (os : Os) {H : Type} (enc : TypeId × Value → H) : ∃ x, DataW.whole enc Tryd.prog ((hasWorld os).forCall (fun _ _ => 0) ⟨#[], #[.slice none 0 0], []⟩).memory Tryd.f4.params.toList Rows.wireFixedSpec.vars false (#[.slice none 0 0] : Array Value).toList 8 = some x :=
  Option.isSome_iff_exists.1 (by kernel_rfl)
set_option maxRecDepth 100000 in
theorem wireFixed_lifted (os : Os) (started : os.Started) (H : Type) (enc : TypeId × Value → H) (F : Stop.Interp) :
    ReturnsInHanded {} Tryd.checked os 4 .any ((OpenSpec.ofChange Rows.wireFixedSpec).preRow enc Tryd.prog Tryd.f4 Rows.wireFixedRow.domain false Rows.wireFixedRow.laid) (((OpenSpec.ofChange Rows.wireFixedSpec).at F).post enc Tryd.prog Tryd.f4 false true false false) := by
  obtain ⟨places, hx⟩ := wireFixed_reads os enc
  refine returnsInHanded_of_row (C := Tryd.checked) (s := OpenSpec.ofChange Rows.wireFixedSpec) wireFixed_own started (by kernel_rfl) Tryd.func4
    (witness_row_at (enc := enc) (C := Tryd.checked) false (hasWorld os) #[.slice none 0 0] rfl (by kernel_rfl) (by kernel_rfl) (by kernel_rfl)
      (OpenSpec.preRow_of_cond 8 hx rfl (fun k hk => by cases hk) (by kernel_rfl) (wireFixed_met os))) ?_
  intro W base args ds gs before hval0 hW _ _ hsz hL _ _
  have hval : ∀ (j : Nat) t v, Tryd.f4.params[j]? = some t → args[j]? = some v → Value.okWide Tryd.prog W .any base t v := hval0
  have hW' := hW
  obtain ⟨p, q, hA0, hV, rfl, hfz, hnd⟩ := hW
  have hA : DataW.TrodAll enc Tryd.prog W 0 (fun _ => true) true Tryd.f4.params.toList args.toList ds p := hA0
  rw [Tryd.params4] at hA hval
  have hT := has_met hL
  obtain ⟨v0, vs0, d0, ds0, p0, q0, hargs, rfl, rfl, h0, r0⟩ := trodAll_cons hA
  obtain ⟨rfl, rfl, rfl⟩ := trodAll_nil r0
  obtain rfl : args = #[v0] := by cases args; simp_all
  obtain ⟨rfl, rfl⟩ := trodVars_none hV
  have k0 := h0
  have lt0 : ∀ x ∈ p0, x.block < W.heap.size := by obtain ⟨m, hm⟩ := k0; exact DataW.trod_lt m _ _ _ hm
  obtain ⟨a0, len0, cap0, rfl⟩ := okWide_slice Tryd.underlying22 (hval 0 22 v0 rfl rfl)
  obtain ⟨l0, w0⟩ : ∃ l, Bs (whole W) (.slice a0 len0 cap0) l := by
    obtain ⟨fuel, hf⟩ := h0
    exact rd_bytes_cells Tryd.underlying22 Tryd.underlying5 (by kernel_rfl) hf
  have hlen0 : l0.length ≤ 140737488355328 := by
    have hsh := w0.shape
    obtain ⟨_, _, e, _⟩ := hsh
    injection e with _ e _
    rw [← e]
    obtain ⟨fuel, hf⟩ := k0
    rcases Deep.open_slice Tryd.underlying22 hf with ⟨hc, _⟩ | ⟨a, len, cap, m, n, D, Pl, hc, _, _, _, _, hx, _⟩
    · simp [Value.cells] at hc; omega
    · simp only [Prod.mk.injEq] at hx
      obtain ⟨rfl, rfl⟩ := hx
      have hq := sized_slice hsz (j := 0) (t := 22) (e := 5) rfl rfl Tryd.underlying22
      rw [show Tryd.checked.prog.bytesOf 5 = 1 by kernel_rfl] at hq
      simp only [List.length_map, List.length_range, reachBytes] at hq
      simp [Value.cells] at hc
      omega
  clear hA0 hval0
  refine (wireFixed_walk W (.slice a0 len0 cap0) l0 w0 hT hlen0).mono fun e W' ⟨he, bel⟩ => ?_
  subst he
  exact ⟨_, rfl, _, _, _, [], _, [], hW', trodAll_mk1 (shut_bool Tryd.underlying4 _), (trodAll_cons_mk (Below.trod wireFixed_laidOut (by kernel_rfl) (of_decide_eq_true (by kernel_rfl)) k0 bel lt0) trodAll_mk0), rfl, bel.frame _, fun h => by cases h⟩
set_option maxRecDepth 1000000 in
theorem wireFixed_said : Rows.WireFixedSaid :=
  OpenClaim.holds_of_cond 4 Tryd.f4 rfl rfl rfl rfl rfl rfl rfl ⟨rfl, rfl, rfl, rfl, rfl⟩ rfl rfl rfl rfl rfl (by as_aux_lemma => kernel_rfl) Tryd.func4 (joined_mk wireFixed_j1 seat_laidOut seat_mapsRowed wireFixed_j4 wireFixed_j5 wireFixed_j6 seat_stops wireFixed_j8 seat_stopKnobs wireFixed_j10 wireFixed_j11 wireFixed_j12 wireFixed_j13 wireFixed_j14 wireFixed_j15 wireFixed_j16 wireFixed_j17 wireFixed_j18 wireFixed_j19 wireFixed_j20 wireFixed_j21 wireFixed_j22 wireFixed_j23 wireFixed_j24 seat_stopsHeard seat_mayEnter wireFixed_j27 wireFixed_j28 wireFixed_j29 wireFixed_j30 wireFixed_j31 wireFixed_j32)
    (of_decide_eq_true (by as_aux_lemma => kernel_rfl)) (by unfold Func.isWrapper; first | (rw [if_pos (by decide +kernel)]; kernel_rfl) | (rw [if_neg (by decide +kernel)]; exact ⟨rfl, rfl⟩))
    (fun os started H enc _ F => by rw [OpenClaim.pre_eq_preRow]; exact wireFixed_lifted os started H enc F)
theorem wireFixed_plain (f : FuncId) (fn : Func) (hf : Tryd.pinned.checked.prog.funcNamed "canopy/canopykeep.WireFixed" = some f) (hfn : Tryd.pinned.checked.prog.funcs[f]? = some fn) :
    false = Tryd.pinned.checked.prog.looks [] ∧ ∀ (j : Nat) t, fn.params[j]? = some t → Tryd.pinned.checked.prog.wantsStandIn t = false := by
  obtain rfl : f = 4 := Option.some.inj ((show Tryd.prog.funcNamed "canopy/canopykeep.WireFixed" = some 4 by kernel_rfl).symm.trans hf) |>.symm
  obtain rfl : fn = Tryd.f4 := (Option.some.inj (Tryd.func4.symm.trans hfn)).symm
  refine ⟨by kernel_rfl, fun j t ht => ?_⟩
  have hall : (Tryd.f4.params.all fun t => !Tryd.prog.wantsStandIn t) = true := by kernel_rfl
  have := Array.all_eq_true_iff_forall_mem.1 hall t (Array.mem_of_getElem? ht)
  show Tryd.prog.wantsStandIn t = false
  simpa using this
set_option maxRecDepth 1000000 in
theorem wireFixed_holds : Rows.WireFixedCardSaid :=
  Claim7.holds_tied_plain_at .later [] _ _ _ _ wireFixed_said (fun _ h => by cases h) (by kernel_rfl) (fun _ h => by cases h) wireFixed_row_tie rfl ⟨rfl, rfl⟩ (by kernel_rfl) rfl wireFixed_plain (by kernel_rfl)
#print axioms wireFixed_holds
end Go.Proofs.YticbfdhdipfjmaaDoor
