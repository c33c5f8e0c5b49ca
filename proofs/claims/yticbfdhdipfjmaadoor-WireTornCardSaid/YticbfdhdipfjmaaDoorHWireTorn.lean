/- The law WireTorn: for every input the call returns true, and each argument reads behind the call as it read before. -/
import Derived.Test.YticbfdhdipfjmaaDoorCWireTorn
import Derived.Test.YticbfdhdipfjmaaDoorBW1
import Derived.Test.YticbfdhdipfjmaaDoorBW5
import Derived.Lib.SmallJoins
namespace Go.Proofs.YticbfdhdipfjmaaDoor
open Go.ChangeShapes Go.WideShapes Go.ChangeAt Go.RowKit
set_option linter.unusedVariables false
theorem wireTorn_own : ownKnob Tryd.prog.godebug = none := by kernel_rfl
theorem wireTorn_laidOut : laidOutB Tryd.prog = true := seat_laidOut
theorem wireTorn_j1 : (Rows.wireTornRow.wf (OpenSpec.ofChange Rows.wireTornSpec)) = true := by kernel_rfl
theorem wireTorn_j4 : (Tryd.f5.params.all (Tryd.pinned.checked.prog.readableRec ·)) = true := by kernel_rfl
theorem wireTorn_j5 : (namedTie Tryd.pinned.checked.prog Rows.wireTornRow.named Rows.wireTornSpec.vars) = true := by kernel_rfl
theorem wireTorn_j6 : ((Rows.wireTornRow.stops == [])) = true := by kernel_rfl
theorem wireTorn_j8 : ((Rows.wireTornRow.knobs == [])) = true := by kernel_rfl
theorem wireTorn_j10 : ((Rows.wireTornRow.inPlace == Tryd.pinned.checked.prog.inPlace 5)) = true := by kernel_rfl
theorem wireTorn_j11 : ((Rows.wireTornRow.unfollowed == Tryd.pinned.checked.prog.unfollowed 5)) = true := by kernel_rfl
theorem wireTorn_j12 : ((Rows.wireTornRow.recurses == Tryd.pinned.checked.prog.recurses 5)) = true := by kernel_rfl
theorem wireTorn_j13 : ((Rows.wireTornRow.named == Tryd.pinned.checked.prog.varsNamed 5)) = true := by kernel_rfl
theorem wireTorn_j14 : ((Rows.wireTornRow.maps == (Tryd.f5.params.toList ++ Rows.wireTornSpec.plain.varTypes Tryd.pinned.checked.prog).any (Tryd.pinned.checked.prog.mapsRec ·))) = true := by kernel_rfl
theorem wireTorn_j15 : ((Rows.wireTornRow.ifaces == (Tryd.f5.params.toList ++ Rows.wireTornSpec.plain.varTypes Tryd.pinned.checked.prog).any (Tryd.pinned.checked.prog.ifacesRec ·))) = true := by kernel_rfl
theorem wireTorn_j16 : ((Rows.wireTornRow.mapsOut == Tryd.pinned.checked.prog.mapsAmong Tryd.f5.resultTypes.toList)) = true := by kernel_rfl
theorem wireTorn_j17 : ((Rows.wireTornRow.loops == (Tryd.f5.params.toList ++ Rows.wireTornSpec.plain.varTypes Tryd.pinned.checked.prog).any (Tryd.pinned.checked.prog.loopsFrom ·))) = true := by kernel_rfl
theorem wireTorn_j18 : ((Rows.wireTornRow.wideKeys == (Tryd.f5.params.toList ++ Rows.wireTornSpec.plain.varTypes Tryd.pinned.checked.prog ++ Tryd.f5.resultTypes.toList).any (Tryd.pinned.checked.prog.wideKeysFrom ·))) = true := by kernel_rfl
theorem wireTorn_j19 : (Rows.wireTornSpec.vars.all (Tryd.pinned.checked.prog.varReadable ·)) = true := by kernel_rfl
theorem wireTorn_j20 : (Tryd.f5.resultTypes.all (fun t => Tryd.pinned.checked.prog.readableRec t && decide (t < Tryd.pinned.checked.prog.types.size))) = true := by kernel_rfl
theorem wireTorn_j21 : ((Rows.wireTornRow.ifacesOut == Tryd.f5.resultTypes.toList.any (Tryd.pinned.checked.prog.ifacesRec ·))) = true := by kernel_rfl
theorem wireTorn_j22 : ((Rows.wireTornRow.loopsOut == Tryd.f5.resultTypes.toList.any (Tryd.pinned.checked.prog.loopsFrom ·))) = true := by kernel_rfl
theorem wireTorn_j23 : ((Rows.wireTornRow.plainKeys == Tryd.pinned.checked.prog.plainKeys)) = true := by kernel_rfl
theorem wireTorn_j24 : (Rows.wireTornRow.shortTexts.isNone) = true := by kernel_rfl
theorem wireTorn_j27 : (Rows.wireTornRow.lifted == Tryd.pinned.checked.prog.liftsFinal) = true := (congrArg (fun b => Rows.wireTornRow.lifted == b) seat_liftsFinal).trans (by kernel_rfl)
theorem wireTorn_j28 : (Tryd.pinned.checked.prog.make == some Rows.wireTornRow.make) = true := (congrArg (fun b => b == some Rows.wireTornRow.make) seat_make).trans (by kernel_rfl)
theorem wireTorn_j29 : ((Rows.wireTornRow.kinds == (if Rows.wireTornRow.domain.isEmpty then [] else Tryd.f5.params.toList.map fun t => match Tryd.pinned.checked.prog.underlying t with | some (.int k) => some k | _ => none))) = true := by kernel_rfl
theorem wireTorn_j30 : ((Rows.wireTornRow.pinned == Rows.wireTornRow.pinnedBy)) = true := by kernel_rfl
theorem wireTorn_j31 : ((Rows.wireTornRow.veiled == (Tryd.f5.params.toList ++ Rows.wireTornSpec.plain.varTypes Tryd.pinned.checked.prog ++ Tryd.f5.resultTypes.toList).any (Tryd.pinned.checked.prog.veiledRec ·))) = true := by kernel_rfl
theorem wireTorn_j32 : (Rows.wireTornRow.veiledFits Tryd.pinned.checked.prog Tryd.f5.params.toList (Tryd.f5.params.toList ++ Rows.wireTornSpec.plain.varTypes Tryd.pinned.checked.prog ++ Tryd.f5.resultTypes.toList)) = true := by kernel_rfl
theorem wireTorn_met (os : Os) : laidMet Tryd.prog Rows.wireTornRow.laid ((hasWorld os).forCall (fun _ _ => 0) ⟨#[], #[.agg #[.int .i64 0, .slice none 0 0, .slice none 0 0, .slice none 0 0, .slice none 0 0], .int .i64 0], []⟩).memory :=
  laidMet_of_run' 8 (by kernel_rfl) (by kernel_rfl)
theorem wireTorn_reads (os : Os) {H : Type} (enc : TypeId × Value → H) : ∃ x, DataW.whole enc Tryd.prog ((hasWorld os).forCall (fun _ _ => 0) ⟨#[], #[.agg #[.int .i64 0, .slice none 0 0, .slice none 0 0, .slice none 0 0, .slice none 0 0], .int .i64 0], []⟩).memory Tryd.f5.params.toList Rows.wireTornSpec.vars false (#[.agg #[.int .i64 0, .slice none 0 0, .slice none 0 0, .slice none 0 0, .slice none 0 0], .int .i64 0] : Array Value).toList 8 = some x :=
  Option.isSome_iff_exists.1 (by kernel_rfl)
set_option maxRecDepth 100000 in
theorem wireTorn_lifted (os : Os) (started : os.Started) (H : Type) (enc : TypeId × Value → H) (F : Stop.Interp) :
    ReturnsInHanded {} Tryd.checked os 5 .any ((OpenSpec.ofChange Rows.wireTornSpec).preRow enc Tryd.prog Tryd.f5 Rows.wireTornRow.domain false Rows.wireTornRow.laid) (((OpenSpec.ofChange Rows.wireTornSpec).at F).post enc Tryd.prog Tryd.f5 false true false false) := by
  obtain ⟨places, hx⟩ := wireTorn_reads os enc
  refine returnsInHanded_of_row (C := Tryd.checked) (s := OpenSpec.ofChange Rows.wireTornSpec) wireTorn_own started (by kernel_rfl) Tryd.func5
    (witness_row_at (enc := enc) (C := Tryd.checked) false (hasWorld os) #[.agg #[.int .i64 0, .slice none 0 0, .slice none 0 0, .slice none 0 0, .slice none 0 0], .int .i64 0] rfl (by kernel_rfl) (by kernel_rfl) (by kernel_rfl)
      (OpenSpec.preRow_of_cond 8 hx rfl (fun k hk => by cases hk) (by kernel_rfl) (wireTorn_met os))) ?_
  intro W base args ds gs before hval0 hW _ _ hsz hL _ _
  have hval : ∀ (j : Nat) t v, Tryd.f5.params[j]? = some t → args[j]? = some v → Value.okWide Tryd.prog W .any base t v := hval0
  have hW' := hW
  obtain ⟨p, q, hA0, hV, rfl, hfz, hnd⟩ := hW
  have hA : DataW.TrodAll enc Tryd.prog W 0 (fun _ => true) true Tryd.f5.params.toList args.toList ds p := hA0
  rw [Tryd.params5] at hA hval
  have hT := has_met hL
  obtain ⟨v0, vs0, d0, ds0, p0, q0, hargs, rfl, rfl, h0, r0⟩ := trodAll_cons hA
  obtain ⟨v1, vs1, d1, ds1, p1, q1, rfl, rfl, rfl, h1, r1⟩ := trodAll_cons r0
  obtain ⟨rfl, rfl, rfl⟩ := trodAll_nil r1
  obtain rfl : args = #[v0, v1] := by cases args; simp_all
  obtain ⟨rfl, rfl⟩ := trodVars_none hV
  have k0 := h0
  have lt0 : ∀ x ∈ p0, x.block < W.heap.size := by obtain ⟨m, hm⟩ := k0; exact DataW.trod_lt m _ _ _ hm
  obtain ⟨c0_0, c0_1, c0_2, c0_3, c0_4, y0_0, y0_1, y0_2, y0_3, y0_4, n0, rfl, t0_0, t0_1, t0_2, t0_3, t0_4⟩ := open_agg5 Tryd.underlying24 (by kernel_rfl) (by kernel_rfl) (hval 0 24 v0 rfl rfl) h0
  obtain ⟨z0_0, ez0_0, _, wz0_0⟩ := DataW.trod_int Tryd.underlying3 t0_0
  obtain rfl : c0_0 = _ := by simpa using ez0_0
  have b0_0 := bounds_i64 wz0_0
  obtain ⟨l0_1, w0_1⟩ := rd_bytes_cells Tryd.underlying22 Tryd.underlying5 (by kernel_rfl) t0_1
  obtain ⟨l0_2, w0_2⟩ := rd_bytes_cells Tryd.underlying22 Tryd.underlying5 (by kernel_rfl) t0_2
  obtain ⟨l0_3, w0_3⟩ := rd_bytes_cells Tryd.underlying22 Tryd.underlying5 (by kernel_rfl) t0_3
  obtain ⟨l0_4, w0_4⟩ := rd_bytes_cells Tryd.underlying22 Tryd.underlying5 (by kernel_rfl) t0_4
  have k1 := h1
  have lt1 : ∀ x ∈ p1, x.block < W.heap.size := by obtain ⟨m, hm⟩ := k1; exact DataW.trod_lt m _ _ _ hm
  obtain ⟨x1, rfl, _, _, wx1⟩ := open_int Tryd.underlying3 (hval 1 3 v1 rfl rfl) h1
  have b1 := bounds_i64 wx1
  clear hA0 hval0
  refine (wireTorn_walk W z0_0 c0_1 c0_2 c0_3 c0_4 l0_1 l0_2 l0_3 l0_4 x1 hT w0_1 w0_2 w0_3 w0_4 b0_0.1 b0_0.2 b1.1 b1.2).mono fun e W' ⟨he, bel⟩ => ?_
  subst he
  exact ⟨_, rfl, _, _, _, [], _, [], hW', trodAll_mk1 (shut_bool Tryd.underlying4 _), (trodAll_cons_mk (Below.trod wireTorn_laidOut (by kernel_rfl) (of_decide_eq_true (by kernel_rfl)) k0 bel lt0) (trodAll_cons_mk (Below.trod wireTorn_laidOut (by kernel_rfl) (of_decide_eq_true (by kernel_rfl)) k1 bel lt1) trodAll_mk0)), rfl, bel.frame _, fun h => by cases h⟩
set_option maxRecDepth 1000000 in
theorem wireTorn_said : Rows.WireTornSaid :=
  OpenClaim.holds_of_cond 5 Tryd.f5 rfl rfl rfl rfl rfl rfl rfl ⟨rfl, rfl, rfl, rfl, rfl⟩ rfl rfl rfl rfl rfl (by as_aux_lemma => kernel_rfl) Tryd.func5 (joined_mk wireTorn_j1 seat_laidOut seat_mapsRowed wireTorn_j4 wireTorn_j5 wireTorn_j6 seat_stops wireTorn_j8 seat_stopKnobs wireTorn_j10 wireTorn_j11 wireTorn_j12 wireTorn_j13 wireTorn_j14 wireTorn_j15 wireTorn_j16 wireTorn_j17 wireTorn_j18 wireTorn_j19 wireTorn_j20 wireTorn_j21 wireTorn_j22 wireTorn_j23 wireTorn_j24 seat_stopsHeard seat_mayEnter wireTorn_j27 wireTorn_j28 wireTorn_j29 wireTorn_j30 wireTorn_j31 wireTorn_j32)
    (of_decide_eq_true (by as_aux_lemma => kernel_rfl)) (by unfold Func.isWrapper; first | (rw [if_pos (by decide +kernel)]; kernel_rfl) | (rw [if_neg (by decide +kernel)]; exact ⟨rfl, rfl⟩))
    (fun os started H enc _ F => by rw [OpenClaim.pre_eq_preRow]; exact wireTorn_lifted os started H enc F)
theorem wireTorn_plain (f : FuncId) (fn : Func) (hf : Tryd.pinned.checked.prog.funcNamed "canopy/canopykeep.WireTorn" = some f) (hfn : Tryd.pinned.checked.prog.funcs[f]? = some fn) :
    false = Tryd.pinned.checked.prog.looks [] ∧ ∀ (j : Nat) t, fn.params[j]? = some t → Tryd.pinned.checked.prog.wantsStandIn t = false := by
  obtain rfl : f = 5 := Option.some.inj ((show Tryd.prog.funcNamed "canopy/canopykeep.WireTorn" = some 5 by kernel_rfl).symm.trans hf) |>.symm
  obtain rfl : fn = Tryd.f5 := (Option.some.inj (Tryd.func5.symm.trans hfn)).symm
  refine ⟨by kernel_rfl, fun j t ht => ?_⟩
  have hall : (Tryd.f5.params.all fun t => !Tryd.prog.wantsStandIn t) = true := by kernel_rfl
  have := Array.all_eq_true_iff_forall_mem.1 hall t (Array.mem_of_getElem? ht)
  show Tryd.prog.wantsStandIn t = false
  simpa using this
set_option maxRecDepth 1000000 in
theorem wireTorn_holds : Rows.WireTornCardSaid :=
  Claim7.holds_tied_plain_at .later [] _ _ _ _ wireTorn_said (fun _ h => by cases h) (by kernel_rfl) (fun _ h => by cases h) wireTorn_row_tie rfl ⟨rfl, rfl⟩ (by kernel_rfl) rfl wireTorn_plain (by kernel_rfl)
#print axioms wireTorn_holds
end Go.Proofs.YticbfdhdipfjmaaDoor
