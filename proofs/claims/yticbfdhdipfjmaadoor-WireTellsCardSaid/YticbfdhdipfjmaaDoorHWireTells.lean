/- The law WireTells: for every input the call returns true, and each argument reads behind the call as it read before. -/
import Derived.Test.YticbfdhdipfjmaaDoorCWireTells
import Derived.Test.YticbfdhdipfjmaaDoorBX1
import Derived.Test.YticbfdhdipfjmaaDoorBX11
import Derived.Lib.SmallJoins
namespace Go.Proofs.YticbfdhdipfjmaaDoor
open Go.ChangeShapes Go.WideShapes Go.ChangeAt Go.RowKit
set_option linter.unusedVariables false
theorem wireTells_own : ownKnob Tryd.prog.godebug = none := by kernel_rfl
theorem wireTells_laidOut : laidOutB Tryd.prog = true := seat_laidOut
theorem wireTells_j1 : (Rows.wireTellsRow.wf (OpenSpec.ofChange Rows.wireTellsSpec)) = true := by kernel_rfl
theorem wireTells_j4 : (Tryd.f6.params.all (Tryd.pinned.checked.prog.readableRec ·)) = true := by kernel_rfl
theorem wireTells_j5 : (namedTie Tryd.pinned.checked.prog Rows.wireTellsRow.named Rows.wireTellsSpec.vars) = true := by kernel_rfl
theorem wireTells_j6 : ((Rows.wireTellsRow.stops == [])) = true := by kernel_rfl
theorem wireTells_j8 : ((Rows.wireTellsRow.knobs == [])) = true := by kernel_rfl
theorem wireTells_j10 : ((Rows.wireTellsRow.inPlace == Tryd.pinned.checked.prog.inPlace 6)) = true := by kernel_rfl
theorem wireTells_j11 : ((Rows.wireTellsRow.unfollowed == Tryd.pinned.checked.prog.unfollowed 6)) = true := by kernel_rfl
theorem wireTells_j12 : ((Rows.wireTellsRow.recurses == Tryd.pinned.checked.prog.recurses 6)) = true := by kernel_rfl
theorem wireTells_j13 : ((Rows.wireTellsRow.named == Tryd.pinned.checked.prog.varsNamed 6)) = true := by kernel_rfl
theorem wireTells_j14 : ((Rows.wireTellsRow.maps == (Tryd.f6.params.toList ++ Rows.wireTellsSpec.plain.varTypes Tryd.pinned.checked.prog).any (Tryd.pinned.checked.prog.mapsRec ·))) = true := by kernel_rfl
theorem wireTells_j15 : ((Rows.wireTellsRow.ifaces == (Tryd.f6.params.toList ++ Rows.wireTellsSpec.plain.varTypes Tryd.pinned.checked.prog).any (Tryd.pinned.checked.prog.ifacesRec ·))) = true := by kernel_rfl
theorem wireTells_j16 : ((Rows.wireTellsRow.mapsOut == Tryd.pinned.checked.prog.mapsAmong Tryd.f6.resultTypes.toList)) = true := by kernel_rfl
theorem wireTells_j17 : ((Rows.wireTellsRow.loops == (Tryd.f6.params.toList ++ Rows.wireTellsSpec.plain.varTypes Tryd.pinned.checked.prog).any (Tryd.pinned.checked.prog.loopsFrom ·))) = true := by kernel_rfl
theorem wireTells_j18 : ((Rows.wireTellsRow.wideKeys == (Tryd.f6.params.toList ++ Rows.wireTellsSpec.plain.varTypes Tryd.pinned.checked.prog ++ Tryd.f6.resultTypes.toList).any (Tryd.pinned.checked.prog.wideKeysFrom ·))) = true := by kernel_rfl
theorem wireTells_j19 : (Rows.wireTellsSpec.vars.all (Tryd.pinned.checked.prog.varReadable ·)) = true := by kernel_rfl
theorem wireTells_j20 : (Tryd.f6.resultTypes.all (fun t => Tryd.pinned.checked.prog.readableRec t && decide (t < Tryd.pinned.checked.prog.types.size))) = true := by kernel_rfl
theorem wireTells_j21 : ((Rows.wireTellsRow.ifacesOut == Tryd.f6.resultTypes.toList.any (Tryd.pinned.checked.prog.ifacesRec ·))) = true := by kernel_rfl
theorem wireTells_j22 : ((Rows.wireTellsRow.loopsOut == Tryd.f6.resultTypes.toList.any (Tryd.pinned.checked.prog.loopsFrom ·))) = true := by kernel_rfl
theorem wireTells_j23 : ((Rows.wireTellsRow.plainKeys == Tryd.pinned.checked.prog.plainKeys)) = true := by kernel_rfl
theorem wireTells_j24 : (Rows.wireTellsRow.shortTexts.isNone) = true := by kernel_rfl
theorem wireTells_j27 : (Rows.wireTellsRow.lifted == Tryd.pinned.checked.prog.liftsFinal) = true := (congrArg (fun b => Rows.wireTellsRow.lifted == b) seat_liftsFinal).trans (by kernel_rfl)
theorem wireTells_j28 : (Tryd.pinned.checked.prog.make == some Rows.wireTellsRow.make) = true := (congrArg (fun b => b == some Rows.wireTellsRow.make) seat_make).trans (by kernel_rfl)
theorem wireTells_j29 : ((Rows.wireTellsRow.kinds == (if Rows.wireTellsRow.domain.isEmpty then [] else Tryd.f6.params.toList.map fun t => match Tryd.pinned.checked.prog.underlying t with | some (.int k) => some k | _ => none))) = true := by kernel_rfl
theorem wireTells_j30 : ((Rows.wireTellsRow.pinned == Rows.wireTellsRow.pinnedBy)) = true := by kernel_rfl
theorem wireTells_j31 : ((Rows.wireTellsRow.veiled == (Tryd.f6.params.toList ++ Rows.wireTellsSpec.plain.varTypes Tryd.pinned.checked.prog ++ Tryd.f6.resultTypes.toList).any (Tryd.pinned.checked.prog.veiledRec ·))) = true := by kernel_rfl
theorem wireTells_j32 : (Rows.wireTellsRow.veiledFits Tryd.pinned.checked.prog Tryd.f6.params.toList (Tryd.f6.params.toList ++ Rows.wireTellsSpec.plain.varTypes Tryd.pinned.checked.prog ++ Tryd.f6.resultTypes.toList)) = true := by kernel_rfl
theorem wireTells_met (os : Os) : laidMet Tryd.prog Rows.wireTellsRow.laid ((hasWorld os).forCall (fun _ _ => 0) ⟨#[], #[.agg #[.int .i64 0, .slice none 0 0, .slice none 0 0, .slice none 0 0, .slice none 0 0]], []⟩).memory :=
  laidMet_of_run' 8 (by kernel_rfl) (by kernel_rfl)
theorem wireTells_reads (os : Os) {H : Type} (enc : TypeId × Value → H) : ∃ x, DataW.whole enc Tryd.prog ((hasWorld os).forCall (fun _ _ => 0) ⟨#[], #[.agg #[.int .i64 0, .slice none 0 0, .slice none 0 0, .slice none 0 0, .slice none 0 0]], []⟩).memory Tryd.f6.params.toList Rows.wireTellsSpec.vars false (#[.agg #[.int .i64 0, .slice none 0 0, .slice none 0 0, .slice none 0 0, .slice none 0 0]] : Array Value).toList 8 = some x :=
  Option.isSome_iff_exists.1 (by kernel_rfl)
set_option maxRecDepth 100000 in
theorem wireTells_lifted (os : Os) (started : os.Started) (H : Type) (enc : TypeId × Value → H) (F : Stop.Interp) :
    ReturnsInHanded {} Tryd.checked os 6 .any ((OpenSpec.ofChange Rows.wireTellsSpec).preRow enc Tryd.prog Tryd.f6 Rows.wireTellsRow.domain false Rows.wireTellsRow.laid) (((OpenSpec.ofChange Rows.wireTellsSpec).at F).post enc Tryd.prog Tryd.f6 false true false false) := by
  obtain ⟨places, hx⟩ := wireTells_reads os enc
  refine returnsInHanded_of_row (C := Tryd.checked) (s := OpenSpec.ofChange Rows.wireTellsSpec) wireTells_own started (by kernel_rfl) Tryd.func6
    (witness_row_at (enc := enc) (C := Tryd.checked) false (hasWorld os) #[.agg #[.int .i64 0, .slice none 0 0, .slice none 0 0, .slice none 0 0, .slice none 0 0]] rfl (by kernel_rfl) (by kernel_rfl) (by kernel_rfl)
      (OpenSpec.preRow_of_cond 8 hx rfl (fun k hk => by cases hk) (by kernel_rfl) (wireTells_met os))) ?_
  intro W base args ds gs before hval0 hW _ _ hsz hL _ _
  have hval : ∀ (j : Nat) t v, Tryd.f6.params[j]? = some t → args[j]? = some v → Value.okWide Tryd.prog W .any base t v := hval0
  have hW' := hW
  obtain ⟨p, q, hA0, hV, rfl, hfz, hnd⟩ := hW
  have hA : DataW.TrodAll enc Tryd.prog W 0 (fun _ => true) true Tryd.f6.params.toList args.toList ds p := hA0
  rw [Tryd.params6] at hA hval
  have hT := has_met hL
  obtain ⟨v0, vs0, d0, ds0, p0, q0, hargs, rfl, rfl, h0, r0⟩ := trodAll_cons hA
  obtain ⟨rfl, rfl, rfl⟩ := trodAll_nil r0
  obtain rfl : args = #[v0] := by cases args; simp_all
  obtain ⟨rfl, rfl⟩ := trodVars_none hV
  have k0 := h0
  have lt0 : ∀ x ∈ p0, x.block < W.heap.size := by obtain ⟨m, hm⟩ := k0; exact DataW.trod_lt m _ _ _ hm
  obtain ⟨c0_0, c0_1, c0_2, c0_3, c0_4, y0_0, y0_1, y0_2, y0_3, y0_4, n0, rfl, t0_0, t0_1, t0_2, t0_3, t0_4⟩ := open_agg5 Tryd.underlying24 (by kernel_rfl) (by kernel_rfl) (hval 0 24 v0 rfl rfl) h0
  obtain ⟨z0_0, ez0_0, _, wz0_0⟩ := DataW.trod_int Tryd.underlying3 t0_0
  obtain rfl : c0_0 = _ := by simpa using ez0_0
  have b0_0 := bounds_i64 wz0_0
  obtain ⟨l0_1, w0_1⟩ := rd_bytes_cells Tryd.underlying22 Tryd.underlying5 (by kernel_rfl) t0_1
  obtain ⟨l0_2, w0_2⟩ := rd_bytes_cells Tryd.underlying22 Tryd.underlying5 (by kernel_rfl) t0_2
  obtain ⟨l0_3, w0_3⟩ := rd_bytes_cells Tryd.underlying22 Tryd.underlying5 (by kernel_rfl) t0_3
  obtain ⟨l0_4, w0_4⟩ := rd_bytes_cells Tryd.underlying22 Tryd.underlying5 (by kernel_rfl) t0_4
  clear hA0 hval0
  refine (wireTells_walk W z0_0 c0_1 c0_2 c0_3 c0_4 l0_1 l0_2 l0_3 l0_4 hT w0_1 w0_2 w0_3 w0_4 b0_0.1 b0_0.2).mono fun e W' ⟨he, bel⟩ => ?_
  subst he
  exact ⟨_, rfl, _, _, _, [], _, [], hW', trodAll_mk1 (shut_bool Tryd.underlying4 _), (trodAll_cons_mk (Below.trod wireTells_laidOut (by kernel_rfl) (of_decide_eq_true (by kernel_rfl)) k0 bel lt0) trodAll_mk0), rfl, bel.frame _, fun h => by cases h⟩
set_option maxRecDepth 1000000 in
theorem wireTells_said : Rows.WireTellsSaid :=
  OpenClaim.holds_of_cond 6 Tryd.f6 rfl rfl rfl rfl rfl rfl rfl ⟨rfl, rfl, rfl, rfl, rfl⟩ rfl rfl rfl rfl rfl (by as_aux_lemma => kernel_rfl) Tryd.func6 (joined_mk wireTells_j1 seat_laidOut seat_mapsRowed wireTells_j4 wireTells_j5 wireTells_j6 seat_stops wireTells_j8 seat_stopKnobs wireTells_j10 wireTells_j11 wireTells_j12 wireTells_j13 wireTells_j14 wireTells_j15 wireTells_j16 wireTells_j17 wireTells_j18 wireTells_j19 wireTells_j20 wireTells_j21 wireTells_j22 wireTells_j23 wireTells_j24 seat_stopsHeard seat_mayEnter wireTells_j27 wireTells_j28 wireTells_j29 wireTells_j30 wireTells_j31 wireTells_j32)
    (of_decide_eq_true (by as_aux_lemma => kernel_rfl)) (by unfold Func.isWrapper; first | (rw [if_pos (by decide +kernel)]; kernel_rfl) | (rw [if_neg (by decide +kernel)]; exact ⟨rfl, rfl⟩))
    (fun os started H enc _ F => by rw [OpenClaim.pre_eq_preRow]; exact wireTells_lifted os started H enc F)
theorem wireTells_plain (f : FuncId) (fn : Func) (hf : Tryd.pinned.checked.prog.funcNamed "canopy/canopykeep.WireTells" = some f) (hfn : Tryd.pinned.checked.prog.funcs[f]? = some fn) :
    false = Tryd.pinned.checked.prog.looks [] ∧ ∀ (j : Nat) t, fn.params[j]? = some t → Tryd.pinned.checked.prog.wantsStandIn t = false := by
  obtain rfl : f = 6 := Option.some.inj ((show Tryd.prog.funcNamed "canopy/canopykeep.WireTells" = some 6 by kernel_rfl).symm.trans hf) |>.symm
  obtain rfl : fn = Tryd.f6 := (Option.some.inj (Tryd.func6.symm.trans hfn)).symm
  refine ⟨by kernel_rfl, fun j t ht => ?_⟩
  have hall : (Tryd.f6.params.all fun t => !Tryd.prog.wantsStandIn t) = true := by kernel_rfl
  have := Array.all_eq_true_iff_forall_mem.1 hall t (Array.mem_of_getElem? ht)
  show Tryd.prog.wantsStandIn t = false
  simpa using this
set_option maxRecDepth 1000000 in
theorem wireTells_holds : Rows.WireTellsCardSaid :=
  Claim7.holds_tied_plain_at .later [] _ _ _ _ wireTells_said (fun _ h => by cases h) (by kernel_rfl) (fun _ h => by cases h) wireTells_row_tie rfl ⟨rfl, rfl⟩ (by kernel_rfl) rfl wireTells_plain (by kernel_rfl)
#print axioms wireTells_holds
end Go.Proofs.YticbfdhdipfjmaaDoor
