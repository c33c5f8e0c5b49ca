/- The law WireBack: for every input the call returns true, and each argument reads behind the call as it read before. -/
import Derived.Test.YticbfdhdipfjmaaDoorCWireBack
import Derived.Test.YticbfdhdipfjmaaDoorBW1
import Derived.Test.YticbfdhdipfjmaaDoorBW5
import Derived.Lib.SmallJoins
namespace Go.Proofs.YticbfdhdipfjmaaDoor
open Go.ChangeShapes Go.WideShapes Go.ChangeAt Go.RowKit
set_option linter.unusedVariables false
theorem wireBack_own : ownKnob Tryd.prog.godebug = none := by kernel_rfl
theorem wireBack_laidOut : laidOutB Tryd.prog = true := seat_laidOut
theorem wireBack_j1 : (Rows.wireBackRow.wf (OpenSpec.ofChange Rows.wireBackSpec)) = true := by kernel_rfl
theorem wireBack_j4 : (Tryd.f3.params.all (Tryd.pinned.checked.prog.readableRec ·)) = true := by kernel_rfl
theorem wireBack_j5 : (namedTie Tryd.pinned.checked.prog Rows.wireBackRow.named Rows.wireBackSpec.vars) = true := by kernel_rfl
theorem wireBack_j6 : ((Rows.wireBackRow.stops == [])) = true := by kernel_rfl
theorem wireBack_j8 : ((Rows.wireBackRow.knobs == [])) = true := by kernel_rfl
theorem wireBack_j10 : ((Rows.wireBackRow.inPlace == Tryd.pinned.checked.prog.inPlace 3)) = true := by kernel_rfl
theorem wireBack_j11 : ((Rows.wireBackRow.unfollowed == Tryd.pinned.checked.prog.unfollowed 3)) = true := by kernel_rfl
theorem wireBack_j12 : ((Rows.wireBackRow.recurses == Tryd.pinned.checked.prog.recurses 3)) = true := by kernel_rfl
theorem wireBack_j13 : ((Rows.wireBackRow.named == Tryd.pinned.checked.prog.varsNamed 3)) = true := by kernel_rfl
theorem wireBack_j14 : ((Rows.wireBackRow.maps == (Tryd.f3.params.toList ++ Rows.wireBackSpec.plain.varTypes Tryd.pinned.checked.prog).any (Tryd.pinned.checked.prog.mapsRec ·))) = true := by kernel_rfl
theorem wireBack_j15 : ((Rows.wireBackRow.ifaces == (Tryd.f3.params.toList ++ Rows.wireBackSpec.plain.varTypes Tryd.pinned.checked.prog).any (Tryd.pinned.checked.prog.ifacesRec ·))) = true := by kernel_rfl
theorem wireBack_j16 : ((Rows.wireBackRow.mapsOut == Tryd.pinned.checked.prog.mapsAmong Tryd.f3.resultTypes.toList)) = true := by kernel_rfl
theorem wireBack_j17 : ((Rows.wireBackRow.loops == (Tryd.f3.params.toList ++ Rows.wireBackSpec.plain.varTypes Tryd.pinned.checked.prog).any (Tryd.pinned.checked.prog.loopsFrom ·))) = true := by kernel_rfl
theorem wireBack_j18 : ((Rows.wireBackRow.wideKeys == (Tryd.f3.params.toList ++ Rows.wireBackSpec.plain.varTypes Tryd.pinned.checked.prog ++ Tryd.f3.resultTypes.toList).any (Tryd.pinned.checked.prog.wideKeysFrom ·))) = true := by kernel_rfl
theorem wireBack_j19 : (Rows.wireBackSpec.vars.all (Tryd.pinned.checked.prog.varReadable ·)) = true := by kernel_rfl
theorem wireBack_j20 : (Tryd.f3.resultTypes.all (fun t => Tryd.pinned.checked.prog.readableRec t && decide (t < Tryd.pinned.checked.prog.types.size))) = true := by kernel_rfl
theorem wireBack_j21 : ((Rows.wireBackRow.ifacesOut == Tryd.f3.resultTypes.toList.any (Tryd.pinned.checked.prog.ifacesRec ·))) = true := by kernel_rfl
theorem wireBack_j22 : ((Rows.wireBackRow.loopsOut == Tryd.f3.resultTypes.toList.any (Tryd.pinned.checked.prog.loopsFrom ·))) = true := by kernel_rfl
theorem wireBack_j23 : ((Rows.wireBackRow.plainKeys == Tryd.pinned.checked.prog.plainKeys)) = true := by kernel_rfl
theorem wireBack_j24 : (Rows.wireBackRow.shortTexts.isNone) = true := by kernel_rfl
theorem wireBack_j27 : (Rows.wireBackRow.lifted == Tryd.pinned.checked.prog.liftsFinal) = true := (congrArg (fun b => Rows.wireBackRow.lifted == b) seat_liftsFinal).trans (by kernel_rfl)
theorem wireBack_j28 : (Tryd.pinned.checked.prog.make == some Rows.wireBackRow.make) = true := (congrArg (fun b => b == some Rows.wireBackRow.make) seat_make).trans (by kernel_rfl)
theorem wireBack_j29 : ((Rows.wireBackRow.kinds == (if Rows.wireBackRow.domain.isEmpty then [] else Tryd.f3.params.toList.map fun t => match Tryd.pinned.checked.prog.underlying t with | some (.int k) => some k | _ => none))) = true := by kernel_rfl
theorem wireBack_j30 : ((Rows.wireBackRow.pinned == Rows.wireBackRow.pinnedBy)) = true := by kernel_rfl
theorem wireBack_j31 : ((Rows.wireBackRow.veiled == (Tryd.f3.params.toList ++ Rows.wireBackSpec.plain.varTypes Tryd.pinned.checked.prog ++ Tryd.f3.resultTypes.toList).any (Tryd.pinned.checked.prog.veiledRec ·))) = true := by kernel_rfl
theorem wireBack_j32 : (Rows.wireBackRow.veiledFits Tryd.pinned.checked.prog Tryd.f3.params.toList (Tryd.f3.params.toList ++ Rows.wireBackSpec.plain.varTypes Tryd.pinned.checked.prog ++ Tryd.f3.resultTypes.toList)) = true := by kernel_rfl
theorem wireBack_met (os : Os) : laidMet Tryd.prog Rows.wireBackRow.laid ((hasWorld os).forCall (fun _ _ => 0) ⟨#[], #[.agg #[.int .i64 0, .slice none 0 0, .slice none 0 0, .slice none 0 0, .slice none 0 0], .int .u8 0], []⟩).memory :=
  laidMet_of_run' 8 (by kernel_rfl) (by kernel_rfl)
theorem wireBack_reads (os : Os) {H : Type} (enc : TypeId × Value → H) : ∃ x, DataW.whole enc Tryd.prog ((hasWorld os).forCall (fun _ _ => 0) ⟨#[], #[.agg #[.int .i64 0, .slice none 0 0, .slice none 0 0, .slice none 0 0, .slice none 0 0], .int .u8 0], []⟩).memory Tryd.f3.params.toList Rows.wireBackSpec.vars false (#[.agg #[.int .i64 0, .slice none 0 0, .slice none 0 0, .slice none 0 0, .slice none 0 0], .int .u8 0] : Array Value).toList 8 = some x :=
  Option.isSome_iff_exists.1 (by kernel_rfl)
set_option maxRecDepth 100000 in
theorem wireBack_lifted (os : Os) (started : os.Started) (H : Type) (enc : TypeId × Value → H) (F : Stop.Interp) :
    ReturnsInHanded {} Tryd.checked os 3 .any ((OpenSpec.ofChange Rows.wireBackSpec).preRow enc Tryd.prog Tryd.f3 Rows.wireBackRow.domain false Rows.wireBackRow.laid) (((OpenSpec.ofChange Rows.wireBackSpec).at F).post enc Tryd.prog Tryd.f3 false true false false) := by
  obtain ⟨places, hx⟩ := wireBack_reads os enc
  refine returnsInHanded_of_row (C := Tryd.checked) (s := OpenSpec.ofChange Rows.wireBackSpec) wireBack_own started (by kernel_rfl) Tryd.func3
    (witness_row_at (enc := enc) (C := Tryd.checked) false (hasWorld os) #[.agg #[.int .i64 0, .slice none 0 0, .slice none 0 0, .slice none 0 0, .slice none 0 0], .int .u8 0] rfl (by kernel_rfl) (by kernel_rfl) (by kernel_rfl)
      (OpenSpec.preRow_of_cond 8 hx rfl (fun k hk => by cases hk) (by kernel_rfl) (wireBack_met os))) ?_
  intro W base args ds gs before hval0 hW _ _ hsz hL _ _
  have hval : ∀ (j : Nat) t v, Tryd.f3.params[j]? = some t → args[j]? = some v → Value.okWide Tryd.prog W .any base t v := hval0
  have hW' := hW
  obtain ⟨p, q, hA0, hV, rfl, hfz, hnd⟩ := hW
  have hA : DataW.TrodAll enc Tryd.prog W 0 (fun _ => true) true Tryd.f3.params.toList args.toList ds p := hA0
  rw [Tryd.params3] at hA hval
  have hT := has_met hL
  obtain ⟨v0, vs0, d0, ds0, p0, q0, hargs, rfl, rfl, h0, r0⟩ := trodAll_cons hA
  obtain ⟨v1, vs1, d1, ds1, p1, q1, rfl, rfl, rfl, h1, r1⟩ := trodAll_cons r0
  obtain ⟨rfl, rfl, rfl⟩ := trodAll_nil r1
  obtain rfl : args = #[v0, v1] := by cases args; simp_all
  obtain ⟨rfl, rfl⟩ := trodVars_none hV
  have k0 := h0
  have lt0 : ∀ x ∈ p0, x.block < W.heap.size := by obtain ⟨m, hm⟩ := k0; exact DataW.trod_lt m _ _ _ hm
  obtain ⟨c0_0, c0_1, c0_2, c0_3, c0_4, y0_0, y0_1, y0_2, y0_3, y0_4, n0, rfl, t0_0, t0_1, t0_2, t0_3, t0_4⟩ := open_agg5 Tryd.underlying24 (by kernel_rfl) (by kernel_rfl) (hval 0 24 v0 rfl rfl) h0
  obtain ⟨z0_0, ez0_0, _, wz0_0⟩ := DataW.trod_int Tryd.underlying3 t0_0
  obtain rfl : c0_0 = _ := by simpa using ez0_0
  have b0_0 := bounds_i64 wz0_0
  obtain ⟨l0_1, w0_1⟩ := rd_bytes_cells Tryd.underlying22 Tryd.underlying5 (by kernel_rfl) t0_1
  obtain ⟨l0_2, w0_2⟩ := rd_bytes_cells Tryd.underlying22 Tryd.underlying5 (by kernel_rfl) t0_2
  obtain ⟨l0_3, w0_3⟩ := rd_bytes_cells Tryd.underlying22 Tryd.underlying5 (by kernel_rfl) t0_3
  obtain ⟨l0_4, w0_4⟩ := rd_bytes_cells Tryd.underlying22 Tryd.underlying5 (by kernel_rfl) t0_4
  have k1 := h1
  have lt1 : ∀ x ∈ p1, x.block < W.heap.size := by obtain ⟨m, hm⟩ := k1; exact DataW.trod_lt m _ _ _ hm
  obtain ⟨x1, rfl, _, _, wx1⟩ := open_int Tryd.underlying5 (hval 1 5 v1 rfl rfl) h1
  have b1 := bounds_u8 wx1
  obtain ⟨u1, rfl⟩ : ∃ u : UInt8, x1 = (u.toNat : Int) := ⟨UInt8.ofNat x1.toNat, by simp; omega⟩
  clear hA0 hval0
  refine (wireBack_walk W z0_0 c0_1 c0_2 c0_3 c0_4 l0_1 l0_2 l0_3 l0_4 u1 hT w0_1 w0_2 w0_3 w0_4 b0_0.1 b0_0.2).mono fun e W' ⟨he, bel⟩ => ?_
  subst he
  exact ⟨_, rfl, _, _, _, [], _, [], hW', trodAll_mk1 (shut_bool Tryd.underlying4 _), (trodAll_cons_mk (Below.trod wireBack_laidOut (by kernel_rfl) (of_decide_eq_true (by kernel_rfl)) k0 bel lt0) (trodAll_cons_mk (Below.trod wireBack_laidOut (by kernel_rfl) (of_decide_eq_true (by kernel_rfl)) k1 bel lt1) trodAll_mk0)), rfl, bel.frame _, fun h => by cases h⟩
set_option maxRecDepth 1000000 in
theorem wireBack_said : Rows.WireBackSaid :=
  OpenClaim.holds_of_cond 3 Tryd.f3 rfl rfl rfl rfl rfl rfl rfl ⟨rfl, rfl, rfl, rfl, rfl⟩ rfl rfl rfl rfl rfl (by as_aux_lemma => kernel_rfl) Tryd.func3 (joined_mk wireBack_j1 seat_laidOut seat_mapsRowed wireBack_j4 wireBack_j5 wireBack_j6 seat_stops wireBack_j8 seat_stopKnobs wireBack_j10 wireBack_j11 wireBack_j12 wireBack_j13 wireBack_j14 wireBack_j15 wireBack_j16 wireBack_j17 wireBack_j18 wireBack_j19 wireBack_j20 wireBack_j21 wireBack_j22 wireBack_j23 wireBack_j24 seat_stopsHeard seat_mayEnter wireBack_j27 wireBack_j28 wireBack_j29 wireBack_j30 wireBack_j31 wireBack_j32)
    (of_decide_eq_true (by as_aux_lemma => kernel_rfl)) (by unfold Func.isWrapper; first | (rw [if_pos (by decide +kernel)]; kernel_rfl) | (rw [if_neg (by decide +kernel)]; exact ⟨rfl, rfl⟩))
    (fun os started H enc _ F => by rw [OpenClaim.pre_eq_preRow]; exact wireBack_lifted os started H enc F)
theorem wireBack_plain (f : FuncId) (fn : Func) (hf : Tryd.pinned.checked.prog.funcNamed "canopy/canopykeep.WireBack" = some f) (hfn : Tryd.pinned.checked.prog.funcs[f]? = some fn) :
    false = Tryd.pinned.checked.prog.looks [] ∧ ∀ (j : Nat) t, fn.params[j]? = some t → Tryd.pinned.checked.prog.wantsStandIn t = false := by
  obtain rfl : f = 3 := Option.some.inj ((show Tryd.prog.funcNamed "canopy/canopykeep.WireBack" = some 3 by kernel_rfl).symm.trans hf) |>.symm
  obtain rfl : fn = Tryd.f3 := (Option.some.inj (Tryd.func3.symm.trans hfn)).symm
  refine ⟨by kernel_rfl, fun j t ht => ?_⟩
  have hall : (Tryd.f3.params.all fun t => !Tryd.prog.wantsStandIn t) = true := by kernel_rfl
  have := Array.all_eq_true_iff_forall_mem.1 hall t (Array.mem_of_getElem? ht)
  show Tryd.prog.wantsStandIn t = false
  simpa using this
set_option maxRecDepth 1000000 in
theorem wireBack_holds : Rows.WireBackCardSaid :=
  Claim7.holds_tied_plain_at .later [] _ _ _ _ wireBack_said (fun _ h => by cases h) (by kernel_rfl) (fun _ h => by cases h) wireBack_row_tie rfl ⟨rfl, rfl⟩ (by kernel_rfl) rfl wireBack_plain (by kernel_rfl)
#print axioms wireBack_holds
end Go.Proofs.YticbfdhdipfjmaaDoor
