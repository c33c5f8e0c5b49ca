/- The law ForestHolds: for every input the call returns true, and each argument reads behind the call as it read before. -/
import Derived.Test.YtikklmjengkliaaDoorCForestHolds
import Derived.Test.YtikklmjengkliaaDoorCB1
import Derived.Test.YtikklmjengkliaaDoorCB3
import Derived.Test.YtikklmjengkliaaDoorCB10
import Derived.Lib.SmallJoins
namespace Go.Proofs.YtikklmjengkliaaDoor
open Go.ChangeShapes Go.WideShapes Go.ChangeAt Go.RowKit
set_option linter.unusedVariables false
theorem forestHolds_own : ownKnob Tryd.prog.godebug = none := by kernel_rfl
theorem forestHolds_laidOut : laidOutB Tryd.prog = true := seat_laidOut
theorem forestHolds_j1 : (Rows.forestHoldsRow.wf (OpenSpec.ofChange Rows.forestHoldsSpec)) = true := by kernel_rfl
theorem forestHolds_j4 : (Tryd.f5.params.all (Tryd.pinned.checked.prog.readableRec ·)) = true := by kernel_rfl
theorem forestHolds_j5 : (namedTie Tryd.pinned.checked.prog Rows.forestHoldsRow.named Rows.forestHoldsSpec.vars) = true := by kernel_rfl
theorem forestHolds_j6 : ((Rows.forestHoldsRow.stops == [])) = true := by kernel_rfl
theorem forestHolds_j8 : ((Rows.forestHoldsRow.knobs == [])) = true := by kernel_rfl
theorem forestHolds_j10 : ((Rows.forestHoldsRow.inPlace == Tryd.pinned.checked.prog.inPlace 5)) = true := by kernel_rfl
theorem forestHolds_j11 : ((Rows.forestHoldsRow.unfollowed == Tryd.pinned.checked.prog.unfollowed 5)) = true := by kernel_rfl
theorem forestHolds_j12 : ((Rows.forestHoldsRow.recurses == Tryd.pinned.checked.prog.recurses 5)) = true := by kernel_rfl
theorem forestHolds_j13 : ((Rows.forestHoldsRow.named == Tryd.pinned.checked.prog.varsNamed 5)) = true := by kernel_rfl
theorem forestHolds_j14 : ((Rows.forestHoldsRow.maps == (Tryd.f5.params.toList ++ Rows.forestHoldsSpec.plain.varTypes Tryd.pinned.checked.prog).any (Tryd.pinned.checked.prog.mapsRec ·))) = true := by kernel_rfl
theorem forestHolds_j15 : ((Rows.forestHoldsRow.ifaces == (Tryd.f5.params.toList ++ Rows.forestHoldsSpec.plain.varTypes Tryd.pinned.checked.prog).any (Tryd.pinned.checked.prog.ifacesRec ·))) = true := by kernel_rfl
theorem forestHolds_j16 : ((Rows.forestHoldsRow.mapsOut == Tryd.pinned.checked.prog.mapsAmong Tryd.f5.resultTypes.toList)) = true := by kernel_rfl
theorem forestHolds_j17 : ((Rows.forestHoldsRow.loops == (Tryd.f5.params.toList ++ Rows.forestHoldsSpec.plain.varTypes Tryd.pinned.checked.prog).any (Tryd.pinned.checked.prog.loopsFrom ·))) = true := by kernel_rfl
theorem forestHolds_j18 : ((Rows.forestHoldsRow.wideKeys == (Tryd.f5.params.toList ++ Rows.forestHoldsSpec.plain.varTypes Tryd.pinned.checked.prog ++ Tryd.f5.resultTypes.toList).any (Tryd.pinned.checked.prog.wideKeysFrom ·))) = true := by kernel_rfl
theorem forestHolds_j19 : (Rows.forestHoldsSpec.vars.all (Tryd.pinned.checked.prog.varReadable ·)) = true := by kernel_rfl
theorem forestHolds_j20 : (Tryd.f5.resultTypes.all (fun t => Tryd.pinned.checked.prog.readableRec t && decide (t < Tryd.pinned.checked.prog.types.size))) = true := by kernel_rfl
theorem forestHolds_j21 : ((Rows.forestHoldsRow.ifacesOut == Tryd.f5.resultTypes.toList.any (Tryd.pinned.checked.prog.ifacesRec ·))) = true := by kernel_rfl
theorem forestHolds_j22 : ((Rows.forestHoldsRow.loopsOut == Tryd.f5.resultTypes.toList.any (Tryd.pinned.checked.prog.loopsFrom ·))) = true := by kernel_rfl
theorem forestHolds_j23 : ((Rows.forestHoldsRow.plainKeys == Tryd.pinned.checked.prog.plainKeys)) = true := by kernel_rfl
theorem forestHolds_j24 : (Rows.forestHoldsRow.shortTexts.isNone) = true := by kernel_rfl
theorem forestHolds_j27 : (Rows.forestHoldsRow.lifted == Tryd.pinned.checked.prog.liftsFinal) = true := (congrArg (fun b => Rows.forestHoldsRow.lifted == b) seat_liftsFinal).trans (by kernel_rfl)
theorem forestHolds_j28 : (Tryd.pinned.checked.prog.make == some Rows.forestHoldsRow.make) = true := (congrArg (fun b => b == some Rows.forestHoldsRow.make) seat_make).trans (by kernel_rfl)
theorem forestHolds_j29 : ((Rows.forestHoldsRow.kinds == (if Rows.forestHoldsRow.domain.isEmpty then [] else Tryd.f5.params.toList.map fun t => match Tryd.pinned.checked.prog.underlying t with | some (.int k) => some k | _ => none))) = true := by kernel_rfl
theorem forestHolds_j30 : ((Rows.forestHoldsRow.pinned == Rows.forestHoldsRow.pinnedBy)) = true := by kernel_rfl
theorem forestHolds_j31 : ((Rows.forestHoldsRow.veiled == (Tryd.f5.params.toList ++ Rows.forestHoldsSpec.plain.varTypes Tryd.pinned.checked.prog ++ Tryd.f5.resultTypes.toList).any (Tryd.pinned.checked.prog.veiledRec ·))) = true := by kernel_rfl
theorem forestHolds_j32 : (Rows.forestHoldsRow.veiledFits Tryd.pinned.checked.prog Tryd.f5.params.toList (Tryd.f5.params.toList ++ Rows.forestHoldsSpec.plain.varTypes Tryd.pinned.checked.prog ++ Tryd.f5.resultTypes.toList)) = true := by kernel_rfl
theorem forestHolds_met (os : Os) : laidMet Tryd.prog Rows.forestHoldsRow.laid ((digWorld os).forCall (fun _ _ => 0) ⟨#[], #[.slice none 0 0, .agg #[.slice none 0 0, .slice none 0 0, .slice none 0 0, .bool false]], []⟩).memory :=
  laidMet_of_run' 8 (by kernel_rfl) (by kernel_rfl)
theorem forestHolds_reads (os : Os) {H : Type} (enc : TypeId × Value → H) : ∃ x, DataW.whole enc Tryd.prog ((digWorld os).forCall (fun _ _ => 0) ⟨#[], #[.slice none 0 0, .agg #[.slice none 0 0, .slice none 0 0, .slice none 0 0, .bool false]], []⟩).memory Tryd.f5.params.toList Rows.forestHoldsSpec.vars false (#[.slice none 0 0, .agg #[.slice none 0 0, .slice none 0 0, .slice none 0 0, .bool false]] : Array Value).toList 8 = some x :=
  Option.isSome_iff_exists.1 (by kernel_rfl)
set_option maxRecDepth 100000 in
theorem forestHolds_lifted (os : Os) (started : os.Started) (H : Type) (enc : TypeId × Value → H) (F : Stop.Interp) :
    ReturnsInHanded {} Tryd.checked os 5 .any ((OpenSpec.ofChange Rows.forestHoldsSpec).preRow enc Tryd.prog Tryd.f5 Rows.forestHoldsRow.domain false Rows.forestHoldsRow.laid) (((OpenSpec.ofChange Rows.forestHoldsSpec).at F).post enc Tryd.prog Tryd.f5 false true false false) := by
  obtain ⟨places, hx⟩ := forestHolds_reads os enc
  refine returnsInHanded_of_row (C := Tryd.checked) (s := OpenSpec.ofChange Rows.forestHoldsSpec) forestHolds_own started (by kernel_rfl) Tryd.func5
    (witness_row_at (enc := enc) (C := Tryd.checked) false (digWorld os) #[.slice none 0 0, .agg #[.slice none 0 0, .slice none 0 0, .slice none 0 0, .bool false]] rfl (by kernel_rfl) (by kernel_rfl) (by kernel_rfl)
      (OpenSpec.preRow_of_cond 8 hx rfl (fun k hk => by cases hk) (by kernel_rfl) (forestHolds_met os))) ?_
  intro W base args ds gs before hval0 hW _ _ hsz hL _ _
  have hval : ∀ (j : Nat) t v, Tryd.f5.params[j]? = some t → args[j]? = some v → Value.okWide Tryd.prog W .any base t v := hval0
  have hW' := hW
  obtain ⟨p, q, hA0, hV, rfl, hfz, hnd⟩ := hW
  have hA : DataW.TrodAll enc Tryd.prog W 0 (fun _ => true) true Tryd.f5.params.toList args.toList ds p := hA0
  rw [Tryd.params5] at hA hval
  have hT := dig_met hL
  obtain ⟨v0, vs0, d0, ds0, p0, q0, hargs, rfl, rfl, h0, r0⟩ := trodAll_cons hA
  obtain ⟨v1, vs1, d1, ds1, p1, q1, rfl, rfl, rfl, h1, r1⟩ := trodAll_cons r0
  obtain ⟨rfl, rfl, rfl⟩ := trodAll_nil r1
  obtain rfl : args = #[v0, v1] := by cases args; simp_all
  obtain ⟨rfl, rfl⟩ := trodVars_none hV
  have k0 := h0
  have lt0 : ∀ x ∈ p0, x.block < W.heap.size := by obtain ⟨m, hm⟩ := k0; exact DataW.trod_lt m _ _ _ hm
  obtain ⟨a0, len0, cap0, rfl⟩ := okWide_slice Tryd.underlying22 (hval 0 22 v0 rfl rfl)
  obtain ⟨l0, w0⟩ : ∃ l, Pls (whole W) (.slice a0 len0 cap0) l := by
    obtain ⟨fuel, hf⟩ := h0
    exact rd_places Tryd.underlying22 Tryd.underlying45 (by kernel_rfl) (by kernel_rfl) rfl rfl rfl rfl Tryd.underlying23 Tryd.underlying5 (by kernel_rfl) Tryd.underlying4 hf
  have k1 := h1
  have lt1 : ∀ x ∈ p1, x.block < W.heap.size := by obtain ⟨m, hm⟩ := k1; exact DataW.trod_lt m _ _ _ hm
  obtain ⟨c1_0, c1_1, c1_2, c1_3, y1_0, y1_1, y1_2, y1_3, n1, rfl, _, _, t1_0, t1_1, t1_2, t1_3⟩ := Joins.open_agg4 Tryd.underlying45 (by kernel_rfl) (by kernel_rfl) (hval 1 45 v1 rfl rfl) h1
  obtain ⟨l1_0, w1_0⟩ := rd_bytes_cells Tryd.underlying23 Tryd.underlying5 (by kernel_rfl) t1_0
  obtain ⟨l1_1, w1_1⟩ := rd_bytes_cells Tryd.underlying23 Tryd.underlying5 (by kernel_rfl) t1_1
  obtain ⟨l1_2, w1_2⟩ := rd_bytes_cells Tryd.underlying23 Tryd.underlying5 (by kernel_rfl) t1_2
  obtain ⟨z1_3, ez1_3, _⟩ := DataW.trod_bool Tryd.underlying4 t1_3
  obtain rfl : c1_3 = _ := by simpa using ez1_3
  clear hA0 hval0
  refine (forestHolds_walk W hT (.slice a0 len0 cap0) l0 w0 (⟨l1_0, l1_1, l1_2, z1_3⟩ : Pl) c1_0 w1_0 c1_1 w1_1 c1_2 w1_2).mono fun e W' ⟨he, bel⟩ => ?_
  subst he
  exact ⟨_, rfl, _, _, _, [], _, [], hW', trodAll_mk1 (shut_bool Tryd.underlying4 _), (trodAll_cons_mk (Below.trod forestHolds_laidOut (by kernel_rfl) (of_decide_eq_true (by kernel_rfl)) k0 bel lt0) (trodAll_cons_mk (Below.trod forestHolds_laidOut (by kernel_rfl) (of_decide_eq_true (by kernel_rfl)) k1 bel lt1) trodAll_mk0)), rfl, bel.frame _, fun h => by cases h⟩
set_option maxRecDepth 1000000 in
theorem forestHolds_said : Rows.ForestHoldsSaid :=
  OpenClaim.holds_of_cond 5 Tryd.f5 rfl rfl rfl rfl rfl rfl rfl ⟨rfl, rfl, rfl, rfl, rfl⟩ rfl rfl rfl rfl rfl (by as_aux_lemma => kernel_rfl) Tryd.func5 (joined_mk forestHolds_j1 seat_laidOut seat_mapsRowed forestHolds_j4 forestHolds_j5 forestHolds_j6 seat_stops forestHolds_j8 seat_stopKnobs forestHolds_j10 forestHolds_j11 forestHolds_j12 forestHolds_j13 forestHolds_j14 forestHolds_j15 forestHolds_j16 forestHolds_j17 forestHolds_j18 forestHolds_j19 forestHolds_j20 forestHolds_j21 forestHolds_j22 forestHolds_j23 forestHolds_j24 seat_stopsHeard seat_mayEnter forestHolds_j27 forestHolds_j28 forestHolds_j29 forestHolds_j30 forestHolds_j31 forestHolds_j32)
    (of_decide_eq_true (by as_aux_lemma => kernel_rfl)) (by unfold Func.isWrapper; first | (rw [if_pos (by decide +kernel)]; kernel_rfl) | (rw [if_neg (by decide +kernel)]; exact ⟨rfl, rfl⟩))
    (fun os started H enc _ F => by rw [OpenClaim.pre_eq_preRow]; exact forestHolds_lifted os started H enc F)
theorem forestHolds_plain (f : FuncId) (fn : Func) (hf : Tryd.pinned.checked.prog.funcNamed "canopy/canopykeep.ForestHolds" = some f) (hfn : Tryd.pinned.checked.prog.funcs[f]? = some fn) :
    false = Tryd.pinned.checked.prog.looks [] ∧ ∀ (j : Nat) t, fn.params[j]? = some t → Tryd.pinned.checked.prog.wantsStandIn t = false := by
  obtain rfl : f = 5 := Option.some.inj ((show Tryd.prog.funcNamed "canopy/canopykeep.ForestHolds" = some 5 by kernel_rfl).symm.trans hf) |>.symm
  obtain rfl : fn = Tryd.f5 := (Option.some.inj (Tryd.func5.symm.trans hfn)).symm
  refine ⟨by kernel_rfl, fun j t ht => ?_⟩
  have hall : (Tryd.f5.params.all fun t => !Tryd.prog.wantsStandIn t) = true := by kernel_rfl
  have := Array.all_eq_true_iff_forall_mem.1 hall t (Array.mem_of_getElem? ht)
  show Tryd.prog.wantsStandIn t = false
  simpa using this
set_option maxRecDepth 1000000 in
theorem forestHolds_holds : Rows.ForestHoldsCardSaid :=
  Claim7.holds_tied_plain_at .later [] _ _ _ _ forestHolds_said (fun _ h => by cases h) (by kernel_rfl) (fun _ h => by cases h) forestHolds_row_tie rfl ⟨rfl, rfl⟩ (by kernel_rfl) rfl forestHolds_plain (by kernel_rfl)
#print axioms forestHolds_holds
end Go.Proofs.YtikklmjengkliaaDoor
