/- The law PairsOrder: for every input the call returns true, and each argument reads behind the call as it read before. -/
import Derived.Test.YtcanckliggcllaaDoorCPairsOrder
import Derived.Test.YtcanckliggcllaaDoorBV1
import Derived.Test.YtcanckliggcllaaDoorBV2
import Derived.Test.YtcanckliggcllaaDoorBV7
namespace Go.Proofs.YtcanckliggcllaaDoor
open Go.ChangeShapes Go.WideShapes Go.ChangeAt Go.RowKit
set_option linter.unusedVariables false
theorem pairsOrder_own : ownKnob Tryd.prog.godebug = none := by kernel_rfl
theorem pairsOrder_laidOut : laidOutB Tryd.prog = true := seat_laidOut
theorem pairsOrder_j1 : (Rows.pairsOrderRow.wf (OpenSpec.ofChange Rows.pairsOrderSpec)) = true := by kernel_rfl
theorem pairsOrder_j4 : (Tryd.f8.params.all (Tryd.pinned.checked.prog.readableRec ·)) = true := by kernel_rfl
theorem pairsOrder_j5 : (namedTie Tryd.pinned.checked.prog Rows.pairsOrderRow.named Rows.pairsOrderSpec.vars) = true := by kernel_rfl
theorem pairsOrder_j6 : ((Rows.pairsOrderRow.stops == [])) = true := by kernel_rfl
theorem pairsOrder_j8 : ((Rows.pairsOrderRow.knobs == [])) = true := by kernel_rfl
theorem pairsOrder_j10 : ((Rows.pairsOrderRow.inPlace == Tryd.pinned.checked.prog.inPlace 8)) = true := by kernel_rfl
theorem pairsOrder_j11 : ((Rows.pairsOrderRow.unfollowed == Tryd.pinned.checked.prog.unfollowed 8)) = true := by kernel_rfl
theorem pairsOrder_j12 : ((Rows.pairsOrderRow.recurses == Tryd.pinned.checked.prog.recurses 8)) = true := by kernel_rfl
theorem pairsOrder_j13 : ((Rows.pairsOrderRow.named == Tryd.pinned.checked.prog.varsNamed 8)) = true := by kernel_rfl
theorem pairsOrder_j14 : ((Rows.pairsOrderRow.maps == (Tryd.f8.params.toList ++ Rows.pairsOrderSpec.plain.varTypes Tryd.pinned.checked.prog).any (Tryd.pinned.checked.prog.mapsRec ·))) = true := by kernel_rfl
theorem pairsOrder_j15 : ((Rows.pairsOrderRow.ifaces == (Tryd.f8.params.toList ++ Rows.pairsOrderSpec.plain.varTypes Tryd.pinned.checked.prog).any (Tryd.pinned.checked.prog.ifacesRec ·))) = true := by kernel_rfl
theorem pairsOrder_j16 : ((Rows.pairsOrderRow.mapsOut == Tryd.pinned.checked.prog.mapsAmong Tryd.f8.resultTypes.toList)) = true := by kernel_rfl
theorem pairsOrder_j17 : ((Rows.pairsOrderRow.loops == (Tryd.f8.params.toList ++ Rows.pairsOrderSpec.plain.varTypes Tryd.pinned.checked.prog).any (Tryd.pinned.checked.prog.loopsFrom ·))) = true := by kernel_rfl
theorem pairsOrder_j18 : ((Rows.pairsOrderRow.wideKeys == (Tryd.f8.params.toList ++ Rows.pairsOrderSpec.plain.varTypes Tryd.pinned.checked.prog ++ Tryd.f8.resultTypes.toList).any (Tryd.pinned.checked.prog.wideKeysFrom ·))) = true := by kernel_rfl
theorem pairsOrder_j19 : (Rows.pairsOrderSpec.vars.all (Tryd.pinned.checked.prog.varReadable ·)) = true := by kernel_rfl
theorem pairsOrder_j20 : (Tryd.f8.resultTypes.all (fun t => Tryd.pinned.checked.prog.readableRec t && decide (t < Tryd.pinned.checked.prog.types.size))) = true := by kernel_rfl
theorem pairsOrder_j21 : ((Rows.pairsOrderRow.ifacesOut == Tryd.f8.resultTypes.toList.any (Tryd.pinned.checked.prog.ifacesRec ·))) = true := by kernel_rfl
theorem pairsOrder_j22 : ((Rows.pairsOrderRow.loopsOut == Tryd.f8.resultTypes.toList.any (Tryd.pinned.checked.prog.loopsFrom ·))) = true := by kernel_rfl
theorem pairsOrder_j23 : ((Rows.pairsOrderRow.plainKeys == Tryd.pinned.checked.prog.plainKeys)) = true := by kernel_rfl
theorem pairsOrder_j24 : (Rows.pairsOrderRow.shortTexts.isNone) = true := by kernel_rfl
theorem pairsOrder_j27 : (Rows.pairsOrderRow.lifted == Tryd.pinned.checked.prog.liftsFinal) = true := (congrArg (fun b => Rows.pairsOrderRow.lifted == b) seat_liftsFinal).trans (by kernel_rfl)
theorem pairsOrder_j28 : (Tryd.pinned.checked.prog.make == some Rows.pairsOrderRow.make) = true := (congrArg (fun b => b == some Rows.pairsOrderRow.make) seat_make).trans (by kernel_rfl)
theorem pairsOrder_j29 : ((Rows.pairsOrderRow.kinds == (if Rows.pairsOrderRow.domain.isEmpty then [] else Tryd.f8.params.toList.map fun t => match Tryd.pinned.checked.prog.underlying t with | some (.int k) => some k | _ => none))) = true := by kernel_rfl
theorem pairsOrder_j30 : ((Rows.pairsOrderRow.pinned == Rows.pairsOrderRow.pinnedBy)) = true := by kernel_rfl
theorem pairsOrder_j31 : ((Rows.pairsOrderRow.veiled == (Tryd.f8.params.toList ++ Rows.pairsOrderSpec.plain.varTypes Tryd.pinned.checked.prog ++ Tryd.f8.resultTypes.toList).any (Tryd.pinned.checked.prog.veiledRec ·))) = true := by kernel_rfl
theorem pairsOrder_j32 : (Rows.pairsOrderRow.veiledFits Tryd.pinned.checked.prog Tryd.f8.params.toList (Tryd.f8.params.toList ++ Rows.pairsOrderSpec.plain.varTypes Tryd.pinned.checked.prog ++ Tryd.f8.resultTypes.toList)) = true := by kernel_rfl
theorem pairsOrder_met (os : Os) : laidMet Tryd.prog Rows.pairsOrderRow.laid ((digWorld os).forCall (fun _ _ => 0) ⟨#[], #[.slice none 0 0, .int .i64 0], []⟩).memory :=
  laidMet_of_run' 8 (by kernel_rfl) (by kernel_rfl)
theorem pairsOrder_reads (os : Os) {H : Type} (enc : TypeId × Value → H) : ∃ x, DataW.whole enc Tryd.prog ((digWorld os).forCall (fun _ _ => 0) ⟨#[], #[.slice none 0 0, .int .i64 0], []⟩).memory Tryd.f8.params.toList Rows.pairsOrderSpec.vars false (#[.slice none 0 0, .int .i64 0] : Array Value).toList 8 = some x :=
  Option.isSome_iff_exists.1 (by kernel_rfl)
set_option maxRecDepth 100000 in
theorem pairsOrder_lifted (os : Os) (started : os.Started) (H : Type) (enc : TypeId × Value → H) (F : Stop.Interp) :
    ReturnsInHanded {} Tryd.checked os 8 .any ((OpenSpec.ofChange Rows.pairsOrderSpec).preRow enc Tryd.prog Tryd.f8 Rows.pairsOrderRow.domain false Rows.pairsOrderRow.laid) (((OpenSpec.ofChange Rows.pairsOrderSpec).at F).post enc Tryd.prog Tryd.f8 false true false false) := by
  obtain ⟨places, hx⟩ := pairsOrder_reads os enc
  refine returnsInHanded_of_row (C := Tryd.checked) (s := OpenSpec.ofChange Rows.pairsOrderSpec) pairsOrder_own started (by kernel_rfl) Tryd.func8
    (witness_row_at (enc := enc) (C := Tryd.checked) false (digWorld os) #[.slice none 0 0, .int .i64 0] rfl (by kernel_rfl) (by kernel_rfl) (by kernel_rfl)
      (OpenSpec.preRow_of_cond 8 hx rfl (fun k hk => by cases hk) (by kernel_rfl) (pairsOrder_met os))) ?_
  intro W base args ds gs before hval0 hW _ _ hsz hL _ _
  have hval : ∀ (j : Nat) t v, Tryd.f8.params[j]? = some t → args[j]? = some v → Value.okWide Tryd.prog W .any base t v := hval0
  have hW' := hW
  obtain ⟨p, q, hA0, hV, rfl, hfz, hnd⟩ := hW
  have hA : DataW.TrodAll enc Tryd.prog W 0 (fun _ => true) true Tryd.f8.params.toList args.toList ds p := hA0
  rw [Tryd.params8] at hA hval
  have hT := dig_met hL
  obtain ⟨v0, vs0, d0, ds0, p0, q0, hargs, rfl, rfl, h0, r0⟩ := trodAll_cons hA
  obtain ⟨v1, vs1, d1, ds1, p1, q1, rfl, rfl, rfl, h1, r1⟩ := trodAll_cons r0
  obtain ⟨rfl, rfl, rfl⟩ := trodAll_nil r1
  obtain rfl : args = #[v0, v1] := by cases args; simp_all
  obtain ⟨rfl, rfl⟩ := trodVars_none hV
  have k0 := h0
  have lt0 : ∀ x ∈ p0, x.block < W.heap.size := by obtain ⟨m, hm⟩ := k0; exact DataW.trod_lt m _ _ _ hm
  obtain ⟨a0, len0, cap0, rfl⟩ := okWide_slice Tryd.underlying44 (hval 0 44 v0 rfl rfl)
  obtain ⟨l0, w0⟩ : ∃ l, Prs (whole W) (.slice a0 len0 cap0) l := by
    obtain ⟨fuel, hf⟩ := h0
    exact rd_items Tryd.underlying44 Tryd.underlying36 (by kernel_rfl) (by kernel_rfl) rfl rfl Tryd.underlying22 Tryd.underlying5 (by kernel_rfl) hf
  have k1 := h1
  have lt1 : ∀ x ∈ p1, x.block < W.heap.size := by obtain ⟨m, hm⟩ := k1; exact DataW.trod_lt m _ _ _ hm
  obtain ⟨x1, rfl, _, _, wx1⟩ := open_int Tryd.underlying3 (hval 1 3 v1 rfl rfl) h1
  have b1 := bounds_i64 wx1
  clear hA0 hval0
  refine (pairsOrder_walk W hT (.slice a0 len0 cap0) l0 w0 x1 b1.1 b1.2).mono fun e W' ⟨he, bel⟩ => ?_
  subst he
  exact ⟨_, rfl, _, _, _, [], _, [], hW', trodAll_mk1 (shut_bool Tryd.underlying4 _), (trodAll_cons_mk (Below.trod pairsOrder_laidOut (by kernel_rfl) (of_decide_eq_true (by kernel_rfl)) k0 bel lt0) (trodAll_cons_mk (Below.trod pairsOrder_laidOut (by kernel_rfl) (of_decide_eq_true (by kernel_rfl)) k1 bel lt1) trodAll_mk0)), rfl, bel.frame _, fun h => by cases h⟩
set_option maxRecDepth 1000000 in
theorem pairsOrder_said : Rows.PairsOrderSaid :=
  OpenClaim.holds_of_cond 8 Tryd.f8 rfl rfl rfl rfl rfl rfl rfl ⟨rfl, rfl, rfl, rfl, rfl⟩ rfl rfl rfl rfl rfl (by as_aux_lemma => kernel_rfl) Tryd.func8 (joined_mk pairsOrder_j1 seat_laidOut seat_mapsRowed pairsOrder_j4 pairsOrder_j5 pairsOrder_j6 seat_stops pairsOrder_j8 seat_stopKnobs pairsOrder_j10 pairsOrder_j11 pairsOrder_j12 pairsOrder_j13 pairsOrder_j14 pairsOrder_j15 pairsOrder_j16 pairsOrder_j17 pairsOrder_j18 pairsOrder_j19 pairsOrder_j20 pairsOrder_j21 pairsOrder_j22 pairsOrder_j23 pairsOrder_j24 seat_stopsHeard seat_mayEnter pairsOrder_j27 pairsOrder_j28 pairsOrder_j29 pairsOrder_j30 pairsOrder_j31 pairsOrder_j32)
    (of_decide_eq_true (by as_aux_lemma => kernel_rfl)) (by unfold Func.isWrapper; first | (rw [if_pos (by decide +kernel)]; kernel_rfl) | (rw [if_neg (by decide +kernel)]; exact ⟨rfl, rfl⟩))
    (fun os started H enc _ F => by rw [OpenClaim.pre_eq_preRow]; exact pairsOrder_lifted os started H enc F)
theorem pairsOrder_plain (f : FuncId) (fn : Func) (hf : Tryd.pinned.checked.prog.funcNamed "canopy/canopykeep.PairsOrder" = some f) (hfn : Tryd.pinned.checked.prog.funcs[f]? = some fn) :
    false = Tryd.pinned.checked.prog.looks [] ∧ ∀ (j : Nat) t, fn.params[j]? = some t → Tryd.pinned.checked.prog.wantsStandIn t = false := by
  obtain rfl : f = 8 := Option.some.inj ((show Tryd.prog.funcNamed "canopy/canopykeep.PairsOrder" = some 8 by kernel_rfl).symm.trans hf) |>.symm
  obtain rfl : fn = Tryd.f8 := (Option.some.inj (Tryd.func8.symm.trans hfn)).symm
  refine ⟨by kernel_rfl, fun j t ht => ?_⟩
  have hall : (Tryd.f8.params.all fun t => !Tryd.prog.wantsStandIn t) = true := by kernel_rfl
  have := Array.all_eq_true_iff_forall_mem.1 hall t (Array.mem_of_getElem? ht)
  show Tryd.prog.wantsStandIn t = false
  simpa using this
set_option maxRecDepth 1000000 in
theorem pairsOrder_holds : Rows.PairsOrderCardSaid :=
  Claim7.holds_tied_plain_at .later [] _ _ _ _ pairsOrder_said (fun _ h => by cases h) (by kernel_rfl) (fun _ h => by cases h) pairsOrder_row_tie rfl ⟨rfl, rfl⟩ (by kernel_rfl) rfl pairsOrder_plain (by kernel_rfl)
#print axioms pairsOrder_holds
end Go.Proofs.YtcanckliggcllaaDoor
