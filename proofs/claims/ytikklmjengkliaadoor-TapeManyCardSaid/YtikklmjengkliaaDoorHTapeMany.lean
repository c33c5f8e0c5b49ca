/- The law TapeMany: for every input the call returns true, and each argument reads behind the call as it read before. -/
import Derived.Test.YtikklmjengkliaaDoorCTapeMany
import Derived.Test.YtikklmjengkliaaDoorBT1
import Derived.Test.YtikklmjengkliaaDoorBT3
import Derived.Test.YtikklmjengkliaaDoorBT10
namespace Go.Proofs.YtikklmjengkliaaDoor
open Go.ChangeShapes Go.WideShapes Go.ChangeAt Go.RowKit
set_option linter.unusedVariables false
theorem tapeMany_own : ownKnob Tryd.prog.godebug = none := by kernel_rfl
theorem tapeMany_laidOut : laidOutB Tryd.prog = true := seat_laidOut
theorem tapeMany_j1 : (Rows.tapeManyRow.wf (OpenSpec.ofChange Rows.tapeManySpec)) = true := by kernel_rfl
theorem tapeMany_j4 : (Tryd.f8.params.all (Tryd.pinned.checked.prog.readableRec ·)) = true := by kernel_rfl
theorem tapeMany_j5 : (namedTie Tryd.pinned.checked.prog Rows.tapeManyRow.named Rows.tapeManySpec.vars) = true := by kernel_rfl
theorem tapeMany_j6 : ((Rows.tapeManyRow.stops == [])) = true := by kernel_rfl
theorem tapeMany_j8 : ((Rows.tapeManyRow.knobs == [])) = true := by kernel_rfl
theorem tapeMany_j10 : ((Rows.tapeManyRow.inPlace == Tryd.pinned.checked.prog.inPlace 8)) = true := by kernel_rfl
theorem tapeMany_j11 : ((Rows.tapeManyRow.unfollowed == Tryd.pinned.checked.prog.unfollowed 8)) = true := by kernel_rfl
theorem tapeMany_j12 : ((Rows.tapeManyRow.recurses == Tryd.pinned.checked.prog.recurses 8)) = true := by kernel_rfl
theorem tapeMany_j13 : ((Rows.tapeManyRow.named == Tryd.pinned.checked.prog.varsNamed 8)) = true := by kernel_rfl
theorem tapeMany_j14 : ((Rows.tapeManyRow.maps == (Tryd.f8.params.toList ++ Rows.tapeManySpec.plain.varTypes Tryd.pinned.checked.prog).any (Tryd.pinned.checked.prog.mapsRec ·))) = true := by kernel_rfl
theorem tapeMany_j15 : ((Rows.tapeManyRow.ifaces == (Tryd.f8.params.toList ++ Rows.tapeManySpec.plain.varTypes Tryd.pinned.checked.prog).any (Tryd.pinned.checked.prog.ifacesRec ·))) = true := by kernel_rfl
theorem tapeMany_j16 : ((Rows.tapeManyRow.mapsOut == Tryd.pinned.checked.prog.mapsAmong Tryd.f8.resultTypes.toList)) = true := by kernel_rfl
theorem tapeMany_j17 : ((Rows.tapeManyRow.loops == (Tryd.f8.params.toList ++ Rows.tapeManySpec.plain.varTypes Tryd.pinned.checked.prog).any (Tryd.pinned.checked.prog.loopsFrom ·))) = true := by kernel_rfl
theorem tapeMany_j18 : ((Rows.tapeManyRow.wideKeys == (Tryd.f8.params.toList ++ Rows.tapeManySpec.plain.varTypes Tryd.pinned.checked.prog ++ Tryd.f8.resultTypes.toList).any (Tryd.pinned.checked.prog.wideKeysFrom ·))) = true := by kernel_rfl
theorem tapeMany_j19 : (Rows.tapeManySpec.vars.all (Tryd.pinned.checked.prog.varReadable ·)) = true := by kernel_rfl
theorem tapeMany_j20 : (Tryd.f8.resultTypes.all (fun t => Tryd.pinned.checked.prog.readableRec t && decide (t < Tryd.pinned.checked.prog.types.size))) = true := by kernel_rfl
theorem tapeMany_j21 : ((Rows.tapeManyRow.ifacesOut == Tryd.f8.resultTypes.toList.any (Tryd.pinned.checked.prog.ifacesRec ·))) = true := by kernel_rfl
theorem tapeMany_j22 : ((Rows.tapeManyRow.loopsOut == Tryd.f8.resultTypes.toList.any (Tryd.pinned.checked.prog.loopsFrom ·))) = true := by kernel_rfl
theorem tapeMany_j23 : ((Rows.tapeManyRow.plainKeys == Tryd.pinned.checked.prog.plainKeys)) = true := by kernel_rfl
theorem tapeMany_j24 : (Rows.tapeManyRow.shortTexts.isNone) = true := by kernel_rfl
theorem tapeMany_j27 : (Rows.tapeManyRow.lifted == Tryd.pinned.checked.prog.liftsFinal) = true := (congrArg (fun b => Rows.tapeManyRow.lifted == b) seat_liftsFinal).trans (by kernel_rfl)
theorem tapeMany_j28 : (Tryd.pinned.checked.prog.make == some Rows.tapeManyRow.make) = true := (congrArg (fun b => b == some Rows.tapeManyRow.make) seat_make).trans (by kernel_rfl)
theorem tapeMany_j29 : ((Rows.tapeManyRow.kinds == (if Rows.tapeManyRow.domain.isEmpty then [] else Tryd.f8.params.toList.map fun t => match Tryd.pinned.checked.prog.underlying t with | some (.int k) => some k | _ => none))) = true := by kernel_rfl
theorem tapeMany_j30 : ((Rows.tapeManyRow.pinned == Rows.tapeManyRow.pinnedBy)) = true := by kernel_rfl
theorem tapeMany_j31 : ((Rows.tapeManyRow.veiled == (Tryd.f8.params.toList ++ Rows.tapeManySpec.plain.varTypes Tryd.pinned.checked.prog ++ Tryd.f8.resultTypes.toList).any (Tryd.pinned.checked.prog.veiledRec ·))) = true := by kernel_rfl
theorem tapeMany_j32 : (Rows.tapeManyRow.veiledFits Tryd.pinned.checked.prog Tryd.f8.params.toList (Tryd.f8.params.toList ++ Rows.tapeManySpec.plain.varTypes Tryd.pinned.checked.prog ++ Tryd.f8.resultTypes.toList)) = true := by kernel_rfl
theorem tapeMany_met (os : Os) : laidMet Tryd.prog Rows.tapeManyRow.laid ((digWorld os).forCall (fun _ _ => 0) ⟨#[], #[.slice none 0 0], []⟩).memory :=
  laidMet_of_run' 8 (by kernel_rfl) (by kernel_rfl)
theorem tapeMany_reads (os : Os) {H : Type} (enc : TypeId × Value → H) : ∃ x, DataW.whole enc Tryd.prog ((digWorld os).forCall (fun _ _ => 0) ⟨#[], #[.slice none 0 0], []⟩).memory Tryd.f8.params.toList Rows.tapeManySpec.vars false (#[.slice none 0 0] : Array Value).toList 8 = some x :=
  Option.isSome_iff_exists.1 (by kernel_rfl)
set_option maxRecDepth 100000 in
theorem tapeMany_lifted (os : Os) (started : os.Started) (H : Type) (enc : TypeId × Value → H) (F : Stop.Interp) :
    ReturnsInHanded {} Tryd.checked os 8 .any ((OpenSpec.ofChange Rows.tapeManySpec).preRow enc Tryd.prog Tryd.f8 Rows.tapeManyRow.domain false Rows.tapeManyRow.laid) (((OpenSpec.ofChange Rows.tapeManySpec).at F).post enc Tryd.prog Tryd.f8 false true false false) := by
  obtain ⟨places, hx⟩ := tapeMany_reads os enc
  refine returnsInHanded_of_row (C := Tryd.checked) (s := OpenSpec.ofChange Rows.tapeManySpec) tapeMany_own started (by kernel_rfl) Tryd.func8
    (witness_row_at (enc := enc) (C := Tryd.checked) false (digWorld os) #[.slice none 0 0] rfl (by kernel_rfl) (by kernel_rfl) (by kernel_rfl)
      (OpenSpec.preRow_of_cond 8 hx rfl (fun k hk => by cases hk) (by kernel_rfl) (tapeMany_met os))) ?_
  intro W base args ds gs before hval0 hW _ _ hsz hL _ _
  have hval : ∀ (j : Nat) t v, Tryd.f8.params[j]? = some t → args[j]? = some v → Value.okWide Tryd.prog W .any base t v := hval0
  have hW' := hW
  obtain ⟨p, q, hA0, hV, rfl, hfz, hnd⟩ := hW
  have hA : DataW.TrodAll enc Tryd.prog W 0 (fun _ => true) true Tryd.f8.params.toList args.toList ds p := hA0
  rw [Tryd.params8] at hA hval
  have hT := dig_met hL
  obtain ⟨v0, vs0, d0, ds0, p0, q0, hargs, rfl, rfl, h0, r0⟩ := trodAll_cons hA
  obtain ⟨rfl, rfl, rfl⟩ := trodAll_nil r0
  obtain rfl : args = #[v0] := by cases args; simp_all
  obtain ⟨rfl, rfl⟩ := trodVars_none hV
  have k0 := h0
  have lt0 : ∀ x ∈ p0, x.block < W.heap.size := by obtain ⟨m, hm⟩ := k0; exact DataW.trod_lt m _ _ _ hm
  obtain ⟨a0, len0, cap0, rfl⟩ := okWide_slice Tryd.underlying22 (hval 0 22 v0 rfl rfl)
  obtain ⟨l0, w0⟩ : ∃ l, Pls (whole W) (.slice a0 len0 cap0) l := by
    obtain ⟨fuel, hf⟩ := h0
    exact rd_places Tryd.underlying22 Tryd.underlying45 (by kernel_rfl) (by kernel_rfl) rfl rfl rfl rfl Tryd.underlying23 Tryd.underlying5 (by kernel_rfl) Tryd.underlying4 hf
  clear hA0 hval0
  refine (tapeMany_walk W hT (.slice a0 len0 cap0) l0 w0).mono fun e W' ⟨he, bel⟩ => ?_
  subst he
  exact ⟨_, rfl, _, _, _, [], _, [], hW', trodAll_mk1 (shut_bool Tryd.underlying4 _), (trodAll_cons_mk (Below.trod tapeMany_laidOut (by kernel_rfl) (of_decide_eq_true (by kernel_rfl)) k0 bel lt0) trodAll_mk0), rfl, bel.frame _, fun h => by cases h⟩
set_option maxRecDepth 1000000 in
theorem tapeMany_said : Rows.TapeManySaid :=
  OpenClaim.holds_of_cond 8 Tryd.f8 rfl rfl rfl rfl rfl rfl rfl ⟨rfl, rfl, rfl, rfl, rfl⟩ rfl rfl rfl rfl rfl (by as_aux_lemma => kernel_rfl) Tryd.func8 (joined_mk tapeMany_j1 seat_laidOut seat_mapsRowed tapeMany_j4 tapeMany_j5 tapeMany_j6 seat_stops tapeMany_j8 seat_stopKnobs tapeMany_j10 tapeMany_j11 tapeMany_j12 tapeMany_j13 tapeMany_j14 tapeMany_j15 tapeMany_j16 tapeMany_j17 tapeMany_j18 tapeMany_j19 tapeMany_j20 tapeMany_j21 tapeMany_j22 tapeMany_j23 tapeMany_j24 seat_stopsHeard seat_mayEnter tapeMany_j27 tapeMany_j28 tapeMany_j29 tapeMany_j30 tapeMany_j31 tapeMany_j32)
    (of_decide_eq_true (by as_aux_lemma => kernel_rfl)) (by unfold Func.isWrapper; first | (rw [if_pos (by decide +kernel)]; kernel_rfl) | (rw [if_neg (by decide +kernel)]; exact ⟨rfl, rfl⟩))
    (fun os started H enc _ F => by rw [OpenClaim.pre_eq_preRow]; exact tapeMany_lifted os started H enc F)
theorem tapeMany_plain (f : FuncId) (fn : Func) (hf : Tryd.pinned.checked.prog.funcNamed "canopy/canopykeep.TapeMany" = some f) (hfn : Tryd.pinned.checked.prog.funcs[f]? = some fn) :
    false = Tryd.pinned.checked.prog.looks [] ∧ ∀ (j : Nat) t, fn.params[j]? = some t → Tryd.pinned.checked.prog.wantsStandIn t = false := by
  obtain rfl : f = 8 := Option.some.inj ((show Tryd.prog.funcNamed "canopy/canopykeep.TapeMany" = some 8 by kernel_rfl).symm.trans hf) |>.symm
  obtain rfl : fn = Tryd.f8 := (Option.some.inj (Tryd.func8.symm.trans hfn)).symm
  refine ⟨by kernel_rfl, fun j t ht => ?_⟩
  have hall : (Tryd.f8.params.all fun t => !Tryd.prog.wantsStandIn t) = true := by kernel_rfl
  have := Array.all_eq_true_iff_forall_mem.1 hall t (Array.mem_of_getElem? ht)
  show Tryd.prog.wantsStandIn t = false
  simpa using this
set_option maxRecDepth 1000000 in
theorem tapeMany_holds : Rows.TapeManyCardSaid :=
  Claim7.holds_tied_plain_at .later [] _ _ _ _ tapeMany_said (fun _ h => by cases h) (by kernel_rfl) (fun _ h => by cases h) tapeMany_row_tie rfl ⟨rfl, rfl⟩ (by kernel_rfl) rfl tapeMany_plain (by kernel_rfl)
#print axioms tapeMany_holds
end Go.Proofs.YtikklmjengkliaaDoor
