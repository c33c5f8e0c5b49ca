/- The law RootSides: for every input the call returns true, and each argument reads behind the call as it read before. -/
import Derived.Test.YtcanckliggcllaaDoorCRootSides
import Derived.Test.YtcanckliggcllaaDoorBU1
import Derived.Test.YtcanckliggcllaaDoorBU3
import Derived.Test.YtcanckliggcllaaDoorBU8
namespace Go.Proofs.YtcanckliggcllaaDoor
open Go.ChangeShapes Go.WideShapes Go.ChangeAt Go.RowKit
set_option linter.unusedVariables false
theorem rootSides_own : ownKnob Tryd.prog.godebug = none := by kernel_rfl
theorem rootSides_laidOut : laidOutB Tryd.prog = true := seat_laidOut
theorem rootSides_j1 : (Rows.rootSidesRow.wf (OpenSpec.ofChange Rows.rootSidesSpec)) = true := by kernel_rfl
theorem rootSides_j4 : (Tryd.f7.params.all (Tryd.pinned.checked.prog.readableRec ·)) = true := by kernel_rfl
theorem rootSides_j5 : (namedTie Tryd.pinned.checked.prog Rows.rootSidesRow.named Rows.rootSidesSpec.vars) = true := by kernel_rfl
theorem rootSides_j6 : ((Rows.rootSidesRow.stops == [])) = true := by kernel_rfl
theorem rootSides_j8 : ((Rows.rootSidesRow.knobs == [])) = true := by kernel_rfl
theorem rootSides_j10 : ((Rows.rootSidesRow.inPlace == Tryd.pinned.checked.prog.inPlace 7)) = true := by kernel_rfl
theorem rootSides_j11 : ((Rows.rootSidesRow.unfollowed == Tryd.pinned.checked.prog.unfollowed 7)) = true := by kernel_rfl
theorem rootSides_j12 : ((Rows.rootSidesRow.recurses == Tryd.pinned.checked.prog.recurses 7)) = true := by kernel_rfl
theorem rootSides_j13 : ((Rows.rootSidesRow.named == Tryd.pinned.checked.prog.varsNamed 7)) = true := by kernel_rfl
theorem rootSides_j14 : ((Rows.rootSidesRow.maps == (Tryd.f7.params.toList ++ Rows.rootSidesSpec.plain.varTypes Tryd.pinned.checked.prog).any (Tryd.pinned.checked.prog.mapsRec ·))) = true := by kernel_rfl
theorem rootSides_j15 : ((Rows.rootSidesRow.ifaces == (Tryd.f7.params.toList ++ Rows.rootSidesSpec.plain.varTypes Tryd.pinned.checked.prog).any (Tryd.pinned.checked.prog.ifacesRec ·))) = true := by kernel_rfl
theorem rootSides_j16 : ((Rows.rootSidesRow.mapsOut == Tryd.pinned.checked.prog.mapsAmong Tryd.f7.resultTypes.toList)) = true := by kernel_rfl
theorem rootSides_j17 : ((Rows.rootSidesRow.loops == (Tryd.f7.params.toList ++ Rows.rootSidesSpec.plain.varTypes Tryd.pinned.checked.prog).any (Tryd.pinned.checked.prog.loopsFrom ·))) = true := by kernel_rfl
theorem rootSides_j18 : ((Rows.rootSidesRow.wideKeys == (Tryd.f7.params.toList ++ Rows.rootSidesSpec.plain.varTypes Tryd.pinned.checked.prog ++ Tryd.f7.resultTypes.toList).any (Tryd.pinned.checked.prog.wideKeysFrom ·))) = true := by kernel_rfl
theorem rootSides_j19 : (Rows.rootSidesSpec.vars.all (Tryd.pinned.checked.prog.varReadable ·)) = true := by kernel_rfl
theorem rootSides_j20 : (Tryd.f7.resultTypes.all (fun t => Tryd.pinned.checked.prog.readableRec t && decide (t < Tryd.pinned.checked.prog.types.size))) = true := by kernel_rfl
theorem rootSides_j21 : ((Rows.rootSidesRow.ifacesOut == Tryd.f7.resultTypes.toList.any (Tryd.pinned.checked.prog.ifacesRec ·))) = true := by kernel_rfl
theorem rootSides_j22 : ((Rows.rootSidesRow.loopsOut == Tryd.f7.resultTypes.toList.any (Tryd.pinned.checked.prog.loopsFrom ·))) = true := by kernel_rfl
theorem rootSides_j23 : ((Rows.rootSidesRow.plainKeys == Tryd.pinned.checked.prog.plainKeys)) = true := by kernel_rfl
theorem rootSides_j24 : (Rows.rootSidesRow.shortTexts.isNone) = true := by kernel_rfl
theorem rootSides_j27 : (Rows.rootSidesRow.lifted == Tryd.pinned.checked.prog.liftsFinal) = true := (congrArg (fun b => Rows.rootSidesRow.lifted == b) seat_liftsFinal).trans (by kernel_rfl)
theorem rootSides_j28 : (Tryd.pinned.checked.prog.make == some Rows.rootSidesRow.make) = true := (congrArg (fun b => b == some Rows.rootSidesRow.make) seat_make).trans (by kernel_rfl)
theorem rootSides_j29 : ((Rows.rootSidesRow.kinds == (if Rows.rootSidesRow.domain.isEmpty then [] else Tryd.f7.params.toList.map fun t => match Tryd.pinned.checked.prog.underlying t with | some (.int k) => some k | _ => none))) = true := by kernel_rfl
theorem rootSides_j30 : ((Rows.rootSidesRow.pinned == Rows.rootSidesRow.pinnedBy)) = true := by kernel_rfl
theorem rootSides_j31 : ((Rows.rootSidesRow.veiled == (Tryd.f7.params.toList ++ Rows.rootSidesSpec.plain.varTypes Tryd.pinned.checked.prog ++ Tryd.f7.resultTypes.toList).any (Tryd.pinned.checked.prog.veiledRec ·))) = true := by kernel_rfl
theorem rootSides_j32 : (Rows.rootSidesRow.veiledFits Tryd.pinned.checked.prog Tryd.f7.params.toList (Tryd.f7.params.toList ++ Rows.rootSidesSpec.plain.varTypes Tryd.pinned.checked.prog ++ Tryd.f7.resultTypes.toList)) = true := by kernel_rfl
theorem rootSides_met (os : Os) : laidMet Tryd.prog Rows.rootSidesRow.laid ((digWorld os).forCall (fun _ _ => 0) ⟨#[], #[.slice none 0 0], []⟩).memory :=
  laidMet_of_run' 8 (by kernel_rfl) (by kernel_rfl)
theorem rootSides_reads (os : Os) {H : Type} (enc : TypeId × Value → H) : ∃ x, DataW.whole enc Tryd.prog ((digWorld os).forCall (fun _ _ => 0) ⟨#[], #[.slice none 0 0], []⟩).memory Tryd.f7.params.toList Rows.rootSidesSpec.vars false (#[.slice none 0 0] : Array Value).toList 8 = some x :=
  Option.isSome_iff_exists.1 (by kernel_rfl)
set_option maxRecDepth 100000 in
theorem rootSides_lifted (os : Os) (started : os.Started) (H : Type) (enc : TypeId × Value → H) (F : Stop.Interp) :
    ReturnsInHanded {} Tryd.checked os 7 .any ((OpenSpec.ofChange Rows.rootSidesSpec).preRow enc Tryd.prog Tryd.f7 Rows.rootSidesRow.domain false Rows.rootSidesRow.laid) (((OpenSpec.ofChange Rows.rootSidesSpec).at F).post enc Tryd.prog Tryd.f7 false true false false) := by
  obtain ⟨places, hx⟩ := rootSides_reads os enc
  refine returnsInHanded_of_row (C := Tryd.checked) (s := OpenSpec.ofChange Rows.rootSidesSpec) rootSides_own started (by kernel_rfl) Tryd.func7
    (witness_row_at (enc := enc) (C := Tryd.checked) false (digWorld os) #[.slice none 0 0] rfl (by kernel_rfl) (by kernel_rfl) (by kernel_rfl)
      (OpenSpec.preRow_of_cond 8 hx rfl (fun k hk => by cases hk) (by kernel_rfl) (rootSides_met os))) ?_
  intro W base args ds gs before hval0 hW _ _ hsz hL _ _
  have hval : ∀ (j : Nat) t v, Tryd.f7.params[j]? = some t → args[j]? = some v → Value.okWide Tryd.prog W .any base t v := hval0
  have hW' := hW
  obtain ⟨p, q, hA0, hV, rfl, hfz, hnd⟩ := hW
  have hA : DataW.TrodAll enc Tryd.prog W 0 (fun _ => true) true Tryd.f7.params.toList args.toList ds p := hA0
  rw [Tryd.params7] at hA hval
  have hT := dig_met hL
  obtain ⟨v0, vs0, d0, ds0, p0, q0, hargs, rfl, rfl, h0, r0⟩ := trodAll_cons hA
  obtain ⟨rfl, rfl, rfl⟩ := trodAll_nil r0
  obtain rfl : args = #[v0] := by cases args; simp_all
  obtain ⟨rfl, rfl⟩ := trodVars_none hV
  have k0 := h0
  have lt0 : ∀ x ∈ p0, x.block < W.heap.size := by obtain ⟨m, hm⟩ := k0; exact DataW.trod_lt m _ _ _ hm
  obtain ⟨a0, len0, cap0, rfl⟩ := okWide_slice Tryd.underlying44 (hval 0 44 v0 rfl rfl)
  obtain ⟨l0, w0⟩ : ∃ l, Prs (whole W) (.slice a0 len0 cap0) l := by
    obtain ⟨fuel, hf⟩ := h0
    exact rd_items Tryd.underlying44 Tryd.underlying36 (by kernel_rfl) (by kernel_rfl) rfl rfl Tryd.underlying22 Tryd.underlying5 (by kernel_rfl) hf
  clear hA0 hval0
  refine (rootSides_walk W hT (.slice a0 len0 cap0) l0 w0).mono fun e W' ⟨he, bel⟩ => ?_
  subst he
  exact ⟨_, rfl, _, _, _, [], _, [], hW', trodAll_mk1 (shut_bool Tryd.underlying4 _), (trodAll_cons_mk (Below.trod rootSides_laidOut (by kernel_rfl) (of_decide_eq_true (by kernel_rfl)) k0 bel lt0) trodAll_mk0), rfl, bel.frame _, fun h => by cases h⟩
set_option maxRecDepth 1000000 in
theorem rootSides_said : Rows.RootSidesSaid :=
  OpenClaim.holds_of_cond 7 Tryd.f7 rfl rfl rfl rfl rfl rfl rfl ⟨rfl, rfl, rfl, rfl, rfl⟩ rfl rfl rfl rfl rfl (by as_aux_lemma => kernel_rfl) Tryd.func7 (joined_mk rootSides_j1 seat_laidOut seat_mapsRowed rootSides_j4 rootSides_j5 rootSides_j6 seat_stops rootSides_j8 seat_stopKnobs rootSides_j10 rootSides_j11 rootSides_j12 rootSides_j13 rootSides_j14 rootSides_j15 rootSides_j16 rootSides_j17 rootSides_j18 rootSides_j19 rootSides_j20 rootSides_j21 rootSides_j22 rootSides_j23 rootSides_j24 seat_stopsHeard seat_mayEnter rootSides_j27 rootSides_j28 rootSides_j29 rootSides_j30 rootSides_j31 rootSides_j32)
    (of_decide_eq_true (by as_aux_lemma => kernel_rfl)) (by unfold Func.isWrapper; first | (rw [if_pos (by decide +kernel)]; kernel_rfl) | (rw [if_neg (by decide +kernel)]; exact ⟨rfl, rfl⟩))
    (fun os started H enc _ F => by rw [OpenClaim.pre_eq_preRow]; exact rootSides_lifted os started H enc F)
theorem rootSides_plain (f : FuncId) (fn : Func) (hf : Tryd.pinned.checked.prog.funcNamed "canopy/canopykeep.RootSides" = some f) (hfn : Tryd.pinned.checked.prog.funcs[f]? = some fn) :
    false = Tryd.pinned.checked.prog.looks [] ∧ ∀ (j : Nat) t, fn.params[j]? = some t → Tryd.pinned.checked.prog.wantsStandIn t = false := by
  obtain rfl : f = 7 := Option.some.inj ((show Tryd.prog.funcNamed "canopy/canopykeep.RootSides" = some 7 by kernel_rfl).symm.trans hf) |>.symm
  obtain rfl : fn = Tryd.f7 := (Option.some.inj (Tryd.func7.symm.trans hfn)).symm
  refine ⟨by kernel_rfl, fun j t ht => ?_⟩
  have hall : (Tryd.f7.params.all fun t => !Tryd.prog.wantsStandIn t) = true := by kernel_rfl
  have := Array.all_eq_true_iff_forall_mem.1 hall t (Array.mem_of_getElem? ht)
  show Tryd.prog.wantsStandIn t = false
  simpa using this
set_option maxRecDepth 1000000 in
theorem rootSides_holds : Rows.RootSidesCardSaid :=
  Claim7.holds_tied_plain_at .later [] _ _ _ _ rootSides_said (fun _ h => by cases h) (by kernel_rfl) (fun _ h => by cases h) rootSides_row_tie rfl ⟨rfl, rfl⟩ (by kernel_rfl) rfl rootSides_plain (by kernel_rfl)
#print axioms rootSides_holds
end Go.Proofs.YtcanckliggcllaaDoor
