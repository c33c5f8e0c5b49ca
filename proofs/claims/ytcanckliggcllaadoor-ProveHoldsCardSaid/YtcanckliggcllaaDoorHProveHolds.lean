/- The law ProveHolds: for every input the call returns true, and each argument reads behind the call as it read before. -/
import Derived.Test.YtcanckliggcllaaDoorCProveHolds
import Derived.Test.YtcanckliggcllaaDoorBZ1
import Derived.Test.YtcanckliggcllaaDoorBZ3
import Derived.Test.YtcanckliggcllaaDoorBZ7
namespace Go.Proofs.YtcanckliggcllaaDoor
open Go.ChangeShapes Go.WideShapes Go.ChangeAt Go.RowKit
set_option linter.unusedVariables false
theorem proveHolds_own : ownKnob Tryd.prog.godebug = none := by kernel_rfl
theorem proveHolds_laidOut : laidOutB Tryd.prog = true := seat_laidOut
theorem proveHolds_j1 : (Rows.proveHoldsRow.wf (OpenSpec.ofChange Rows.proveHoldsSpec)) = true := by kernel_rfl
theorem proveHolds_j4 : (Tryd.f10.params.all (Tryd.pinned.checked.prog.readableRec ·)) = true := by kernel_rfl
theorem proveHolds_j5 : (namedTie Tryd.pinned.checked.prog Rows.proveHoldsRow.named Rows.proveHoldsSpec.vars) = true := by kernel_rfl
theorem proveHolds_j6 : ((Rows.proveHoldsRow.stops == [])) = true := by kernel_rfl
theorem proveHolds_j8 : ((Rows.proveHoldsRow.knobs == [])) = true := by kernel_rfl
theorem proveHolds_j10 : ((Rows.proveHoldsRow.inPlace == Tryd.pinned.checked.prog.inPlace 10)) = true := by kernel_rfl
theorem proveHolds_j11 : ((Rows.proveHoldsRow.unfollowed == Tryd.pinned.checked.prog.unfollowed 10)) = true := by kernel_rfl
theorem proveHolds_j12 : ((Rows.proveHoldsRow.recurses == Tryd.pinned.checked.prog.recurses 10)) = true := by kernel_rfl
theorem proveHolds_j13 : ((Rows.proveHoldsRow.named == Tryd.pinned.checked.prog.varsNamed 10)) = true := by kernel_rfl
theorem proveHolds_j14 : ((Rows.proveHoldsRow.maps == (Tryd.f10.params.toList ++ Rows.proveHoldsSpec.plain.varTypes Tryd.pinned.checked.prog).any (Tryd.pinned.checked.prog.mapsRec ·))) = true := by kernel_rfl
theorem proveHolds_j15 : ((Rows.proveHoldsRow.ifaces == (Tryd.f10.params.toList ++ Rows.proveHoldsSpec.plain.varTypes Tryd.pinned.checked.prog).any (Tryd.pinned.checked.prog.ifacesRec ·))) = true := by kernel_rfl
theorem proveHolds_j16 : ((Rows.proveHoldsRow.mapsOut == Tryd.pinned.checked.prog.mapsAmong Tryd.f10.resultTypes.toList)) = true := by kernel_rfl
theorem proveHolds_j17 : ((Rows.proveHoldsRow.loops == (Tryd.f10.params.toList ++ Rows.proveHoldsSpec.plain.varTypes Tryd.pinned.checked.prog).any (Tryd.pinned.checked.prog.loopsFrom ·))) = true := by kernel_rfl
theorem proveHolds_j18 : ((Rows.proveHoldsRow.wideKeys == (Tryd.f10.params.toList ++ Rows.proveHoldsSpec.plain.varTypes Tryd.pinned.checked.prog ++ Tryd.f10.resultTypes.toList).any (Tryd.pinned.checked.prog.wideKeysFrom ·))) = true := by kernel_rfl
theorem proveHolds_j19 : (Rows.proveHoldsSpec.vars.all (Tryd.pinned.checked.prog.varReadable ·)) = true := by kernel_rfl
theorem proveHolds_j20 : (Tryd.f10.resultTypes.all (fun t => Tryd.pinned.checked.prog.readableRec t && decide (t < Tryd.pinned.checked.prog.types.size))) = true := by kernel_rfl
theorem proveHolds_j21 : ((Rows.proveHoldsRow.ifacesOut == Tryd.f10.resultTypes.toList.any (Tryd.pinned.checked.prog.ifacesRec ·))) = true := by kernel_rfl
theorem proveHolds_j22 : ((Rows.proveHoldsRow.loopsOut == Tryd.f10.resultTypes.toList.any (Tryd.pinned.checked.prog.loopsFrom ·))) = true := by kernel_rfl
theorem proveHolds_j23 : ((Rows.proveHoldsRow.plainKeys == Tryd.pinned.checked.prog.plainKeys)) = true := by kernel_rfl
theorem proveHolds_j24 : (Rows.proveHoldsRow.shortTexts.isNone) = true := by kernel_rfl
theorem proveHolds_j27 : (Rows.proveHoldsRow.lifted == Tryd.pinned.checked.prog.liftsFinal) = true := (congrArg (fun b => Rows.proveHoldsRow.lifted == b) seat_liftsFinal).trans (by kernel_rfl)
theorem proveHolds_j28 : (Tryd.pinned.checked.prog.make == some Rows.proveHoldsRow.make) = true := (congrArg (fun b => b == some Rows.proveHoldsRow.make) seat_make).trans (by kernel_rfl)
theorem proveHolds_j29 : ((Rows.proveHoldsRow.kinds == (if Rows.proveHoldsRow.domain.isEmpty then [] else Tryd.f10.params.toList.map fun t => match Tryd.pinned.checked.prog.underlying t with | some (.int k) => some k | _ => none))) = true := by kernel_rfl
theorem proveHolds_j30 : ((Rows.proveHoldsRow.pinned == Rows.proveHoldsRow.pinnedBy)) = true := by kernel_rfl
theorem proveHolds_j31 : ((Rows.proveHoldsRow.veiled == (Tryd.f10.params.toList ++ Rows.proveHoldsSpec.plain.varTypes Tryd.pinned.checked.prog ++ Tryd.f10.resultTypes.toList).any (Tryd.pinned.checked.prog.veiledRec ·))) = true := by kernel_rfl
theorem proveHolds_j32 : (Rows.proveHoldsRow.veiledFits Tryd.pinned.checked.prog Tryd.f10.params.toList (Tryd.f10.params.toList ++ Rows.proveHoldsSpec.plain.varTypes Tryd.pinned.checked.prog ++ Tryd.f10.resultTypes.toList)) = true := by kernel_rfl
theorem proveHolds_met (os : Os) : laidMet Tryd.prog Rows.proveHoldsRow.laid ((digWorld os).forCall (fun _ _ => 0) ⟨#[], #[.slice none 0 0, .slice none 0 0], []⟩).memory :=
  laidMet_of_run' 8 (by kernel_rfl) (by kernel_rfl)
theorem proveHolds_reads (os : Os) {H : Type} (enc : TypeId × Value → H) : ∃ x, DataW.whole enc Tryd.prog ((digWorld os).forCall (fun _ _ => 0) ⟨#[], #[.slice none 0 0, .slice none 0 0], []⟩).memory Tryd.f10.params.toList Rows.proveHoldsSpec.vars false (#[.slice none 0 0, .slice none 0 0] : Array Value).toList 8 = some x :=
  Option.isSome_iff_exists.1 (by kernel_rfl)
set_option maxRecDepth 100000 in
theorem proveHolds_lifted (os : Os) (started : os.Started) (H : Type) (enc : TypeId × Value → H) (F : Stop.Interp) :
    ReturnsInHanded {} Tryd.checked os 10 .any ((OpenSpec.ofChange Rows.proveHoldsSpec).preRow enc Tryd.prog Tryd.f10 Rows.proveHoldsRow.domain false Rows.proveHoldsRow.laid) (((OpenSpec.ofChange Rows.proveHoldsSpec).at F).post enc Tryd.prog Tryd.f10 false true false false) := by
  obtain ⟨places, hx⟩ := proveHolds_reads os enc
  refine returnsInHanded_of_row (C := Tryd.checked) (s := OpenSpec.ofChange Rows.proveHoldsSpec) proveHolds_own started (by kernel_rfl) Tryd.func10
    (witness_row_at (enc := enc) (C := Tryd.checked) false (digWorld os) #[.slice none 0 0, .slice none 0 0] rfl (by kernel_rfl) (by kernel_rfl) (by kernel_rfl)
      (OpenSpec.preRow_of_cond 8 hx rfl (fun k hk => by cases hk) (by kernel_rfl) (proveHolds_met os))) ?_
  intro W base args ds gs before hval0 hW _ _ hsz hL _ _
  have hval : ∀ (j : Nat) t v, Tryd.f10.params[j]? = some t → args[j]? = some v → Value.okWide Tryd.prog W .any base t v := hval0
  have hW' := hW
  obtain ⟨p, q, hA0, hV, rfl, hfz, hnd⟩ := hW
  have hA : DataW.TrodAll enc Tryd.prog W 0 (fun _ => true) true Tryd.f10.params.toList args.toList ds p := hA0
  rw [Tryd.params10] at hA hval
  have hT := dig_met hL
  obtain ⟨v0, vs0, d0, ds0, p0, q0, hargs, rfl, rfl, h0, r0⟩ := trodAll_cons hA
  obtain ⟨v1, vs1, d1, ds1, p1, q1, rfl, rfl, rfl, h1, r1⟩ := trodAll_cons r0
  obtain ⟨rfl, rfl, rfl⟩ := trodAll_nil r1
  obtain rfl : args = #[v0, v1] := by cases args; simp_all
  obtain ⟨rfl, rfl⟩ := trodVars_none hV
  have k0 := h0
  have lt0 : ∀ x ∈ p0, x.block < W.heap.size := by obtain ⟨m, hm⟩ := k0; exact DataW.trod_lt m _ _ _ hm
  obtain ⟨a0, len0, cap0, rfl⟩ := okWide_slice Tryd.underlying44 (hval 0 44 v0 rfl rfl)
  obtain ⟨l0, w0⟩ : ∃ l, Prs (whole W) (.slice a0 len0 cap0) l := by
    obtain ⟨fuel, hf⟩ := h0
    exact rd_items Tryd.underlying44 Tryd.underlying36 (by kernel_rfl) (by kernel_rfl) rfl rfl Tryd.underlying22 Tryd.underlying5 (by kernel_rfl) hf
  have k1 := h1
  have lt1 : ∀ x ∈ p1, x.block < W.heap.size := by obtain ⟨m, hm⟩ := k1; exact DataW.trod_lt m _ _ _ hm
  obtain ⟨a1, len1, cap1, rfl⟩ := okWide_slice Tryd.underlying22 (hval 1 22 v1 rfl rfl)
  obtain ⟨l1, w1⟩ : ∃ l, Bs (whole W) (.slice a1 len1 cap1) l := by
    obtain ⟨fuel, hf⟩ := h1
    exact rd_bytes_cells Tryd.underlying22 Tryd.underlying5 (by kernel_rfl) hf
  clear hA0 hval0
  refine (proveHolds_walk W hT (.slice a0 len0 cap0) l0 w0 (.slice a1 len1 cap1) l1 w1).mono fun e W' ⟨he, bel⟩ => ?_
  subst he
  exact ⟨_, rfl, _, _, _, [], _, [], hW', trodAll_mk1 (shut_bool Tryd.underlying4 _), (trodAll_cons_mk (Below.trod proveHolds_laidOut (by kernel_rfl) (of_decide_eq_true (by kernel_rfl)) k0 bel lt0) (trodAll_cons_mk (Below.trod proveHolds_laidOut (by kernel_rfl) (of_decide_eq_true (by kernel_rfl)) k1 bel lt1) trodAll_mk0)), rfl, bel.frame _, fun h => by cases h⟩
set_option maxRecDepth 1000000 in
theorem proveHolds_said : Rows.ProveHoldsSaid :=
  OpenClaim.holds_of_cond 10 Tryd.f10 rfl rfl rfl rfl rfl rfl rfl ⟨rfl, rfl, rfl, rfl, rfl⟩ rfl rfl rfl rfl rfl (by as_aux_lemma => kernel_rfl) Tryd.func10 (joined_mk proveHolds_j1 seat_laidOut seat_mapsRowed proveHolds_j4 proveHolds_j5 proveHolds_j6 seat_stops proveHolds_j8 seat_stopKnobs proveHolds_j10 proveHolds_j11 proveHolds_j12 proveHolds_j13 proveHolds_j14 proveHolds_j15 proveHolds_j16 proveHolds_j17 proveHolds_j18 proveHolds_j19 proveHolds_j20 proveHolds_j21 proveHolds_j22 proveHolds_j23 proveHolds_j24 seat_stopsHeard seat_mayEnter proveHolds_j27 proveHolds_j28 proveHolds_j29 proveHolds_j30 proveHolds_j31 proveHolds_j32)
    (of_decide_eq_true (by as_aux_lemma => kernel_rfl)) (by unfold Func.isWrapper; first | (rw [if_pos (by decide +kernel)]; kernel_rfl) | (rw [if_neg (by decide +kernel)]; exact ⟨rfl, rfl⟩))
    (fun os started H enc _ F => by rw [OpenClaim.pre_eq_preRow]; exact proveHolds_lifted os started H enc F)
theorem proveHolds_plain (f : FuncId) (fn : Func) (hf : Tryd.pinned.checked.prog.funcNamed "canopy/canopykeep.ProveHolds" = some f) (hfn : Tryd.pinned.checked.prog.funcs[f]? = some fn) :
    false = Tryd.pinned.checked.prog.looks [] ∧ ∀ (j : Nat) t, fn.params[j]? = some t → Tryd.pinned.checked.prog.wantsStandIn t = false := by
  obtain rfl : f = 10 := Option.some.inj ((show Tryd.prog.funcNamed "canopy/canopykeep.ProveHolds" = some 10 by kernel_rfl).symm.trans hf) |>.symm
  obtain rfl : fn = Tryd.f10 := (Option.some.inj (Tryd.func10.symm.trans hfn)).symm
  refine ⟨by kernel_rfl, fun j t ht => ?_⟩
  have hall : (Tryd.f10.params.all fun t => !Tryd.prog.wantsStandIn t) = true := by kernel_rfl
  have := Array.all_eq_true_iff_forall_mem.1 hall t (Array.mem_of_getElem? ht)
  show Tryd.prog.wantsStandIn t = false
  simpa using this
set_option maxRecDepth 1000000 in
theorem proveHolds_holds : Rows.ProveHoldsCardSaid :=
  Claim7.holds_tied_plain_at .later [] _ _ _ _ proveHolds_said (fun _ h => by cases h) (by kernel_rfl) (fun _ h => by cases h) proveHolds_row_tie rfl ⟨rfl, rfl⟩ (by kernel_rfl) rfl proveHolds_plain (by kernel_rfl)
#print axioms proveHolds_holds
end Go.Proofs.YtcanckliggcllaaDoor
