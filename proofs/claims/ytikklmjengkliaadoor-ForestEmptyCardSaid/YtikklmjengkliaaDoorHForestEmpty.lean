/- The law ForestEmpty: for every input the call returns true, and each argument reads behind the call as it read before. -/
import Derived.Test.YtikklmjengkliaaDoorCForestEmpty
import Derived.Test.YtikklmjengkliaaDoorBR1
import Derived.Test.YtikklmjengkliaaDoorBR4
import Derived.Test.YtikklmjengkliaaDoorBR11
namespace Go.Proofs.YtikklmjengkliaaDoor
open Go.ChangeShapes Go.WideShapes Go.ChangeAt Go.RowKit
set_option linter.unusedVariables false
theorem forestEmpty_own : ownKnob Tryd.prog.godebug = none := by kernel_rfl
theorem forestEmpty_laidOut : laidOutB Tryd.prog = true := seat_laidOut
theorem forestEmpty_j1 : (Rows.forestEmptyRow.wf (OpenSpec.ofChange Rows.forestEmptySpec)) = true := by kernel_rfl
theorem forestEmpty_j4 : (Tryd.f3.params.all (Tryd.pinned.checked.prog.readableRec ·)) = true := by kernel_rfl
theorem forestEmpty_j5 : (namedTie Tryd.pinned.checked.prog Rows.forestEmptyRow.named Rows.forestEmptySpec.vars) = true := by kernel_rfl
theorem forestEmpty_j6 : ((Rows.forestEmptyRow.stops == [])) = true := by kernel_rfl
theorem forestEmpty_j8 : ((Rows.forestEmptyRow.knobs == [])) = true := by kernel_rfl
theorem forestEmpty_j10 : ((Rows.forestEmptyRow.inPlace == Tryd.pinned.checked.prog.inPlace 3)) = true := by kernel_rfl
theorem forestEmpty_j11 : ((Rows.forestEmptyRow.unfollowed == Tryd.pinned.checked.prog.unfollowed 3)) = true := by kernel_rfl
theorem forestEmpty_j12 : ((Rows.forestEmptyRow.recurses == Tryd.pinned.checked.prog.recurses 3)) = true := by kernel_rfl
theorem forestEmpty_j13 : ((Rows.forestEmptyRow.named == Tryd.pinned.checked.prog.varsNamed 3)) = true := by kernel_rfl
theorem forestEmpty_j14 : ((Rows.forestEmptyRow.maps == (Tryd.f3.params.toList ++ Rows.forestEmptySpec.plain.varTypes Tryd.pinned.checked.prog).any (Tryd.pinned.checked.prog.mapsRec ·))) = true := by kernel_rfl
theorem forestEmpty_j15 : ((Rows.forestEmptyRow.ifaces == (Tryd.f3.params.toList ++ Rows.forestEmptySpec.plain.varTypes Tryd.pinned.checked.prog).any (Tryd.pinned.checked.prog.ifacesRec ·))) = true := by kernel_rfl
theorem forestEmpty_j16 : ((Rows.forestEmptyRow.mapsOut == Tryd.pinned.checked.prog.mapsAmong Tryd.f3.resultTypes.toList)) = true := by kernel_rfl
theorem forestEmpty_j17 : ((Rows.forestEmptyRow.loops == (Tryd.f3.params.toList ++ Rows.forestEmptySpec.plain.varTypes Tryd.pinned.checked.prog).any (Tryd.pinned.checked.prog.loopsFrom ·))) = true := by kernel_rfl
theorem forestEmpty_j18 : ((Rows.forestEmptyRow.wideKeys == (Tryd.f3.params.toList ++ Rows.forestEmptySpec.plain.varTypes Tryd.pinned.checked.prog ++ Tryd.f3.resultTypes.toList).any (Tryd.pinned.checked.prog.wideKeysFrom ·))) = true := by kernel_rfl
theorem forestEmpty_j19 : (Rows.forestEmptySpec.vars.all (Tryd.pinned.checked.prog.varReadable ·)) = true := by kernel_rfl
theorem forestEmpty_j20 : (Tryd.f3.resultTypes.all (fun t => Tryd.pinned.checked.prog.readableRec t && decide (t < Tryd.pinned.checked.prog.types.size))) = true := by kernel_rfl
theorem forestEmpty_j21 : ((Rows.forestEmptyRow.ifacesOut == Tryd.f3.resultTypes.toList.any (Tryd.pinned.checked.prog.ifacesRec ·))) = true := by kernel_rfl
theorem forestEmpty_j22 : ((Rows.forestEmptyRow.loopsOut == Tryd.f3.resultTypes.toList.any (Tryd.pinned.checked.prog.loopsFrom ·))) = true := by kernel_rfl
theorem forestEmpty_j23 : ((Rows.forestEmptyRow.plainKeys == Tryd.pinned.checked.prog.plainKeys)) = true := by kernel_rfl
theorem forestEmpty_j24 : (Rows.forestEmptyRow.shortTexts.isNone) = true := by kernel_rfl
theorem forestEmpty_j27 : (Rows.forestEmptyRow.lifted == Tryd.pinned.checked.prog.liftsFinal) = true := (congrArg (fun b => Rows.forestEmptyRow.lifted == b) seat_liftsFinal).trans (by kernel_rfl)
theorem forestEmpty_j28 : (Tryd.pinned.checked.prog.make == some Rows.forestEmptyRow.make) = true := (congrArg (fun b => b == some Rows.forestEmptyRow.make) seat_make).trans (by kernel_rfl)
theorem forestEmpty_j29 : ((Rows.forestEmptyRow.kinds == (if Rows.forestEmptyRow.domain.isEmpty then [] else Tryd.f3.params.toList.map fun t => match Tryd.pinned.checked.prog.underlying t with | some (.int k) => some k | _ => none))) = true := by kernel_rfl
theorem forestEmpty_j30 : ((Rows.forestEmptyRow.pinned == Rows.forestEmptyRow.pinnedBy)) = true := by kernel_rfl
theorem forestEmpty_j31 : ((Rows.forestEmptyRow.veiled == (Tryd.f3.params.toList ++ Rows.forestEmptySpec.plain.varTypes Tryd.pinned.checked.prog ++ Tryd.f3.resultTypes.toList).any (Tryd.pinned.checked.prog.veiledRec ·))) = true := by kernel_rfl
theorem forestEmpty_j32 : (Rows.forestEmptyRow.veiledFits Tryd.pinned.checked.prog Tryd.f3.params.toList (Tryd.f3.params.toList ++ Rows.forestEmptySpec.plain.varTypes Tryd.pinned.checked.prog ++ Tryd.f3.resultTypes.toList)) = true := by kernel_rfl
theorem forestEmpty_met (os : Os) : laidMet Tryd.prog Rows.forestEmptyRow.laid ((digWorld os).forCall (fun _ _ => 0) ⟨#[], #[.slice none 0 0, .slice none 0 0], []⟩).memory :=
  laidMet_of_run' 8 (by kernel_rfl) (by kernel_rfl)
theorem forestEmpty_reads (os : Os) {H : Type} (enc : TypeId × Value → H) : ∃ x, DataW.whole enc Tryd.prog ((digWorld os).forCall (fun _ _ => 0) ⟨#[], #[.slice none 0 0, .slice none 0 0], []⟩).memory Tryd.f3.params.toList Rows.forestEmptySpec.vars false (#[.slice none 0 0, .slice none 0 0] : Array Value).toList 8 = some x :=
  Option.isSome_iff_exists.1 (by kernel_rfl)
set_option maxRecDepth 100000 in
theorem forestEmpty_lifted (os : Os) (started : os.Started) (H : Type) (enc : TypeId × Value → H) (F : Stop.Interp) :
    ReturnsInHanded {} Tryd.checked os 3 .any ((OpenSpec.ofChange Rows.forestEmptySpec).preRow enc Tryd.prog Tryd.f3 Rows.forestEmptyRow.domain false Rows.forestEmptyRow.laid) (((OpenSpec.ofChange Rows.forestEmptySpec).at F).post enc Tryd.prog Tryd.f3 false true false false) := by
  obtain ⟨places, hx⟩ := forestEmpty_reads os enc
  refine returnsInHanded_of_row (C := Tryd.checked) (s := OpenSpec.ofChange Rows.forestEmptySpec) forestEmpty_own started (by kernel_rfl) Tryd.func3
    (witness_row_at (enc := enc) (C := Tryd.checked) false (digWorld os) #[.slice none 0 0, .slice none 0 0] rfl (by kernel_rfl) (by kernel_rfl) (by kernel_rfl)
      (OpenSpec.preRow_of_cond 8 hx rfl (fun k hk => by cases hk) (by kernel_rfl) (forestEmpty_met os))) ?_
  intro W base args ds gs before hval0 hW _ _ hsz hL _ _
  have hval : ∀ (j : Nat) t v, Tryd.f3.params[j]? = some t → args[j]? = some v → Value.okWide Tryd.prog W .any base t v := hval0
  have hW' := hW
  obtain ⟨p, q, hA0, hV, rfl, hfz, hnd⟩ := hW
  have hA : DataW.TrodAll enc Tryd.prog W 0 (fun _ => true) true Tryd.f3.params.toList args.toList ds p := hA0
  rw [Tryd.params3] at hA hval
  have hT := dig_met hL
  obtain ⟨v0, vs0, d0, ds0, p0, q0, hargs, rfl, rfl, h0, r0⟩ := trodAll_cons hA
  obtain ⟨v1, vs1, d1, ds1, p1, q1, rfl, rfl, rfl, h1, r1⟩ := trodAll_cons r0
  obtain ⟨rfl, rfl, rfl⟩ := trodAll_nil r1
  obtain rfl : args = #[v0, v1] := by cases args; simp_all
  obtain ⟨rfl, rfl⟩ := trodVars_none hV
  have k0 := h0
  have lt0 : ∀ x ∈ p0, x.block < W.heap.size := by obtain ⟨m, hm⟩ := k0; exact DataW.trod_lt m _ _ _ hm
  obtain ⟨a0, len0, cap0, rfl⟩ := okWide_slice Tryd.underlying22 (hval 0 22 v0 rfl rfl)
  obtain ⟨l0, w0⟩ : ∃ l, Pls (whole W) (.slice a0 len0 cap0) l := by
    obtain ⟨fuel, hf⟩ := h0
    exact rd_places Tryd.underlying22 Tryd.underlying45 (by kernel_rfl) (by kernel_rfl) rfl rfl rfl rfl Tryd.underlying23 Tryd.underlying5 (by kernel_rfl) Tryd.underlying4 hf
  have k1 := h1
  have lt1 : ∀ x ∈ p1, x.block < W.heap.size := by obtain ⟨m, hm⟩ := k1; exact DataW.trod_lt m _ _ _ hm
  obtain ⟨a1, len1, cap1, rfl⟩ := okWide_slice Tryd.underlying23 (hval 1 23 v1 rfl rfl)
  obtain ⟨l1, w1⟩ : ∃ l, Bs (whole W) (.slice a1 len1 cap1) l := by
    obtain ⟨fuel, hf⟩ := h1
    exact rd_bytes_cells Tryd.underlying23 Tryd.underlying5 (by kernel_rfl) hf
  clear hA0 hval0
  refine (forestEmpty_walk W hT (.slice a0 len0 cap0) l0 w0 (.slice a1 len1 cap1) l1 w1).mono fun e W' ⟨he, bel⟩ => ?_
  subst he
  exact ⟨_, rfl, _, _, _, [], _, [], hW', trodAll_mk1 (shut_bool Tryd.underlying4 _), (trodAll_cons_mk (Below.trod forestEmpty_laidOut (by kernel_rfl) (of_decide_eq_true (by kernel_rfl)) k0 bel lt0) (trodAll_cons_mk (Below.trod forestEmpty_laidOut (by kernel_rfl) (of_decide_eq_true (by kernel_rfl)) k1 bel lt1) trodAll_mk0)), rfl, bel.frame _, fun h => by cases h⟩
set_option maxRecDepth 1000000 in
theorem forestEmpty_said : Rows.ForestEmptySaid :=
  OpenClaim.holds_of_cond 3 Tryd.f3 rfl rfl rfl rfl rfl rfl rfl ⟨rfl, rfl, rfl, rfl, rfl⟩ rfl rfl rfl rfl rfl (by as_aux_lemma => kernel_rfl) Tryd.func3 (joined_mk forestEmpty_j1 seat_laidOut seat_mapsRowed forestEmpty_j4 forestEmpty_j5 forestEmpty_j6 seat_stops forestEmpty_j8 seat_stopKnobs forestEmpty_j10 forestEmpty_j11 forestEmpty_j12 forestEmpty_j13 forestEmpty_j14 forestEmpty_j15 forestEmpty_j16 forestEmpty_j17 forestEmpty_j18 forestEmpty_j19 forestEmpty_j20 forestEmpty_j21 forestEmpty_j22 forestEmpty_j23 forestEmpty_j24 seat_stopsHeard seat_mayEnter forestEmpty_j27 forestEmpty_j28 forestEmpty_j29 forestEmpty_j30 forestEmpty_j31 forestEmpty_j32)
    (of_decide_eq_true (by as_aux_lemma => kernel_rfl)) (by unfold Func.isWrapper; first | (rw [if_pos (by decide +kernel)]; kernel_rfl) | (rw [if_neg (by decide +kernel)]; exact ⟨rfl, rfl⟩))
    (fun os started H enc _ F => by rw [OpenClaim.pre_eq_preRow]; exact forestEmpty_lifted os started H enc F)
theorem forestEmpty_plain (f : FuncId) (fn : Func) (hf : Tryd.pinned.checked.prog.funcNamed "canopy/canopykeep.ForestEmpty" = some f) (hfn : Tryd.pinned.checked.prog.funcs[f]? = some fn) :
    false = Tryd.pinned.checked.prog.looks [] ∧ ∀ (j : Nat) t, fn.params[j]? = some t → Tryd.pinned.checked.prog.wantsStandIn t = false := by
  obtain rfl : f = 3 := Option.some.inj ((show Tryd.prog.funcNamed "canopy/canopykeep.ForestEmpty" = some 3 by kernel_rfl).symm.trans hf) |>.symm
  obtain rfl : fn = Tryd.f3 := (Option.some.inj (Tryd.func3.symm.trans hfn)).symm
  refine ⟨by kernel_rfl, fun j t ht => ?_⟩
  have hall : (Tryd.f3.params.all fun t => !Tryd.prog.wantsStandIn t) = true := by kernel_rfl
  have := Array.all_eq_true_iff_forall_mem.1 hall t (Array.mem_of_getElem? ht)
  show Tryd.prog.wantsStandIn t = false
  simpa using this
set_option maxRecDepth 1000000 in
theorem forestEmpty_holds : Rows.ForestEmptyCardSaid :=
  Claim7.holds_tied_plain_at .later [] _ _ _ _ forestEmpty_said (fun _ h => by cases h) (by kernel_rfl) (fun _ h => by cases h) forestEmpty_row_tie rfl ⟨rfl, rfl⟩ (by kernel_rfl) rfl forestEmpty_plain (by kernel_rfl)
#print axioms forestEmpty_holds
end Go.Proofs.YtikklmjengkliaaDoor
