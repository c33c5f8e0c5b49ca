/- The law LinesBack: for every input the call returns true, and each argument reads behind the call as it read before. -/
import Derived.Test.YtajmjolgphadoaaDoorCLinesBack
import Derived.Test.YtajmjolgphadoaaDoorCN1
import Derived.Test.YtajmjolgphadoaaDoorCN6
namespace Go.Proofs.YtajmjolgphadoaaDoor
open Go.ChangeShapes Go.WideShapes Go.ChangeAt Go.RowKit
set_option linter.unusedVariables false
theorem linesBack_own : ownKnob Tryd.prog.godebug = none := by kernel_rfl
theorem linesBack_laidOut : laidOutB Tryd.prog = true := seat_laidOut
theorem linesBack_j1 : (Rows.linesBackRow.wf (OpenSpec.ofChange Rows.linesBackSpec)) = true := by kernel_rfl
theorem linesBack_j4 : (Tryd.f4.params.all (Tryd.pinned.checked.prog.readableRec ·)) = true := by kernel_rfl
theorem linesBack_j5 : (namedTie Tryd.pinned.checked.prog Rows.linesBackRow.named Rows.linesBackSpec.vars) = true := by kernel_rfl
theorem linesBack_j6 : ((Rows.linesBackRow.stops == [])) = true := by kernel_rfl
theorem linesBack_j8 : ((Rows.linesBackRow.knobs == [])) = true := by kernel_rfl
theorem linesBack_j10 : ((Rows.linesBackRow.inPlace == Tryd.pinned.checked.prog.inPlace 4)) = true := by kernel_rfl
theorem linesBack_j11 : ((Rows.linesBackRow.unfollowed == Tryd.pinned.checked.prog.unfollowed 4)) = true := by kernel_rfl
theorem linesBack_j12 : ((Rows.linesBackRow.recurses == Tryd.pinned.checked.prog.recurses 4)) = true := by kernel_rfl
theorem linesBack_j13 : ((Rows.linesBackRow.named == Tryd.pinned.checked.prog.varsNamed 4)) = true := by kernel_rfl
theorem linesBack_j14 : ((Rows.linesBackRow.maps == (Tryd.f4.params.toList ++ Rows.linesBackSpec.plain.varTypes Tryd.pinned.checked.prog).any (Tryd.pinned.checked.prog.mapsRec ·))) = true := by kernel_rfl
theorem linesBack_j15 : ((Rows.linesBackRow.ifaces == (Tryd.f4.params.toList ++ Rows.linesBackSpec.plain.varTypes Tryd.pinned.checked.prog).any (Tryd.pinned.checked.prog.ifacesRec ·))) = true := by kernel_rfl
theorem linesBack_j16 : ((Rows.linesBackRow.mapsOut == Tryd.pinned.checked.prog.mapsAmong Tryd.f4.resultTypes.toList)) = true := by kernel_rfl
theorem linesBack_j17 : ((Rows.linesBackRow.loops == (Tryd.f4.params.toList ++ Rows.linesBackSpec.plain.varTypes Tryd.pinned.checked.prog).any (Tryd.pinned.checked.prog.loopsFrom ·))) = true := by kernel_rfl
theorem linesBack_j18 : ((Rows.linesBackRow.wideKeys == (Tryd.f4.params.toList ++ Rows.linesBackSpec.plain.varTypes Tryd.pinned.checked.prog ++ Tryd.f4.resultTypes.toList).any (Tryd.pinned.checked.prog.wideKeysFrom ·))) = true := by kernel_rfl
theorem linesBack_j19 : (Rows.linesBackSpec.vars.all (Tryd.pinned.checked.prog.varReadable ·)) = true := by kernel_rfl
theorem linesBack_j20 : (Tryd.f4.resultTypes.all (fun t => Tryd.pinned.checked.prog.readableRec t && decide (t < Tryd.pinned.checked.prog.types.size))) = true := by kernel_rfl
theorem linesBack_j21 : ((Rows.linesBackRow.ifacesOut == Tryd.f4.resultTypes.toList.any (Tryd.pinned.checked.prog.ifacesRec ·))) = true := by kernel_rfl
theorem linesBack_j22 : ((Rows.linesBackRow.loopsOut == Tryd.f4.resultTypes.toList.any (Tryd.pinned.checked.prog.loopsFrom ·))) = true := by kernel_rfl
theorem linesBack_j23 : ((Rows.linesBackRow.plainKeys == Tryd.pinned.checked.prog.plainKeys)) = true := by kernel_rfl
theorem linesBack_j24 : (Rows.linesBackRow.shortTexts.isNone) = true := by kernel_rfl
theorem linesBack_j27 : (Rows.linesBackRow.lifted == Tryd.pinned.checked.prog.liftsFinal) = true := (congrArg (fun b => Rows.linesBackRow.lifted == b) seat_liftsFinal).trans (by kernel_rfl)
theorem linesBack_j28 : (Tryd.pinned.checked.prog.make == some Rows.linesBackRow.make) = true := (congrArg (fun b => b == some Rows.linesBackRow.make) seat_make).trans (by kernel_rfl)
theorem linesBack_j29 : ((Rows.linesBackRow.kinds == (if Rows.linesBackRow.domain.isEmpty then [] else Tryd.f4.params.toList.map fun t => match Tryd.pinned.checked.prog.underlying t with | some (.int k) => some k | _ => none))) = true := by kernel_rfl
theorem linesBack_j30 : ((Rows.linesBackRow.pinned == Rows.linesBackRow.pinnedBy)) = true := by kernel_rfl
theorem linesBack_j31 : ((Rows.linesBackRow.veiled == (Tryd.f4.params.toList ++ Rows.linesBackSpec.plain.varTypes Tryd.pinned.checked.prog ++ Tryd.f4.resultTypes.toList).any (Tryd.pinned.checked.prog.veiledRec ·))) = true := by kernel_rfl
theorem linesBack_j32 : (Rows.linesBackRow.veiledFits Tryd.pinned.checked.prog Tryd.f4.params.toList (Tryd.f4.params.toList ++ Rows.linesBackSpec.plain.varTypes Tryd.pinned.checked.prog ++ Tryd.f4.resultTypes.toList)) = true := by kernel_rfl
theorem linesBack_met (os : Os) : laidMet Tryd.prog Rows.linesBackRow.laid ((linWorld os).forCall (fun _ _ => 0) ⟨#[], #[.slice none 0 0], []⟩).memory :=
  lin_laid os _
theorem linesBack_reads (os : Os) {H : Type} (enc : TypeId × Value → H) : ∃ x, DataW.whole enc Tryd.prog ((linWorld os).forCall (fun _ _ => 0) ⟨#[], #[.slice none 0 0], []⟩).memory Tryd.f4.params.toList Rows.linesBackSpec.vars false (#[.slice none 0 0] : Array Value).toList 8 = some x :=
  Option.isSome_iff_exists.1 (by kernel_rfl)
set_option maxRecDepth 100000 in
theorem linesBack_lifted (os : Os) (started : os.Started) (H : Type) (enc : TypeId × Value → H) (F : Stop.Interp) :
    ReturnsInHanded {} Tryd.checked os 4 .any ((OpenSpec.ofChange Rows.linesBackSpec).preRow enc Tryd.prog Tryd.f4 Rows.linesBackRow.domain false Rows.linesBackRow.laid) (((OpenSpec.ofChange Rows.linesBackSpec).at F).post enc Tryd.prog Tryd.f4 false true false false) := by
  obtain ⟨places, hx⟩ := linesBack_reads os enc
  refine returnsInHanded_of_row (C := Tryd.checked) (s := OpenSpec.ofChange Rows.linesBackSpec) linesBack_own started (by kernel_rfl) Tryd.func4
    (witness_row_atRef (enc := enc) (C := Tryd.checked) false (linWorld os) #[.slice none 0 0] (World.laidAll_os _ _ _) (by kernel_rfl) (by kernel_rfl) (by kernel_rfl)
      (OpenSpec.preRow_of_cond 8 hx rfl (fun k hk => by cases hk) (by kernel_rfl) (linesBack_met os))) ?_
  intro W base args ds gs before hval0 hW _ _ hsz hL hSh _
  have hval : ∀ (j : Nat) t v, Tryd.f4.params[j]? = some t → args[j]? = some v → Value.okWide Tryd.prog W .any base t v := hval0
  have hW' := hW
  obtain ⟨p, q, hA0, hV, rfl, hfz, hnd⟩ := hW
  have hA : DataW.TrodAll enc Tryd.prog W 0 (fun _ => true) true Tryd.f4.params.toList args.toList ds p := hA0
  rw [Tryd.params4] at hA hval
  obtain ⟨hTl, hWl⟩ := lin_met hL hSh
  obtain ⟨v0, vs0, d0, ds0, p0, q0, hargs, rfl, rfl, h0, r0⟩ := trodAll_cons hA
  obtain ⟨rfl, rfl, rfl⟩ := trodAll_nil r0
  obtain rfl : args = #[v0] := by cases args; simp_all
  obtain ⟨rfl, rfl⟩ := trodVars_none hV
  have k0 := h0
  have lt0 : ∀ x ∈ p0, x.block < W.heap.size := by obtain ⟨m, hm⟩ := k0; exact DataW.trod_lt m _ _ _ hm
  obtain ⟨a0, len0, cap0, rfl⟩ := okWide_slice Tryd.underlying42 (hval 0 42 v0 rfl rfl)
  obtain ⟨l0, w0, fb0⟩ : ∃ l, Fts (whole W) (.slice a0 len0 cap0) l ∧ ∀ g ∈ l, FtB g := by
    obtain ⟨fuel, hf⟩ := h0
    exact rd_feats Tryd.underlying42 Tryd.underlying66 (by kernel_rfl) (by kernel_rfl) rfl rfl rfl Tryd.underlying3 Tryd.underlying27 Tryd.underlying5 (by kernel_rfl) hf
  clear hA0 hval0
  refine (linesBack_walk W hTl hWl (.slice a0 len0 cap0) l0 w0 fb0).mono fun e W' ⟨he, bel⟩ => ?_
  subst he
  exact ⟨_, rfl, _, _, _, [], _, [], hW', trodAll_mk1 (shut_bool Tryd.underlying4 _), (trodAll_cons_mk (Below.trod linesBack_laidOut (by kernel_rfl) (of_decide_eq_true (by kernel_rfl)) k0 bel lt0) trodAll_mk0), rfl, bel.frame _, fun h => by cases h⟩
set_option maxRecDepth 1000000 in
theorem linesBack_said : Rows.LinesBackSaid :=
  OpenClaim.holds_of_cond 4 Tryd.f4 rfl rfl rfl rfl rfl rfl rfl ⟨rfl, rfl, rfl, rfl, rfl⟩ rfl rfl rfl rfl rfl (by as_aux_lemma => kernel_rfl) Tryd.func4 (joined_mk linesBack_j1 seat_laidOut seat_mapsRowed linesBack_j4 linesBack_j5 linesBack_j6 seat_stops linesBack_j8 seat_stopKnobs linesBack_j10 linesBack_j11 linesBack_j12 linesBack_j13 linesBack_j14 linesBack_j15 linesBack_j16 linesBack_j17 linesBack_j18 linesBack_j19 linesBack_j20 linesBack_j21 linesBack_j22 linesBack_j23 linesBack_j24 seat_stopsHeard seat_mayEnter linesBack_j27 linesBack_j28 linesBack_j29 linesBack_j30 linesBack_j31 linesBack_j32)
    (of_decide_eq_true (by as_aux_lemma => kernel_rfl)) (by unfold Func.isWrapper; first | (rw [if_pos (by decide +kernel)]; kernel_rfl) | (rw [if_neg (by decide +kernel)]; exact ⟨rfl, rfl⟩))
    (fun os started H enc _ F => by rw [OpenClaim.pre_eq_preRow]; exact linesBack_lifted os started H enc F)
theorem linesBack_plain (f : FuncId) (fn : Func) (hf : Tryd.pinned.checked.prog.funcNamed "canopy/canopykeep.LinesBack" = some f) (hfn : Tryd.pinned.checked.prog.funcs[f]? = some fn) :
    true = Tryd.pinned.checked.prog.looks [] ∧ ∀ (j : Nat) t, fn.params[j]? = some t → Tryd.pinned.checked.prog.wantsStandIn t = false := by
  obtain rfl : f = 4 := Option.some.inj ((show Tryd.prog.funcNamed "canopy/canopykeep.LinesBack" = some 4 by kernel_rfl).symm.trans hf) |>.symm
  obtain rfl : fn = Tryd.f4 := (Option.some.inj (Tryd.func4.symm.trans hfn)).symm
  refine ⟨by kernel_rfl, fun j t ht => ?_⟩
  have hall : (Tryd.f4.params.all fun t => !Tryd.prog.wantsStandIn t) = true := by kernel_rfl
  have := Array.all_eq_true_iff_forall_mem.1 hall t (Array.mem_of_getElem? ht)
  show Tryd.prog.wantsStandIn t = false
  simpa using this
set_option maxRecDepth 1000000 in
theorem linesBack_holds : Rows.LinesBackCardSaid :=
  Claim7.holds_tied_plain_at .later [] _ _ _ _ linesBack_said (fun _ h => by cases h) (by kernel_rfl) (fun _ h => by cases h) linesBack_row_tie rfl ⟨rfl, rfl⟩ (by kernel_rfl) rfl linesBack_plain (by kernel_rfl)
#print axioms linesBack_holds
end Go.Proofs.YtajmjolgphadoaaDoor
