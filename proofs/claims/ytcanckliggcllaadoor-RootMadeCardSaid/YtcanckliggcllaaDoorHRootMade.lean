/- The law RootMade: for every input the call returns true, and each argument reads behind the call as it read before. -/
import Derived.Test.YtcanckliggcllaaDoorCRootMade
import Derived.Test.YtcanckliggcllaaDoorBU1
import Derived.Test.YtcanckliggcllaaDoorBU8
import Derived.Lib.SmallJoins
namespace Go.Proofs.YtcanckliggcllaaDoor
open Go.ChangeShapes Go.WideShapes Go.ChangeAt Go.RowKit
set_option linter.unusedVariables false
theorem rootMade_own : ownKnob Tryd.prog.godebug = none := by kernel_rfl
theorem rootMade_laidOut : laidOutB Tryd.prog = true := seat_laidOut
theorem rootMade_j1 : (Rows.rootMadeRow.wf (OpenSpec.ofChange Rows.rootMadeSpec)) = true := by kernel_rfl
theorem rootMade_j4 : (Tryd.f6.params.all (Tryd.pinned.checked.prog.readableRec ·)) = true := by kernel_rfl
theorem rootMade_j5 : (namedTie Tryd.pinned.checked.prog Rows.rootMadeRow.named Rows.rootMadeSpec.vars) = true := by kernel_rfl
theorem rootMade_j6 : ((Rows.rootMadeRow.stops == [])) = true := by kernel_rfl
theorem rootMade_j8 : ((Rows.rootMadeRow.knobs == [])) = true := by kernel_rfl
theorem rootMade_j10 : ((Rows.rootMadeRow.inPlace == Tryd.pinned.checked.prog.inPlace 6)) = true := by kernel_rfl
theorem rootMade_j11 : ((Rows.rootMadeRow.unfollowed == Tryd.pinned.checked.prog.unfollowed 6)) = true := by kernel_rfl
theorem rootMade_j12 : ((Rows.rootMadeRow.recurses == Tryd.pinned.checked.prog.recurses 6)) = true := by kernel_rfl
theorem rootMade_j13 : ((Rows.rootMadeRow.named == Tryd.pinned.checked.prog.varsNamed 6)) = true := by kernel_rfl
theorem rootMade_j14 : ((Rows.rootMadeRow.maps == (Tryd.f6.params.toList ++ Rows.rootMadeSpec.plain.varTypes Tryd.pinned.checked.prog).any (Tryd.pinned.checked.prog.mapsRec ·))) = true := by kernel_rfl
theorem rootMade_j15 : ((Rows.rootMadeRow.ifaces == (Tryd.f6.params.toList ++ Rows.rootMadeSpec.plain.varTypes Tryd.pinned.checked.prog).any (Tryd.pinned.checked.prog.ifacesRec ·))) = true := by kernel_rfl
theorem rootMade_j16 : ((Rows.rootMadeRow.mapsOut == Tryd.pinned.checked.prog.mapsAmong Tryd.f6.resultTypes.toList)) = true := by kernel_rfl
theorem rootMade_j17 : ((Rows.rootMadeRow.loops == (Tryd.f6.params.toList ++ Rows.rootMadeSpec.plain.varTypes Tryd.pinned.checked.prog).any (Tryd.pinned.checked.prog.loopsFrom ·))) = true := by kernel_rfl
theorem rootMade_j18 : ((Rows.rootMadeRow.wideKeys == (Tryd.f6.params.toList ++ Rows.rootMadeSpec.plain.varTypes Tryd.pinned.checked.prog ++ Tryd.f6.resultTypes.toList).any (Tryd.pinned.checked.prog.wideKeysFrom ·))) = true := by kernel_rfl
theorem rootMade_j19 : (Rows.rootMadeSpec.vars.all (Tryd.pinned.checked.prog.varReadable ·)) = true := by kernel_rfl
theorem rootMade_j20 : (Tryd.f6.resultTypes.all (fun t => Tryd.pinned.checked.prog.readableRec t && decide (t < Tryd.pinned.checked.prog.types.size))) = true := by kernel_rfl
theorem rootMade_j21 : ((Rows.rootMadeRow.ifacesOut == Tryd.f6.resultTypes.toList.any (Tryd.pinned.checked.prog.ifacesRec ·))) = true := by kernel_rfl
theorem rootMade_j22 : ((Rows.rootMadeRow.loopsOut == Tryd.f6.resultTypes.toList.any (Tryd.pinned.checked.prog.loopsFrom ·))) = true := by kernel_rfl
theorem rootMade_j23 : ((Rows.rootMadeRow.plainKeys == Tryd.pinned.checked.prog.plainKeys)) = true := by kernel_rfl
theorem rootMade_j24 : (Rows.rootMadeRow.shortTexts.isNone) = true := by kernel_rfl
theorem rootMade_j27 : (Rows.rootMadeRow.lifted == Tryd.pinned.checked.prog.liftsFinal) = true := (congrArg (fun b => Rows.rootMadeRow.lifted == b) seat_liftsFinal).trans (by kernel_rfl)
theorem rootMade_j28 : (Tryd.pinned.checked.prog.make == some Rows.rootMadeRow.make) = true := (congrArg (fun b => b == some Rows.rootMadeRow.make) seat_make).trans (by kernel_rfl)
theorem rootMade_j29 : ((Rows.rootMadeRow.kinds == (if Rows.rootMadeRow.domain.isEmpty then [] else Tryd.f6.params.toList.map fun t => match Tryd.pinned.checked.prog.underlying t with | some (.int k) => some k | _ => none))) = true := by kernel_rfl
theorem rootMade_j30 : ((Rows.rootMadeRow.pinned == Rows.rootMadeRow.pinnedBy)) = true := by kernel_rfl
theorem rootMade_j31 : ((Rows.rootMadeRow.veiled == (Tryd.f6.params.toList ++ Rows.rootMadeSpec.plain.varTypes Tryd.pinned.checked.prog ++ Tryd.f6.resultTypes.toList).any (Tryd.pinned.checked.prog.veiledRec ·))) = true := by kernel_rfl
theorem rootMade_j32 : (Rows.rootMadeRow.veiledFits Tryd.pinned.checked.prog Tryd.f6.params.toList (Tryd.f6.params.toList ++ Rows.rootMadeSpec.plain.varTypes Tryd.pinned.checked.prog ++ Tryd.f6.resultTypes.toList)) = true := by kernel_rfl
theorem rootMade_met (os : Os) : laidMet Tryd.prog Rows.rootMadeRow.laid ((digWorld os).forCall (fun _ _ => 0) ⟨#[], #[.agg #[.slice none 0 0, .slice none 0 0], .agg #[.slice none 0 0, .slice none 0 0]], []⟩).memory :=
  laidMet_of_run' 8 (by kernel_rfl) (by kernel_rfl)
theorem rootMade_reads (os : Os) {H : Type} (enc : TypeId × Value → H) : ∃ x, DataW.whole enc Tryd.prog ((digWorld os).forCall (fun _ _ => 0) ⟨#[], #[.agg #[.slice none 0 0, .slice none 0 0], .agg #[.slice none 0 0, .slice none 0 0]], []⟩).memory Tryd.f6.params.toList Rows.rootMadeSpec.vars false (#[.agg #[.slice none 0 0, .slice none 0 0], .agg #[.slice none 0 0, .slice none 0 0]] : Array Value).toList 8 = some x :=
  Option.isSome_iff_exists.1 (by kernel_rfl)
set_option maxRecDepth 100000 in
theorem rootMade_lifted (os : Os) (started : os.Started) (H : Type) (enc : TypeId × Value → H) (F : Stop.Interp) :
    ReturnsInHanded {} Tryd.checked os 6 .any ((OpenSpec.ofChange Rows.rootMadeSpec).preRow enc Tryd.prog Tryd.f6 Rows.rootMadeRow.domain false Rows.rootMadeRow.laid) (((OpenSpec.ofChange Rows.rootMadeSpec).at F).post enc Tryd.prog Tryd.f6 false true false false) := by
  obtain ⟨places, hx⟩ := rootMade_reads os enc
  refine returnsInHanded_of_row (C := Tryd.checked) (s := OpenSpec.ofChange Rows.rootMadeSpec) rootMade_own started (by kernel_rfl) Tryd.func6
    (witness_row_at (enc := enc) (C := Tryd.checked) false (digWorld os) #[.agg #[.slice none 0 0, .slice none 0 0], .agg #[.slice none 0 0, .slice none 0 0]] rfl (by kernel_rfl) (by kernel_rfl) (by kernel_rfl)
      (OpenSpec.preRow_of_cond 8 hx rfl (fun k hk => by cases hk) (by kernel_rfl) (rootMade_met os))) ?_
  intro W base args ds gs before hval0 hW _ _ hsz hL _ _
  have hval : ∀ (j : Nat) t v, Tryd.f6.params[j]? = some t → args[j]? = some v → Value.okWide Tryd.prog W .any base t v := hval0
  have hW' := hW
  obtain ⟨p, q, hA0, hV, rfl, hfz, hnd⟩ := hW
  have hA : DataW.TrodAll enc Tryd.prog W 0 (fun _ => true) true Tryd.f6.params.toList args.toList ds p := hA0
  rw [Tryd.params6] at hA hval
  have hT := dig_met hL
  obtain ⟨v0, vs0, d0, ds0, p0, q0, hargs, rfl, rfl, h0, r0⟩ := trodAll_cons hA
  obtain ⟨v1, vs1, d1, ds1, p1, q1, rfl, rfl, rfl, h1, r1⟩ := trodAll_cons r0
  obtain ⟨rfl, rfl, rfl⟩ := trodAll_nil r1
  obtain rfl : args = #[v0, v1] := by cases args; simp_all
  obtain ⟨rfl, rfl⟩ := trodVars_none hV
  have k0 := h0
  have lt0 : ∀ x ∈ p0, x.block < W.heap.size := by obtain ⟨m, hm⟩ := k0; exact DataW.trod_lt m _ _ _ hm
  obtain ⟨c0_0, c0_1, y0_0, y0_1, n0, rfl, _, _, t0_0, t0_1⟩ := Joins.open_agg2 Tryd.underlying36 (by kernel_rfl) (by kernel_rfl) (hval 0 36 v0 rfl rfl) h0
  obtain ⟨l0_0, w0_0⟩ := rd_bytes_cells Tryd.underlying22 Tryd.underlying5 (by kernel_rfl) t0_0
  obtain ⟨l0_1, w0_1⟩ := rd_bytes_cells Tryd.underlying22 Tryd.underlying5 (by kernel_rfl) t0_1
  have k1 := h1
  have lt1 : ∀ x ∈ p1, x.block < W.heap.size := by obtain ⟨m, hm⟩ := k1; exact DataW.trod_lt m _ _ _ hm
  obtain ⟨c1_0, c1_1, y1_0, y1_1, n1, rfl, _, _, t1_0, t1_1⟩ := Joins.open_agg2 Tryd.underlying36 (by kernel_rfl) (by kernel_rfl) (hval 1 36 v1 rfl rfl) h1
  obtain ⟨l1_0, w1_0⟩ := rd_bytes_cells Tryd.underlying22 Tryd.underlying5 (by kernel_rfl) t1_0
  obtain ⟨l1_1, w1_1⟩ := rd_bytes_cells Tryd.underlying22 Tryd.underlying5 (by kernel_rfl) t1_1
  clear hA0 hval0
  refine (rootMade_walk W hT c0_0 l0_0 w0_0 c0_1 l0_1 w0_1 c1_0 l1_0 w1_0 c1_1 l1_1 w1_1).mono fun e W' ⟨he, bel⟩ => ?_
  subst he
  exact ⟨_, rfl, _, _, _, [], _, [], hW', trodAll_mk1 (shut_bool Tryd.underlying4 _), (trodAll_cons_mk (Below.trod rootMade_laidOut (by kernel_rfl) (of_decide_eq_true (by kernel_rfl)) k0 bel lt0) (trodAll_cons_mk (Below.trod rootMade_laidOut (by kernel_rfl) (of_decide_eq_true (by kernel_rfl)) k1 bel lt1) trodAll_mk0)), rfl, bel.frame _, fun h => by cases h⟩
set_option maxRecDepth 1000000 in
theorem rootMade_said : Rows.RootMadeSaid :=
  OpenClaim.holds_of_cond 6 Tryd.f6 rfl rfl rfl rfl rfl rfl rfl ⟨rfl, rfl, rfl, rfl, rfl⟩ rfl rfl rfl rfl rfl (by as_aux_lemma => kernel_rfl) Tryd.func6 (joined_mk rootMade_j1 seat_laidOut seat_mapsRowed rootMade_j4 rootMade_j5 rootMade_j6 seat_stops rootMade_j8 seat_stopKnobs rootMade_j10 rootMade_j11 rootMade_j12 rootMade_j13 rootMade_j14 rootMade_j15 rootMade_j16 rootMade_j17 rootMade_j18 rootMade_j19 rootMade_j20 rootMade_j21 rootMade_j22 rootMade_j23 rootMade_j24 seat_stopsHeard seat_mayEnter rootMade_j27 rootMade_j28 rootMade_j29 rootMade_j30 rootMade_j31 rootMade_j32)
    (of_decide_eq_true (by as_aux_lemma => kernel_rfl)) (by unfold Func.isWrapper; first | (rw [if_pos (by decide +kernel)]; kernel_rfl) | (rw [if_neg (by decide +kernel)]; exact ⟨rfl, rfl⟩))
    (fun os started H enc _ F => by rw [OpenClaim.pre_eq_preRow]; exact rootMade_lifted os started H enc F)
theorem rootMade_plain (f : FuncId) (fn : Func) (hf : Tryd.pinned.checked.prog.funcNamed "canopy/canopykeep.RootMade" = some f) (hfn : Tryd.pinned.checked.prog.funcs[f]? = some fn) :
    false = Tryd.pinned.checked.prog.looks [] ∧ ∀ (j : Nat) t, fn.params[j]? = some t → Tryd.pinned.checked.prog.wantsStandIn t = false := by
  obtain rfl : f = 6 := Option.some.inj ((show Tryd.prog.funcNamed "canopy/canopykeep.RootMade" = some 6 by kernel_rfl).symm.trans hf) |>.symm
  obtain rfl : fn = Tryd.f6 := (Option.some.inj (Tryd.func6.symm.trans hfn)).symm
  refine ⟨by kernel_rfl, fun j t ht => ?_⟩
  have hall : (Tryd.f6.params.all fun t => !Tryd.prog.wantsStandIn t) = true := by kernel_rfl
  have := Array.all_eq_true_iff_forall_mem.1 hall t (Array.mem_of_getElem? ht)
  show Tryd.prog.wantsStandIn t = false
  simpa using this
set_option maxRecDepth 1000000 in
theorem rootMade_holds : Rows.RootMadeCardSaid :=
  Claim7.holds_tied_plain_at .later [] _ _ _ _ rootMade_said (fun _ h => by cases h) (by kernel_rfl) (fun _ h => by cases h) rootMade_row_tie rfl ⟨rfl, rfl⟩ (by kernel_rfl) rfl rootMade_plain (by kernel_rfl)
#print axioms rootMade_holds
end Go.Proofs.YtcanckliggcllaaDoor
