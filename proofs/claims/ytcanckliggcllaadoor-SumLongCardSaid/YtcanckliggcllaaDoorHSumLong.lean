/- The law SumLong: for every input the call returns true, and each argument reads behind the call as it read before. -/
import Derived.Test.YtcanckliggcllaaDoorBU9
import Derived.Test.YtcanckliggcllaaDoorBU1
import Derived.Test.YtcanckliggcllaaDoorBU8
namespace Go.Proofs.YtcanckliggcllaaDoor
open Go.ChangeShapes Go.WideShapes Go.ChangeAt Go.RowKit
set_option linter.unusedVariables false
theorem sumLong_own : ownKnob Tryd.prog.godebug = none := by kernel_rfl
theorem sumLong_laidOut : laidOutB Tryd.prog = true := seat_laidOut
theorem sumLong_j1 : (Rows.sumLongRow.wf (OpenSpec.ofChange Rows.sumLongSpec)) = true := by kernel_rfl
theorem sumLong_j4 : (Tryd.f4.params.all (Tryd.pinned.checked.prog.readableRec ·)) = true := by kernel_rfl
theorem sumLong_j5 : (namedTie Tryd.pinned.checked.prog Rows.sumLongRow.named Rows.sumLongSpec.vars) = true := by kernel_rfl
theorem sumLong_j6 : ((Rows.sumLongRow.stops == [])) = true := by kernel_rfl
theorem sumLong_j8 : ((Rows.sumLongRow.knobs == [])) = true := by kernel_rfl
theorem sumLong_j10 : ((Rows.sumLongRow.inPlace == Tryd.pinned.checked.prog.inPlace 4)) = true := by kernel_rfl
theorem sumLong_j11 : ((Rows.sumLongRow.unfollowed == Tryd.pinned.checked.prog.unfollowed 4)) = true := by kernel_rfl
theorem sumLong_j12 : ((Rows.sumLongRow.recurses == Tryd.pinned.checked.prog.recurses 4)) = true := by kernel_rfl
theorem sumLong_j13 : ((Rows.sumLongRow.named == Tryd.pinned.checked.prog.varsNamed 4)) = true := by kernel_rfl
theorem sumLong_j14 : ((Rows.sumLongRow.maps == (Tryd.f4.params.toList ++ Rows.sumLongSpec.plain.varTypes Tryd.pinned.checked.prog).any (Tryd.pinned.checked.prog.mapsRec ·))) = true := by kernel_rfl
theorem sumLong_j15 : ((Rows.sumLongRow.ifaces == (Tryd.f4.params.toList ++ Rows.sumLongSpec.plain.varTypes Tryd.pinned.checked.prog).any (Tryd.pinned.checked.prog.ifacesRec ·))) = true := by kernel_rfl
theorem sumLong_j16 : ((Rows.sumLongRow.mapsOut == Tryd.pinned.checked.prog.mapsAmong Tryd.f4.resultTypes.toList)) = true := by kernel_rfl
theorem sumLong_j17 : ((Rows.sumLongRow.loops == (Tryd.f4.params.toList ++ Rows.sumLongSpec.plain.varTypes Tryd.pinned.checked.prog).any (Tryd.pinned.checked.prog.loopsFrom ·))) = true := by kernel_rfl
theorem sumLong_j18 : ((Rows.sumLongRow.wideKeys == (Tryd.f4.params.toList ++ Rows.sumLongSpec.plain.varTypes Tryd.pinned.checked.prog ++ Tryd.f4.resultTypes.toList).any (Tryd.pinned.checked.prog.wideKeysFrom ·))) = true := by kernel_rfl
theorem sumLong_j19 : (Rows.sumLongSpec.vars.all (Tryd.pinned.checked.prog.varReadable ·)) = true := by kernel_rfl
theorem sumLong_j20 : (Tryd.f4.resultTypes.all (fun t => Tryd.pinned.checked.prog.readableRec t && decide (t < Tryd.pinned.checked.prog.types.size))) = true := by kernel_rfl
theorem sumLong_j21 : ((Rows.sumLongRow.ifacesOut == Tryd.f4.resultTypes.toList.any (Tryd.pinned.checked.prog.ifacesRec ·))) = true := by kernel_rfl
theorem sumLong_j22 : ((Rows.sumLongRow.loopsOut == Tryd.f4.resultTypes.toList.any (Tryd.pinned.checked.prog.loopsFrom ·))) = true := by kernel_rfl
theorem sumLong_j23 : ((Rows.sumLongRow.plainKeys == Tryd.pinned.checked.prog.plainKeys)) = true := by kernel_rfl
theorem sumLong_j24 : (Rows.sumLongRow.shortTexts.isNone) = true := by kernel_rfl
theorem sumLong_j27 : (Rows.sumLongRow.lifted == Tryd.pinned.checked.prog.liftsFinal) = true := (congrArg (fun b => Rows.sumLongRow.lifted == b) seat_liftsFinal).trans (by kernel_rfl)
theorem sumLong_j28 : (Tryd.pinned.checked.prog.make == some Rows.sumLongRow.make) = true := (congrArg (fun b => b == some Rows.sumLongRow.make) seat_make).trans (by kernel_rfl)
theorem sumLong_j29 : ((Rows.sumLongRow.kinds == (if Rows.sumLongRow.domain.isEmpty then [] else Tryd.f4.params.toList.map fun t => match Tryd.pinned.checked.prog.underlying t with | some (.int k) => some k | _ => none))) = true := by kernel_rfl
theorem sumLong_j30 : ((Rows.sumLongRow.pinned == Rows.sumLongRow.pinnedBy)) = true := by kernel_rfl
theorem sumLong_j31 : ((Rows.sumLongRow.veiled == (Tryd.f4.params.toList ++ Rows.sumLongSpec.plain.varTypes Tryd.pinned.checked.prog ++ Tryd.f4.resultTypes.toList).any (Tryd.pinned.checked.prog.veiledRec ·))) = true := by kernel_rfl
theorem sumLong_j32 : (Rows.sumLongRow.veiledFits Tryd.pinned.checked.prog Tryd.f4.params.toList (Tryd.f4.params.toList ++ Rows.sumLongSpec.plain.varTypes Tryd.pinned.checked.prog ++ Tryd.f4.resultTypes.toList)) = true := by kernel_rfl
theorem sumLong_met (os : Os) : laidMet Tryd.prog Rows.sumLongRow.laid ((digWorld os).forCall (fun _ _ => 0) ⟨#[], #[.slice none 0 0, .int .i64 0], []⟩).memory :=
  laidMet_of_run' 8 (by kernel_rfl) (by kernel_rfl)
theorem sumLong_reads (os : Os) {H : Type} (enc : TypeId × Value → H) : ∃ x, DataW.whole enc Tryd.prog ((digWorld os).forCall (fun _ _ => 0) ⟨#[], #[.slice none 0 0, .int .i64 0], []⟩).memory Tryd.f4.params.toList Rows.sumLongSpec.vars false (#[.slice none 0 0, .int .i64 0] : Array Value).toList 8 = some x :=
  Option.isSome_iff_exists.1 (by kernel_rfl)
set_option maxRecDepth 100000 in
theorem sumLong_lifted (os : Os) (started : os.Started) (H : Type) (enc : TypeId × Value → H) (F : Stop.Interp) :
    ReturnsInHanded {} Tryd.checked os 4 .any ((OpenSpec.ofChange Rows.sumLongSpec).preRow enc Tryd.prog Tryd.f4 Rows.sumLongRow.domain false Rows.sumLongRow.laid) (((OpenSpec.ofChange Rows.sumLongSpec).at F).post enc Tryd.prog Tryd.f4 false true false false) := by
  obtain ⟨places, hx⟩ := sumLong_reads os enc
  refine returnsInHanded_of_row (C := Tryd.checked) (s := OpenSpec.ofChange Rows.sumLongSpec) sumLong_own started (by kernel_rfl) Tryd.func4
    (witness_row_at (enc := enc) (C := Tryd.checked) false (digWorld os) #[.slice none 0 0, .int .i64 0] rfl (by kernel_rfl) (by kernel_rfl) (by kernel_rfl)
      (OpenSpec.preRow_of_cond 8 hx rfl (fun k hk => by cases hk) (by kernel_rfl) (sumLong_met os))) ?_
  intro W base args ds gs before hval0 hW _ _ hsz hL _ _
  have hval : ∀ (j : Nat) t v, Tryd.f4.params[j]? = some t → args[j]? = some v → Value.okWide Tryd.prog W .any base t v := hval0
  have hW' := hW
  obtain ⟨p, q, hA0, hV, rfl, hfz, hnd⟩ := hW
  have hA : DataW.TrodAll enc Tryd.prog W 0 (fun _ => true) true Tryd.f4.params.toList args.toList ds p := hA0
  rw [Tryd.params4] at hA hval
  have hT := dig_met hL
  obtain ⟨v0, vs0, d0, ds0, p0, q0, hargs, rfl, rfl, h0, r0⟩ := trodAll_cons hA
  obtain ⟨v1, vs1, d1, ds1, p1, q1, rfl, rfl, rfl, h1, r1⟩ := trodAll_cons r0
  obtain ⟨rfl, rfl, rfl⟩ := trodAll_nil r1
  obtain rfl : args = #[v0, v1] := by cases args; simp_all
  obtain ⟨rfl, rfl⟩ := trodVars_none hV
  have k0 := h0
  have lt0 : ∀ x ∈ p0, x.block < W.heap.size := by obtain ⟨m, hm⟩ := k0; exact DataW.trod_lt m _ _ _ hm
  obtain ⟨a0, len0, cap0, rfl⟩ := okWide_slice Tryd.underlying22 (hval 0 22 v0 rfl rfl)
  obtain ⟨l0, w0⟩ : ∃ l, Bs (whole W) (.slice a0 len0 cap0) l := by
    obtain ⟨fuel, hf⟩ := h0
    exact rd_bytes_cells Tryd.underlying22 Tryd.underlying5 (by kernel_rfl) hf
  have k1 := h1
  have lt1 : ∀ x ∈ p1, x.block < W.heap.size := by obtain ⟨m, hm⟩ := k1; exact DataW.trod_lt m _ _ _ hm
  obtain ⟨x1, rfl, _, _, wx1⟩ := open_int Tryd.underlying3 (hval 1 3 v1 rfl rfl) h1
  have b1 := bounds_i64 wx1
  clear hA0 hval0
  refine (sumLong_walk W hT (.slice a0 len0 cap0) l0 w0 x1 b1.1 b1.2).mono fun e W' ⟨he, bel⟩ => ?_
  subst he
  exact ⟨_, rfl, _, _, _, [], _, [], hW', trodAll_mk1 (shut_bool Tryd.underlying4 _), (trodAll_cons_mk (Below.trod sumLong_laidOut (by kernel_rfl) (of_decide_eq_true (by kernel_rfl)) k0 bel lt0) (trodAll_cons_mk (Below.trod sumLong_laidOut (by kernel_rfl) (of_decide_eq_true (by kernel_rfl)) k1 bel lt1) trodAll_mk0)), rfl, bel.frame _, fun h => by cases h⟩
set_option maxRecDepth 1000000 in
theorem sumLong_said : Rows.SumLongSaid :=
  OpenClaim.holds_of_cond 4 Tryd.f4 rfl rfl rfl rfl rfl rfl rfl ⟨rfl, rfl, rfl, rfl, rfl⟩ rfl rfl rfl rfl rfl (by as_aux_lemma => kernel_rfl) Tryd.func4 (joined_mk sumLong_j1 seat_laidOut seat_mapsRowed sumLong_j4 sumLong_j5 sumLong_j6 seat_stops sumLong_j8 seat_stopKnobs sumLong_j10 sumLong_j11 sumLong_j12 sumLong_j13 sumLong_j14 sumLong_j15 sumLong_j16 sumLong_j17 sumLong_j18 sumLong_j19 sumLong_j20 sumLong_j21 sumLong_j22 sumLong_j23 sumLong_j24 seat_stopsHeard seat_mayEnter sumLong_j27 sumLong_j28 sumLong_j29 sumLong_j30 sumLong_j31 sumLong_j32)
    (of_decide_eq_true (by as_aux_lemma => kernel_rfl)) (by unfold Func.isWrapper; first | (rw [if_pos (by decide +kernel)]; kernel_rfl) | (rw [if_neg (by decide +kernel)]; exact ⟨rfl, rfl⟩))
    (fun os started H enc _ F => by rw [OpenClaim.pre_eq_preRow]; exact sumLong_lifted os started H enc F)
theorem sumLong_plain (f : FuncId) (fn : Func) (hf : Tryd.pinned.checked.prog.funcNamed "canopy/canopykeep.SumLong" = some f) (hfn : Tryd.pinned.checked.prog.funcs[f]? = some fn) :
    false = Tryd.pinned.checked.prog.looks [] ∧ ∀ (j : Nat) t, fn.params[j]? = some t → Tryd.pinned.checked.prog.wantsStandIn t = false := by
  obtain rfl : f = 4 := Option.some.inj ((show Tryd.prog.funcNamed "canopy/canopykeep.SumLong" = some 4 by kernel_rfl).symm.trans hf) |>.symm
  obtain rfl : fn = Tryd.f4 := (Option.some.inj (Tryd.func4.symm.trans hfn)).symm
  refine ⟨by kernel_rfl, fun j t ht => ?_⟩
  have hall : (Tryd.f4.params.all fun t => !Tryd.prog.wantsStandIn t) = true := by kernel_rfl
  have := Array.all_eq_true_iff_forall_mem.1 hall t (Array.mem_of_getElem? ht)
  show Tryd.prog.wantsStandIn t = false
  simpa using this
set_option maxRecDepth 1000000 in
theorem sumLong_holds : Rows.SumLongCardSaid :=
  Claim7.holds_tied_plain_at .later [] _ _ _ _ sumLong_said (fun _ h => by cases h) (by kernel_rfl) (fun _ h => by cases h) sumLong_row_tie rfl ⟨rfl, rfl⟩ (by kernel_rfl) rfl sumLong_plain (by kernel_rfl)
#print axioms sumLong_holds
end Go.Proofs.YtcanckliggcllaaDoor
