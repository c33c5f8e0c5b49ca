/- The law TapeTorn: for every input the call returns true, and each argument reads behind the call as it read before. -/
import Derived.Test.YtikklmjengkliaaDoorCTapeTorn
import Derived.Test.YtikklmjengkliaaDoorBT1
import Derived.Test.YtikklmjengkliaaDoorBT3
import Derived.Test.YtikklmjengkliaaDoorBT10
namespace Go.Proofs.YtikklmjengkliaaDoor
open Go.ChangeShapes Go.WideShapes Go.ChangeAt Go.RowKit
set_option linter.unusedVariables false
theorem tapeTorn_own : ownKnob Tryd.prog.godebug = none := by kernel_rfl
theorem tapeTorn_laidOut : laidOutB Tryd.prog = true := seat_laidOut
theorem tapeTorn_j1 : (Rows.tapeTornRow.wf (OpenSpec.ofChange Rows.tapeTornSpec)) = true := by kernel_rfl
theorem tapeTorn_j4 : (Tryd.f10.params.all (Tryd.pinned.checked.prog.readableRec ·)) = true := by kernel_rfl
theorem tapeTorn_j5 : (namedTie Tryd.pinned.checked.prog Rows.tapeTornRow.named Rows.tapeTornSpec.vars) = true := by kernel_rfl
theorem tapeTorn_j6 : ((Rows.tapeTornRow.stops == [])) = true := by kernel_rfl
theorem tapeTorn_j8 : ((Rows.tapeTornRow.knobs == [])) = true := by kernel_rfl
theorem tapeTorn_j10 : ((Rows.tapeTornRow.inPlace == Tryd.pinned.checked.prog.inPlace 10)) = true := by kernel_rfl
theorem tapeTorn_j11 : ((Rows.tapeTornRow.unfollowed == Tryd.pinned.checked.prog.unfollowed 10)) = true := by kernel_rfl
theorem tapeTorn_j12 : ((Rows.tapeTornRow.recurses == Tryd.pinned.checked.prog.recurses 10)) = true := by kernel_rfl
theorem tapeTorn_j13 : ((Rows.tapeTornRow.named == Tryd.pinned.checked.prog.varsNamed 10)) = true := by kernel_rfl
theorem tapeTorn_j14 : ((Rows.tapeTornRow.maps == (Tryd.f10.params.toList ++ Rows.tapeTornSpec.plain.varTypes Tryd.pinned.checked.prog).any (Tryd.pinned.checked.prog.mapsRec ·))) = true := by kernel_rfl
theorem tapeTorn_j15 : ((Rows.tapeTornRow.ifaces == (Tryd.f10.params.toList ++ Rows.tapeTornSpec.plain.varTypes Tryd.pinned.checked.prog).any (Tryd.pinned.checked.prog.ifacesRec ·))) = true := by kernel_rfl
theorem tapeTorn_j16 : ((Rows.tapeTornRow.mapsOut == Tryd.pinned.checked.prog.mapsAmong Tryd.f10.resultTypes.toList)) = true := by kernel_rfl
theorem tapeTorn_j17 : ((Rows.tapeTornRow.loops == (Tryd.f10.params.toList ++ Rows.tapeTornSpec.plain.varTypes Tryd.pinned.checked.prog).any (Tryd.pinned.checked.prog.loopsFrom ·))) = true := by kernel_rfl
theorem tapeTorn_j18 : ((Rows.tapeTornRow.wideKeys == (Tryd.f10.params.toList ++ Rows.tapeTornSpec.plain.varTypes Tryd.pinned.checked.prog ++ Tryd.f10.resultTypes.toList).any (Tryd.pinned.checked.prog.wideKeysFrom ·))) = true := by kernel_rfl
theorem tapeTorn_j19 : (Rows.tapeTornSpec.vars.all (Tryd.pinned.checked.prog.varReadable ·)) = true := by kernel_rfl
theorem tapeTorn_j20 : (Tryd.f10.resultTypes.all (fun t => Tryd.pinned.checked.prog.readableRec t && decide (t < Tryd.pinned.checked.prog.types.size))) = true := by kernel_rfl
theorem tapeTorn_j21 : ((Rows.tapeTornRow.ifacesOut == Tryd.f10.resultTypes.toList.any (Tryd.pinned.checked.prog.ifacesRec ·))) = true := by kernel_rfl
theorem tapeTorn_j22 : ((Rows.tapeTornRow.loopsOut == Tryd.f10.resultTypes.toList.any (Tryd.pinned.checked.prog.loopsFrom ·))) = true := by kernel_rfl
theorem tapeTorn_j23 : ((Rows.tapeTornRow.plainKeys == Tryd.pinned.checked.prog.plainKeys)) = true := by kernel_rfl
theorem tapeTorn_j24 : (Rows.tapeTornRow.shortTexts.isNone) = true := by kernel_rfl
theorem tapeTorn_j27 : (Rows.tapeTornRow.lifted == Tryd.pinned.checked.prog.liftsFinal) = true := (congrArg (fun b => Rows.tapeTornRow.lifted == b) seat_liftsFinal).trans (by kernel_rfl)
theorem tapeTorn_j28 : (Tryd.pinned.checked.prog.make == some Rows.tapeTornRow.make) = true := (congrArg (fun b => b == some Rows.tapeTornRow.make) seat_make).trans (by kernel_rfl)
theorem tapeTorn_j29 : ((Rows.tapeTornRow.kinds == (if Rows.tapeTornRow.domain.isEmpty then [] else Tryd.f10.params.toList.map fun t => match Tryd.pinned.checked.prog.underlying t with | some (.int k) => some k | _ => none))) = true := by kernel_rfl
theorem tapeTorn_j30 : ((Rows.tapeTornRow.pinned == Rows.tapeTornRow.pinnedBy)) = true := by kernel_rfl
theorem tapeTorn_j31 : ((Rows.tapeTornRow.veiled == (Tryd.f10.params.toList ++ Rows.tapeTornSpec.plain.varTypes Tryd.pinned.checked.prog ++ Tryd.f10.resultTypes.toList).any (Tryd.pinned.checked.prog.veiledRec ·))) = true := by kernel_rfl
theorem tapeTorn_j32 : (Rows.tapeTornRow.veiledFits Tryd.pinned.checked.prog Tryd.f10.params.toList (Tryd.f10.params.toList ++ Rows.tapeTornSpec.plain.varTypes Tryd.pinned.checked.prog ++ Tryd.f10.resultTypes.toList)) = true := by kernel_rfl
theorem tapeTorn_met (os : Os) : laidMet Tryd.prog Rows.tapeTornRow.laid ((digWorld os).forCall (fun _ _ => 0) ⟨#[], #[.slice none 0 0, .int .i64 0, .slice none 0 0], []⟩).memory :=
  laidMet_of_run' 8 (by kernel_rfl) (by kernel_rfl)
theorem tapeTorn_reads (os : Os) {H : Type} (enc : TypeId × Value → H) : ∃ x, DataW.whole enc Tryd.prog ((digWorld os).forCall (fun _ _ => 0) ⟨#[], #[.slice none 0 0, .int .i64 0, .slice none 0 0], []⟩).memory Tryd.f10.params.toList Rows.tapeTornSpec.vars false (#[.slice none 0 0, .int .i64 0, .slice none 0 0] : Array Value).toList 8 = some x :=
  Option.isSome_iff_exists.1 (by kernel_rfl)
set_option maxRecDepth 100000 in
theorem tapeTorn_lifted (os : Os) (started : os.Started) (H : Type) (enc : TypeId × Value → H) (F : Stop.Interp) :
    ReturnsInHanded {} Tryd.checked os 10 .any ((OpenSpec.ofChange Rows.tapeTornSpec).preRow enc Tryd.prog Tryd.f10 Rows.tapeTornRow.domain false Rows.tapeTornRow.laid) (((OpenSpec.ofChange Rows.tapeTornSpec).at F).post enc Tryd.prog Tryd.f10 false true false false) := by
  obtain ⟨places, hx⟩ := tapeTorn_reads os enc
  refine returnsInHanded_of_row (C := Tryd.checked) (s := OpenSpec.ofChange Rows.tapeTornSpec) tapeTorn_own started (by kernel_rfl) Tryd.func10
    (witness_row_at (enc := enc) (C := Tryd.checked) false (digWorld os) #[.slice none 0 0, .int .i64 0, .slice none 0 0] rfl (by kernel_rfl) (by kernel_rfl) (by kernel_rfl)
      (OpenSpec.preRow_of_cond 8 hx rfl (fun k hk => by cases hk) (by kernel_rfl) (tapeTorn_met os))) ?_
  intro W base args ds gs before hval0 hW _ _ hsz hL _ _
  have hval : ∀ (j : Nat) t v, Tryd.f10.params[j]? = some t → args[j]? = some v → Value.okWide Tryd.prog W .any base t v := hval0
  have hW' := hW
  obtain ⟨p, q, hA0, hV, rfl, hfz, hnd⟩ := hW
  have hA : DataW.TrodAll enc Tryd.prog W 0 (fun _ => true) true Tryd.f10.params.toList args.toList ds p := hA0
  rw [Tryd.params10] at hA hval
  have hT := dig_met hL
  obtain ⟨v0, vs0, d0, ds0, p0, q0, hargs, rfl, rfl, h0, r0⟩ := trodAll_cons hA
  obtain ⟨v1, vs1, d1, ds1, p1, q1, rfl, rfl, rfl, h1, r1⟩ := trodAll_cons r0
  obtain ⟨v2, vs2, d2, ds2, p2, q2, rfl, rfl, rfl, h2, r2⟩ := trodAll_cons r1
  obtain ⟨rfl, rfl, rfl⟩ := trodAll_nil r2
  obtain rfl : args = #[v0, v1, v2] := by cases args; simp_all
  obtain ⟨rfl, rfl⟩ := trodVars_none hV
  have k0 := h0
  have lt0 : ∀ x ∈ p0, x.block < W.heap.size := by obtain ⟨m, hm⟩ := k0; exact DataW.trod_lt m _ _ _ hm
  obtain ⟨a0, len0, cap0, rfl⟩ := okWide_slice Tryd.underlying22 (hval 0 22 v0 rfl rfl)
  obtain ⟨l0, w0⟩ : ∃ l, Pls (whole W) (.slice a0 len0 cap0) l := by
    obtain ⟨fuel, hf⟩ := h0
    exact rd_places Tryd.underlying22 Tryd.underlying45 (by kernel_rfl) (by kernel_rfl) rfl rfl rfl rfl Tryd.underlying23 Tryd.underlying5 (by kernel_rfl) Tryd.underlying4 hf
  have k1 := h1
  have lt1 : ∀ x ∈ p1, x.block < W.heap.size := by obtain ⟨m, hm⟩ := k1; exact DataW.trod_lt m _ _ _ hm
  obtain ⟨x1, rfl, _, _, wx1⟩ := open_int Tryd.underlying3 (hval 1 3 v1 rfl rfl) h1
  have b1 := bounds_i64 wx1
  have k2 := h2
  have lt2 : ∀ x ∈ p2, x.block < W.heap.size := by obtain ⟨m, hm⟩ := k2; exact DataW.trod_lt m _ _ _ hm
  obtain ⟨a2, len2, cap2, rfl⟩ := okWide_slice Tryd.underlying23 (hval 2 23 v2 rfl rfl)
  obtain ⟨l2, w2⟩ : ∃ l, Bs (whole W) (.slice a2 len2 cap2) l := by
    obtain ⟨fuel, hf⟩ := h2
    exact rd_bytes_cells Tryd.underlying23 Tryd.underlying5 (by kernel_rfl) hf
  clear hA0 hval0
  refine (tapeTorn_walk W hT (.slice a0 len0 cap0) l0 w0 x1 b1.1 b1.2 (.slice a2 len2 cap2) l2 w2).mono fun e W' ⟨he, bel⟩ => ?_
  subst he
  exact ⟨_, rfl, _, _, _, [], _, [], hW', trodAll_mk1 (shut_bool Tryd.underlying4 _), (trodAll_cons_mk (Below.trod tapeTorn_laidOut (by kernel_rfl) (of_decide_eq_true (by kernel_rfl)) k0 bel lt0) (trodAll_cons_mk (Below.trod tapeTorn_laidOut (by kernel_rfl) (of_decide_eq_true (by kernel_rfl)) k1 bel lt1) (trodAll_cons_mk (Below.trod tapeTorn_laidOut (by kernel_rfl) (of_decide_eq_true (by kernel_rfl)) k2 bel lt2) trodAll_mk0))), rfl, bel.frame _, fun h => by cases h⟩
set_option maxRecDepth 1000000 in
theorem tapeTorn_said : Rows.TapeTornSaid :=
  OpenClaim.holds_of_cond 10 Tryd.f10 rfl rfl rfl rfl rfl rfl rfl ⟨rfl, rfl, rfl, rfl, rfl⟩ rfl rfl rfl rfl rfl (by as_aux_lemma => kernel_rfl) Tryd.func10 (joined_mk tapeTorn_j1 seat_laidOut seat_mapsRowed tapeTorn_j4 tapeTorn_j5 tapeTorn_j6 seat_stops tapeTorn_j8 seat_stopKnobs tapeTorn_j10 tapeTorn_j11 tapeTorn_j12 tapeTorn_j13 tapeTorn_j14 tapeTorn_j15 tapeTorn_j16 tapeTorn_j17 tapeTorn_j18 tapeTorn_j19 tapeTorn_j20 tapeTorn_j21 tapeTorn_j22 tapeTorn_j23 tapeTorn_j24 seat_stopsHeard seat_mayEnter tapeTorn_j27 tapeTorn_j28 tapeTorn_j29 tapeTorn_j30 tapeTorn_j31 tapeTorn_j32)
    (of_decide_eq_true (by as_aux_lemma => kernel_rfl)) (by unfold Func.isWrapper; first | (rw [if_pos (by decide +kernel)]; kernel_rfl) | (rw [if_neg (by decide +kernel)]; exact ⟨rfl, rfl⟩))
    (fun os started H enc _ F => by rw [OpenClaim.pre_eq_preRow]; exact tapeTorn_lifted os started H enc F)
theorem tapeTorn_plain (f : FuncId) (fn : Func) (hf : Tryd.pinned.checked.prog.funcNamed "canopy/canopykeep.TapeTorn" = some f) (hfn : Tryd.pinned.checked.prog.funcs[f]? = some fn) :
    false = Tryd.pinned.checked.prog.looks [] ∧ ∀ (j : Nat) t, fn.params[j]? = some t → Tryd.pinned.checked.prog.wantsStandIn t = false := by
  obtain rfl : f = 10 := Option.some.inj ((show Tryd.prog.funcNamed "canopy/canopykeep.TapeTorn" = some 10 by kernel_rfl).symm.trans hf) |>.symm
  obtain rfl : fn = Tryd.f10 := (Option.some.inj (Tryd.func10.symm.trans hfn)).symm
  refine ⟨by kernel_rfl, fun j t ht => ?_⟩
  have hall : (Tryd.f10.params.all fun t => !Tryd.prog.wantsStandIn t) = true := by kernel_rfl
  have := Array.all_eq_true_iff_forall_mem.1 hall t (Array.mem_of_getElem? ht)
  show Tryd.prog.wantsStandIn t = false
  simpa using this
set_option maxRecDepth 1000000 in
theorem tapeTorn_holds : Rows.TapeTornCardSaid :=
  Claim7.holds_tied_plain_at .later [] _ _ _ _ tapeTorn_said (fun _ h => by cases h) (by kernel_rfl) (fun _ h => by cases h) tapeTorn_row_tie rfl ⟨rfl, rfl⟩ (by kernel_rfl) rfl tapeTorn_plain (by kernel_rfl)
#print axioms tapeTorn_holds
end Go.Proofs.YtikklmjengkliaaDoor
