/- The law TopApart: for every input the call returns true, and each argument reads behind the call as it read before. -/
import Derived.Test.YtilgpdpooildcaaGreatDoorCTopApart
import Derived.Test.YtilgpdpooildcaaGreatDoorBU1
import Derived.Test.YtilgpdpooildcaaGreatDoorBU2
import Derived.Test.YtilgpdpooildcaaGreatDoorBU12
namespace Go.Proofs.YtilgpdpooildcaaGreatDoor
set_option maxHeartbeats 8000000
open Go.ChangeShapes Go.WideShapes Go.ChangeAt Go.RowKit
set_option linter.unusedVariables false
theorem topApart_own : ownKnob Tryz.prog.godebug = none := by kernel_rfl
theorem topApart_laidOut : laidOutB Tryz.prog = true := seat_laidOut
theorem topApart_j1 : (Rows.topApartRow.wf (OpenSpec.ofChange Rows.topApartSpec)) = true := by kernel_rfl
theorem topApart_j4 : (Tryz.f11.params.all (Tryz.pinned.checked.prog.readableRec ·)) = true := by kernel_rfl
theorem topApart_j5 : (namedTie Tryz.pinned.checked.prog Rows.topApartRow.named Rows.topApartSpec.vars) = true := by kernel_rfl
theorem topApart_j6 : ((Rows.topApartRow.stops == [])) = true := by kernel_rfl
theorem topApart_j8 : ((Rows.topApartRow.knobs == [])) = true := by kernel_rfl
theorem topApart_j10 : ((Rows.topApartRow.inPlace == Tryz.pinned.checked.prog.inPlace 11)) = true := by kernel_rfl
theorem topApart_j11 : ((Rows.topApartRow.unfollowed == Tryz.pinned.checked.prog.unfollowed 11)) = true := by kernel_rfl
theorem topApart_j12 : ((Rows.topApartRow.recurses == Tryz.pinned.checked.prog.recurses 11)) = true := by kernel_rfl
theorem topApart_j13 : ((Rows.topApartRow.named == Tryz.pinned.checked.prog.varsNamed 11)) = true := by kernel_rfl
theorem topApart_j14 : ((Rows.topApartRow.maps == (Tryz.f11.params.toList ++ Rows.topApartSpec.plain.varTypes Tryz.pinned.checked.prog).any (Tryz.pinned.checked.prog.mapsRec ·))) = true := by kernel_rfl
theorem topApart_j15 : ((Rows.topApartRow.ifaces == (Tryz.f11.params.toList ++ Rows.topApartSpec.plain.varTypes Tryz.pinned.checked.prog).any (Tryz.pinned.checked.prog.ifacesRec ·))) = true := by kernel_rfl
theorem topApart_j16 : ((Rows.topApartRow.mapsOut == Tryz.pinned.checked.prog.mapsAmong Tryz.f11.resultTypes.toList)) = true := by kernel_rfl
theorem topApart_j17 : ((Rows.topApartRow.loops == (Tryz.f11.params.toList ++ Rows.topApartSpec.plain.varTypes Tryz.pinned.checked.prog).any (Tryz.pinned.checked.prog.loopsFrom ·))) = true := by kernel_rfl
theorem topApart_j18 : ((Rows.topApartRow.wideKeys == (Tryz.f11.params.toList ++ Rows.topApartSpec.plain.varTypes Tryz.pinned.checked.prog ++ Tryz.f11.resultTypes.toList).any (Tryz.pinned.checked.prog.wideKeysFrom ·))) = true := by kernel_rfl
theorem topApart_j19 : (Rows.topApartSpec.vars.all (Tryz.pinned.checked.prog.varReadable ·)) = true := by kernel_rfl
theorem topApart_j20 : (Tryz.f11.resultTypes.all (fun t => Tryz.pinned.checked.prog.readableRec t && decide (t < Tryz.pinned.checked.prog.types.size))) = true := by kernel_rfl
theorem topApart_j21 : ((Rows.topApartRow.ifacesOut == Tryz.f11.resultTypes.toList.any (Tryz.pinned.checked.prog.ifacesRec ·))) = true := by kernel_rfl
theorem topApart_j22 : ((Rows.topApartRow.loopsOut == Tryz.f11.resultTypes.toList.any (Tryz.pinned.checked.prog.loopsFrom ·))) = true := by kernel_rfl
theorem topApart_j23 : ((Rows.topApartRow.plainKeys == Tryz.pinned.checked.prog.plainKeys)) = true := by kernel_rfl
theorem topApart_j24 : (Rows.topApartRow.shortTexts.isNone) = true := by kernel_rfl
theorem topApart_j27 : (Rows.topApartRow.lifted == Tryz.pinned.checked.prog.liftsFinal) = true := (congrArg (fun b => Rows.topApartRow.lifted == b) seat_liftsFinal).trans (by kernel_rfl)
theorem topApart_j28 : (Tryz.pinned.checked.prog.make == some Rows.topApartRow.make) = true := (congrArg (fun b => b == some Rows.topApartRow.make) seat_make).trans (by kernel_rfl)
theorem topApart_j29 : ((Rows.topApartRow.kinds == (if Rows.topApartRow.domain.isEmpty then [] else Tryz.f11.params.toList.map fun t => match Tryz.pinned.checked.prog.underlying t with | some (.int k) => some k | _ => none))) = true := by kernel_rfl
theorem topApart_j30 : ((Rows.topApartRow.pinned == Rows.topApartRow.pinnedBy)) = true := by kernel_rfl
theorem topApart_j31 : ((Rows.topApartRow.veiled == (Tryz.f11.params.toList ++ Rows.topApartSpec.plain.varTypes Tryz.pinned.checked.prog ++ Tryz.f11.resultTypes.toList).any (Tryz.pinned.checked.prog.veiledRec ·))) = true := by kernel_rfl
theorem topApart_j32 : (Rows.topApartRow.veiledFits Tryz.pinned.checked.prog Tryz.f11.params.toList (Tryz.f11.params.toList ++ Rows.topApartSpec.plain.varTypes Tryz.pinned.checked.prog ++ Tryz.f11.resultTypes.toList)) = true := by kernel_rfl
theorem topApart_met (os : Os) : laidMet Tryz.prog Rows.topApartRow.laid ((topWorld os).forCall (fun _ _ => 0) ⟨#[], #[.int .i64 0, .int .i64 0], []⟩).memory :=
  laidMet_of_run' 8 (by kernel_rfl) (by kernel_rfl)
theorem topApart_reads (os : Os) {H : Type} (enc : TypeId × Value → H) : ∃ x, DataW.whole enc Tryz.prog ((topWorld os).forCall (fun _ _ => 0) ⟨#[], #[.int .i64 0, .int .i64 0], []⟩).memory Tryz.f11.params.toList Rows.topApartSpec.vars false (#[.int .i64 0, .int .i64 0] : Array Value).toList 8 = some x :=
  Option.isSome_iff_exists.1 (by kernel_rfl)
set_option maxRecDepth 100000 in
theorem topApart_lifted (os : Os) (started : os.Started) (H : Type) (enc : TypeId × Value → H) (F : Stop.Interp) :
    ReturnsInHanded {} Tryz.checked os 11 .any ((OpenSpec.ofChange Rows.topApartSpec).preRow enc Tryz.prog Tryz.f11 Rows.topApartRow.domain false Rows.topApartRow.laid) (((OpenSpec.ofChange Rows.topApartSpec).at F).post enc Tryz.prog Tryz.f11 false true false false) := by
 obtain ⟨places, hx⟩ := topApart_reads os enc
 refine returnsInHanded_of_row (C := Tryz.checked) (s := OpenSpec.ofChange Rows.topApartSpec) topApart_own started (by kernel_rfl) Tryz.func11
  (witness_row_at (enc := enc) (C := Tryz.checked) false (topWorld os) #[.int .i64 0, .int .i64 0] rfl (by kernel_rfl) (by kernel_rfl) (by kernel_rfl)
   (OpenSpec.preRow_of_cond 8 hx rfl (fun k hk => by cases hk) (by kernel_rfl) (topApart_met os))) ?_
 intro W base args ds gs before hval0 hW _ _ hsz hL _ _
 have hval : ∀ (j : Nat) t v, Tryz.f11.params[j]? = some t → args[j]? = some v → Value.okWide Tryz.prog W .any base t v := hval0
 have hW' := hW
 obtain ⟨p, q, hA0, hV, rfl, hfz, hnd⟩ := hW
 have hA : DataW.TrodAll enc Tryz.prog W 0 (fun _ => true) true Tryz.f11.params.toList args.toList ds p := hA0
 rw [Tryz.params11] at hA hval
 have hT := top_met hL
 obtain ⟨v0, vs0, d0, ds0, p0, q0, hargs, rfl, rfl, h0, r0⟩ := trodAll_cons hA
 obtain ⟨v1, vs1, d1, ds1, p1, q1, rfl, rfl, rfl, h1, r1⟩ := trodAll_cons r0
 obtain ⟨rfl, rfl, rfl⟩ := trodAll_nil r1
 obtain rfl : args = #[v0, v1] := by cases args; simp_all
 obtain ⟨rfl, rfl⟩ := trodVars_none hV
 have k0 := h0
 have lt0 : ∀ x ∈ p0, x.block < W.heap.size := by obtain ⟨m, hm⟩ := k0; exact DataW.trod_lt m _ _ _ hm
 obtain ⟨x0, rfl, _, _, wx0⟩ := open_int Tryz.underlying3 (hval 0 3 v0 rfl rfl) h0
 have b0 := bounds_i64 wx0
 have k1 := h1
 have lt1 : ∀ x ∈ p1, x.block < W.heap.size := by obtain ⟨m, hm⟩ := k1; exact DataW.trod_lt m _ _ _ hm
 obtain ⟨x1, rfl, _, _, wx1⟩ := open_int Tryz.underlying3 (hval 1 3 v1 rfl rfl) h1
 have b1 := bounds_i64 wx1
 clear hA0 hval0
 refine (topApart_walk W hT x0 b0.1 b0.2 x1 b1.1 b1.2).mono fun e W' ⟨he, bel⟩ => ?_
 subst he
 exact ⟨_, rfl, _, _, _, [], _, [], hW', trodAll_mk1 (shut_bool Tryz.underlying4 _), (trodAll_cons_mk (Below.trod topApart_laidOut (by kernel_rfl) (of_decide_eq_true (by kernel_rfl)) k0 bel lt0) (trodAll_cons_mk (Below.trod topApart_laidOut (by kernel_rfl) (of_decide_eq_true (by kernel_rfl)) k1 bel lt1) trodAll_mk0)), rfl, bel.frame _, fun h => by cases h⟩
set_option maxRecDepth 1000000 in
theorem topApart_said : Rows.TopApartSaid :=
  OpenClaim.holds_of_cond 11 Tryz.f11 rfl rfl rfl rfl rfl rfl rfl ⟨rfl, rfl, rfl, rfl, rfl⟩ rfl rfl rfl rfl rfl (by as_aux_lemma => kernel_rfl) Tryz.func11 (joined_mk topApart_j1 seat_laidOut seat_mapsRowed topApart_j4 topApart_j5 topApart_j6 seat_stops topApart_j8 seat_stopKnobs topApart_j10 topApart_j11 topApart_j12 topApart_j13 topApart_j14 topApart_j15 topApart_j16 topApart_j17 topApart_j18 topApart_j19 topApart_j20 topApart_j21 topApart_j22 topApart_j23 topApart_j24 seat_stopsHeard seat_mayEnter topApart_j27 topApart_j28 topApart_j29 topApart_j30 topApart_j31 topApart_j32)
    (of_decide_eq_true (by as_aux_lemma => kernel_rfl)) (by unfold Func.isWrapper; first | (rw [if_pos (by decide +kernel)]; kernel_rfl) | (rw [if_neg (by decide +kernel)]; exact ⟨rfl, rfl⟩))
    (fun os started H enc _ F => by rw [OpenClaim.pre_eq_preRow]; exact topApart_lifted os started H enc F)
theorem topApart_plain (f : FuncId) (fn : Func) (hf : Tryz.pinned.checked.prog.funcNamed "canopy/canopytop.TopApart" = some f) (hfn : Tryz.pinned.checked.prog.funcs[f]? = some fn) :
    false = Tryz.pinned.checked.prog.looks [] ∧ ∀ (j : Nat) t, fn.params[j]? = some t → Tryz.pinned.checked.prog.wantsStandIn t = false := by
 obtain rfl : f = 11 := Option.some.inj ((show Tryz.prog.funcNamed "canopy/canopytop.TopApart" = some 11 by kernel_rfl).symm.trans hf) |>.symm
 obtain rfl : fn = Tryz.f11 := (Option.some.inj (Tryz.func11.symm.trans hfn)).symm
 refine ⟨by kernel_rfl, fun j t ht => ?_⟩
 have hall : (Tryz.f11.params.all fun t => !Tryz.prog.wantsStandIn t) = true := by kernel_rfl
 have := Array.all_eq_true_iff_forall_mem.1 hall t (Array.mem_of_getElem? ht)
 show Tryz.prog.wantsStandIn t = false
 simpa using this
set_option maxRecDepth 1000000 in
theorem topApart_holds : Rows.TopApartCardSaid :=
  Claim7.holds_tied_plain_at .later [] _ _ _ _ topApart_said (fun _ h => by cases h) (by kernel_rfl) (fun _ h => by cases h) topApart_row_tie rfl ⟨rfl, rfl⟩ (by kernel_rfl) rfl topApart_plain (by kernel_rfl)
#print axioms topApart_holds
end Go.Proofs.YtilgpdpooildcaaGreatDoor
