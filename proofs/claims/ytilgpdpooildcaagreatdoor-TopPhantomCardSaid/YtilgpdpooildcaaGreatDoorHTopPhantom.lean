/- The law TopPhantom: for every input the call returns true, and each argument reads behind the call as it read before. -/
import Derived.Test.YtilgpdpooildcaaGreatDoorCTopPhantom
import Derived.Test.YtilgpdpooildcaaGreatDoorBT1
import Derived.Test.YtilgpdpooildcaaGreatDoorBT2
import Derived.Test.YtilgpdpooildcaaGreatDoorBT12
namespace Go.Proofs.YtilgpdpooildcaaGreatDoor
set_option maxHeartbeats 8000000
open Go.ChangeShapes Go.WideShapes Go.ChangeAt Go.RowKit
set_option linter.unusedVariables false
theorem topPhantom_own : ownKnob Tryz.prog.godebug = none := by kernel_rfl
theorem topPhantom_laidOut : laidOutB Tryz.prog = true := seat_laidOut
theorem topPhantom_j1 : (Rows.topPhantomRow.wf (OpenSpec.ofChange Rows.topPhantomSpec)) = true := by kernel_rfl
theorem topPhantom_j4 : (Tryz.f16.params.all (Tryz.pinned.checked.prog.readableRec ·)) = true := by kernel_rfl
theorem topPhantom_j5 : (namedTie Tryz.pinned.checked.prog Rows.topPhantomRow.named Rows.topPhantomSpec.vars) = true := by kernel_rfl
theorem topPhantom_j6 : ((Rows.topPhantomRow.stops == [])) = true := by kernel_rfl
theorem topPhantom_j8 : ((Rows.topPhantomRow.knobs == [])) = true := by kernel_rfl
theorem topPhantom_j10 : ((Rows.topPhantomRow.inPlace == Tryz.pinned.checked.prog.inPlace 16)) = true := by kernel_rfl
theorem topPhantom_j11 : ((Rows.topPhantomRow.unfollowed == Tryz.pinned.checked.prog.unfollowed 16)) = true := by kernel_rfl
theorem topPhantom_j12 : ((Rows.topPhantomRow.recurses == Tryz.pinned.checked.prog.recurses 16)) = true := by kernel_rfl
theorem topPhantom_j13 : ((Rows.topPhantomRow.named == Tryz.pinned.checked.prog.varsNamed 16)) = true := by kernel_rfl
theorem topPhantom_j14 : ((Rows.topPhantomRow.maps == (Tryz.f16.params.toList ++ Rows.topPhantomSpec.plain.varTypes Tryz.pinned.checked.prog).any (Tryz.pinned.checked.prog.mapsRec ·))) = true := by kernel_rfl
theorem topPhantom_j15 : ((Rows.topPhantomRow.ifaces == (Tryz.f16.params.toList ++ Rows.topPhantomSpec.plain.varTypes Tryz.pinned.checked.prog).any (Tryz.pinned.checked.prog.ifacesRec ·))) = true := by kernel_rfl
theorem topPhantom_j16 : ((Rows.topPhantomRow.mapsOut == Tryz.pinned.checked.prog.mapsAmong Tryz.f16.resultTypes.toList)) = true := by kernel_rfl
theorem topPhantom_j17 : ((Rows.topPhantomRow.loops == (Tryz.f16.params.toList ++ Rows.topPhantomSpec.plain.varTypes Tryz.pinned.checked.prog).any (Tryz.pinned.checked.prog.loopsFrom ·))) = true := by kernel_rfl
theorem topPhantom_j18 : ((Rows.topPhantomRow.wideKeys == (Tryz.f16.params.toList ++ Rows.topPhantomSpec.plain.varTypes Tryz.pinned.checked.prog ++ Tryz.f16.resultTypes.toList).any (Tryz.pinned.checked.prog.wideKeysFrom ·))) = true := by kernel_rfl
theorem topPhantom_j19 : (Rows.topPhantomSpec.vars.all (Tryz.pinned.checked.prog.varReadable ·)) = true := by kernel_rfl
theorem topPhantom_j20 : (Tryz.f16.resultTypes.all (fun t => Tryz.pinned.checked.prog.readableRec t && decide (t < Tryz.pinned.checked.prog.types.size))) = true := by kernel_rfl
theorem topPhantom_j21 : ((Rows.topPhantomRow.ifacesOut == Tryz.f16.resultTypes.toList.any (Tryz.pinned.checked.prog.ifacesRec ·))) = true := by kernel_rfl
theorem topPhantom_j22 : ((Rows.topPhantomRow.loopsOut == Tryz.f16.resultTypes.toList.any (Tryz.pinned.checked.prog.loopsFrom ·))) = true := by kernel_rfl
theorem topPhantom_j23 : ((Rows.topPhantomRow.plainKeys == Tryz.pinned.checked.prog.plainKeys)) = true := by kernel_rfl
theorem topPhantom_j24 : (Rows.topPhantomRow.shortTexts.isNone) = true := by kernel_rfl
theorem topPhantom_j27 : (Rows.topPhantomRow.lifted == Tryz.pinned.checked.prog.liftsFinal) = true := (congrArg (fun b => Rows.topPhantomRow.lifted == b) seat_liftsFinal).trans (by kernel_rfl)
theorem topPhantom_j28 : (Tryz.pinned.checked.prog.make == some Rows.topPhantomRow.make) = true := (congrArg (fun b => b == some Rows.topPhantomRow.make) seat_make).trans (by kernel_rfl)
theorem topPhantom_j29 : ((Rows.topPhantomRow.kinds == (if Rows.topPhantomRow.domain.isEmpty then [] else Tryz.f16.params.toList.map fun t => match Tryz.pinned.checked.prog.underlying t with | some (.int k) => some k | _ => none))) = true := by kernel_rfl
theorem topPhantom_j30 : ((Rows.topPhantomRow.pinned == Rows.topPhantomRow.pinnedBy)) = true := by kernel_rfl
theorem topPhantom_j31 : ((Rows.topPhantomRow.veiled == (Tryz.f16.params.toList ++ Rows.topPhantomSpec.plain.varTypes Tryz.pinned.checked.prog ++ Tryz.f16.resultTypes.toList).any (Tryz.pinned.checked.prog.veiledRec ·))) = true := by kernel_rfl
theorem topPhantom_j32 : (Rows.topPhantomRow.veiledFits Tryz.pinned.checked.prog Tryz.f16.params.toList (Tryz.f16.params.toList ++ Rows.topPhantomSpec.plain.varTypes Tryz.pinned.checked.prog ++ Tryz.f16.resultTypes.toList)) = true := by kernel_rfl
theorem topPhantom_met (os : Os) : laidMet Tryz.prog Rows.topPhantomRow.laid ((topWorld os).forCall (fun _ _ => 0) ⟨#[], #[.int .i64 0, .int .i64 0, .int .i64 0], []⟩).memory :=
  laidMet_of_run' 8 (by kernel_rfl) (by kernel_rfl)
theorem topPhantom_reads (os : Os) {H : Type} (enc : TypeId × Value → H) : ∃ x, DataW.whole enc Tryz.prog ((topWorld os).forCall (fun _ _ => 0) ⟨#[], #[.int .i64 0, .int .i64 0, .int .i64 0], []⟩).memory Tryz.f16.params.toList Rows.topPhantomSpec.vars false (#[.int .i64 0, .int .i64 0, .int .i64 0] : Array Value).toList 8 = some x :=
  Option.isSome_iff_exists.1 (by kernel_rfl)
set_option maxRecDepth 100000 in
theorem topPhantom_lifted (os : Os) (started : os.Started) (H : Type) (enc : TypeId × Value → H) (F : Stop.Interp) :
    ReturnsInHanded {} Tryz.checked os 16 .any ((OpenSpec.ofChange Rows.topPhantomSpec).preRow enc Tryz.prog Tryz.f16 Rows.topPhantomRow.domain false Rows.topPhantomRow.laid) (((OpenSpec.ofChange Rows.topPhantomSpec).at F).post enc Tryz.prog Tryz.f16 false true false false) := by
 obtain ⟨places, hx⟩ := topPhantom_reads os enc
 refine returnsInHanded_of_row (C := Tryz.checked) (s := OpenSpec.ofChange Rows.topPhantomSpec) topPhantom_own started (by kernel_rfl) Tryz.func16
  (witness_row_at (enc := enc) (C := Tryz.checked) false (topWorld os) #[.int .i64 0, .int .i64 0, .int .i64 0] rfl (by kernel_rfl) (by kernel_rfl) (by kernel_rfl)
   (OpenSpec.preRow_of_cond 8 hx rfl (fun k hk => by cases hk) (by kernel_rfl) (topPhantom_met os))) ?_
 intro W base args ds gs before hval0 hW _ _ hsz hL _ _
 have hval : ∀ (j : Nat) t v, Tryz.f16.params[j]? = some t → args[j]? = some v → Value.okWide Tryz.prog W .any base t v := hval0
 have hW' := hW
 obtain ⟨p, q, hA0, hV, rfl, hfz, hnd⟩ := hW
 have hA : DataW.TrodAll enc Tryz.prog W 0 (fun _ => true) true Tryz.f16.params.toList args.toList ds p := hA0
 rw [Tryz.params16] at hA hval
 have hT := top_met hL
 obtain ⟨v0, vs0, d0, ds0, p0, q0, hargs, rfl, rfl, h0, r0⟩ := trodAll_cons hA
 obtain ⟨v1, vs1, d1, ds1, p1, q1, rfl, rfl, rfl, h1, r1⟩ := trodAll_cons r0
 obtain ⟨v2, vs2, d2, ds2, p2, q2, rfl, rfl, rfl, h2, r2⟩ := trodAll_cons r1
 obtain ⟨rfl, rfl, rfl⟩ := trodAll_nil r2
 obtain rfl : args = #[v0, v1, v2] := by cases args; simp_all
 obtain ⟨rfl, rfl⟩ := trodVars_none hV
 have k0 := h0
 have lt0 : ∀ x ∈ p0, x.block < W.heap.size := by obtain ⟨m, hm⟩ := k0; exact DataW.trod_lt m _ _ _ hm
 obtain ⟨x0, rfl, _, _, wx0⟩ := open_int Tryz.underlying3 (hval 0 3 v0 rfl rfl) h0
 have b0 := bounds_i64 wx0
 have k1 := h1
 have lt1 : ∀ x ∈ p1, x.block < W.heap.size := by obtain ⟨m, hm⟩ := k1; exact DataW.trod_lt m _ _ _ hm
 obtain ⟨x1, rfl, _, _, wx1⟩ := open_int Tryz.underlying3 (hval 1 3 v1 rfl rfl) h1
 have b1 := bounds_i64 wx1
 have k2 := h2
 have lt2 : ∀ x ∈ p2, x.block < W.heap.size := by obtain ⟨m, hm⟩ := k2; exact DataW.trod_lt m _ _ _ hm
 obtain ⟨x2, rfl, _, _, wx2⟩ := open_int Tryz.underlying3 (hval 2 3 v2 rfl rfl) h2
 have b2 := bounds_i64 wx2
 clear hA0 hval0
 refine (topPhantom_walk W hT x0 b0.1 b0.2 x1 b1.1 b1.2 x2 b2.1 b2.2).mono fun e W' ⟨he, bel⟩ => ?_
 subst he
 exact ⟨_, rfl, _, _, _, [], _, [], hW', trodAll_mk1 (shut_bool Tryz.underlying4 _), (trodAll_cons_mk (Below.trod topPhantom_laidOut (by kernel_rfl) (of_decide_eq_true (by kernel_rfl)) k0 bel lt0) (trodAll_cons_mk (Below.trod topPhantom_laidOut (by kernel_rfl) (of_decide_eq_true (by kernel_rfl)) k1 bel lt1) (trodAll_cons_mk (Below.trod topPhantom_laidOut (by kernel_rfl) (of_decide_eq_true (by kernel_rfl)) k2 bel lt2) trodAll_mk0))), rfl, bel.frame _, fun h => by cases h⟩
set_option maxRecDepth 1000000 in
theorem topPhantom_said : Rows.TopPhantomSaid :=
  OpenClaim.holds_of_cond 16 Tryz.f16 rfl rfl rfl rfl rfl rfl rfl ⟨rfl, rfl, rfl, rfl, rfl⟩ rfl rfl rfl rfl rfl (by as_aux_lemma => kernel_rfl) Tryz.func16 (joined_mk topPhantom_j1 seat_laidOut seat_mapsRowed topPhantom_j4 topPhantom_j5 topPhantom_j6 seat_stops topPhantom_j8 seat_stopKnobs topPhantom_j10 topPhantom_j11 topPhantom_j12 topPhantom_j13 topPhantom_j14 topPhantom_j15 topPhantom_j16 topPhantom_j17 topPhantom_j18 topPhantom_j19 topPhantom_j20 topPhantom_j21 topPhantom_j22 topPhantom_j23 topPhantom_j24 seat_stopsHeard seat_mayEnter topPhantom_j27 topPhantom_j28 topPhantom_j29 topPhantom_j30 topPhantom_j31 topPhantom_j32)
    (of_decide_eq_true (by as_aux_lemma => kernel_rfl)) (by unfold Func.isWrapper; first | (rw [if_pos (by decide +kernel)]; kernel_rfl) | (rw [if_neg (by decide +kernel)]; exact ⟨rfl, rfl⟩))
    (fun os started H enc _ F => by rw [OpenClaim.pre_eq_preRow]; exact topPhantom_lifted os started H enc F)
theorem topPhantom_plain (f : FuncId) (fn : Func) (hf : Tryz.pinned.checked.prog.funcNamed "canopy/canopytop.TopPhantom" = some f) (hfn : Tryz.pinned.checked.prog.funcs[f]? = some fn) :
    false = Tryz.pinned.checked.prog.looks [] ∧ ∀ (j : Nat) t, fn.params[j]? = some t → Tryz.pinned.checked.prog.wantsStandIn t = false := by
 obtain rfl : f = 16 := Option.some.inj ((show Tryz.prog.funcNamed "canopy/canopytop.TopPhantom" = some 16 by kernel_rfl).symm.trans hf) |>.symm
 obtain rfl : fn = Tryz.f16 := (Option.some.inj (Tryz.func16.symm.trans hfn)).symm
 refine ⟨by kernel_rfl, fun j t ht => ?_⟩
 have hall : (Tryz.f16.params.all fun t => !Tryz.prog.wantsStandIn t) = true := by kernel_rfl
 have := Array.all_eq_true_iff_forall_mem.1 hall t (Array.mem_of_getElem? ht)
 show Tryz.prog.wantsStandIn t = false
 simpa using this
set_option maxRecDepth 1000000 in
theorem topPhantom_holds : Rows.TopPhantomCardSaid :=
  Claim7.holds_tied_plain_at .later [] _ _ _ _ topPhantom_said (fun _ h => by cases h) (by kernel_rfl) (fun _ h => by cases h) topPhantom_row_tie rfl ⟨rfl, rfl⟩ (by kernel_rfl) rfl topPhantom_plain (by kernel_rfl)
#print axioms topPhantom_holds
end Go.Proofs.YtilgpdpooildcaaGreatDoor
