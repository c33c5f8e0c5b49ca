/- The law TopWaits: for every input the call returns true, and each argument reads behind the call as it read before. -/
import Derived.Test.YtilgpdpooildcaaGreatDoorCTopWaits
import Derived.Test.YtilgpdpooildcaaGreatDoorDA1
import Derived.Test.YtilgpdpooildcaaGreatDoorDA12
import Derived.Test.YtilgpdpooildcaaGreatDoorDA2
import Derived.Lib.SmallJoins
namespace Go.Proofs.YtilgpdpooildcaaGreatDoor
set_option maxHeartbeats 8000000
open Go.ChangeShapes Go.WideShapes Go.ChangeAt Go.RowKit
set_option linter.unusedVariables false
theorem LB : ownKnob Tryz.prog.godebug = none := by kernel_rfl
theorem yY : laidOutB Tryz.prog = true := nC
theorem PK : (Rows.topWaitsRow.wf (OpenSpec.ofChange Rows.topWaitsSpec)) = true := by kernel_rfl
theorem PL : (Tryz.f15.params.all (Tryz.pinned.checked.prog.readableRec ·)) = true := by kernel_rfl
theorem PM : (namedTie Tryz.pinned.checked.prog Rows.topWaitsRow.named Rows.topWaitsSpec.vars) = true := by kernel_rfl
theorem PN : ((Rows.topWaitsRow.stops == [])) = true := by kernel_rfl
theorem PO : ((Rows.topWaitsRow.knobs == [])) = true := by kernel_rfl
theorem LC : ((Rows.topWaitsRow.inPlace == Tryz.pinned.checked.prog.inPlace 15)) = true := by kernel_rfl
theorem LD : ((Rows.topWaitsRow.unfollowed == Tryz.pinned.checked.prog.unfollowed 15)) = true := by kernel_rfl
theorem LE : ((Rows.topWaitsRow.recurses == Tryz.pinned.checked.prog.recurses 15)) = true := by kernel_rfl
theorem LF : ((Rows.topWaitsRow.named == Tryz.pinned.checked.prog.varsNamed 15)) = true := by kernel_rfl
theorem LG : ((Rows.topWaitsRow.maps == (Tryz.f15.params.toList ++ Rows.topWaitsSpec.plain.varTypes Tryz.pinned.checked.prog).any (Tryz.pinned.checked.prog.mapsRec ·))) = true := by kernel_rfl
theorem LH : ((Rows.topWaitsRow.ifaces == (Tryz.f15.params.toList ++ Rows.topWaitsSpec.plain.varTypes Tryz.pinned.checked.prog).any (Tryz.pinned.checked.prog.ifacesRec ·))) = true := by kernel_rfl
theorem LI : ((Rows.topWaitsRow.mapsOut == Tryz.pinned.checked.prog.mapsAmong Tryz.f15.resultTypes.toList)) = true := by kernel_rfl
theorem LJ : ((Rows.topWaitsRow.loops == (Tryz.f15.params.toList ++ Rows.topWaitsSpec.plain.varTypes Tryz.pinned.checked.prog).any (Tryz.pinned.checked.prog.loopsFrom ·))) = true := by kernel_rfl
theorem LK : ((Rows.topWaitsRow.wideKeys == (Tryz.f15.params.toList ++ Rows.topWaitsSpec.plain.varTypes Tryz.pinned.checked.prog ++ Tryz.f15.resultTypes.toList).any (Tryz.pinned.checked.prog.wideKeysFrom ·))) = true := by kernel_rfl
theorem LL : (Rows.topWaitsSpec.vars.all (Tryz.pinned.checked.prog.varReadable ·)) = true := by kernel_rfl
theorem LM : (Tryz.f15.resultTypes.all (fun t => Tryz.pinned.checked.prog.readableRec t && decide (t < Tryz.pinned.checked.prog.types.size))) = true := by kernel_rfl
theorem LN : ((Rows.topWaitsRow.ifacesOut == Tryz.f15.resultTypes.toList.any (Tryz.pinned.checked.prog.ifacesRec ·))) = true := by kernel_rfl
theorem LO : ((Rows.topWaitsRow.loopsOut == Tryz.f15.resultTypes.toList.any (Tryz.pinned.checked.prog.loopsFrom ·))) = true := by kernel_rfl
theorem LP : ((Rows.topWaitsRow.plainKeys == Tryz.pinned.checked.prog.plainKeys)) = true := by kernel_rfl
theorem LQ : (Rows.topWaitsRow.shortTexts.isNone) = true := by kernel_rfl
theorem LR : (Rows.topWaitsRow.lifted == Tryz.pinned.checked.prog.liftsFinal) = true := (congrArg (fun b => Rows.topWaitsRow.lifted == b) rZ).trans (by kernel_rfl)
theorem LS : (Tryz.pinned.checked.prog.make == some Rows.topWaitsRow.make) = true := (congrArg (fun b => b == some Rows.topWaitsRow.make) GI).trans (by kernel_rfl)
theorem LU : ((Rows.topWaitsRow.kinds == (if Rows.topWaitsRow.domain.isEmpty then [] else Tryz.f15.params.toList.map fun t => match Tryz.pinned.checked.prog.underlying t with | some (.int k) => some k | _ => none))) = true := by kernel_rfl
theorem LV : ((Rows.topWaitsRow.pinned == Rows.topWaitsRow.pinnedBy)) = true := by kernel_rfl
theorem LW : ((Rows.topWaitsRow.veiled == (Tryz.f15.params.toList ++ Rows.topWaitsSpec.plain.varTypes Tryz.pinned.checked.prog ++ Tryz.f15.resultTypes.toList).any (Tryz.pinned.checked.prog.veiledRec ·))) = true := by kernel_rfl
theorem LX : (Rows.topWaitsRow.veiledFits Tryz.pinned.checked.prog Tryz.f15.params.toList (Tryz.f15.params.toList ++ Rows.topWaitsSpec.plain.varTypes Tryz.pinned.checked.prog ++ Tryz.f15.resultTypes.toList)) = true := by kernel_rfl
theorem LY (os : Os) : laidMet Tryz.prog Rows.topWaitsRow.laid ((qV os).forCall (fun _ _ => 0) ⟨#[], #[.agg #[.int .i64 0, .int .i64 0, .int .i64 0, .int .i64 0, .int .i64 0]], []⟩).memory :=
  laidMet_of_run' 8 (by kernel_rfl) (by kernel_rfl)
theorem EE (os : Os) {H : Type} (enc : TypeId × Value → H) : ∃ x, DataW.whole enc Tryz.prog ((qV os).forCall (fun _ _ => 0) ⟨#[], #[.agg #[.int .i64 0, .int .i64 0, .int .i64 0, .int .i64 0, .int .i64 0]], []⟩).memory Tryz.f15.params.toList Rows.topWaitsSpec.vars false (#[.agg #[.int .i64 0, .int .i64 0, .int .i64 0, .int .i64 0, .int .i64 0]] : Array Value).toList 8 = some x :=
  Option.isSome_iff_exists.1 (by kernel_rfl)
set_option maxRecDepth 100000 in
theorem AJ (os : Os) (started : os.Started) (H : Type) (enc : TypeId × Value → H) (F : Stop.Interp) :
    ReturnsInHanded {} Tryz.checked os 15 .any ((OpenSpec.ofChange Rows.topWaitsSpec).preRow enc Tryz.prog Tryz.f15 Rows.topWaitsRow.domain false Rows.topWaitsRow.laid) (((OpenSpec.ofChange Rows.topWaitsSpec).at F).post enc Tryz.prog Tryz.f15 false true false false) := by
 obtain ⟨places, hx⟩ := EE os enc
 refine returnsInHanded_of_row (C := Tryz.checked) (s := OpenSpec.ofChange Rows.topWaitsSpec) LB started (by kernel_rfl) Tryz.func15
  (witness_row_at (enc := enc) (C := Tryz.checked) false (qV os) #[.agg #[.int .i64 0, .int .i64 0, .int .i64 0, .int .i64 0, .int .i64 0]] rfl (by kernel_rfl) (by kernel_rfl) (by kernel_rfl)
   (OpenSpec.preRow_of_cond 8 hx rfl (fun k hk => by cases hk) (by kernel_rfl) (LY os))) ?_
 intro W base args ds gs before hval0 hW _ _ hsz hL _ _
 have hval : ∀ (j : Nat) t v, Tryz.f15.params[j]? = some t → args[j]? = some v → Value.okWide Tryz.prog W .any base t v := hval0
 have hW' := hW
 obtain ⟨p, q, hA0, hV, rfl, hfz, hnd⟩ := hW
 have hA : DataW.TrodAll enc Tryz.prog W 0 (fun _ => true) true Tryz.f15.params.toList args.toList ds p := hA0
 rw [Tryz.params15] at hA hval
 have hT := UB hL
 obtain ⟨v0, vs0, d0, ds0, p0, q0, hargs, rfl, rfl, h0, r0⟩ := trodAll_cons hA
 obtain ⟨rfl, rfl, rfl⟩ := trodAll_nil r0
 obtain rfl : args = #[v0] := by cases args; simp_all
 obtain ⟨rfl, rfl⟩ := trodVars_none hV
 have k0 := h0
 have lt0 : ∀ x ∈ p0, x.block < W.heap.size := by obtain ⟨m, hm⟩ := k0; exact DataW.trod_lt m _ _ _ hm
 obtain ⟨c0_0, c0_1, c0_2, c0_3, c0_4, y0_0, y0_1, y0_2, y0_3, y0_4, n0, rfl, t0_0, t0_1, t0_2, t0_3, t0_4⟩ := VG Tryz.underlying31 (by kernel_rfl) (by kernel_rfl) (hval 0 31 v0 rfl rfl) h0
 obtain ⟨z0_0, ez0_0, _, wz0_0⟩ := DataW.trod_int Tryz.underlying3 t0_0
 obtain rfl : c0_0 = _ := by simpa using ez0_0
 have b0_0 := bounds_i64 wz0_0
 obtain ⟨z0_1, ez0_1, _, wz0_1⟩ := DataW.trod_int Tryz.underlying3 t0_1
 obtain rfl : c0_1 = _ := by simpa using ez0_1
 have b0_1 := bounds_i64 wz0_1
 obtain ⟨z0_2, ez0_2, _, wz0_2⟩ := DataW.trod_int Tryz.underlying3 t0_2
 obtain rfl : c0_2 = _ := by simpa using ez0_2
 have b0_2 := bounds_i64 wz0_2
 obtain ⟨z0_3, ez0_3, _, wz0_3⟩ := DataW.trod_int Tryz.underlying3 t0_3
 obtain rfl : c0_3 = _ := by simpa using ez0_3
 have b0_3 := bounds_i64 wz0_3
 obtain ⟨z0_4, ez0_4, _, wz0_4⟩ := DataW.trod_int Tryz.underlying3 t0_4
 obtain rfl : c0_4 = _ := by simpa using ez0_4
 have b0_4 := bounds_i64 wz0_4
 clear hA0 hval0
 refine (FW W hT (⟨z0_0, z0_1, z0_2, z0_3, z0_4⟩ : Ge) ⟨b0_0, b0_1, b0_2, b0_3, b0_4⟩).mono fun e W' ⟨he, bel⟩ => ?_
 subst he
 exact ⟨_, rfl, _, _, _, [], _, [], hW', trodAll_mk1 (shut_bool Tryz.underlying4 _), (trodAll_cons_mk (Below.trod yY (by kernel_rfl) (of_decide_eq_true (by kernel_rfl)) k0 bel lt0) trodAll_mk0), rfl, bel.frame _, fun h => by cases h⟩
set_option maxRecDepth 1000000 in
theorem FX : Rows.TopWaitsSaid :=
  OpenClaim.holds_of_cond 15 Tryz.f15 rfl rfl rfl rfl rfl rfl rfl ⟨rfl, rfl, rfl, rfl, rfl⟩ rfl rfl rfl rfl rfl (by as_aux_lemma => kernel_rfl) Tryz.func15 (GG PK nC sL PL PM PN BN PO sM LC LD LE LF LG LH LI LJ LK LL LM LN LO LP LQ sB uY LR LS LU LV LW LX)
    (of_decide_eq_true (by as_aux_lemma => kernel_rfl)) (by unfold Func.isWrapper; first | (rw [if_pos (by decide +kernel)]; kernel_rfl) | (rw [if_neg (by decide +kernel)]; exact ⟨rfl, rfl⟩))
    (fun os started H enc _ F => by rw [OpenClaim.pre_eq_preRow]; exact AJ os started H enc F)
theorem EF (f : FuncId) (fn : Func) (hf : Tryz.pinned.checked.prog.funcNamed "canopy/canopytop.TopWaits" = some f) (hfn : Tryz.pinned.checked.prog.funcs[f]? = some fn) :
    false = Tryz.pinned.checked.prog.looks [] ∧ ∀ (j : Nat) t, fn.params[j]? = some t → Tryz.pinned.checked.prog.wantsStandIn t = false := by
 obtain rfl : f = 15 := Option.some.inj ((show Tryz.prog.funcNamed "canopy/canopytop.TopWaits" = some 15 by kernel_rfl).symm.trans hf) |>.symm
 obtain rfl : fn = Tryz.f15 := (Option.some.inj (Tryz.func15.symm.trans hfn)).symm
 refine ⟨by kernel_rfl, fun j t ht => ?_⟩
 have hall : (Tryz.f15.params.all fun t => !Tryz.prog.wantsStandIn t) = true := by kernel_rfl
 have := Array.all_eq_true_iff_forall_mem.1 hall t (Array.mem_of_getElem? ht)
 show Tryz.prog.wantsStandIn t = false
 simpa using this
set_option maxRecDepth 1000000 in
theorem topWaits_holds : Rows.TopWaitsCardSaid :=
  Claim7.holds_tied_plain_at .later [] _ _ _ _ FX (fun _ h => by cases h) (by kernel_rfl) (fun _ h => by cases h) topWaits_row_tie rfl ⟨rfl, rfl⟩ (by kernel_rfl) rfl EF (by kernel_rfl)
#print axioms topWaits_holds
end Go.Proofs.YtilgpdpooildcaaGreatDoor
