/- The law TopLost: for every input the call returns true, and each argument reads behind the call as it read before. -/
import Derived.Test.YtilgpdpooildcaaGreatDoorCTopLost
import Derived.Test.YtilgpdpooildcaaGreatDoorDB1
import Derived.Test.YtilgpdpooildcaaGreatDoorDB2
import Derived.Test.YtilgpdpooildcaaGreatDoorDB12
namespace Go.Proofs.YtilgpdpooildcaaGreatDoor
set_option maxHeartbeats 8000000
open Go.ChangeShapes Go.WideShapes Go.ChangeAt Go.RowKit
set_option linter.unusedVariables false
theorem JQ : ownKnob Tryz.prog.godebug = none := by kernel_rfl
theorem qT : laidOutB Tryz.prog = true := uK
theorem MO : (Rows.topLostRow.wf (OpenSpec.ofChange Rows.topLostSpec)) = true := by kernel_rfl
theorem MP : (Tryz.f18.params.all (Tryz.pinned.checked.prog.readableRec ·)) = true := by kernel_rfl
theorem MQ : (namedTie Tryz.pinned.checked.prog Rows.topLostRow.named Rows.topLostSpec.vars) = true := by kernel_rfl
theorem MR : ((Rows.topLostRow.stops == [])) = true := by kernel_rfl
theorem MS : ((Rows.topLostRow.knobs == [])) = true := by kernel_rfl
theorem JR : ((Rows.topLostRow.inPlace == Tryz.pinned.checked.prog.inPlace 18)) = true := by kernel_rfl
theorem JS : ((Rows.topLostRow.unfollowed == Tryz.pinned.checked.prog.unfollowed 18)) = true := by kernel_rfl
theorem JT : ((Rows.topLostRow.recurses == Tryz.pinned.checked.prog.recurses 18)) = true := by kernel_rfl
theorem JU : ((Rows.topLostRow.named == Tryz.pinned.checked.prog.varsNamed 18)) = true := by kernel_rfl
theorem JV : ((Rows.topLostRow.maps == (Tryz.f18.params.toList ++ Rows.topLostSpec.plain.varTypes Tryz.pinned.checked.prog).any (Tryz.pinned.checked.prog.mapsRec ·))) = true := by kernel_rfl
theorem JW : ((Rows.topLostRow.ifaces == (Tryz.f18.params.toList ++ Rows.topLostSpec.plain.varTypes Tryz.pinned.checked.prog).any (Tryz.pinned.checked.prog.ifacesRec ·))) = true := by kernel_rfl
theorem JX : ((Rows.topLostRow.mapsOut == Tryz.pinned.checked.prog.mapsAmong Tryz.f18.resultTypes.toList)) = true := by kernel_rfl
theorem JY : ((Rows.topLostRow.loops == (Tryz.f18.params.toList ++ Rows.topLostSpec.plain.varTypes Tryz.pinned.checked.prog).any (Tryz.pinned.checked.prog.loopsFrom ·))) = true := by kernel_rfl
theorem JZ : ((Rows.topLostRow.wideKeys == (Tryz.f18.params.toList ++ Rows.topLostSpec.plain.varTypes Tryz.pinned.checked.prog ++ Tryz.f18.resultTypes.toList).any (Tryz.pinned.checked.prog.wideKeysFrom ·))) = true := by kernel_rfl
theorem KA : (Rows.topLostSpec.vars.all (Tryz.pinned.checked.prog.varReadable ·)) = true := by kernel_rfl
theorem KB : (Tryz.f18.resultTypes.all (fun t => Tryz.pinned.checked.prog.readableRec t && decide (t < Tryz.pinned.checked.prog.types.size))) = true := by kernel_rfl
theorem KC : ((Rows.topLostRow.ifacesOut == Tryz.f18.resultTypes.toList.any (Tryz.pinned.checked.prog.ifacesRec ·))) = true := by kernel_rfl
theorem KD : ((Rows.topLostRow.loopsOut == Tryz.f18.resultTypes.toList.any (Tryz.pinned.checked.prog.loopsFrom ·))) = true := by kernel_rfl
theorem KE : ((Rows.topLostRow.plainKeys == Tryz.pinned.checked.prog.plainKeys)) = true := by kernel_rfl
theorem KF : (Rows.topLostRow.shortTexts.isNone) = true := by kernel_rfl
theorem KG : (Rows.topLostRow.lifted == Tryz.pinned.checked.prog.liftsFinal) = true := (congrArg (fun b => Rows.topLostRow.lifted == b) xS).trans (by kernel_rfl)
theorem KH : (Tryz.pinned.checked.prog.make == some Rows.topLostRow.make) = true := (congrArg (fun b => b == some Rows.topLostRow.make) OX).trans (by kernel_rfl)
theorem KI : ((Rows.topLostRow.kinds == (if Rows.topLostRow.domain.isEmpty then [] else Tryz.f18.params.toList.map fun t => match Tryz.pinned.checked.prog.underlying t with | some (.int k) => some k | _ => none))) = true := by kernel_rfl
theorem KJ : ((Rows.topLostRow.pinned == Rows.topLostRow.pinnedBy)) = true := by kernel_rfl
theorem KK : ((Rows.topLostRow.veiled == (Tryz.f18.params.toList ++ Rows.topLostSpec.plain.varTypes Tryz.pinned.checked.prog ++ Tryz.f18.resultTypes.toList).any (Tryz.pinned.checked.prog.veiledRec ·))) = true := by kernel_rfl
theorem KL : (Rows.topLostRow.veiledFits Tryz.pinned.checked.prog Tryz.f18.params.toList (Tryz.f18.params.toList ++ Rows.topLostSpec.plain.varTypes Tryz.pinned.checked.prog ++ Tryz.f18.resultTypes.toList)) = true := by kernel_rfl
theorem KM (os : Os) : laidMet Tryz.prog Rows.topLostRow.laid ((BI os).forCall (fun _ _ => 0) ⟨#[], #[.int .i64 0, .int .i64 0], []⟩).memory :=
  laidMet_of_run' 8 (by kernel_rfl) (by kernel_rfl)
theorem CD (os : Os) {H : Type} (enc : TypeId × Value → H) : ∃ x, DataW.whole enc Tryz.prog ((BI os).forCall (fun _ _ => 0) ⟨#[], #[.int .i64 0, .int .i64 0], []⟩).memory Tryz.f18.params.toList Rows.topLostSpec.vars false (#[.int .i64 0, .int .i64 0] : Array Value).toList 8 = some x :=
  Option.isSome_iff_exists.1 (by kernel_rfl)
set_option maxRecDepth 100000 in
theorem BK (os : Os) (started : os.Started) (H : Type) (enc : TypeId × Value → H) (F : Stop.Interp) :
    ReturnsInHanded {} Tryz.checked os 18 .any ((OpenSpec.ofChange Rows.topLostSpec).preRow enc Tryz.prog Tryz.f18 Rows.topLostRow.domain false Rows.topLostRow.laid) (((OpenSpec.ofChange Rows.topLostSpec).at F).post enc Tryz.prog Tryz.f18 false true false false) := by
 obtain ⟨places, hx⟩ := CD os enc
 refine returnsInHanded_of_row (C := Tryz.checked) (s := OpenSpec.ofChange Rows.topLostSpec) JQ started (by kernel_rfl) Tryz.func18
  (witness_row_at (enc := enc) (C := Tryz.checked) false (BI os) #[.int .i64 0, .int .i64 0] rfl (by kernel_rfl) (by kernel_rfl) (by kernel_rfl)
   (OpenSpec.preRow_of_cond 8 hx rfl (fun k hk => by cases hk) (by kernel_rfl) (KM os))) ?_
 intro W base args ds gs before hval0 hW _ _ hsz hL _ _
 have hval : ∀ (j : Nat) t v, Tryz.f18.params[j]? = some t → args[j]? = some v → Value.okWide Tryz.prog W .any base t v := hval0
 have hW' := hW
 obtain ⟨p, q, hA0, hV, rfl, hfz, hnd⟩ := hW
 have hA : DataW.TrodAll enc Tryz.prog W 0 (fun _ => true) true Tryz.f18.params.toList args.toList ds p := hA0
 rw [Tryz.params18] at hA hval
 have hT := YR hL
 obtain ⟨v0, vs0, d0, ds0, p0, q0, hargs, rfl, rfl, h0, r0⟩ := trodAll_cons hA
 obtain ⟨v1, vs1, d1, ds1, p1, q1, rfl, rfl, rfl, h1, r1⟩ := trodAll_cons r0
 obtain ⟨rfl, rfl, rfl⟩ := trodAll_nil r1
 obtain rfl : args = #[v0, v1] := by cases args; simp_all
 obtain ⟨rfl, rfl⟩ := trodVars_none hV
 have k0 := h0
 have lt0 : ∀ x ∈ p0, x.block < W.heap.size := by obtain ⟨m, hm⟩ := k0; exact DataW.trod_lt m _ _ _ hm
 obtain ⟨x0, rfl, _, _, wx0⟩ := open_int Tryz.underlying3 (hval 0 3 v0 rfl rfl) h0
 have b0 := bounds_i64 wx0
 have k1 := h1
 have lt1 : ∀ x ∈ p1, x.block < W.heap.size := by obtain ⟨m, hm⟩ := k1; exact DataW.trod_lt m _ _ _ hm
 obtain ⟨x1, rfl, _, _, wx1⟩ := open_int Tryz.underlying3 (hval 1 3 v1 rfl rfl) h1
 have b1 := bounds_i64 wx1
 clear hA0 hval0
 refine (GC W hT x0 b0.1 b0.2 x1).mono fun e W' ⟨he, bel⟩ => ?_
 subst he
 exact ⟨_, rfl, _, _, _, [], _, [], hW', trodAll_mk1 (shut_bool Tryz.underlying4 _), (trodAll_cons_mk (Below.trod qT (by kernel_rfl) (of_decide_eq_true (by kernel_rfl)) k0 bel lt0) (trodAll_cons_mk (Below.trod qT (by kernel_rfl) (of_decide_eq_true (by kernel_rfl)) k1 bel lt1) trodAll_mk0)), rfl, bel.frame _, fun h => by cases h⟩
set_option maxRecDepth 1000000 in
theorem GD : Rows.TopLostSaid :=
  OpenClaim.holds_of_cond 18 Tryz.f18 rfl rfl rfl rfl rfl rfl rfl ⟨rfl, rfl, rfl, rfl, rfl⟩ rfl rfl rfl rfl rfl (by as_aux_lemma => kernel_rfl) Tryz.func18 (OV MO uK zF MP MQ MR KN MS zG JR JS JT JU JV JW JX JY JZ KA KB KC KD KE KF xT BO KG KH KI KJ KK KL)
    (of_decide_eq_true (by as_aux_lemma => kernel_rfl)) (by unfold Func.isWrapper; first | (rw [if_pos (by decide +kernel)]; kernel_rfl) | (rw [if_neg (by decide +kernel)]; exact ⟨rfl, rfl⟩))
    (fun os started H enc _ F => by rw [OpenClaim.pre_eq_preRow]; exact BK os started H enc F)
theorem CE (f : FuncId) (fn : Func) (hf : Tryz.pinned.checked.prog.funcNamed "canopy/canopytop.TopLost" = some f) (hfn : Tryz.pinned.checked.prog.funcs[f]? = some fn) :
    false = Tryz.pinned.checked.prog.looks [] ∧ ∀ (j : Nat) t, fn.params[j]? = some t → Tryz.pinned.checked.prog.wantsStandIn t = false := by
 obtain rfl : f = 18 := Option.some.inj ((show Tryz.prog.funcNamed "canopy/canopytop.TopLost" = some 18 by kernel_rfl).symm.trans hf) |>.symm
 obtain rfl : fn = Tryz.f18 := (Option.some.inj (Tryz.func18.symm.trans hfn)).symm
 refine ⟨by kernel_rfl, fun j t ht => ?_⟩
 have hall : (Tryz.f18.params.all fun t => !Tryz.prog.wantsStandIn t) = true := by kernel_rfl
 have := Array.all_eq_true_iff_forall_mem.1 hall t (Array.mem_of_getElem? ht)
 show Tryz.prog.wantsStandIn t = false
 simpa using this
set_option maxRecDepth 1000000 in
theorem topLost_holds : Rows.TopLostCardSaid :=
  Claim7.holds_tied_plain_at .later [] _ _ _ _ GD (fun _ h => by cases h) (by kernel_rfl) (fun _ h => by cases h) topLost_row_tie rfl ⟨rfl, rfl⟩ (by kernel_rfl) rfl CE (by kernel_rfl)
#print axioms topLost_holds
end Go.Proofs.YtilgpdpooildcaaGreatDoor
