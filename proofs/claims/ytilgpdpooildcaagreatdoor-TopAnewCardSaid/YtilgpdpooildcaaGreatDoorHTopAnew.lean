/- The law TopAnew: for every input the call returns true, and each argument reads behind the call as it read before. -/
import Derived.Test.YtilgpdpooildcaaGreatDoorCTopAnew
namespace Go.Proofs.YtilgpdpooildcaaGreatDoor
set_option maxHeartbeats 8000000
open Go.ChangeShapes Go.WideShapes Go.ChangeAt Go.RowKit
set_option linter.unusedVariables false
theorem OU : ownKnob Tryz.prog.godebug = none := by kernel_rfl
theorem sY : laidOutB Tryz.prog = true := xD
theorem SB : (Rows.topAnewRow.wf (OpenSpec.ofChange Rows.topAnewSpec)) = true := by kernel_rfl
theorem SC : (Tryz.f6.params.all (Tryz.pinned.checked.prog.readableRec ·)) = true := by kernel_rfl
theorem SD : (namedTie Tryz.pinned.checked.prog Rows.topAnewRow.named Rows.topAnewSpec.vars) = true := by kernel_rfl
theorem SE : ((Rows.topAnewRow.stops == [])) = true := by kernel_rfl
theorem SF : ((Rows.topAnewRow.knobs == [])) = true := by kernel_rfl
theorem OV : ((Rows.topAnewRow.inPlace == Tryz.pinned.checked.prog.inPlace 6)) = true := by kernel_rfl
theorem OW : ((Rows.topAnewRow.unfollowed == Tryz.pinned.checked.prog.unfollowed 6)) = true := by kernel_rfl
theorem OX : ((Rows.topAnewRow.recurses == Tryz.pinned.checked.prog.recurses 6)) = true := by kernel_rfl
theorem OY : ((Rows.topAnewRow.named == Tryz.pinned.checked.prog.varsNamed 6)) = true := by kernel_rfl
theorem OZ : ((Rows.topAnewRow.maps == (Tryz.f6.params.toList ++ Rows.topAnewSpec.plain.varTypes Tryz.pinned.checked.prog).any (Tryz.pinned.checked.prog.mapsRec ·))) = true := by kernel_rfl
theorem PA : ((Rows.topAnewRow.ifaces == (Tryz.f6.params.toList ++ Rows.topAnewSpec.plain.varTypes Tryz.pinned.checked.prog).any (Tryz.pinned.checked.prog.ifacesRec ·))) = true := by kernel_rfl
theorem PB : ((Rows.topAnewRow.mapsOut == Tryz.pinned.checked.prog.mapsAmong Tryz.f6.resultTypes.toList)) = true := by kernel_rfl
theorem PC : ((Rows.topAnewRow.loops == (Tryz.f6.params.toList ++ Rows.topAnewSpec.plain.varTypes Tryz.pinned.checked.prog).any (Tryz.pinned.checked.prog.loopsFrom ·))) = true := by kernel_rfl
theorem PD : ((Rows.topAnewRow.wideKeys == (Tryz.f6.params.toList ++ Rows.topAnewSpec.plain.varTypes Tryz.pinned.checked.prog ++ Tryz.f6.resultTypes.toList).any (Tryz.pinned.checked.prog.wideKeysFrom ·))) = true := by kernel_rfl
theorem PE : (Rows.topAnewSpec.vars.all (Tryz.pinned.checked.prog.varReadable ·)) = true := by kernel_rfl
theorem PF : (Tryz.f6.resultTypes.all (fun t => Tryz.pinned.checked.prog.readableRec t && decide (t < Tryz.pinned.checked.prog.types.size))) = true := by kernel_rfl
theorem PG : ((Rows.topAnewRow.ifacesOut == Tryz.f6.resultTypes.toList.any (Tryz.pinned.checked.prog.ifacesRec ·))) = true := by kernel_rfl
theorem PH : ((Rows.topAnewRow.loopsOut == Tryz.f6.resultTypes.toList.any (Tryz.pinned.checked.prog.loopsFrom ·))) = true := by kernel_rfl
theorem PI : ((Rows.topAnewRow.plainKeys == Tryz.pinned.checked.prog.plainKeys)) = true := by kernel_rfl
theorem PJ : (Rows.topAnewRow.shortTexts.isNone) = true := by kernel_rfl
theorem PK : (Rows.topAnewRow.lifted == Tryz.pinned.checked.prog.liftsFinal) = true := (congrArg (fun b => Rows.topAnewRow.lifted == b) AU).trans (by kernel_rfl)
theorem PL : (Tryz.pinned.checked.prog.make == some Rows.topAnewRow.make) = true := (congrArg (fun b => b == some Rows.topAnewRow.make) UV).trans (by kernel_rfl)
theorem PM : ((Rows.topAnewRow.kinds == (if Rows.topAnewRow.domain.isEmpty then [] else Tryz.f6.params.toList.map fun t => match Tryz.pinned.checked.prog.underlying t with | some (.int k) => some k | _ => none))) = true := by kernel_rfl
theorem PN : ((Rows.topAnewRow.pinned == Rows.topAnewRow.pinnedBy)) = true := by kernel_rfl
theorem PO : ((Rows.topAnewRow.veiled == (Tryz.f6.params.toList ++ Rows.topAnewSpec.plain.varTypes Tryz.pinned.checked.prog ++ Tryz.f6.resultTypes.toList).any (Tryz.pinned.checked.prog.veiledRec ·))) = true := by kernel_rfl
theorem PP : (Rows.topAnewRow.veiledFits Tryz.pinned.checked.prog Tryz.f6.params.toList (Tryz.f6.params.toList ++ Rows.topAnewSpec.plain.varTypes Tryz.pinned.checked.prog ++ Tryz.f6.resultTypes.toList)) = true := by kernel_rfl
theorem PQ (os : Os) : laidMet Tryz.prog Rows.topAnewRow.laid ((FI os).forCall (fun _ _ => 0) ⟨#[], #[.slice none 0 0, .slice none 0 0], []⟩).memory :=
  laidMet_of_run' 8 (by kernel_rfl) (by kernel_rfl)
theorem GJ (os : Os) {H : Type} (enc : TypeId × Value → H) : ∃ x, DataW.whole enc Tryz.prog ((FI os).forCall (fun _ _ => 0) ⟨#[], #[.slice none 0 0, .slice none 0 0], []⟩).memory Tryz.f6.params.toList Rows.topAnewSpec.vars false (#[.slice none 0 0, .slice none 0 0] : Array Value).toList 8 = some x :=
  Option.isSome_iff_exists.1 (by kernel_rfl)
set_option maxRecDepth 100000 in
theorem FK (os : Os) (started : os.Started) (H : Type) (enc : TypeId × Value → H) (F : Stop.Interp) :
    ReturnsInHanded {} Tryz.checked os 6 .any ((OpenSpec.ofChange Rows.topAnewSpec).preRow enc Tryz.prog Tryz.f6 Rows.topAnewRow.domain false Rows.topAnewRow.laid) (((OpenSpec.ofChange Rows.topAnewSpec).at F).post enc Tryz.prog Tryz.f6 false true false false) := by
 obtain ⟨places, hx⟩ := GJ os enc
 refine returnsInHanded_of_row (C := Tryz.checked) (s := OpenSpec.ofChange Rows.topAnewSpec) OU started (by kernel_rfl) Tryz.func6
  (witness_row_at (enc := enc) (C := Tryz.checked) false (FI os) #[.slice none 0 0, .slice none 0 0] rfl (by kernel_rfl) (by kernel_rfl) (by kernel_rfl)
   (OpenSpec.preRow_of_cond 8 hx rfl (fun k hk => by cases hk) (by kernel_rfl) (PQ os))) ?_
 intro W base args ds gs before hval0 hW _ _ hsz hL _ _
 have hval : ∀ (j : Nat) t v, Tryz.f6.params[j]? = some t → args[j]? = some v → Value.okWide Tryz.prog W .any base t v := hval0
 have hW' := hW
 obtain ⟨p, q, hA0, hV, rfl, hfz, hnd⟩ := hW
 have hA : DataW.TrodAll enc Tryz.prog W 0 (fun _ => true) true Tryz.f6.params.toList args.toList ds p := hA0
 rw [Tryz.params6] at hA hval
 have hT := Fg hL
 obtain ⟨v0, vs0, d0, ds0, p0, q0, hargs, rfl, rfl, h0, r0⟩ := trodAll_cons hA
 obtain ⟨v1, vs1, d1, ds1, p1, q1, rfl, rfl, rfl, h1, r1⟩ := trodAll_cons r0
 obtain ⟨rfl, rfl, rfl⟩ := trodAll_nil r1
 obtain rfl : args = #[v0, v1] := by cases args; simp_all
 obtain ⟨rfl, rfl⟩ := trodVars_none hV
 have k0 := h0
 have lt0 : ∀ x ∈ p0, x.block < W.heap.size := by obtain ⟨m, hm⟩ := k0; exact DataW.trod_lt m _ _ _ hm
 obtain ⟨a0, len0, cap0, rfl⟩ := okWide_slice Tryz.underlying22 (hval 0 22 v0 rfl rfl)
 obtain ⟨l0, w0⟩ : ∃ l, Ges (whole W) (.slice a0 len0 cap0) l := by
  obtain ⟨fuel, hf⟩ := h0
  exact OS Tryz.underlying22 Tryz.underlying31 (by kernel_rfl) (by kernel_rfl) rfl rfl rfl rfl rfl Tryz.underlying3 hf
 have k1 := h1
 have lt1 : ∀ x ∈ p1, x.block < W.heap.size := by obtain ⟨m, hm⟩ := k1; exact DataW.trod_lt m _ _ _ hm
 obtain ⟨a1, len1, cap1, rfl⟩ := okWide_slice Tryz.underlying22 (hval 1 22 v1 rfl rfl)
 obtain ⟨l1, w1⟩ : ∃ l, Ges (whole W) (.slice a1 len1 cap1) l := by
  obtain ⟨fuel, hf⟩ := h1
  exact OS Tryz.underlying22 Tryz.underlying31 (by kernel_rfl) (by kernel_rfl) rfl rfl rfl rfl rfl Tryz.underlying3 hf
 clear hA0 hval0
 refine (LH W hT (.slice a0 len0 cap0) l0 w0 (.slice a1 len1 cap1) l1 w1).mono fun e W' ⟨he, bel⟩ => ?_
 subst he
 exact ⟨_, rfl, _, _, _, [], _, [], hW', trodAll_mk1 (shut_bool Tryz.underlying4 _), (trodAll_cons_mk (Below.trod sY (by kernel_rfl) (of_decide_eq_true (by kernel_rfl)) k0 bel lt0) (trodAll_cons_mk (Below.trod sY (by kernel_rfl) (of_decide_eq_true (by kernel_rfl)) k1 bel lt1) trodAll_mk0)), rfl, bel.frame _, fun h => by cases h⟩
set_option maxRecDepth 1000000 in
theorem LI : Rows.TopAnewSaid :=
  OpenClaim.holds_of_cond 6 Tryz.f6 rfl rfl rfl rfl rfl rfl rfl ⟨rfl, rfl, rfl, rfl, rfl⟩ rfl rfl rfl rfl rfl (by as_aux_lemma => kernel_rfl) Tryz.func6 (UT SB xD CU SC SD SE PS SF CV OV OW OX OY OZ PA PB PC PD PE PF PG PH PI PJ AV FQ PK PL PM PN PO PP)
    (of_decide_eq_true (by as_aux_lemma => kernel_rfl)) (by unfold Func.isWrapper; first | (rw [zZb (by decide +kernel)]; kernel_rfl) | (rw [zZa (by decide +kernel)]; exact ⟨rfl, rfl⟩))
    (fun os started H enc _ F => by rw [OpenClaim.pre_eq_preRow]; exact FK os started H enc F)
theorem GK (f : FuncId) (fn : Func) (hf : Tryz.pinned.checked.prog.funcNamed "canopy/canopytop.TopAnew" = some f) (hfn : Tryz.pinned.checked.prog.funcs[f]? = some fn) :
    false = Tryz.pinned.checked.prog.looks [] ∧ ∀ (j : Nat) t, fn.params[j]? = some t → Tryz.pinned.checked.prog.wantsStandIn t = false := by
 obtain rfl : f = 6 := Option.some.inj ((show Tryz.prog.funcNamed "canopy/canopytop.TopAnew" = some 6 by kernel_rfl).symm.trans hf) |>.symm
 obtain rfl : fn = Tryz.f6 := (Option.some.inj (Tryz.func6.symm.trans hfn)).symm
 refine ⟨by kernel_rfl, fun j t ht => ?_⟩
 have hall : (Tryz.f6.params.all fun t => !Tryz.prog.wantsStandIn t) = true := by kernel_rfl
 have := Array.all_eq_true_iff_forall_mem.1 hall t (Array.mem_of_getElem? ht)
 show Tryz.prog.wantsStandIn t = false
 simpa using this
set_option maxRecDepth 1000000 in
theorem topAnew_holds : Rows.TopAnewCardSaid :=
  Claim7.holds_tied_plain_at .later [] _ _ _ _ LI (fun _ h => by cases h) (by kernel_rfl) (fun _ h => by cases h) topAnew_row_tie rfl ⟨rfl, rfl⟩ (by kernel_rfl) rfl GK (by kernel_rfl)
#print axioms topAnew_holds
end Go.Proofs.YtilgpdpooildcaaGreatDoor
