/- The law TopBank: for every input the call returns true, and each argument reads behind the call as it read before. -/
import Derived.Test.YtilgpdpooildcaaGreatDoorCTopBank
import Derived.Test.YtilgpdpooildcaaGreatDoorFA1
import Derived.Test.YtilgpdpooildcaaGreatDoorFA2
import Derived.Test.YtilgpdpooildcaaGreatDoorFA12
namespace Go.Proofs.YtilgpdpooildcaaGreatDoor
set_option maxHeartbeats 8000000
open Go.ChangeShapes Go.WideShapes Go.ChangeAt Go.RowKit
set_option linter.unusedVariables false
theorem LO : ownKnob Tryz.prog.godebug = none := by kernel_rfl
theorem zG : laidOutB Tryz.prog = true := vJ
theorem OQ : (Rows.topBankRow.wf (OpenSpec.ofChange Rows.topBankSpec)) = true := by kernel_rfl
theorem OR : (Tryz.f8.params.all (Tryz.pinned.checked.prog.readableRec ·)) = true := by kernel_rfl
theorem OS : (namedTie Tryz.pinned.checked.prog Rows.topBankRow.named Rows.topBankSpec.vars) = true := by kernel_rfl
theorem OT : ((Rows.topBankRow.stops == [])) = true := by kernel_rfl
theorem OU : ((Rows.topBankRow.knobs == [])) = true := by kernel_rfl
theorem LP : ((Rows.topBankRow.inPlace == Tryz.pinned.checked.prog.inPlace 8)) = true := by kernel_rfl
theorem LQ : ((Rows.topBankRow.unfollowed == Tryz.pinned.checked.prog.unfollowed 8)) = true := by kernel_rfl
theorem LR : ((Rows.topBankRow.recurses == Tryz.pinned.checked.prog.recurses 8)) = true := by kernel_rfl
theorem LS : ((Rows.topBankRow.named == Tryz.pinned.checked.prog.varsNamed 8)) = true := by kernel_rfl
theorem LU : ((Rows.topBankRow.maps == (Tryz.f8.params.toList ++ Rows.topBankSpec.plain.varTypes Tryz.pinned.checked.prog).any (Tryz.pinned.checked.prog.mapsRec ·))) = true := by kernel_rfl
theorem LV : ((Rows.topBankRow.ifaces == (Tryz.f8.params.toList ++ Rows.topBankSpec.plain.varTypes Tryz.pinned.checked.prog).any (Tryz.pinned.checked.prog.ifacesRec ·))) = true := by kernel_rfl
theorem LW : ((Rows.topBankRow.mapsOut == Tryz.pinned.checked.prog.mapsAmong Tryz.f8.resultTypes.toList)) = true := by kernel_rfl
theorem LX : ((Rows.topBankRow.loops == (Tryz.f8.params.toList ++ Rows.topBankSpec.plain.varTypes Tryz.pinned.checked.prog).any (Tryz.pinned.checked.prog.loopsFrom ·))) = true := by kernel_rfl
theorem LY : ((Rows.topBankRow.wideKeys == (Tryz.f8.params.toList ++ Rows.topBankSpec.plain.varTypes Tryz.pinned.checked.prog ++ Tryz.f8.resultTypes.toList).any (Tryz.pinned.checked.prog.wideKeysFrom ·))) = true := by kernel_rfl
theorem LZ : (Rows.topBankSpec.vars.all (Tryz.pinned.checked.prog.varReadable ·)) = true := by kernel_rfl
theorem MA : (Tryz.f8.resultTypes.all (fun t => Tryz.pinned.checked.prog.readableRec t && decide (t < Tryz.pinned.checked.prog.types.size))) = true := by kernel_rfl
theorem MB : ((Rows.topBankRow.ifacesOut == Tryz.f8.resultTypes.toList.any (Tryz.pinned.checked.prog.ifacesRec ·))) = true := by kernel_rfl
theorem MC : ((Rows.topBankRow.loopsOut == Tryz.f8.resultTypes.toList.any (Tryz.pinned.checked.prog.loopsFrom ·))) = true := by kernel_rfl
theorem MD : ((Rows.topBankRow.plainKeys == Tryz.pinned.checked.prog.plainKeys)) = true := by kernel_rfl
theorem ME : (Rows.topBankRow.shortTexts.isNone) = true := by kernel_rfl
theorem MF : (Rows.topBankRow.lifted == Tryz.pinned.checked.prog.liftsFinal) = true := (congrArg (fun b => Rows.topBankRow.lifted == b) yU).trans (by kernel_rfl)
theorem MG : (Tryz.pinned.checked.prog.make == some Rows.topBankRow.make) = true := (congrArg (fun b => b == some Rows.topBankRow.make) QZ).trans (by kernel_rfl)
theorem MH : ((Rows.topBankRow.kinds == (if Rows.topBankRow.domain.isEmpty then [] else Tryz.f8.params.toList.map fun t => match Tryz.pinned.checked.prog.underlying t with | some (.int k) => some k | _ => none))) = true := by kernel_rfl
theorem MI : ((Rows.topBankRow.pinned == Rows.topBankRow.pinnedBy)) = true := by kernel_rfl
theorem MJ : ((Rows.topBankRow.veiled == (Tryz.f8.params.toList ++ Rows.topBankSpec.plain.varTypes Tryz.pinned.checked.prog ++ Tryz.f8.resultTypes.toList).any (Tryz.pinned.checked.prog.veiledRec ·))) = true := by kernel_rfl
theorem MK : (Rows.topBankRow.veiledFits Tryz.pinned.checked.prog Tryz.f8.params.toList (Tryz.f8.params.toList ++ Rows.topBankSpec.plain.varTypes Tryz.pinned.checked.prog ++ Tryz.f8.resultTypes.toList)) = true := by kernel_rfl
theorem ML (os : Os) : laidMet Tryz.prog Rows.topBankRow.laid ((CP os).forCall (fun _ _ => 0) ⟨#[], #[.slice none 0 0], []⟩).memory :=
  laidMet_of_run' 8 (by kernel_rfl) (by kernel_rfl)
theorem DK (os : Os) {H : Type} (enc : TypeId × Value → H) : ∃ x, DataW.whole enc Tryz.prog ((CP os).forCall (fun _ _ => 0) ⟨#[], #[.slice none 0 0], []⟩).memory Tryz.f8.params.toList Rows.topBankSpec.vars false (#[.slice none 0 0] : Array Value).toList 8 = some x :=
  Option.isSome_iff_exists.1 (by kernel_rfl)
set_option maxRecDepth 100000 in
theorem CS (os : Os) (started : os.Started) (H : Type) (enc : TypeId × Value → H) (F : Stop.Interp) :
    ReturnsInHanded {} Tryz.checked os 8 .any ((OpenSpec.ofChange Rows.topBankSpec).preRow enc Tryz.prog Tryz.f8 Rows.topBankRow.domain false Rows.topBankRow.laid) (((OpenSpec.ofChange Rows.topBankSpec).at F).post enc Tryz.prog Tryz.f8 false true false false) := by
 obtain ⟨places, hx⟩ := DK os enc
 refine returnsInHanded_of_row (C := Tryz.checked) (s := OpenSpec.ofChange Rows.topBankSpec) LO started (by kernel_rfl) Tryz.func8
  (witness_row_at (enc := enc) (C := Tryz.checked) false (CP os) #[.slice none 0 0] rfl (by kernel_rfl) (by kernel_rfl) (by kernel_rfl)
   (OpenSpec.preRow_of_cond 8 hx rfl (fun k hk => by cases hk) (by kernel_rfl) (ML os))) ?_
 intro W base args ds gs before hval0 hW _ _ hsz hL _ _
 have hval : ∀ (j : Nat) t v, Tryz.f8.params[j]? = some t → args[j]? = some v → Value.okWide Tryz.prog W .any base t v := hval0
 have hW' := hW
 obtain ⟨p, q, hA0, hV, rfl, hfz, hnd⟩ := hW
 have hA : DataW.TrodAll enc Tryz.prog W 0 (fun _ => true) true Tryz.f8.params.toList args.toList ds p := hA0
 rw [Tryz.params8] at hA hval
 have hT := Bq hL
 obtain ⟨v0, vs0, d0, ds0, p0, q0, hargs, rfl, rfl, h0, r0⟩ := trodAll_cons hA
 obtain ⟨rfl, rfl, rfl⟩ := trodAll_nil r0
 obtain rfl : args = #[v0] := by cases args; simp_all
 obtain ⟨rfl, rfl⟩ := trodVars_none hV
 have k0 := h0
 have lt0 : ∀ x ∈ p0, x.block < W.heap.size := by obtain ⟨m, hm⟩ := k0; exact DataW.trod_lt m _ _ _ hm
 obtain ⟨a0, len0, cap0, rfl⟩ := okWide_slice Tryz.underlying22 (hval 0 22 v0 rfl rfl)
 obtain ⟨l0, w0⟩ : ∃ l, Ges (whole W) (.slice a0 len0 cap0) l := by
  obtain ⟨fuel, hf⟩ := h0
  exact YA Tryz.underlying22 Tryz.underlying31 (by kernel_rfl) (by kernel_rfl) rfl rfl rfl rfl rfl Tryz.underlying3 hf
 clear hA0 hval0
 refine (IA W hT (.slice a0 len0 cap0) l0 w0).mono fun e W' ⟨he, bel⟩ => ?_
 subst he
 exact ⟨_, rfl, _, _, _, [], _, [], hW', trodAll_mk1 (shut_bool Tryz.underlying4 _), (trodAll_cons_mk (Below.trod zG (by kernel_rfl) (of_decide_eq_true (by kernel_rfl)) k0 bel lt0) trodAll_mk0), rfl, bel.frame _, fun h => by cases h⟩
set_option maxRecDepth 1000000 in
theorem IB : Rows.TopBankSaid :=
  OpenClaim.holds_of_cond 8 Tryz.f8 rfl rfl rfl rfl rfl rfl rfl ⟨rfl, rfl, rfl, rfl, rfl⟩ rfl rfl rfl rfl rfl (by as_aux_lemma => kernel_rfl) Tryz.func8 (QX OQ vJ AJ OR OS OT MM OU AK LP LQ LR LS LU LV LW LX LY LZ MA MB MC MD ME yV CW MF MG MH MI MJ MK)
    (of_decide_eq_true (by as_aux_lemma => kernel_rfl)) (by unfold Func.isWrapper; first | (rw [if_pos (by decide +kernel)]; kernel_rfl) | (rw [if_neg (by decide +kernel)]; exact ⟨rfl, rfl⟩))
    (fun os started H enc _ F => by rw [OpenClaim.pre_eq_preRow]; exact CS os started H enc F)
theorem DL (f : FuncId) (fn : Func) (hf : Tryz.pinned.checked.prog.funcNamed "canopy/canopytop.TopBank" = some f) (hfn : Tryz.pinned.checked.prog.funcs[f]? = some fn) :
    false = Tryz.pinned.checked.prog.looks [] ∧ ∀ (j : Nat) t, fn.params[j]? = some t → Tryz.pinned.checked.prog.wantsStandIn t = false := by
 obtain rfl : f = 8 := Option.some.inj ((show Tryz.prog.funcNamed "canopy/canopytop.TopBank" = some 8 by kernel_rfl).symm.trans hf) |>.symm
 obtain rfl : fn = Tryz.f8 := (Option.some.inj (Tryz.func8.symm.trans hfn)).symm
 refine ⟨by kernel_rfl, fun j t ht => ?_⟩
 have hall : (Tryz.f8.params.all fun t => !Tryz.prog.wantsStandIn t) = true := by kernel_rfl
 have := Array.all_eq_true_iff_forall_mem.1 hall t (Array.mem_of_getElem? ht)
 show Tryz.prog.wantsStandIn t = false
 simpa using this
set_option maxRecDepth 1000000 in
theorem topBank_holds : Rows.TopBankCardSaid :=
  Claim7.holds_tied_plain_at .later [] _ _ _ _ IB (fun _ h => by cases h) (by kernel_rfl) (fun _ h => by cases h) topBank_row_tie rfl ⟨rfl, rfl⟩ (by kernel_rfl) rfl DL (by kernel_rfl)
#print axioms topBank_holds
end Go.Proofs.YtilgpdpooildcaaGreatDoor
