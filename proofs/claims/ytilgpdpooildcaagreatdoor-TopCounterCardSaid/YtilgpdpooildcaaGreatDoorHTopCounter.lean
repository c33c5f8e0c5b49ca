/- The law TopCounter: for every input the call returns true, and each argument reads behind the call as it read before. -/
import Derived.Test.YtilgpdpooildcaaGreatDoorCTopCounter
import Derived.Test.YtilgpdpooildcaaGreatDoorDA1
import Derived.Test.YtilgpdpooildcaaGreatDoorDA2
import Derived.Test.YtilgpdpooildcaaGreatDoorDA12
namespace Go.Proofs.YtilgpdpooildcaaGreatDoor
set_option maxHeartbeats 8000000
open Go.ChangeShapes Go.WideShapes Go.ChangeAt Go.RowKit
set_option linter.unusedVariables false
theorem EZ : ownKnob Tryz.prog.godebug = none := by kernel_rfl
theorem wI : laidOutB Tryz.prog = true := nH
theorem GV : (Rows.topCounterRow.wf (OpenSpec.ofChange Rows.topCounterSpec)) = true := by kernel_rfl
theorem GX : (Tryz.f12.params.all (Tryz.pinned.checked.prog.readableRec ·)) = true := by kernel_rfl
theorem GY : (namedTie Tryz.pinned.checked.prog Rows.topCounterRow.named Rows.topCounterSpec.vars) = true := by kernel_rfl
theorem GZ : ((Rows.topCounterRow.stops == [])) = true := by kernel_rfl
theorem HB : ((Rows.topCounterRow.knobs == [])) = true := by kernel_rfl
theorem FB : ((Rows.topCounterRow.inPlace == Tryz.pinned.checked.prog.inPlace 12)) = true := by kernel_rfl
theorem FC : ((Rows.topCounterRow.unfollowed == Tryz.pinned.checked.prog.unfollowed 12)) = true := by kernel_rfl
theorem FD : ((Rows.topCounterRow.recurses == Tryz.pinned.checked.prog.recurses 12)) = true := by kernel_rfl
theorem FE : ((Rows.topCounterRow.named == Tryz.pinned.checked.prog.varsNamed 12)) = true := by kernel_rfl
theorem FF : ((Rows.topCounterRow.maps == (Tryz.f12.params.toList ++ Rows.topCounterSpec.plain.varTypes Tryz.pinned.checked.prog).any (Tryz.pinned.checked.prog.mapsRec ·))) = true := by kernel_rfl
theorem FG : ((Rows.topCounterRow.ifaces == (Tryz.f12.params.toList ++ Rows.topCounterSpec.plain.varTypes Tryz.pinned.checked.prog).any (Tryz.pinned.checked.prog.ifacesRec ·))) = true := by kernel_rfl
theorem FH : ((Rows.topCounterRow.mapsOut == Tryz.pinned.checked.prog.mapsAmong Tryz.f12.resultTypes.toList)) = true := by kernel_rfl
theorem FI : ((Rows.topCounterRow.loops == (Tryz.f12.params.toList ++ Rows.topCounterSpec.plain.varTypes Tryz.pinned.checked.prog).any (Tryz.pinned.checked.prog.loopsFrom ·))) = true := by kernel_rfl
theorem FJ : ((Rows.topCounterRow.wideKeys == (Tryz.f12.params.toList ++ Rows.topCounterSpec.plain.varTypes Tryz.pinned.checked.prog ++ Tryz.f12.resultTypes.toList).any (Tryz.pinned.checked.prog.wideKeysFrom ·))) = true := by kernel_rfl
theorem FK : (Rows.topCounterSpec.vars.all (Tryz.pinned.checked.prog.varReadable ·)) = true := by kernel_rfl
theorem FL : (Tryz.f12.resultTypes.all (fun t => Tryz.pinned.checked.prog.readableRec t && decide (t < Tryz.pinned.checked.prog.types.size))) = true := by kernel_rfl
theorem FM : ((Rows.topCounterRow.ifacesOut == Tryz.f12.resultTypes.toList.any (Tryz.pinned.checked.prog.ifacesRec ·))) = true := by kernel_rfl
theorem FN : ((Rows.topCounterRow.loopsOut == Tryz.f12.resultTypes.toList.any (Tryz.pinned.checked.prog.loopsFrom ·))) = true := by kernel_rfl
theorem FP : ((Rows.topCounterRow.plainKeys == Tryz.pinned.checked.prog.plainKeys)) = true := by kernel_rfl
theorem FQ : (Rows.topCounterRow.shortTexts.isNone) = true := by kernel_rfl
theorem FR : (Rows.topCounterRow.lifted == Tryz.pinned.checked.prog.liftsFinal) = true := (congrArg (fun b => Rows.topCounterRow.lifted == b) sO).trans (by kernel_rfl)
theorem FS : (Tryz.pinned.checked.prog.make == some Rows.topCounterRow.make) = true := (congrArg (fun b => b == some Rows.topCounterRow.make) HK).trans (by kernel_rfl)
theorem FT : ((Rows.topCounterRow.kinds == (if Rows.topCounterRow.domain.isEmpty then [] else Tryz.f12.params.toList.map fun t => match Tryz.pinned.checked.prog.underlying t with | some (.int k) => some k | _ => none))) = true := by kernel_rfl
theorem FU : ((Rows.topCounterRow.pinned == Rows.topCounterRow.pinnedBy)) = true := by kernel_rfl
theorem FV : ((Rows.topCounterRow.veiled == (Tryz.f12.params.toList ++ Rows.topCounterSpec.plain.varTypes Tryz.pinned.checked.prog ++ Tryz.f12.resultTypes.toList).any (Tryz.pinned.checked.prog.veiledRec ·))) = true := by kernel_rfl
theorem FW : (Rows.topCounterRow.veiledFits Tryz.pinned.checked.prog Tryz.f12.params.toList (Tryz.f12.params.toList ++ Rows.topCounterSpec.plain.varTypes Tryz.pinned.checked.prog ++ Tryz.f12.resultTypes.toList)) = true := by kernel_rfl
theorem FX (os : Os) : laidMet Tryz.prog Rows.topCounterRow.laid ((rG os).forCall (fun _ _ => 0) ⟨#[], #[.slice none 0 0], []⟩).memory :=
  laidMet_of_run' 8 (by kernel_rfl) (by kernel_rfl)
theorem zP (os : Os) {H : Type} (enc : TypeId × Value → H) : ∃ x, DataW.whole enc Tryz.prog ((rG os).forCall (fun _ _ => 0) ⟨#[], #[.slice none 0 0], []⟩).memory Tryz.f12.params.toList Rows.topCounterSpec.vars false (#[.slice none 0 0] : Array Value).toList 8 = some x :=
  Option.isSome_iff_exists.1 (by kernel_rfl)
set_option maxRecDepth 100000 in
theorem yJ (os : Os) (started : os.Started) (H : Type) (enc : TypeId × Value → H) (F : Stop.Interp) :
    ReturnsInHanded {} Tryz.checked os 12 .any ((OpenSpec.ofChange Rows.topCounterSpec).preRow enc Tryz.prog Tryz.f12 Rows.topCounterRow.domain false Rows.topCounterRow.laid) (((OpenSpec.ofChange Rows.topCounterSpec).at F).post enc Tryz.prog Tryz.f12 false true false false) := by
 obtain ⟨places, hx⟩ := zP os enc
 refine returnsInHanded_of_row (C := Tryz.checked) (s := OpenSpec.ofChange Rows.topCounterSpec) EZ started (by kernel_rfl) Tryz.func12
  (witness_row_at (enc := enc) (C := Tryz.checked) false (rG os) #[.slice none 0 0] rfl (by kernel_rfl) (by kernel_rfl) (by kernel_rfl)
   (OpenSpec.preRow_of_cond 8 hx rfl (fun k hk => by cases hk) (by kernel_rfl) (FX os))) ?_
 intro W base args ds gs before hval0 hW _ _ hsz hL _ _
 have hval : ∀ (j : Nat) t v, Tryz.f12.params[j]? = some t → args[j]? = some v → Value.okWide Tryz.prog W .any base t v := hval0
 have hW' := hW
 obtain ⟨p, q, hA0, hV, rfl, hfz, hnd⟩ := hW
 have hA : DataW.TrodAll enc Tryz.prog W 0 (fun _ => true) true Tryz.f12.params.toList args.toList ds p := hA0
 rw [Tryz.params12] at hA hval
 have hT := VK hL
 obtain ⟨v0, vs0, d0, ds0, p0, q0, hargs, rfl, rfl, h0, r0⟩ := trodAll_cons hA
 obtain ⟨rfl, rfl, rfl⟩ := trodAll_nil r0
 obtain rfl : args = #[v0] := by cases args; simp_all
 obtain ⟨rfl, rfl⟩ := trodVars_none hV
 have k0 := h0
 have lt0 : ∀ x ∈ p0, x.block < W.heap.size := by obtain ⟨m, hm⟩ := k0; exact DataW.trod_lt m _ _ _ hm
 obtain ⟨a0, len0, cap0, rfl⟩ := okWide_slice Tryz.underlying60 (hval 0 60 v0 rfl rfl)
 obtain ⟨l0, w0⟩ : ∃ l, Ints (whole W) (.slice a0 len0 cap0) l := by
  obtain ⟨fuel, hf⟩ := h0
  exact VL Tryz.underlying60 Tryz.underlying3 (by kernel_rfl) hf
 clear hA0 hval0
 refine (AX W hT (.slice a0 len0 cap0) l0 w0).mono fun e W' ⟨he, bel⟩ => ?_
 subst he
 exact ⟨_, rfl, _, _, _, [], _, [], hW', trodAll_mk1 (shut_bool Tryz.underlying4 _), (trodAll_cons_mk (Below.trod wI (by kernel_rfl) (of_decide_eq_true (by kernel_rfl)) k0 bel lt0) trodAll_mk0), rfl, bel.frame _, fun h => by cases h⟩
set_option maxRecDepth 1000000 in
theorem AY : Rows.TopCounterSaid :=
  OpenClaim.holds_of_cond 12 Tryz.f12 rfl rfl rfl rfl rfl rfl rfl ⟨rfl, rfl, rfl, rfl, rfl⟩ rfl rfl rfl rfl rfl (by as_aux_lemma => kernel_rfl) Tryz.func12 (HI GV nH tB GX GY GZ CD HB tC FB FC FD FE FF FG FH FI FJ FK FL FM FN FP FQ sP vM FR FS FT FU FV FW)
    (of_decide_eq_true (by as_aux_lemma => kernel_rfl)) (by unfold Func.isWrapper; first | (rw [if_pos (by decide +kernel)]; kernel_rfl) | (rw [if_neg (by decide +kernel)]; exact ⟨rfl, rfl⟩))
    (fun os started H enc _ F => by rw [OpenClaim.pre_eq_preRow]; exact yJ os started H enc F)
theorem zQ (f : FuncId) (fn : Func) (hf : Tryz.pinned.checked.prog.funcNamed "canopy/canopytop.TopCounter" = some f) (hfn : Tryz.pinned.checked.prog.funcs[f]? = some fn) :
    false = Tryz.pinned.checked.prog.looks [] ∧ ∀ (j : Nat) t, fn.params[j]? = some t → Tryz.pinned.checked.prog.wantsStandIn t = false := by
 obtain rfl : f = 12 := Option.some.inj ((show Tryz.prog.funcNamed "canopy/canopytop.TopCounter" = some 12 by kernel_rfl).symm.trans hf) |>.symm
 obtain rfl : fn = Tryz.f12 := (Option.some.inj (Tryz.func12.symm.trans hfn)).symm
 refine ⟨by kernel_rfl, fun j t ht => ?_⟩
 have hall : (Tryz.f12.params.all fun t => !Tryz.prog.wantsStandIn t) = true := by kernel_rfl
 have := Array.all_eq_true_iff_forall_mem.1 hall t (Array.mem_of_getElem? ht)
 show Tryz.prog.wantsStandIn t = false
 simpa using this
set_option maxRecDepth 1000000 in
theorem topCounter_holds : Rows.TopCounterCardSaid :=
  Claim7.holds_tied_plain_at .later [] _ _ _ _ AY (fun _ h => by cases h) (by kernel_rfl) (fun _ h => by cases h) topCounter_row_tie rfl ⟨rfl, rfl⟩ (by kernel_rfl) rfl zQ (by kernel_rfl)
#print axioms topCounter_holds
end Go.Proofs.YtilgpdpooildcaaGreatDoor
