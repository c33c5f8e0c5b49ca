/- The law TopTwice: for every input the call returns true, and each argument reads behind the call as it read before. -/
import Derived.Test.YtilgpdpooildcaaGreatDoorCTopTwice
import Derived.Test.YtilgpdpooildcaaGreatDoorCA1
import Derived.Test.YtilgpdpooildcaaGreatDoorCA2
import Derived.Test.YtilgpdpooildcaaGreatDoorCA13
namespace Go.Proofs.YtilgpdpooildcaaGreatDoor
set_option maxHeartbeats 8000000
open Go.ChangeShapes Go.WideShapes Go.ChangeAt Go.RowKit
set_option linter.unusedVariables false
theorem LI : ownKnob Tryz.prog.godebug = none := by kernel_rfl
theorem mS : laidOutB Tryz.prog = true := nN
theorem PQ : (Rows.topTwiceRow.wf (OpenSpec.ofChange Rows.topTwiceSpec)) = true := by kernel_rfl
theorem PR : (Tryz.f5.params.all (Tryz.pinned.checked.prog.readableRec ·)) = true := by kernel_rfl
theorem PS : (namedTie Tryz.pinned.checked.prog Rows.topTwiceRow.named Rows.topTwiceSpec.vars) = true := by kernel_rfl
theorem PT : ((Rows.topTwiceRow.stops == [])) = true := by kernel_rfl
theorem PU : ((Rows.topTwiceRow.knobs == [])) = true := by kernel_rfl
theorem LJ : ((Rows.topTwiceRow.inPlace == Tryz.pinned.checked.prog.inPlace 5)) = true := by kernel_rfl
theorem LK : ((Rows.topTwiceRow.unfollowed == Tryz.pinned.checked.prog.unfollowed 5)) = true := by kernel_rfl
theorem LL : ((Rows.topTwiceRow.recurses == Tryz.pinned.checked.prog.recurses 5)) = true := by kernel_rfl
theorem LM : ((Rows.topTwiceRow.named == Tryz.pinned.checked.prog.varsNamed 5)) = true := by kernel_rfl
theorem LN : ((Rows.topTwiceRow.maps == (Tryz.f5.params.toList ++ Rows.topTwiceSpec.plain.varTypes Tryz.pinned.checked.prog).any (Tryz.pinned.checked.prog.mapsRec ·))) = true := by kernel_rfl
theorem LO : ((Rows.topTwiceRow.ifaces == (Tryz.f5.params.toList ++ Rows.topTwiceSpec.plain.varTypes Tryz.pinned.checked.prog).any (Tryz.pinned.checked.prog.ifacesRec ·))) = true := by kernel_rfl
theorem LP : ((Rows.topTwiceRow.mapsOut == Tryz.pinned.checked.prog.mapsAmong Tryz.f5.resultTypes.toList)) = true := by kernel_rfl
theorem LQ : ((Rows.topTwiceRow.loops == (Tryz.f5.params.toList ++ Rows.topTwiceSpec.plain.varTypes Tryz.pinned.checked.prog).any (Tryz.pinned.checked.prog.loopsFrom ·))) = true := by kernel_rfl
theorem LR : ((Rows.topTwiceRow.wideKeys == (Tryz.f5.params.toList ++ Rows.topTwiceSpec.plain.varTypes Tryz.pinned.checked.prog ++ Tryz.f5.resultTypes.toList).any (Tryz.pinned.checked.prog.wideKeysFrom ·))) = true := by kernel_rfl
theorem LS : (Rows.topTwiceSpec.vars.all (Tryz.pinned.checked.prog.varReadable ·)) = true := by kernel_rfl
theorem LU : (Tryz.f5.resultTypes.all (fun t => Tryz.pinned.checked.prog.readableRec t && decide (t < Tryz.pinned.checked.prog.types.size))) = true := by kernel_rfl
theorem LV : ((Rows.topTwiceRow.ifacesOut == Tryz.f5.resultTypes.toList.any (Tryz.pinned.checked.prog.ifacesRec ·))) = true := by kernel_rfl
theorem LW : ((Rows.topTwiceRow.loopsOut == Tryz.f5.resultTypes.toList.any (Tryz.pinned.checked.prog.loopsFrom ·))) = true := by kernel_rfl
theorem LX : ((Rows.topTwiceRow.plainKeys == Tryz.pinned.checked.prog.plainKeys)) = true := by kernel_rfl
theorem LY : (Rows.topTwiceRow.shortTexts.isNone) = true := by kernel_rfl
theorem LZ : (Rows.topTwiceRow.lifted == Tryz.pinned.checked.prog.liftsFinal) = true := (congrArg (fun b => Rows.topTwiceRow.lifted == b) sN).trans (by kernel_rfl)
theorem MA : (Tryz.pinned.checked.prog.make == some Rows.topTwiceRow.make) = true := (congrArg (fun b => b == some Rows.topTwiceRow.make) GO).trans (by kernel_rfl)
theorem MB : ((Rows.topTwiceRow.kinds == (if Rows.topTwiceRow.domain.isEmpty then [] else Tryz.f5.params.toList.map fun t => match Tryz.pinned.checked.prog.underlying t with | some (.int k) => some k | _ => none))) = true := by kernel_rfl
theorem MC : ((Rows.topTwiceRow.pinned == Rows.topTwiceRow.pinnedBy)) = true := by kernel_rfl
theorem MD : ((Rows.topTwiceRow.veiled == (Tryz.f5.params.toList ++ Rows.topTwiceSpec.plain.varTypes Tryz.pinned.checked.prog ++ Tryz.f5.resultTypes.toList).any (Tryz.pinned.checked.prog.veiledRec ·))) = true := by kernel_rfl
theorem ME : (Rows.topTwiceRow.veiledFits Tryz.pinned.checked.prog Tryz.f5.params.toList (Tryz.f5.params.toList ++ Rows.topTwiceSpec.plain.varTypes Tryz.pinned.checked.prog ++ Tryz.f5.resultTypes.toList)) = true := by kernel_rfl
theorem MF (os : Os) : laidMet Tryz.prog Rows.topTwiceRow.laid ((rI os).forCall (fun _ _ => 0) ⟨#[], #[.slice none 0 0, .int .i64 0, .int .i64 0], []⟩).memory :=
  laidMet_of_run' 8 (by kernel_rfl) (by kernel_rfl)
theorem FG (os : Os) {H : Type} (enc : TypeId × Value → H) : ∃ x, DataW.whole enc Tryz.prog ((rI os).forCall (fun _ _ => 0) ⟨#[], #[.slice none 0 0, .int .i64 0, .int .i64 0], []⟩).memory Tryz.f5.params.toList Rows.topTwiceSpec.vars false (#[.slice none 0 0, .int .i64 0, .int .i64 0] : Array Value).toList 8 = some x :=
  Option.isSome_iff_exists.1 (by kernel_rfl)
set_option maxRecDepth 100000 in
theorem BL (os : Os) (started : os.Started) (H : Type) (enc : TypeId × Value → H) (F : Stop.Interp) :
    ReturnsInHanded {} Tryz.checked os 5 .any ((OpenSpec.ofChange Rows.topTwiceSpec).preRow enc Tryz.prog Tryz.f5 Rows.topTwiceRow.domain false Rows.topTwiceRow.laid) (((OpenSpec.ofChange Rows.topTwiceSpec).at F).post enc Tryz.prog Tryz.f5 false true false false) := by
 obtain ⟨places, hx⟩ := FG os enc
 refine returnsInHanded_of_row (C := Tryz.checked) (s := OpenSpec.ofChange Rows.topTwiceSpec) LI started (by kernel_rfl) Tryz.func5
  (witness_row_at (enc := enc) (C := Tryz.checked) false (rI os) #[.slice none 0 0, .int .i64 0, .int .i64 0] rfl (by kernel_rfl) (by kernel_rfl) (by kernel_rfl)
   (OpenSpec.preRow_of_cond 8 hx rfl (fun k hk => by cases hk) (by kernel_rfl) (MF os))) ?_
 intro W base args ds gs before hval0 hW _ _ hsz hL _ _
 have hval : ∀ (j : Nat) t v, Tryz.f5.params[j]? = some t → args[j]? = some v → Value.okWide Tryz.prog W .any base t v := hval0
 have hW' := hW
 obtain ⟨p, q, hA0, hV, rfl, hfz, hnd⟩ := hW
 have hA : DataW.TrodAll enc Tryz.prog W 0 (fun _ => true) true Tryz.f5.params.toList args.toList ds p := hA0
 rw [Tryz.params5] at hA hval
 have hT := VG hL
 obtain ⟨v0, vs0, d0, ds0, p0, q0, hargs, rfl, rfl, h0, r0⟩ := trodAll_cons hA
 obtain ⟨v1, vs1, d1, ds1, p1, q1, rfl, rfl, rfl, h1, r1⟩ := trodAll_cons r0
 obtain ⟨v2, vs2, d2, ds2, p2, q2, rfl, rfl, rfl, h2, r2⟩ := trodAll_cons r1
 obtain ⟨rfl, rfl, rfl⟩ := trodAll_nil r2
 obtain rfl : args = #[v0, v1, v2] := by cases args; simp_all
 obtain ⟨rfl, rfl⟩ := trodVars_none hV
 have k0 := h0
 have lt0 : ∀ x ∈ p0, x.block < W.heap.size := by obtain ⟨m, hm⟩ := k0; exact DataW.trod_lt m _ _ _ hm
 obtain ⟨a0, len0, cap0, rfl⟩ := okWide_slice Tryz.underlying22 (hval 0 22 v0 rfl rfl)
 obtain ⟨l0, w0⟩ : ∃ l, Ges (whole W) (.slice a0 len0 cap0) l := by
  obtain ⟨fuel, hf⟩ := h0
  exact FF Tryz.underlying22 Tryz.underlying31 (by kernel_rfl) (by kernel_rfl) rfl rfl rfl rfl rfl Tryz.underlying3 hf
 have k1 := h1
 have lt1 : ∀ x ∈ p1, x.block < W.heap.size := by obtain ⟨m, hm⟩ := k1; exact DataW.trod_lt m _ _ _ hm
 obtain ⟨x1, rfl, _, _, wx1⟩ := open_int Tryz.underlying3 (hval 1 3 v1 rfl rfl) h1
 have b1 := bounds_i64 wx1
 have k2 := h2
 have lt2 : ∀ x ∈ p2, x.block < W.heap.size := by obtain ⟨m, hm⟩ := k2; exact DataW.trod_lt m _ _ _ hm
 obtain ⟨x2, rfl, _, _, wx2⟩ := open_int Tryz.underlying3 (hval 2 3 v2 rfl rfl) h2
 have b2 := bounds_i64 wx2
 clear hA0 hval0
 refine (GG W hT (.slice a0 len0 cap0) l0 w0 x1 b1.1 b1.2 x2 b2.1 b2.2).mono fun e W' ⟨he, bel⟩ => ?_
 subst he
 exact ⟨_, rfl, _, _, _, [], _, [], hW', trodAll_mk1 (shut_bool Tryz.underlying4 _), (trodAll_cons_mk (Below.trod mS (by kernel_rfl) (of_decide_eq_true (by kernel_rfl)) k0 bel lt0) (trodAll_cons_mk (Below.trod mS (by kernel_rfl) (of_decide_eq_true (by kernel_rfl)) k1 bel lt1) (trodAll_cons_mk (Below.trod mS (by kernel_rfl) (of_decide_eq_true (by kernel_rfl)) k2 bel lt2) trodAll_mk0))), rfl, bel.frame _, fun h => by cases h⟩
set_option maxRecDepth 1000000 in
theorem GH : Rows.TopTwiceSaid :=
  OpenClaim.holds_of_cond 5 Tryz.f5 rfl rfl rfl rfl rfl rfl rfl ⟨rfl, rfl, rfl, rfl, rfl⟩ rfl rfl rfl rfl rfl (by as_aux_lemma => kernel_rfl) Tryz.func5 (GM PQ nN tB PR PS PT CQ PU tC LJ LK LL LM LN LO LP LQ LR LS LU LV LW LX LY sO vY LZ MA MB MC MD ME)
    (of_decide_eq_true (by as_aux_lemma => kernel_rfl)) (by unfold Func.isWrapper; first | (rw [if_pos (by decide +kernel)]; kernel_rfl) | (rw [if_neg (by decide +kernel)]; exact ⟨rfl, rfl⟩))
    (fun os started H enc _ F => by rw [OpenClaim.pre_eq_preRow]; exact BL os started H enc F)
theorem FH (f : FuncId) (fn : Func) (hf : Tryz.pinned.checked.prog.funcNamed "canopy/canopytop.TopTwice" = some f) (hfn : Tryz.pinned.checked.prog.funcs[f]? = some fn) :
    false = Tryz.pinned.checked.prog.looks [] ∧ ∀ (j : Nat) t, fn.params[j]? = some t → Tryz.pinned.checked.prog.wantsStandIn t = false := by
 obtain rfl : f = 5 := Option.some.inj ((show Tryz.prog.funcNamed "canopy/canopytop.TopTwice" = some 5 by kernel_rfl).symm.trans hf) |>.symm
 obtain rfl : fn = Tryz.f5 := (Option.some.inj (Tryz.func5.symm.trans hfn)).symm
 refine ⟨by kernel_rfl, fun j t ht => ?_⟩
 have hall : (Tryz.f5.params.all fun t => !Tryz.prog.wantsStandIn t) = true := by kernel_rfl
 have := Array.all_eq_true_iff_forall_mem.1 hall t (Array.mem_of_getElem? ht)
 show Tryz.prog.wantsStandIn t = false
 simpa using this
set_option maxRecDepth 1000000 in
theorem topTwice_holds : Rows.TopTwiceCardSaid :=
  Claim7.holds_tied_plain_at .later [] _ _ _ _ GH (fun _ h => by cases h) (by kernel_rfl) (fun _ h => by cases h) topTwice_row_tie rfl ⟨rfl, rfl⟩ (by kernel_rfl) rfl FH (by kernel_rfl)
#print axioms topTwice_holds
end Go.Proofs.YtilgpdpooildcaaGreatDoor
