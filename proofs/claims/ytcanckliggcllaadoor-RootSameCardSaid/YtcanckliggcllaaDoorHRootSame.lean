/- The law RootSame: for every input the call returns true, and each argument reads behind the call as it read before. -/
import Derived.Test.YtcanckliggcllaaDoorCRootSame
import Derived.Test.YtcanckliggcllaaDoorBY21
import Derived.Test.YtcanckliggcllaaDoorBY23
import Derived.Test.YtcanckliggcllaaDoorBY26
namespace Go.Proofs.YtcanckliggcllaaDoor
open Go.ChangeShapes Go.WideShapes Go.ChangeAt Go.RowKit
set_option linter.unusedVariables false
theorem rootSame_own : ownKnob Tryd.prog.godebug = none := by kernel_rfl
theorem rootSame_laidOut : laidOutB Tryd.prog = true := seat_laidOut
theorem rootSame_j1 : (Rows.rootSameRow.wf (OpenSpec.ofChange Rows.rootSameSpec)) = true := by kernel_rfl
theorem rootSame_j4 : (Tryd.f9.params.all (Tryd.pinned.checked.prog.readableRec ·)) = true := by kernel_rfl
theorem rootSame_j5 : (namedTie Tryd.pinned.checked.prog Rows.rootSameRow.named Rows.rootSameSpec.vars) = true := by kernel_rfl
theorem rootSame_j6 : ((Rows.rootSameRow.stops == [])) = true := by kernel_rfl
theorem rootSame_j8 : ((Rows.rootSameRow.knobs == [])) = true := by kernel_rfl
theorem rootSame_j10 : ((Rows.rootSameRow.inPlace == Tryd.pinned.checked.prog.inPlace 9)) = true := by kernel_rfl
theorem rootSame_j11 : ((Rows.rootSameRow.unfollowed == Tryd.pinned.checked.prog.unfollowed 9)) = true := by kernel_rfl
theorem rootSame_j12 : ((Rows.rootSameRow.recurses == Tryd.pinned.checked.prog.recurses 9)) = true := by kernel_rfl
theorem rootSame_j13 : ((Rows.rootSameRow.named == Tryd.pinned.checked.prog.varsNamed 9)) = true := by kernel_rfl
theorem rootSame_j14 : ((Rows.rootSameRow.maps == (Tryd.f9.params.toList ++ Rows.rootSameSpec.plain.varTypes Tryd.pinned.checked.prog).any (Tryd.pinned.checked.prog.mapsRec ·))) = true := by kernel_rfl
theorem rootSame_j15 : ((Rows.rootSameRow.ifaces == (Tryd.f9.params.toList ++ Rows.rootSameSpec.plain.varTypes Tryd.pinned.checked.prog).any (Tryd.pinned.checked.prog.ifacesRec ·))) = true := by kernel_rfl
theorem rootSame_j16 : ((Rows.rootSameRow.mapsOut == Tryd.pinned.checked.prog.mapsAmong Tryd.f9.resultTypes.toList)) = true := by kernel_rfl
theorem rootSame_j17 : ((Rows.rootSameRow.loops == (Tryd.f9.params.toList ++ Rows.rootSameSpec.plain.varTypes Tryd.pinned.checked.prog).any (Tryd.pinned.checked.prog.loopsFrom ·))) = true := by kernel_rfl
theorem rootSame_j18 : ((Rows.rootSameRow.wideKeys == (Tryd.f9.params.toList ++ Rows.rootSameSpec.plain.varTypes Tryd.pinned.checked.prog ++ Tryd.f9.resultTypes.toList).any (Tryd.pinned.checked.prog.wideKeysFrom ·))) = true := by kernel_rfl
theorem rootSame_j19 : (Rows.rootSameSpec.vars.all (Tryd.pinned.checked.prog.varReadable ·)) = true := by kernel_rfl
theorem rootSame_j20 : (Tryd.f9.resultTypes.all (fun t => Tryd.pinned.checked.prog.readableRec t && decide (t < Tryd.pinned.checked.prog.types.size))) = true := by kernel_rfl
theorem rootSame_j21 : ((Rows.rootSameRow.ifacesOut == Tryd.f9.resultTypes.toList.any (Tryd.pinned.checked.prog.ifacesRec ·))) = true := by kernel_rfl
theorem rootSame_j22 : ((Rows.rootSameRow.loopsOut == Tryd.f9.resultTypes.toList.any (Tryd.pinned.checked.prog.loopsFrom ·))) = true := by kernel_rfl
theorem rootSame_j23 : ((Rows.rootSameRow.plainKeys == Tryd.pinned.checked.prog.plainKeys)) = true := by kernel_rfl
theorem rootSame_j24 : (Rows.rootSameRow.shortTexts.isNone) = true := by kernel_rfl
theorem rootSame_j27 : (Rows.rootSameRow.lifted == Tryd.pinned.checked.prog.liftsFinal) = true := (congrArg (fun b => Rows.rootSameRow.lifted == b) seat_liftsFinal).trans (by kernel_rfl)
theorem rootSame_j28 : (Tryd.pinned.checked.prog.make == some Rows.rootSameRow.make) = true := (congrArg (fun b => b == some Rows.rootSameRow.make) seat_make).trans (by kernel_rfl)
theorem rootSame_j29 : ((Rows.rootSameRow.kinds == (if Rows.rootSameRow.domain.isEmpty then [] else Tryd.f9.params.toList.map fun t => match Tryd.pinned.checked.prog.underlying t with | some (.int k) => some k | _ => none))) = true := by kernel_rfl
theorem rootSame_j30 : ((Rows.rootSameRow.pinned == Rows.rootSameRow.pinnedBy)) = true := by kernel_rfl
theorem rootSame_j31 : ((Rows.rootSameRow.veiled == (Tryd.f9.params.toList ++ Rows.rootSameSpec.plain.varTypes Tryd.pinned.checked.prog ++ Tryd.f9.resultTypes.toList).any (Tryd.pinned.checked.prog.veiledRec ·))) = true := by kernel_rfl
theorem rootSame_j32 : (Rows.rootSameRow.veiledFits Tryd.pinned.checked.prog Tryd.f9.params.toList (Tryd.f9.params.toList ++ Rows.rootSameSpec.plain.varTypes Tryd.pinned.checked.prog ++ Tryd.f9.resultTypes.toList)) = true := by kernel_rfl
theorem rootSame_met (os : Os) : laidMet Tryd.prog Rows.rootSameRow.laid ((digWorld os).forCall (fun _ _ => 0) ⟨#[], #[.slice none 0 0, .slice none 0 0, .slice none 0 0], []⟩).memory :=
  laidMet_of_run' 8 (by kernel_rfl) (by kernel_rfl)
theorem rootSame_reads (os : Os) {H : Type} (enc : TypeId × Value → H) : ∃ x, DataW.whole enc Tryd.prog ((digWorld os).forCall (fun _ _ => 0) ⟨#[], #[.slice none 0 0, .slice none 0 0, .slice none 0 0], []⟩).memory Tryd.f9.params.toList Rows.rootSameSpec.vars false (#[.slice none 0 0, .slice none 0 0, .slice none 0 0] : Array Value).toList 8 = some x :=
  Option.isSome_iff_exists.1 (by kernel_rfl)
set_option maxRecDepth 100000 in
theorem rootSame_lifted (os : Os) (started : os.Started) (H : Type) (enc : TypeId × Value → H) (F : Stop.Interp) :
    ReturnsInHanded {} Tryd.checked os 9 .any ((OpenSpec.ofChange Rows.rootSameSpec).preRow enc Tryd.prog Tryd.f9 Rows.rootSameRow.domain false Rows.rootSameRow.laid) (((OpenSpec.ofChange Rows.rootSameSpec).at F).post enc Tryd.prog Tryd.f9 false true false false) := by
  obtain ⟨places, hx⟩ := rootSame_reads os enc
  refine returnsInHanded_of_row (C := Tryd.checked) (s := OpenSpec.ofChange Rows.rootSameSpec) rootSame_own started (by kernel_rfl) Tryd.func9
    (witness_row_at (enc := enc) (C := Tryd.checked) false (digWorld os) #[.slice none 0 0, .slice none 0 0, .slice none 0 0] rfl (by kernel_rfl) (by kernel_rfl) (by kernel_rfl)
      (OpenSpec.preRow_of_cond 8 hx rfl (fun k hk => by cases hk) (by kernel_rfl) (rootSame_met os))) ?_
  intro W base args ds gs before hval0 hW _ _ hsz hL _ _
  have hval : ∀ (j : Nat) t v, Tryd.f9.params[j]? = some t → args[j]? = some v → Value.okWide Tryd.prog W .any base t v := hval0
  have hW' := hW
  obtain ⟨p, q, hA0, hV, rfl, hfz, hnd⟩ := hW
  have hA : DataW.TrodAll enc Tryd.prog W 0 (fun _ => true) true Tryd.f9.params.toList args.toList ds p := hA0
  rw [Tryd.params9] at hA hval
  have hT := dig_met hL
  obtain ⟨v0, vs0, d0, ds0, p0, q0, hargs, rfl, rfl, h0, r0⟩ := trodAll_cons hA
  obtain ⟨v1, vs1, d1, ds1, p1, q1, rfl, rfl, rfl, h1, r1⟩ := trodAll_cons r0
  obtain ⟨v2, vs2, d2, ds2, p2, q2, rfl, rfl, rfl, h2, r2⟩ := trodAll_cons r1
  obtain ⟨rfl, rfl, rfl⟩ := trodAll_nil r2
  obtain rfl : args = #[v0, v1, v2] := by cases args; simp_all
  obtain ⟨rfl, rfl⟩ := trodVars_none hV
  have k0 := h0
  have lt0 : ∀ x ∈ p0, x.block < W.heap.size := by obtain ⟨m, hm⟩ := k0; exact DataW.trod_lt m _ _ _ hm
  obtain ⟨a0, len0, cap0, rfl⟩ := okWide_slice Tryd.underlying44 (hval 0 44 v0 rfl rfl)
  obtain ⟨l0, w0⟩ : ∃ l, Prs (whole W) (.slice a0 len0 cap0) l := by
    obtain ⟨fuel, hf⟩ := h0
    exact rd_items Tryd.underlying44 Tryd.underlying36 (by kernel_rfl) (by kernel_rfl) rfl rfl Tryd.underlying22 Tryd.underlying5 (by kernel_rfl) hf
  have k1 := h1
  have lt1 : ∀ x ∈ p1, x.block < W.heap.size := by obtain ⟨m, hm⟩ := k1; exact DataW.trod_lt m _ _ _ hm
  obtain ⟨a1, len1, cap1, rfl⟩ := okWide_slice Tryd.underlying56 (hval 1 56 v1 rfl rfl)
  obtain ⟨l1, w1⟩ : ∃ l, Ints (whole W) (.slice a1 len1 cap1) l := by
    obtain ⟨fuel, hf⟩ := h1
    exact rd_ints Tryd.underlying56 Tryd.underlying3 (by kernel_rfl) hf
  have k2 := h2
  have lt2 : ∀ x ∈ p2, x.block < W.heap.size := by obtain ⟨m, hm⟩ := k2; exact DataW.trod_lt m _ _ _ hm
  obtain ⟨a2, len2, cap2, rfl⟩ := okWide_slice Tryd.underlying22 (hval 2 22 v2 rfl rfl)
  obtain ⟨l2, w2⟩ : ∃ l, Bs (whole W) (.slice a2 len2 cap2) l := by
    obtain ⟨fuel, hf⟩ := h2
    exact rd_bytes_cells Tryd.underlying22 Tryd.underlying5 (by kernel_rfl) hf
  clear hA0 hval0
  refine (rootSame_walk W hT (.slice a0 len0 cap0) l0 w0 (.slice a1 len1 cap1) l1 w1 (.slice a2 len2 cap2) l2 w2).mono fun e W' ⟨he, bel⟩ => ?_
  subst he
  exact ⟨_, rfl, _, _, _, [], _, [], hW', trodAll_mk1 (shut_bool Tryd.underlying4 _), (trodAll_cons_mk (Below.trod rootSame_laidOut (by kernel_rfl) (of_decide_eq_true (by kernel_rfl)) k0 bel lt0) (trodAll_cons_mk (Below.trod rootSame_laidOut (by kernel_rfl) (of_decide_eq_true (by kernel_rfl)) k1 bel lt1) (trodAll_cons_mk (Below.trod rootSame_laidOut (by kernel_rfl) (of_decide_eq_true (by kernel_rfl)) k2 bel lt2) trodAll_mk0))), rfl, bel.frame _, fun h => by cases h⟩
set_option maxRecDepth 1000000 in
theorem rootSame_said : Rows.RootSameSaid :=
  OpenClaim.holds_of_cond 9 Tryd.f9 rfl rfl rfl rfl rfl rfl rfl ⟨rfl, rfl, rfl, rfl, rfl⟩ rfl rfl rfl rfl rfl (by as_aux_lemma => kernel_rfl) Tryd.func9 (joined_mk rootSame_j1 seat_laidOut seat_mapsRowed rootSame_j4 rootSame_j5 rootSame_j6 seat_stops rootSame_j8 seat_stopKnobs rootSame_j10 rootSame_j11 rootSame_j12 rootSame_j13 rootSame_j14 rootSame_j15 rootSame_j16 rootSame_j17 rootSame_j18 rootSame_j19 rootSame_j20 rootSame_j21 rootSame_j22 rootSame_j23 rootSame_j24 seat_stopsHeard seat_mayEnter rootSame_j27 rootSame_j28 rootSame_j29 rootSame_j30 rootSame_j31 rootSame_j32)
    (of_decide_eq_true (by as_aux_lemma => kernel_rfl)) (by unfold Func.isWrapper; first | (rw [if_pos (by decide +kernel)]; kernel_rfl) | (rw [if_neg (by decide +kernel)]; exact ⟨rfl, rfl⟩))
    (fun os started H enc _ F => by rw [OpenClaim.pre_eq_preRow]; exact rootSame_lifted os started H enc F)
theorem rootSame_plain (f : FuncId) (fn : Func) (hf : Tryd.pinned.checked.prog.funcNamed "canopy/canopykeep.RootSame" = some f) (hfn : Tryd.pinned.checked.prog.funcs[f]? = some fn) :
    false = Tryd.pinned.checked.prog.looks [] ∧ ∀ (j : Nat) t, fn.params[j]? = some t → Tryd.pinned.checked.prog.wantsStandIn t = false := by
  obtain rfl : f = 9 := Option.some.inj ((show Tryd.prog.funcNamed "canopy/canopykeep.RootSame" = some 9 by kernel_rfl).symm.trans hf) |>.symm
  obtain rfl : fn = Tryd.f9 := (Option.some.inj (Tryd.func9.symm.trans hfn)).symm
  refine ⟨by kernel_rfl, fun j t ht => ?_⟩
  have hall : (Tryd.f9.params.all fun t => !Tryd.prog.wantsStandIn t) = true := by kernel_rfl
  have := Array.all_eq_true_iff_forall_mem.1 hall t (Array.mem_of_getElem? ht)
  show Tryd.prog.wantsStandIn t = false
  simpa using this
set_option maxRecDepth 1000000 in
theorem rootSame_holds : Rows.RootSameCardSaid :=
  Claim7.holds_tied_plain_at .later [] _ _ _ _ rootSame_said (fun _ h => by cases h) (by kernel_rfl) (fun _ h => by cases h) rootSame_row_tie rfl ⟨rfl, rfl⟩ (by kernel_rfl) rfl rootSame_plain (by kernel_rfl)
#print axioms rootSame_holds
end Go.Proofs.YtcanckliggcllaaDoor
