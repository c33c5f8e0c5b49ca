/- The law TapeBack: for every input the call returns true, and each argument reads behind the call as it read before. -/
import Derived.Test.YtikklmjengkliaaDoorCTapeBack
import Derived.Test.YtikklmjengkliaaDoorBT1
import Derived.Test.YtikklmjengkliaaDoorBT3
import Derived.Test.YtikklmjengkliaaDoorBT10
namespace Go.Proofs.YtikklmjengkliaaDoor
open Go.ChangeShapes Go.WideShapes Go.ChangeAt Go.RowKit
set_option linter.unusedVariables false
theorem tapeBack_own : ownKnob Tryd.prog.godebug = none := by kernel_rfl
theorem tapeBack_laidOut : laidOutB Tryd.prog = true := seat_laidOut
theorem tapeBack_j1 : (Rows.tapeBackRow.wf (OpenSpec.ofChange Rows.tapeBackSpec)) = true := by kernel_rfl
theorem tapeBack_j4 : (Tryd.f9.params.all (Tryd.pinned.checked.prog.readableRec ·)) = true := by kernel_rfl
theorem tapeBack_j5 : (namedTie Tryd.pinned.checked.prog Rows.tapeBackRow.named Rows.tapeBackSpec.vars) = true := by kernel_rfl
theorem tapeBack_j6 : ((Rows.tapeBackRow.stops == [])) = true := by kernel_rfl
theorem tapeBack_j8 : ((Rows.tapeBackRow.knobs == [])) = true := by kernel_rfl
theorem tapeBack_j10 : ((Rows.tapeBackRow.inPlace == Tryd.pinned.checked.prog.inPlace 9)) = true := by kernel_rfl
theorem tapeBack_j11 : ((Rows.tapeBackRow.unfollowed == Tryd.pinned.checked.prog.unfollowed 9)) = true := by kernel_rfl
theorem tapeBack_j12 : ((Rows.tapeBackRow.recurses == Tryd.pinned.checked.prog.recurses 9)) = true := by kernel_rfl
theorem tapeBack_j13 : ((Rows.tapeBackRow.named == Tryd.pinned.checked.prog.varsNamed 9)) = true := by kernel_rfl
theorem tapeBack_j14 : ((Rows.tapeBackRow.maps == (Tryd.f9.params.toList ++ Rows.tapeBackSpec.plain.varTypes Tryd.pinned.checked.prog).any (Tryd.pinned.checked.prog.mapsRec ·))) = true := by kernel_rfl
theorem tapeBack_j15 : ((Rows.tapeBackRow.ifaces == (Tryd.f9.params.toList ++ Rows.tapeBackSpec.plain.varTypes Tryd.pinned.checked.prog).any (Tryd.pinned.checked.prog.ifacesRec ·))) = true := by kernel_rfl
theorem tapeBack_j16 : ((Rows.tapeBackRow.mapsOut == Tryd.pinned.checked.prog.mapsAmong Tryd.f9.resultTypes.toList)) = true := by kernel_rfl
theorem tapeBack_j17 : ((Rows.tapeBackRow.loops == (Tryd.f9.params.toList ++ Rows.tapeBackSpec.plain.varTypes Tryd.pinned.checked.prog).any (Tryd.pinned.checked.prog.loopsFrom ·))) = true := by kernel_rfl
theorem tapeBack_j18 : ((Rows.tapeBackRow.wideKeys == (Tryd.f9.params.toList ++ Rows.tapeBackSpec.plain.varTypes Tryd.pinned.checked.prog ++ Tryd.f9.resultTypes.toList).any (Tryd.pinned.checked.prog.wideKeysFrom ·))) = true := by kernel_rfl
theorem tapeBack_j19 : (Rows.tapeBackSpec.vars.all (Tryd.pinned.checked.prog.varReadable ·)) = true := by kernel_rfl
theorem tapeBack_j20 : (Tryd.f9.resultTypes.all (fun t => Tryd.pinned.checked.prog.readableRec t && decide (t < Tryd.pinned.checked.prog.types.size))) = true := by kernel_rfl
theorem tapeBack_j21 : ((Rows.tapeBackRow.ifacesOut == Tryd.f9.resultTypes.toList.any (Tryd.pinned.checked.prog.ifacesRec ·))) = true := by kernel_rfl
theorem tapeBack_j22 : ((Rows.tapeBackRow.loopsOut == Tryd.f9.resultTypes.toList.any (Tryd.pinned.checked.prog.loopsFrom ·))) = true := by kernel_rfl
theorem tapeBack_j23 : ((Rows.tapeBackRow.plainKeys == Tryd.pinned.checked.prog.plainKeys)) = true := by kernel_rfl
theorem tapeBack_j24 : (Rows.tapeBackRow.shortTexts.isNone) = true := by kernel_rfl
theorem tapeBack_j27 : (Rows.tapeBackRow.lifted == Tryd.pinned.checked.prog.liftsFinal) = true := (congrArg (fun b => Rows.tapeBackRow.lifted == b) seat_liftsFinal).trans (by kernel_rfl)
theorem tapeBack_j28 : (Tryd.pinned.checked.prog.make == some Rows.tapeBackRow.make) = true := (congrArg (fun b => b == some Rows.tapeBackRow.make) seat_make).trans (by kernel_rfl)
theorem tapeBack_j29 : ((Rows.tapeBackRow.kinds == (if Rows.tapeBackRow.domain.isEmpty then [] else Tryd.f9.params.toList.map fun t => match Tryd.pinned.checked.prog.underlying t with | some (.int k) => some k | _ => none))) = true := by kernel_rfl
theorem tapeBack_j30 : ((Rows.tapeBackRow.pinned == Rows.tapeBackRow.pinnedBy)) = true := by kernel_rfl
theorem tapeBack_j31 : ((Rows.tapeBackRow.veiled == (Tryd.f9.params.toList ++ Rows.tapeBackSpec.plain.varTypes Tryd.pinned.checked.prog ++ Tryd.f9.resultTypes.toList).any (Tryd.pinned.checked.prog.veiledRec ·))) = true := by kernel_rfl
theorem tapeBack_j32 : (Rows.tapeBackRow.veiledFits Tryd.pinned.checked.prog Tryd.f9.params.toList (Tryd.f9.params.toList ++ Rows.tapeBackSpec.plain.varTypes Tryd.pinned.checked.prog ++ Tryd.f9.resultTypes.toList)) = true := by kernel_rfl
theorem tapeBack_met (os : Os) : laidMet Tryd.prog Rows.tapeBackRow.laid ((digWorld os).forCall (fun _ _ => 0) ⟨#[], #[.slice none 0 0], []⟩).memory :=
  laidMet_of_run' 8 (by kernel_rfl) (by kernel_rfl)
theorem tapeBack_reads (os : Os) {H : Type} (enc : TypeId × Value → H) : ∃ x, DataW.whole enc Tryd.prog ((digWorld os).forCall (fun _ _ => 0) ⟨#[], #[.slice none 0 0], []⟩).memory Tryd.f9.params.toList Rows.tapeBackSpec.vars false (#[.slice none 0 0] : Array Value).toList 8 = some x :=
  Option.isSome_iff_exists.1 (by kernel_rfl)
set_option maxRecDepth 100000 in
theorem tapeBack_lifted (os : Os) (started : os.Started) (H : Type) (enc : TypeId × Value → H) (F : Stop.Interp) :
    ReturnsInHanded {} Tryd.checked os 9 .any ((OpenSpec.ofChange Rows.tapeBackSpec).preRow enc Tryd.prog Tryd.f9 Rows.tapeBackRow.domain false Rows.tapeBackRow.laid) (((OpenSpec.ofChange Rows.tapeBackSpec).at F).post enc Tryd.prog Tryd.f9 false true false false) := by
  obtain ⟨places, hx⟩ := tapeBack_reads os enc
  refine returnsInHanded_of_row (C := Tryd.checked) (s := OpenSpec.ofChange Rows.tapeBackSpec) tapeBack_own started (by kernel_rfl) Tryd.func9
    (witness_row_at (enc := enc) (C := Tryd.checked) false (digWorld os) #[.slice none 0 0] rfl (by kernel_rfl) (by kernel_rfl) (by kernel_rfl)
      (OpenSpec.preRow_of_cond 8 hx rfl (fun k hk => by cases hk) (by kernel_rfl) (tapeBack_met os))) ?_
  intro W base args ds gs before hval0 hW _ _ hsz hL _ _
  have hval : ∀ (j : Nat) t v, Tryd.f9.params[j]? = some t → args[j]? = some v → Value.okWide Tryd.prog W .any base t v := hval0
  have hW' := hW
  obtain ⟨p, q, hA0, hV, rfl, hfz, hnd⟩ := hW
  have hA : DataW.TrodAll enc Tryd.prog W 0 (fun _ => true) true Tryd.f9.params.toList args.toList ds p := hA0
  rw [Tryd.params9] at hA hval
  have hT := dig_met hL
  obtain ⟨v0, vs0, d0, ds0, p0, q0, hargs, rfl, rfl, h0, r0⟩ := trodAll_cons hA
  obtain ⟨rfl, rfl, rfl⟩ := trodAll_nil r0
  obtain rfl : args = #[v0] := by cases args; simp_all
  obtain ⟨rfl, rfl⟩ := trodVars_none hV
  have k0 := h0
  have lt0 : ∀ x ∈ p0, x.block < W.heap.size := by obtain ⟨m, hm⟩ := k0; exact DataW.trod_lt m _ _ _ hm
  obtain ⟨a0, len0, cap0, rfl⟩ := okWide_slice Tryd.underlying22 (hval 0 22 v0 rfl rfl)
  obtain ⟨l0, w0⟩ : ∃ l, Pls (whole W) (.slice a0 len0 cap0) l := by
    obtain ⟨fuel, hf⟩ := h0
    exact rd_places Tryd.underlying22 Tryd.underlying45 (by kernel_rfl) (by kernel_rfl) rfl rfl rfl rfl Tryd.underlying23 Tryd.underlying5 (by kernel_rfl) Tryd.underlying4 hf
  clear hA0 hval0
  refine (tapeBack_walk W hT (.slice a0 len0 cap0) l0 w0).mono fun e W' ⟨he, bel⟩ => ?_
  subst he
  exact ⟨_, rfl, _, _, _, [], _, [], hW', trodAll_mk1 (shut_bool Tryd.underlying4 _), (trodAll_cons_mk (Below.trod tapeBack_laidOut (by kernel_rfl) (of_decide_eq_true (by kernel_rfl)) k0 bel lt0) trodAll_mk0), rfl, bel.frame _, fun h => by cases h⟩
set_option maxRecDepth 1000000 in
theorem tapeBack_said : Rows.TapeBackSaid :=
  OpenClaim.holds_of_cond 9 Tryd.f9 rfl rfl rfl rfl rfl rfl rfl ⟨rfl, rfl, rfl, rfl, rfl⟩ rfl rfl rfl rfl rfl (by as_aux_lemma => kernel_rfl) Tryd.func9 (joined_mk tapeBack_j1 seat_laidOut seat_mapsRowed tapeBack_j4 tapeBack_j5 tapeBack_j6 seat_stops tapeBack_j8 seat_stopKnobs tapeBack_j10 tapeBack_j11 tapeBack_j12 tapeBack_j13 tapeBack_j14 tapeBack_j15 tapeBack_j16 tapeBack_j17 tapeBack_j18 tapeBack_j19 tapeBack_j20 tapeBack_j21 tapeBack_j22 tapeBack_j23 tapeBack_j24 seat_stopsHeard seat_mayEnter tapeBack_j27 tapeBack_j28 tapeBack_j29 tapeBack_j30 tapeBack_j31 tapeBack_j32)
    (of_decide_eq_true (by as_aux_lemma => kernel_rfl)) (by unfold Func.isWrapper; first | (rw [if_pos (by decide +kernel)]; kernel_rfl) | (rw [if_neg (by decide +kernel)]; exact ⟨rfl, rfl⟩))
    (fun os started H enc _ F => by rw [OpenClaim.pre_eq_preRow]; exact tapeBack_lifted os started H enc F)
theorem tapeBack_plain (f : FuncId) (fn : Func) (hf : Tryd.pinned.checked.prog.funcNamed "canopy/canopykeep.TapeBack" = some f) (hfn : Tryd.pinned.checked.prog.funcs[f]? = some fn) :
    false = Tryd.pinned.checked.prog.looks [] ∧ ∀ (j : Nat) t, fn.params[j]? = some t → Tryd.pinned.checked.prog.wantsStandIn t = false := by
  obtain rfl : f = 9 := Option.some.inj ((show Tryd.prog.funcNamed "canopy/canopykeep.TapeBack" = some 9 by kernel_rfl).symm.trans hf) |>.symm
  obtain rfl : fn = Tryd.f9 := (Option.some.inj (Tryd.func9.symm.trans hfn)).symm
  refine ⟨by kernel_rfl, fun j t ht => ?_⟩
  have hall : (Tryd.f9.params.all fun t => !Tryd.prog.wantsStandIn t) = true := by kernel_rfl
  have := Array.all_eq_true_iff_forall_mem.1 hall t (Array.mem_of_getElem? ht)
  show Tryd.prog.wantsStandIn t = false
  simpa using this
set_option maxRecDepth 1000000 in
theorem tapeBack_holds : Rows.TapeBackCardSaid :=
  Claim7.holds_tied_plain_at .later [] _ _ _ _ tapeBack_said (fun _ h => by cases h) (by kernel_rfl) (fun _ h => by cases h) tapeBack_row_tie rfl ⟨rfl, rfl⟩ (by kernel_rfl) rfl tapeBack_plain (by kernel_rfl)
#print axioms tapeBack_holds
end Go.Proofs.YtikklmjengkliaaDoor
