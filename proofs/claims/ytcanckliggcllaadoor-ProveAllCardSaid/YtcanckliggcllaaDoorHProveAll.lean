/- The law ProveAll: for every input the call returns true, and each argument reads behind the call as it read before. -/
import Derived.Test.YtcanckliggcllaaDoorCProveAll
import Derived.Test.YtcanckliggcllaaDoorCA1
import Derived.Test.YtcanckliggcllaaDoorCA3
import Derived.Test.YtcanckliggcllaaDoorCA7
namespace Go.Proofs.YtcanckliggcllaaDoor
open Go.ChangeShapes Go.WideShapes Go.ChangeAt Go.RowKit
set_option linter.unusedVariables false
theorem proveAll_own : ownKnob Tryd.prog.godebug = none := by kernel_rfl
theorem proveAll_laidOut : laidOutB Tryd.prog = true := seat_laidOut
theorem proveAll_j1 : (Rows.proveAllRow.wf (OpenSpec.ofChange Rows.proveAllSpec)) = true := by kernel_rfl
theorem proveAll_j4 : (Tryd.f11.params.all (Tryd.pinned.checked.prog.readableRec ·)) = true := by kernel_rfl
theorem proveAll_j5 : (namedTie Tryd.pinned.checked.prog Rows.proveAllRow.named Rows.proveAllSpec.vars) = true := by kernel_rfl
theorem proveAll_j6 : ((Rows.proveAllRow.stops == [])) = true := by kernel_rfl
theorem proveAll_j8 : ((Rows.proveAllRow.knobs == [])) = true := by kernel_rfl
theorem proveAll_j10 : ((Rows.proveAllRow.inPlace == Tryd.pinned.checked.prog.inPlace 11)) = true := by kernel_rfl
theorem proveAll_j11 : ((Rows.proveAllRow.unfollowed == Tryd.pinned.checked.prog.unfollowed 11)) = true := by kernel_rfl
theorem proveAll_j12 : ((Rows.proveAllRow.recurses == Tryd.pinned.checked.prog.recurses 11)) = true := by kernel_rfl
theorem proveAll_j13 : ((Rows.proveAllRow.named == Tryd.pinned.checked.prog.varsNamed 11)) = true := by kernel_rfl
theorem proveAll_j14 : ((Rows.proveAllRow.maps == (Tryd.f11.params.toList ++ Rows.proveAllSpec.plain.varTypes Tryd.pinned.checked.prog).any (Tryd.pinned.checked.prog.mapsRec ·))) = true := by kernel_rfl
theorem proveAll_j15 : ((Rows.proveAllRow.ifaces == (Tryd.f11.params.toList ++ Rows.proveAllSpec.plain.varTypes Tryd.pinned.checked.prog).any (Tryd.pinned.checked.prog.ifacesRec ·))) = true := by kernel_rfl
theorem proveAll_j16 : ((Rows.proveAllRow.mapsOut == Tryd.pinned.checked.prog.mapsAmong Tryd.f11.resultTypes.toList)) = true := by kernel_rfl
theorem proveAll_j17 : ((Rows.proveAllRow.loops == (Tryd.f11.params.toList ++ Rows.proveAllSpec.plain.varTypes Tryd.pinned.checked.prog).any (Tryd.pinned.checked.prog.loopsFrom ·))) = true := by kernel_rfl
theorem proveAll_j18 : ((Rows.proveAllRow.wideKeys == (Tryd.f11.params.toList ++ Rows.proveAllSpec.plain.varTypes Tryd.pinned.checked.prog ++ Tryd.f11.resultTypes.toList).any (Tryd.pinned.checked.prog.wideKeysFrom ·))) = true := by kernel_rfl
theorem proveAll_j19 : (Rows.proveAllSpec.vars.all (Tryd.pinned.checked.prog.varReadable ·)) = true := by kernel_rfl
theorem proveAll_j20 : (Tryd.f11.resultTypes.all (fun t => Tryd.pinned.checked.prog.readableRec t && decide (t < Tryd.pinned.checked.prog.types.size))) = true := by kernel_rfl
theorem proveAll_j21 : ((Rows.proveAllRow.ifacesOut == Tryd.f11.resultTypes.toList.any (Tryd.pinned.checked.prog.ifacesRec ·))) = true := by kernel_rfl
theorem proveAll_j22 : ((Rows.proveAllRow.loopsOut == Tryd.f11.resultTypes.toList.any (Tryd.pinned.checked.prog.loopsFrom ·))) = true := by kernel_rfl
theorem proveAll_j23 : ((Rows.proveAllRow.plainKeys == Tryd.pinned.checked.prog.plainKeys)) = true := by kernel_rfl
theorem proveAll_j24 : (Rows.proveAllRow.shortTexts.isNone) = true := by kernel_rfl
theorem proveAll_j27 : (Rows.proveAllRow.lifted == Tryd.pinned.checked.prog.liftsFinal) = true := (congrArg (fun b => Rows.proveAllRow.lifted == b) seat_liftsFinal).trans (by kernel_rfl)
theorem proveAll_j28 : (Tryd.pinned.checked.prog.make == some Rows.proveAllRow.make) = true := (congrArg (fun b => b == some Rows.proveAllRow.make) seat_make).trans (by kernel_rfl)
theorem proveAll_j29 : ((Rows.proveAllRow.kinds == (if Rows.proveAllRow.domain.isEmpty then [] else Tryd.f11.params.toList.map fun t => match Tryd.pinned.checked.prog.underlying t with | some (.int k) => some k | _ => none))) = true := by kernel_rfl
theorem proveAll_j30 : ((Rows.proveAllRow.pinned == Rows.proveAllRow.pinnedBy)) = true := by kernel_rfl
theorem proveAll_j31 : ((Rows.proveAllRow.veiled == (Tryd.f11.params.toList ++ Rows.proveAllSpec.plain.varTypes Tryd.pinned.checked.prog ++ Tryd.f11.resultTypes.toList).any (Tryd.pinned.checked.prog.veiledRec ·))) = true := by kernel_rfl
theorem proveAll_j32 : (Rows.proveAllRow.veiledFits Tryd.pinned.checked.prog Tryd.f11.params.toList (Tryd.f11.params.toList ++ Rows.proveAllSpec.plain.varTypes Tryd.pinned.checked.prog ++ Tryd.f11.resultTypes.toList)) = true := by kernel_rfl
theorem proveAll_met (os : Os) : laidMet Tryd.prog Rows.proveAllRow.laid ((digWorld os).forCall (fun _ _ => 0) ⟨#[], #[.slice none 0 0], []⟩).memory :=
  laidMet_of_run' 8 (by kernel_rfl) (by kernel_rfl)
theorem proveAll_reads (os : Os) {H : Type} (enc : TypeId × Value → H) : ∃ x, DataW.whole enc Tryd.prog ((digWorld os).forCall (fun _ _ => 0) ⟨#[], #[.slice none 0 0], []⟩).memory Tryd.f11.params.toList Rows.proveAllSpec.vars false (#[.slice none 0 0] : Array Value).toList 8 = some x :=
  Option.isSome_iff_exists.1 (by kernel_rfl)
set_option maxRecDepth 100000 in
theorem proveAll_lifted (os : Os) (started : os.Started) (H : Type) (enc : TypeId × Value → H) (F : Stop.Interp) :
    ReturnsInHanded {} Tryd.checked os 11 .any ((OpenSpec.ofChange Rows.proveAllSpec).preRow enc Tryd.prog Tryd.f11 Rows.proveAllRow.domain false Rows.proveAllRow.laid) (((OpenSpec.ofChange Rows.proveAllSpec).at F).post enc Tryd.prog Tryd.f11 false true false false) := by
  obtain ⟨places, hx⟩ := proveAll_reads os enc
  refine returnsInHanded_of_row (C := Tryd.checked) (s := OpenSpec.ofChange Rows.proveAllSpec) proveAll_own started (by kernel_rfl) Tryd.func11
    (witness_row_at (enc := enc) (C := Tryd.checked) false (digWorld os) #[.slice none 0 0] rfl (by kernel_rfl) (by kernel_rfl) (by kernel_rfl)
      (OpenSpec.preRow_of_cond 8 hx rfl (fun k hk => by cases hk) (by kernel_rfl) (proveAll_met os))) ?_
  intro W base args ds gs before hval0 hW _ _ hsz hL _ _
  have hval : ∀ (j : Nat) t v, Tryd.f11.params[j]? = some t → args[j]? = some v → Value.okWide Tryd.prog W .any base t v := hval0
  have hW' := hW
  obtain ⟨p, q, hA0, hV, rfl, hfz, hnd⟩ := hW
  have hA : DataW.TrodAll enc Tryd.prog W 0 (fun _ => true) true Tryd.f11.params.toList args.toList ds p := hA0
  rw [Tryd.params11] at hA hval
  have hT := dig_met hL
  obtain ⟨v0, vs0, d0, ds0, p0, q0, hargs, rfl, rfl, h0, r0⟩ := trodAll_cons hA
  obtain ⟨rfl, rfl, rfl⟩ := trodAll_nil r0
  obtain rfl : args = #[v0] := by cases args; simp_all
  obtain ⟨rfl, rfl⟩ := trodVars_none hV
  have k0 := h0
  have lt0 : ∀ x ∈ p0, x.block < W.heap.size := by obtain ⟨m, hm⟩ := k0; exact DataW.trod_lt m _ _ _ hm
  obtain ⟨a0, len0, cap0, rfl⟩ := okWide_slice Tryd.underlying44 (hval 0 44 v0 rfl rfl)
  obtain ⟨l0, w0⟩ : ∃ l, Prs (whole W) (.slice a0 len0 cap0) l := by
    obtain ⟨fuel, hf⟩ := h0
    exact rd_items Tryd.underlying44 Tryd.underlying36 (by kernel_rfl) (by kernel_rfl) rfl rfl Tryd.underlying22 Tryd.underlying5 (by kernel_rfl) hf
  clear hA0 hval0
  refine (proveAll_walk W hT (.slice a0 len0 cap0) l0 w0).mono fun e W' ⟨he, bel⟩ => ?_
  subst he
  exact ⟨_, rfl, _, _, _, [], _, [], hW', trodAll_mk1 (shut_bool Tryd.underlying4 _), (trodAll_cons_mk (Below.trod proveAll_laidOut (by kernel_rfl) (of_decide_eq_true (by kernel_rfl)) k0 bel lt0) trodAll_mk0), rfl, bel.frame _, fun h => by cases h⟩
set_option maxRecDepth 1000000 in
theorem proveAll_said : Rows.ProveAllSaid :=
  OpenClaim.holds_of_cond 11 Tryd.f11 rfl rfl rfl rfl rfl rfl rfl ⟨rfl, rfl, rfl, rfl, rfl⟩ rfl rfl rfl rfl rfl (by as_aux_lemma => kernel_rfl) Tryd.func11 (joined_mk proveAll_j1 seat_laidOut seat_mapsRowed proveAll_j4 proveAll_j5 proveAll_j6 seat_stops proveAll_j8 seat_stopKnobs proveAll_j10 proveAll_j11 proveAll_j12 proveAll_j13 proveAll_j14 proveAll_j15 proveAll_j16 proveAll_j17 proveAll_j18 proveAll_j19 proveAll_j20 proveAll_j21 proveAll_j22 proveAll_j23 proveAll_j24 seat_stopsHeard seat_mayEnter proveAll_j27 proveAll_j28 proveAll_j29 proveAll_j30 proveAll_j31 proveAll_j32)
    (of_decide_eq_true (by as_aux_lemma => kernel_rfl)) (by unfold Func.isWrapper; first | (rw [if_pos (by decide +kernel)]; kernel_rfl) | (rw [if_neg (by decide +kernel)]; exact ⟨rfl, rfl⟩))
    (fun os started H enc _ F => by rw [OpenClaim.pre_eq_preRow]; exact proveAll_lifted os started H enc F)
theorem proveAll_plain (f : FuncId) (fn : Func) (hf : Tryd.pinned.checked.prog.funcNamed "canopy/canopykeep.ProveAll" = some f) (hfn : Tryd.pinned.checked.prog.funcs[f]? = some fn) :
    false = Tryd.pinned.checked.prog.looks [] ∧ ∀ (j : Nat) t, fn.params[j]? = some t → Tryd.pinned.checked.prog.wantsStandIn t = false := by
  obtain rfl : f = 11 := Option.some.inj ((show Tryd.prog.funcNamed "canopy/canopykeep.ProveAll" = some 11 by kernel_rfl).symm.trans hf) |>.symm
  obtain rfl : fn = Tryd.f11 := (Option.some.inj (Tryd.func11.symm.trans hfn)).symm
  refine ⟨by kernel_rfl, fun j t ht => ?_⟩
  have hall : (Tryd.f11.params.all fun t => !Tryd.prog.wantsStandIn t) = true := by kernel_rfl
  have := Array.all_eq_true_iff_forall_mem.1 hall t (Array.mem_of_getElem? ht)
  show Tryd.prog.wantsStandIn t = false
  simpa using this
set_option maxRecDepth 1000000 in
theorem proveAll_holds : Rows.ProveAllCardSaid :=
  Claim7.holds_tied_plain_at .later [] _ _ _ _ proveAll_said (fun _ h => by cases h) (by kernel_rfl) (fun _ h => by cases h) proveAll_row_tie rfl ⟨rfl, rfl⟩ (by kernel_rfl) rfl proveAll_plain (by kernel_rfl)
#print axioms proveAll_holds
end Go.Proofs.YtcanckliggcllaaDoor
