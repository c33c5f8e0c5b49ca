/- The law ProofParts: for every input the call returns true, and each argument reads behind the call as it read before. -/
import Derived.Test.YtcanckliggcllaaDoorCProofParts
import Derived.Test.YtcanckliggcllaaDoorCA1
import Derived.Test.YtcanckliggcllaaDoorCA3
import Derived.Test.YtcanckliggcllaaDoorCA7
namespace Go.Proofs.YtcanckliggcllaaDoor
open Go.ChangeShapes Go.WideShapes Go.ChangeAt Go.RowKit
set_option linter.unusedVariables false
theorem proofParts_own : ownKnob Tryd.prog.godebug = none := by kernel_rfl
theorem proofParts_laidOut : laidOutB Tryd.prog = true := seat_laidOut
theorem proofParts_j1 : (Rows.proofPartsRow.wf (OpenSpec.ofChange Rows.proofPartsSpec)) = true := by kernel_rfl
theorem proofParts_j4 : (Tryd.f12.params.all (Tryd.pinned.checked.prog.readableRec ·)) = true := by kernel_rfl
theorem proofParts_j5 : (namedTie Tryd.pinned.checked.prog Rows.proofPartsRow.named Rows.proofPartsSpec.vars) = true := by kernel_rfl
theorem proofParts_j6 : ((Rows.proofPartsRow.stops == [])) = true := by kernel_rfl
theorem proofParts_j8 : ((Rows.proofPartsRow.knobs == [])) = true := by kernel_rfl
theorem proofParts_j10 : ((Rows.proofPartsRow.inPlace == Tryd.pinned.checked.prog.inPlace 12)) = true := by kernel_rfl
theorem proofParts_j11 : ((Rows.proofPartsRow.unfollowed == Tryd.pinned.checked.prog.unfollowed 12)) = true := by kernel_rfl
theorem proofParts_j12 : ((Rows.proofPartsRow.recurses == Tryd.pinned.checked.prog.recurses 12)) = true := by kernel_rfl
theorem proofParts_j13 : ((Rows.proofPartsRow.named == Tryd.pinned.checked.prog.varsNamed 12)) = true := by kernel_rfl
theorem proofParts_j14 : ((Rows.proofPartsRow.maps == (Tryd.f12.params.toList ++ Rows.proofPartsSpec.plain.varTypes Tryd.pinned.checked.prog).any (Tryd.pinned.checked.prog.mapsRec ·))) = true := by kernel_rfl
theorem proofParts_j15 : ((Rows.proofPartsRow.ifaces == (Tryd.f12.params.toList ++ Rows.proofPartsSpec.plain.varTypes Tryd.pinned.checked.prog).any (Tryd.pinned.checked.prog.ifacesRec ·))) = true := by kernel_rfl
theorem proofParts_j16 : ((Rows.proofPartsRow.mapsOut == Tryd.pinned.checked.prog.mapsAmong Tryd.f12.resultTypes.toList)) = true := by kernel_rfl
theorem proofParts_j17 : ((Rows.proofPartsRow.loops == (Tryd.f12.params.toList ++ Rows.proofPartsSpec.plain.varTypes Tryd.pinned.checked.prog).any (Tryd.pinned.checked.prog.loopsFrom ·))) = true := by kernel_rfl
theorem proofParts_j18 : ((Rows.proofPartsRow.wideKeys == (Tryd.f12.params.toList ++ Rows.proofPartsSpec.plain.varTypes Tryd.pinned.checked.prog ++ Tryd.f12.resultTypes.toList).any (Tryd.pinned.checked.prog.wideKeysFrom ·))) = true := by kernel_rfl
theorem proofParts_j19 : (Rows.proofPartsSpec.vars.all (Tryd.pinned.checked.prog.varReadable ·)) = true := by kernel_rfl
theorem proofParts_j20 : (Tryd.f12.resultTypes.all (fun t => Tryd.pinned.checked.prog.readableRec t && decide (t < Tryd.pinned.checked.prog.types.size))) = true := by kernel_rfl
theorem proofParts_j21 : ((Rows.proofPartsRow.ifacesOut == Tryd.f12.resultTypes.toList.any (Tryd.pinned.checked.prog.ifacesRec ·))) = true := by kernel_rfl
theorem proofParts_j22 : ((Rows.proofPartsRow.loopsOut == Tryd.f12.resultTypes.toList.any (Tryd.pinned.checked.prog.loopsFrom ·))) = true := by kernel_rfl
theorem proofParts_j23 : ((Rows.proofPartsRow.plainKeys == Tryd.pinned.checked.prog.plainKeys)) = true := by kernel_rfl
theorem proofParts_j24 : (Rows.proofPartsRow.shortTexts.isNone) = true := by kernel_rfl
theorem proofParts_j27 : (Rows.proofPartsRow.lifted == Tryd.pinned.checked.prog.liftsFinal) = true := (congrArg (fun b => Rows.proofPartsRow.lifted == b) seat_liftsFinal).trans (by kernel_rfl)
theorem proofParts_j28 : (Tryd.pinned.checked.prog.make == some Rows.proofPartsRow.make) = true := (congrArg (fun b => b == some Rows.proofPartsRow.make) seat_make).trans (by kernel_rfl)
theorem proofParts_j29 : ((Rows.proofPartsRow.kinds == (if Rows.proofPartsRow.domain.isEmpty then [] else Tryd.f12.params.toList.map fun t => match Tryd.pinned.checked.prog.underlying t with | some (.int k) => some k | _ => none))) = true := by kernel_rfl
theorem proofParts_j30 : ((Rows.proofPartsRow.pinned == Rows.proofPartsRow.pinnedBy)) = true := by kernel_rfl
theorem proofParts_j31 : ((Rows.proofPartsRow.veiled == (Tryd.f12.params.toList ++ Rows.proofPartsSpec.plain.varTypes Tryd.pinned.checked.prog ++ Tryd.f12.resultTypes.toList).any (Tryd.pinned.checked.prog.veiledRec ·))) = true := by kernel_rfl
theorem proofParts_j32 : (Rows.proofPartsRow.veiledFits Tryd.pinned.checked.prog Tryd.f12.params.toList (Tryd.f12.params.toList ++ Rows.proofPartsSpec.plain.varTypes Tryd.pinned.checked.prog ++ Tryd.f12.resultTypes.toList)) = true := by kernel_rfl
theorem proofParts_met (os : Os) : laidMet Tryd.prog Rows.proofPartsRow.laid ((digWorld os).forCall (fun _ _ => 0) ⟨#[], #[.slice none 0 0, .slice none 0 0], []⟩).memory :=
  laidMet_of_run' 8 (by kernel_rfl) (by kernel_rfl)
theorem proofParts_reads (os : Os) {H : Type} (enc : TypeId × Value → H) : ∃ x, DataW.whole enc Tryd.prog ((digWorld os).forCall (fun _ _ => 0) ⟨#[], #[.slice none 0 0, .slice none 0 0], []⟩).memory Tryd.f12.params.toList Rows.proofPartsSpec.vars false (#[.slice none 0 0, .slice none 0 0] : Array Value).toList 8 = some x :=
  Option.isSome_iff_exists.1 (by kernel_rfl)
set_option maxRecDepth 100000 in
theorem proofParts_lifted (os : Os) (started : os.Started) (H : Type) (enc : TypeId × Value → H) (F : Stop.Interp) :
    ReturnsInHanded {} Tryd.checked os 12 .any ((OpenSpec.ofChange Rows.proofPartsSpec).preRow enc Tryd.prog Tryd.f12 Rows.proofPartsRow.domain false Rows.proofPartsRow.laid) (((OpenSpec.ofChange Rows.proofPartsSpec).at F).post enc Tryd.prog Tryd.f12 false true false false) := by
  obtain ⟨places, hx⟩ := proofParts_reads os enc
  refine returnsInHanded_of_row (C := Tryd.checked) (s := OpenSpec.ofChange Rows.proofPartsSpec) proofParts_own started (by kernel_rfl) Tryd.func12
    (witness_row_at (enc := enc) (C := Tryd.checked) false (digWorld os) #[.slice none 0 0, .slice none 0 0] rfl (by kernel_rfl) (by kernel_rfl) (by kernel_rfl)
      (OpenSpec.preRow_of_cond 8 hx rfl (fun k hk => by cases hk) (by kernel_rfl) (proofParts_met os))) ?_
  intro W base args ds gs before hval0 hW _ _ hsz hL _ _
  have hval : ∀ (j : Nat) t v, Tryd.f12.params[j]? = some t → args[j]? = some v → Value.okWide Tryd.prog W .any base t v := hval0
  have hW' := hW
  obtain ⟨p, q, hA0, hV, rfl, hfz, hnd⟩ := hW
  have hA : DataW.TrodAll enc Tryd.prog W 0 (fun _ => true) true Tryd.f12.params.toList args.toList ds p := hA0
  rw [Tryd.params12] at hA hval
  have hT := dig_met hL
  obtain ⟨v0, vs0, d0, ds0, p0, q0, hargs, rfl, rfl, h0, r0⟩ := trodAll_cons hA
  obtain ⟨v1, vs1, d1, ds1, p1, q1, rfl, rfl, rfl, h1, r1⟩ := trodAll_cons r0
  obtain ⟨rfl, rfl, rfl⟩ := trodAll_nil r1
  obtain rfl : args = #[v0, v1] := by cases args; simp_all
  obtain ⟨rfl, rfl⟩ := trodVars_none hV
  have k0 := h0
  have lt0 : ∀ x ∈ p0, x.block < W.heap.size := by obtain ⟨m, hm⟩ := k0; exact DataW.trod_lt m _ _ _ hm
  obtain ⟨a0, len0, cap0, rfl⟩ := okWide_slice Tryd.underlying44 (hval 0 44 v0 rfl rfl)
  obtain ⟨l0, w0⟩ : ∃ l, Prs (whole W) (.slice a0 len0 cap0) l := by
    obtain ⟨fuel, hf⟩ := h0
    exact rd_items Tryd.underlying44 Tryd.underlying36 (by kernel_rfl) (by kernel_rfl) rfl rfl Tryd.underlying22 Tryd.underlying5 (by kernel_rfl) hf
  have k1 := h1
  have lt1 : ∀ x ∈ p1, x.block < W.heap.size := by obtain ⟨m, hm⟩ := k1; exact DataW.trod_lt m _ _ _ hm
  obtain ⟨a1, len1, cap1, rfl⟩ := okWide_slice Tryd.underlying22 (hval 1 22 v1 rfl rfl)
  obtain ⟨l1, w1⟩ : ∃ l, Bs (whole W) (.slice a1 len1 cap1) l := by
    obtain ⟨fuel, hf⟩ := h1
    exact rd_bytes_cells Tryd.underlying22 Tryd.underlying5 (by kernel_rfl) hf
  clear hA0 hval0
  refine (proofParts_walk W hT (.slice a0 len0 cap0) l0 w0 (.slice a1 len1 cap1) l1 w1).mono fun e W' ⟨he, bel⟩ => ?_
  subst he
  exact ⟨_, rfl, _, _, _, [], _, [], hW', trodAll_mk1 (shut_bool Tryd.underlying4 _), (trodAll_cons_mk (Below.trod proofParts_laidOut (by kernel_rfl) (of_decide_eq_true (by kernel_rfl)) k0 bel lt0) (trodAll_cons_mk (Below.trod proofParts_laidOut (by kernel_rfl) (of_decide_eq_true (by kernel_rfl)) k1 bel lt1) trodAll_mk0)), rfl, bel.frame _, fun h => by cases h⟩
set_option maxRecDepth 1000000 in
theorem proofParts_said : Rows.ProofPartsSaid :=
  OpenClaim.holds_of_cond 12 Tryd.f12 rfl rfl rfl rfl rfl rfl rfl ⟨rfl, rfl, rfl, rfl, rfl⟩ rfl rfl rfl rfl rfl (by as_aux_lemma => kernel_rfl) Tryd.func12 (joined_mk proofParts_j1 seat_laidOut seat_mapsRowed proofParts_j4 proofParts_j5 proofParts_j6 seat_stops proofParts_j8 seat_stopKnobs proofParts_j10 proofParts_j11 proofParts_j12 proofParts_j13 proofParts_j14 proofParts_j15 proofParts_j16 proofParts_j17 proofParts_j18 proofParts_j19 proofParts_j20 proofParts_j21 proofParts_j22 proofParts_j23 proofParts_j24 seat_stopsHeard seat_mayEnter proofParts_j27 proofParts_j28 proofParts_j29 proofParts_j30 proofParts_j31 proofParts_j32)
    (of_decide_eq_true (by as_aux_lemma => kernel_rfl)) (by unfold Func.isWrapper; first | (rw [if_pos (by decide +kernel)]; kernel_rfl) | (rw [if_neg (by decide +kernel)]; exact ⟨rfl, rfl⟩))
    (fun os started H enc _ F => by rw [OpenClaim.pre_eq_preRow]; exact proofParts_lifted os started H enc F)
theorem proofParts_plain (f : FuncId) (fn : Func) (hf : Tryd.pinned.checked.prog.funcNamed "canopy/canopykeep.ProofParts" = some f) (hfn : Tryd.pinned.checked.prog.funcs[f]? = some fn) :
    false = Tryd.pinned.checked.prog.looks [] ∧ ∀ (j : Nat) t, fn.params[j]? = some t → Tryd.pinned.checked.prog.wantsStandIn t = false := by
  obtain rfl : f = 12 := Option.some.inj ((show Tryd.prog.funcNamed "canopy/canopykeep.ProofParts" = some 12 by kernel_rfl).symm.trans hf) |>.symm
  obtain rfl : fn = Tryd.f12 := (Option.some.inj (Tryd.func12.symm.trans hfn)).symm
  refine ⟨by kernel_rfl, fun j t ht => ?_⟩
  have hall : (Tryd.f12.params.all fun t => !Tryd.prog.wantsStandIn t) = true := by kernel_rfl
  have := Array.all_eq_true_iff_forall_mem.1 hall t (Array.mem_of_getElem? ht)
  show Tryd.prog.wantsStandIn t = false
  simpa using this
set_option maxRecDepth 1000000 in
theorem proofParts_holds : Rows.ProofPartsCardSaid :=
  Claim7.holds_tied_plain_at .later [] _ _ _ _ proofParts_said (fun _ h => by cases h) (by kernel_rfl) (fun _ h => by cases h) proofParts_row_tie rfl ⟨rfl, rfl⟩ (by kernel_rfl) rfl proofParts_plain (by kernel_rfl)
#print axioms proofParts_holds
end Go.Proofs.YtcanckliggcllaaDoor
