/- The law ProofForm: for every input the call returns true, and each argument reads behind the call as it read before. -/
import Derived.Test.YtcanckliggcllaaDoorCProofForm
import Derived.Test.YtcanckliggcllaaDoorBV1
import Derived.Test.YtcanckliggcllaaDoorBV2
import Derived.Test.YtcanckliggcllaaDoorBV7
namespace Go.Proofs.YtcanckliggcllaaDoor
open Go.ChangeShapes Go.WideShapes Go.ChangeAt Go.RowKit
set_option linter.unusedVariables false
theorem proofForm_own : ownKnob Tryd.prog.godebug = none := by kernel_rfl
theorem proofForm_laidOut : laidOutB Tryd.prog = true := seat_laidOut
theorem proofForm_j1 : (Rows.proofFormRow.wf (OpenSpec.ofChange Rows.proofFormSpec)) = true := by kernel_rfl
theorem proofForm_j4 : (Tryd.f14.params.all (Tryd.pinned.checked.prog.readableRec ·)) = true := by kernel_rfl
theorem proofForm_j5 : (namedTie Tryd.pinned.checked.prog Rows.proofFormRow.named Rows.proofFormSpec.vars) = true := by kernel_rfl
theorem proofForm_j6 : ((Rows.proofFormRow.stops == [])) = true := by kernel_rfl
theorem proofForm_j8 : ((Rows.proofFormRow.knobs == [])) = true := by kernel_rfl
theorem proofForm_j10 : ((Rows.proofFormRow.inPlace == Tryd.pinned.checked.prog.inPlace 14)) = true := by kernel_rfl
theorem proofForm_j11 : ((Rows.proofFormRow.unfollowed == Tryd.pinned.checked.prog.unfollowed 14)) = true := by kernel_rfl
theorem proofForm_j12 : ((Rows.proofFormRow.recurses == Tryd.pinned.checked.prog.recurses 14)) = true := by kernel_rfl
theorem proofForm_j13 : ((Rows.proofFormRow.named == Tryd.pinned.checked.prog.varsNamed 14)) = true := by kernel_rfl
theorem proofForm_j14 : ((Rows.proofFormRow.maps == (Tryd.f14.params.toList ++ Rows.proofFormSpec.plain.varTypes Tryd.pinned.checked.prog).any (Tryd.pinned.checked.prog.mapsRec ·))) = true := by kernel_rfl
theorem proofForm_j15 : ((Rows.proofFormRow.ifaces == (Tryd.f14.params.toList ++ Rows.proofFormSpec.plain.varTypes Tryd.pinned.checked.prog).any (Tryd.pinned.checked.prog.ifacesRec ·))) = true := by kernel_rfl
theorem proofForm_j16 : ((Rows.proofFormRow.mapsOut == Tryd.pinned.checked.prog.mapsAmong Tryd.f14.resultTypes.toList)) = true := by kernel_rfl
theorem proofForm_j17 : ((Rows.proofFormRow.loops == (Tryd.f14.params.toList ++ Rows.proofFormSpec.plain.varTypes Tryd.pinned.checked.prog).any (Tryd.pinned.checked.prog.loopsFrom ·))) = true := by kernel_rfl
theorem proofForm_j18 : ((Rows.proofFormRow.wideKeys == (Tryd.f14.params.toList ++ Rows.proofFormSpec.plain.varTypes Tryd.pinned.checked.prog ++ Tryd.f14.resultTypes.toList).any (Tryd.pinned.checked.prog.wideKeysFrom ·))) = true := by kernel_rfl
theorem proofForm_j19 : (Rows.proofFormSpec.vars.all (Tryd.pinned.checked.prog.varReadable ·)) = true := by kernel_rfl
theorem proofForm_j20 : (Tryd.f14.resultTypes.all (fun t => Tryd.pinned.checked.prog.readableRec t && decide (t < Tryd.pinned.checked.prog.types.size))) = true := by kernel_rfl
theorem proofForm_j21 : ((Rows.proofFormRow.ifacesOut == Tryd.f14.resultTypes.toList.any (Tryd.pinned.checked.prog.ifacesRec ·))) = true := by kernel_rfl
theorem proofForm_j22 : ((Rows.proofFormRow.loopsOut == Tryd.f14.resultTypes.toList.any (Tryd.pinned.checked.prog.loopsFrom ·))) = true := by kernel_rfl
theorem proofForm_j23 : ((Rows.proofFormRow.plainKeys == Tryd.pinned.checked.prog.plainKeys)) = true := by kernel_rfl
theorem proofForm_j24 : (Rows.proofFormRow.shortTexts.isNone) = true := by kernel_rfl
theorem proofForm_j27 : (Rows.proofFormRow.lifted == Tryd.pinned.checked.prog.liftsFinal) = true := (congrArg (fun b => Rows.proofFormRow.lifted == b) seat_liftsFinal).trans (by kernel_rfl)
theorem proofForm_j28 : (Tryd.pinned.checked.prog.make == some Rows.proofFormRow.make) = true := (congrArg (fun b => b == some Rows.proofFormRow.make) seat_make).trans (by kernel_rfl)
theorem proofForm_j29 : ((Rows.proofFormRow.kinds == (if Rows.proofFormRow.domain.isEmpty then [] else Tryd.f14.params.toList.map fun t => match Tryd.pinned.checked.prog.underlying t with | some (.int k) => some k | _ => none))) = true := by kernel_rfl
theorem proofForm_j30 : ((Rows.proofFormRow.pinned == Rows.proofFormRow.pinnedBy)) = true := by kernel_rfl
theorem proofForm_j31 : ((Rows.proofFormRow.veiled == (Tryd.f14.params.toList ++ Rows.proofFormSpec.plain.varTypes Tryd.pinned.checked.prog ++ Tryd.f14.resultTypes.toList).any (Tryd.pinned.checked.prog.veiledRec ·))) = true := by kernel_rfl
theorem proofForm_j32 : (Rows.proofFormRow.veiledFits Tryd.pinned.checked.prog Tryd.f14.params.toList (Tryd.f14.params.toList ++ Rows.proofFormSpec.plain.varTypes Tryd.pinned.checked.prog ++ Tryd.f14.resultTypes.toList)) = true := by kernel_rfl
theorem proofForm_met (os : Os) : laidMet Tryd.prog Rows.proofFormRow.laid ((digWorld os).forCall (fun _ _ => 0) ⟨#[], #[.slice none 0 0, .slice none 0 0, .int .i64 0], []⟩).memory :=
  laidMet_of_run' 8 (by kernel_rfl) (by kernel_rfl)
theorem proofForm_reads (os : Os) {H : Type} (enc : TypeId × Value → H) : ∃ x, DataW.whole enc Tryd.prog ((digWorld os).forCall (fun _ _ => 0) ⟨#[], #[.slice none 0 0, .slice none 0 0, .int .i64 0], []⟩).memory Tryd.f14.params.toList Rows.proofFormSpec.vars false (#[.slice none 0 0, .slice none 0 0, .int .i64 0] : Array Value).toList 8 = some x :=
  Option.isSome_iff_exists.1 (by kernel_rfl)
set_option maxRecDepth 100000 in
theorem proofForm_lifted (os : Os) (started : os.Started) (H : Type) (enc : TypeId × Value → H) (F : Stop.Interp) :
    ReturnsInHanded {} Tryd.checked os 14 .any ((OpenSpec.ofChange Rows.proofFormSpec).preRow enc Tryd.prog Tryd.f14 Rows.proofFormRow.domain false Rows.proofFormRow.laid) (((OpenSpec.ofChange Rows.proofFormSpec).at F).post enc Tryd.prog Tryd.f14 false true false false) := by
  obtain ⟨places, hx⟩ := proofForm_reads os enc
  refine returnsInHanded_of_row (C := Tryd.checked) (s := OpenSpec.ofChange Rows.proofFormSpec) proofForm_own started (by kernel_rfl) Tryd.func14
    (witness_row_at (enc := enc) (C := Tryd.checked) false (digWorld os) #[.slice none 0 0, .slice none 0 0, .int .i64 0] rfl (by kernel_rfl) (by kernel_rfl) (by kernel_rfl)
      (OpenSpec.preRow_of_cond 8 hx rfl (fun k hk => by cases hk) (by kernel_rfl) (proofForm_met os))) ?_
  intro W base args ds gs before hval0 hW _ _ hsz hL _ _
  have hval : ∀ (j : Nat) t v, Tryd.f14.params[j]? = some t → args[j]? = some v → Value.okWide Tryd.prog W .any base t v := hval0
  have hW' := hW
  obtain ⟨p, q, hA0, hV, rfl, hfz, hnd⟩ := hW
  have hA : DataW.TrodAll enc Tryd.prog W 0 (fun _ => true) true Tryd.f14.params.toList args.toList ds p := hA0
  rw [Tryd.params14] at hA hval
  have hT := dig_met hL
  obtain ⟨v0, vs0, d0, ds0, p0, q0, hargs, rfl, rfl, h0, r0⟩ := trodAll_cons hA
  obtain ⟨v1, vs1, d1, ds1, p1, q1, rfl, rfl, rfl, h1, r1⟩ := trodAll_cons r0
  obtain ⟨v2, vs2, d2, ds2, p2, q2, rfl, rfl, rfl, h2, r2⟩ := trodAll_cons r1
  obtain ⟨rfl, rfl, rfl⟩ := trodAll_nil r2
  obtain rfl : args = #[v0, v1, v2] := by cases args; simp_all
  obtain ⟨rfl, rfl⟩ := trodVars_none hV
  have k0 := h0
  have lt0 : ∀ x ∈ p0, x.block < W.heap.size := by obtain ⟨m, hm⟩ := k0; exact DataW.trod_lt m _ _ _ hm
  obtain ⟨a0, len0, cap0, rfl⟩ := okWide_slice Tryd.underlying44 (hval 0 44 v0 rfl rfl)
  obtain ⟨l0, w0⟩ : ∃ l, Prs (whole W) (.slice a0 len0 cap0) l := by
    obtain ⟨fuel, hf⟩ := h0
    exact rd_items Tryd.underlying44 Tryd.underlying36 (by kernel_rfl) (by kernel_rfl) rfl rfl Tryd.underlying22 Tryd.underlying5 (by kernel_rfl) hf
  have k1 := h1
  have lt1 : ∀ x ∈ p1, x.block < W.heap.size := by obtain ⟨m, hm⟩ := k1; exact DataW.trod_lt m _ _ _ hm
  obtain ⟨a1, len1, cap1, rfl⟩ := okWide_slice Tryd.underlying22 (hval 1 22 v1 rfl rfl)
  obtain ⟨l1, w1⟩ : ∃ l, Bs (whole W) (.slice a1 len1 cap1) l := by
    obtain ⟨fuel, hf⟩ := h1
    exact rd_bytes_cells Tryd.underlying22 Tryd.underlying5 (by kernel_rfl) hf
  have k2 := h2
  have lt2 : ∀ x ∈ p2, x.block < W.heap.size := by obtain ⟨m, hm⟩ := k2; exact DataW.trod_lt m _ _ _ hm
  obtain ⟨x2, rfl, _, _, wx2⟩ := open_int Tryd.underlying3 (hval 2 3 v2 rfl rfl) h2
  have b2 := bounds_i64 wx2
  clear hA0 hval0
  refine (proofForm_walk W hT (.slice a0 len0 cap0) l0 w0 (.slice a1 len1 cap1) l1 w1 x2 b2.1 b2.2).mono fun e W' ⟨he, bel⟩ => ?_
  subst he
  exact ⟨_, rfl, _, _, _, [], _, [], hW', trodAll_mk1 (shut_bool Tryd.underlying4 _), (trodAll_cons_mk (Below.trod proofForm_laidOut (by kernel_rfl) (of_decide_eq_true (by kernel_rfl)) k0 bel lt0) (trodAll_cons_mk (Below.trod proofForm_laidOut (by kernel_rfl) (of_decide_eq_true (by kernel_rfl)) k1 bel lt1) (trodAll_cons_mk (Below.trod proofForm_laidOut (by kernel_rfl) (of_decide_eq_true (by kernel_rfl)) k2 bel lt2) trodAll_mk0))), rfl, bel.frame _, fun h => by cases h⟩
set_option maxRecDepth 1000000 in
theorem proofForm_said : Rows.ProofFormSaid :=
  OpenClaim.holds_of_cond 14 Tryd.f14 rfl rfl rfl rfl rfl rfl rfl ⟨rfl, rfl, rfl, rfl, rfl⟩ rfl rfl rfl rfl rfl (by as_aux_lemma => kernel_rfl) Tryd.func14 (joined_mk proofForm_j1 seat_laidOut seat_mapsRowed proofForm_j4 proofForm_j5 proofForm_j6 seat_stops proofForm_j8 seat_stopKnobs proofForm_j10 proofForm_j11 proofForm_j12 proofForm_j13 proofForm_j14 proofForm_j15 proofForm_j16 proofForm_j17 proofForm_j18 proofForm_j19 proofForm_j20 proofForm_j21 proofForm_j22 proofForm_j23 proofForm_j24 seat_stopsHeard seat_mayEnter proofForm_j27 proofForm_j28 proofForm_j29 proofForm_j30 proofForm_j31 proofForm_j32)
    (of_decide_eq_true (by as_aux_lemma => kernel_rfl)) (by unfold Func.isWrapper; first | (rw [if_pos (by decide +kernel)]; kernel_rfl) | (rw [if_neg (by decide +kernel)]; exact ⟨rfl, rfl⟩))
    (fun os started H enc _ F => by rw [OpenClaim.pre_eq_preRow]; exact proofForm_lifted os started H enc F)
theorem proofForm_plain (f : FuncId) (fn : Func) (hf : Tryd.pinned.checked.prog.funcNamed "canopy/canopykeep.ProofForm" = some f) (hfn : Tryd.pinned.checked.prog.funcs[f]? = some fn) :
    false = Tryd.pinned.checked.prog.looks [] ∧ ∀ (j : Nat) t, fn.params[j]? = some t → Tryd.pinned.checked.prog.wantsStandIn t = false := by
  obtain rfl : f = 14 := Option.some.inj ((show Tryd.prog.funcNamed "canopy/canopykeep.ProofForm" = some 14 by kernel_rfl).symm.trans hf) |>.symm
  obtain rfl : fn = Tryd.f14 := (Option.some.inj (Tryd.func14.symm.trans hfn)).symm
  refine ⟨by kernel_rfl, fun j t ht => ?_⟩
  have hall : (Tryd.f14.params.all fun t => !Tryd.prog.wantsStandIn t) = true := by kernel_rfl
  have := Array.all_eq_true_iff_forall_mem.1 hall t (Array.mem_of_getElem? ht)
  show Tryd.prog.wantsStandIn t = false
  simpa using this
set_option maxRecDepth 1000000 in
theorem proofForm_holds : Rows.ProofFormCardSaid :=
  Claim7.holds_tied_plain_at .later [] _ _ _ _ proofForm_said (fun _ h => by cases h) (by kernel_rfl) (fun _ h => by cases h) proofForm_row_tie rfl ⟨rfl, rfl⟩ (by kernel_rfl) rfl proofForm_plain (by kernel_rfl)
#print axioms proofForm_holds
end Go.Proofs.YtcanckliggcllaaDoor
