/- The law ProofElse: for every input the call returns true, and each argument reads behind the call as it read before. -/
import Derived.Test.YtcanckliggcllaaDoorCProofElse
import Derived.Test.YtcanckliggcllaaDoorBZ1
import Derived.Test.YtcanckliggcllaaDoorBZ3
import Derived.Test.YtcanckliggcllaaDoorBZ7
namespace Go.Proofs.YtcanckliggcllaaDoor
open Go.ChangeShapes Go.WideShapes Go.ChangeAt Go.RowKit
set_option linter.unusedVariables false
theorem proofElse_own : ownKnob Tryd.prog.godebug = none := by kernel_rfl
theorem proofElse_laidOut : laidOutB Tryd.prog = true := seat_laidOut
theorem proofElse_j1 : (Rows.proofElseRow.wf (OpenSpec.ofChange Rows.proofElseSpec)) = true := by kernel_rfl
theorem proofElse_j4 : (Tryd.f13.params.all (Tryd.pinned.checked.prog.readableRec ·)) = true := by kernel_rfl
theorem proofElse_j5 : (namedTie Tryd.pinned.checked.prog Rows.proofElseRow.named Rows.proofElseSpec.vars) = true := by kernel_rfl
theorem proofElse_j6 : ((Rows.proofElseRow.stops == [])) = true := by kernel_rfl
theorem proofElse_j8 : ((Rows.proofElseRow.knobs == [])) = true := by kernel_rfl
theorem proofElse_j10 : ((Rows.proofElseRow.inPlace == Tryd.pinned.checked.prog.inPlace 13)) = true := by kernel_rfl
theorem proofElse_j11 : ((Rows.proofElseRow.unfollowed == Tryd.pinned.checked.prog.unfollowed 13)) = true := by kernel_rfl
theorem proofElse_j12 : ((Rows.proofElseRow.recurses == Tryd.pinned.checked.prog.recurses 13)) = true := by kernel_rfl
theorem proofElse_j13 : ((Rows.proofElseRow.named == Tryd.pinned.checked.prog.varsNamed 13)) = true := by kernel_rfl
theorem proofElse_j14 : ((Rows.proofElseRow.maps == (Tryd.f13.params.toList ++ Rows.proofElseSpec.plain.varTypes Tryd.pinned.checked.prog).any (Tryd.pinned.checked.prog.mapsRec ·))) = true := by kernel_rfl
theorem proofElse_j15 : ((Rows.proofElseRow.ifaces == (Tryd.f13.params.toList ++ Rows.proofElseSpec.plain.varTypes Tryd.pinned.checked.prog).any (Tryd.pinned.checked.prog.ifacesRec ·))) = true := by kernel_rfl
theorem proofElse_j16 : ((Rows.proofElseRow.mapsOut == Tryd.pinned.checked.prog.mapsAmong Tryd.f13.resultTypes.toList)) = true := by kernel_rfl
theorem proofElse_j17 : ((Rows.proofElseRow.loops == (Tryd.f13.params.toList ++ Rows.proofElseSpec.plain.varTypes Tryd.pinned.checked.prog).any (Tryd.pinned.checked.prog.loopsFrom ·))) = true := by kernel_rfl
theorem proofElse_j18 : ((Rows.proofElseRow.wideKeys == (Tryd.f13.params.toList ++ Rows.proofElseSpec.plain.varTypes Tryd.pinned.checked.prog ++ Tryd.f13.resultTypes.toList).any (Tryd.pinned.checked.prog.wideKeysFrom ·))) = true := by kernel_rfl
theorem proofElse_j19 : (Rows.proofElseSpec.vars.all (Tryd.pinned.checked.prog.varReadable ·)) = true := by kernel_rfl
theorem proofElse_j20 : (Tryd.f13.resultTypes.all (fun t => Tryd.pinned.checked.prog.readableRec t && decide (t < Tryd.pinned.checked.prog.types.size))) = true := by kernel_rfl
theorem proofElse_j21 : ((Rows.proofElseRow.ifacesOut == Tryd.f13.resultTypes.toList.any (Tryd.pinned.checked.prog.ifacesRec ·))) = true := by kernel_rfl
theorem proofElse_j22 : ((Rows.proofElseRow.loopsOut == Tryd.f13.resultTypes.toList.any (Tryd.pinned.checked.prog.loopsFrom ·))) = true := by kernel_rfl
theorem proofElse_j23 : ((Rows.proofElseRow.plainKeys == Tryd.pinned.checked.prog.plainKeys)) = true := by kernel_rfl
theorem proofElse_j24 : (Rows.proofElseRow.shortTexts.isNone) = true := by kernel_rfl
theorem proofElse_j27 : (Rows.proofElseRow.lifted == Tryd.pinned.checked.prog.liftsFinal) = true := (congrArg (fun b => Rows.proofElseRow.lifted == b) seat_liftsFinal).trans (by kernel_rfl)
theorem proofElse_j28 : (Tryd.pinned.checked.prog.make == some Rows.proofElseRow.make) = true := (congrArg (fun b => b == some Rows.proofElseRow.make) seat_make).trans (by kernel_rfl)
theorem proofElse_j29 : ((Rows.proofElseRow.kinds == (if Rows.proofElseRow.domain.isEmpty then [] else Tryd.f13.params.toList.map fun t => match Tryd.pinned.checked.prog.underlying t with | some (.int k) => some k | _ => none))) = true := by kernel_rfl
theorem proofElse_j30 : ((Rows.proofElseRow.pinned == Rows.proofElseRow.pinnedBy)) = true := by kernel_rfl
theorem proofElse_j31 : ((Rows.proofElseRow.veiled == (Tryd.f13.params.toList ++ Rows.proofElseSpec.plain.varTypes Tryd.pinned.checked.prog ++ Tryd.f13.resultTypes.toList).any (Tryd.pinned.checked.prog.veiledRec ·))) = true := by kernel_rfl
theorem proofElse_j32 : (Rows.proofElseRow.veiledFits Tryd.pinned.checked.prog Tryd.f13.params.toList (Tryd.f13.params.toList ++ Rows.proofElseSpec.plain.varTypes Tryd.pinned.checked.prog ++ Tryd.f13.resultTypes.toList)) = true := by kernel_rfl
theorem proofElse_met (os : Os) : laidMet Tryd.prog Rows.proofElseRow.laid ((digWorld os).forCall (fun _ _ => 0) ⟨#[], #[.slice none 0 0, .slice none 0 0, .slice none 0 0], []⟩).memory :=
  laidMet_of_run' 8 (by kernel_rfl) (by kernel_rfl)
theorem proofElse_reads (os : Os) {H : Type} (enc : TypeId × Value → H) : ∃ x, DataW.whole enc Tryd.prog ((digWorld os).forCall (fun _ _ => 0) ⟨#[], #[.slice none 0 0, .slice none 0 0, .slice none 0 0], []⟩).memory Tryd.f13.params.toList Rows.proofElseSpec.vars false (#[.slice none 0 0, .slice none 0 0, .slice none 0 0] : Array Value).toList 8 = some x :=
  Option.isSome_iff_exists.1 (by kernel_rfl)
set_option maxRecDepth 100000 in
theorem proofElse_lifted (os : Os) (started : os.Started) (H : Type) (enc : TypeId × Value → H) (F : Stop.Interp) :
    ReturnsInHanded {} Tryd.checked os 13 .any ((OpenSpec.ofChange Rows.proofElseSpec).preRow enc Tryd.prog Tryd.f13 Rows.proofElseRow.domain false Rows.proofElseRow.laid) (((OpenSpec.ofChange Rows.proofElseSpec).at F).post enc Tryd.prog Tryd.f13 false true false false) := by
  obtain ⟨places, hx⟩ := proofElse_reads os enc
  refine returnsInHanded_of_row (C := Tryd.checked) (s := OpenSpec.ofChange Rows.proofElseSpec) proofElse_own started (by kernel_rfl) Tryd.func13
    (witness_row_at (enc := enc) (C := Tryd.checked) false (digWorld os) #[.slice none 0 0, .slice none 0 0, .slice none 0 0] rfl (by kernel_rfl) (by kernel_rfl) (by kernel_rfl)
      (OpenSpec.preRow_of_cond 8 hx rfl (fun k hk => by cases hk) (by kernel_rfl) (proofElse_met os))) ?_
  intro W base args ds gs before hval0 hW _ _ hsz hL _ _
  have hval : ∀ (j : Nat) t v, Tryd.f13.params[j]? = some t → args[j]? = some v → Value.okWide Tryd.prog W .any base t v := hval0
  have hW' := hW
  obtain ⟨p, q, hA0, hV, rfl, hfz, hnd⟩ := hW
  have hA : DataW.TrodAll enc Tryd.prog W 0 (fun _ => true) true Tryd.f13.params.toList args.toList ds p := hA0
  rw [Tryd.params13] at hA hval
  have hT := dig_met hL
  obtain ⟨v0, vs0, d0, ds0, p0, q0, hargs, rfl, rfl, h0, r0⟩ := trodAll_cons hA
  obtain ⟨v1, vs1, d1, ds1, p1, q1, rfl, rfl, rfl, h1, r1⟩ := trodAll_cons r0
  obtain ⟨v2, vs2, d2, ds2, p2, q2, rfl, rfl, rfl, h2, r2⟩ := trodAll_cons r1
  obtain ⟨rfl, rfl, rfl⟩ := trodAll_nil r2
  obtain rfl : args = #[v0, v1, v2] := by cases args; simp_all
  obtain ⟨rfl, rfl⟩ := trodVars_none hV
  have k0 := h0
  have lt0 : ∀ x ∈ p0, x.block < W.heap.size := by obtain ⟨m, hm⟩ := k0; exact DataW.trod_lt m _ _ _ hm
  obtain ⟨a0, len0, cap0, rfl⟩ := okWide_slice Tryd.underlying44 (hval 0 44 v0 rfl rfl)
  obtain ⟨l0, w0⟩ : ∃ l, Prs (whole W) (.slice a0 len0 cap0) l := by
    obtain ⟨fuel, hf⟩ := h0
    exact rd_items Tryd.underlying44 Tryd.underlying36 (by kernel_rfl) (by kernel_rfl) rfl rfl Tryd.underlying22 Tryd.underlying5 (by kernel_rfl) hf
  have k1 := h1
  have lt1 : ∀ x ∈ p1, x.block < W.heap.size := by obtain ⟨m, hm⟩ := k1; exact DataW.trod_lt m _ _ _ hm
  obtain ⟨a1, len1, cap1, rfl⟩ := okWide_slice Tryd.underlying22 (hval 1 22 v1 rfl rfl)
  obtain ⟨l1, w1⟩ : ∃ l, Bs (whole W) (.slice a1 len1 cap1) l := by
    obtain ⟨fuel, hf⟩ := h1
    exact rd_bytes_cells Tryd.underlying22 Tryd.underlying5 (by kernel_rfl) hf
  have k2 := h2
  have lt2 : ∀ x ∈ p2, x.block < W.heap.size := by obtain ⟨m, hm⟩ := k2; exact DataW.trod_lt m _ _ _ hm
  obtain ⟨a2, len2, cap2, rfl⟩ := okWide_slice Tryd.underlying22 (hval 2 22 v2 rfl rfl)
  obtain ⟨l2, w2⟩ : ∃ l, Bs (whole W) (.slice a2 len2 cap2) l := by
    obtain ⟨fuel, hf⟩ := h2
    exact rd_bytes_cells Tryd.underlying22 Tryd.underlying5 (by kernel_rfl) hf
  clear hA0 hval0
  refine (proofElse_walk W hT (.slice a0 len0 cap0) l0 w0 (.slice a1 len1 cap1) l1 w1 (.slice a2 len2 cap2) l2 w2).mono fun e W' ⟨he, bel⟩ => ?_
  subst he
  exact ⟨_, rfl, _, _, _, [], _, [], hW', trodAll_mk1 (shut_bool Tryd.underlying4 _), (trodAll_cons_mk (Below.trod proofElse_laidOut (by kernel_rfl) (of_decide_eq_true (by kernel_rfl)) k0 bel lt0) (trodAll_cons_mk (Below.trod proofElse_laidOut (by kernel_rfl) (of_decide_eq_true (by kernel_rfl)) k1 bel lt1) (trodAll_cons_mk (Below.trod proofElse_laidOut (by kernel_rfl) (of_decide_eq_true (by kernel_rfl)) k2 bel lt2) trodAll_mk0))), rfl, bel.frame _, fun h => by cases h⟩
set_option maxRecDepth 1000000 in
theorem proofElse_said : Rows.ProofElseSaid :=
  OpenClaim.holds_of_cond 13 Tryd.f13 rfl rfl rfl rfl rfl rfl rfl ⟨rfl, rfl, rfl, rfl, rfl⟩ rfl rfl rfl rfl rfl (by as_aux_lemma => kernel_rfl) Tryd.func13 (joined_mk proofElse_j1 seat_laidOut seat_mapsRowed proofElse_j4 proofElse_j5 proofElse_j6 seat_stops proofElse_j8 seat_stopKnobs proofElse_j10 proofElse_j11 proofElse_j12 proofElse_j13 proofElse_j14 proofElse_j15 proofElse_j16 proofElse_j17 proofElse_j18 proofElse_j19 proofElse_j20 proofElse_j21 proofElse_j22 proofElse_j23 proofElse_j24 seat_stopsHeard seat_mayEnter proofElse_j27 proofElse_j28 proofElse_j29 proofElse_j30 proofElse_j31 proofElse_j32)
    (of_decide_eq_true (by as_aux_lemma => kernel_rfl)) (by unfold Func.isWrapper; first | (rw [if_pos (by decide +kernel)]; kernel_rfl) | (rw [if_neg (by decide +kernel)]; exact ⟨rfl, rfl⟩))
    (fun os started H enc _ F => by rw [OpenClaim.pre_eq_preRow]; exact proofElse_lifted os started H enc F)
theorem proofElse_plain (f : FuncId) (fn : Func) (hf : Tryd.pinned.checked.prog.funcNamed "canopy/canopykeep.ProofElse" = some f) (hfn : Tryd.pinned.checked.prog.funcs[f]? = some fn) :
    false = Tryd.pinned.checked.prog.looks [] ∧ ∀ (j : Nat) t, fn.params[j]? = some t → Tryd.pinned.checked.prog.wantsStandIn t = false := by
  obtain rfl : f = 13 := Option.some.inj ((show Tryd.prog.funcNamed "canopy/canopykeep.ProofElse" = some 13 by kernel_rfl).symm.trans hf) |>.symm
  obtain rfl : fn = Tryd.f13 := (Option.some.inj (Tryd.func13.symm.trans hfn)).symm
  refine ⟨by kernel_rfl, fun j t ht => ?_⟩
  have hall : (Tryd.f13.params.all fun t => !Tryd.prog.wantsStandIn t) = true := by kernel_rfl
  have := Array.all_eq_true_iff_forall_mem.1 hall t (Array.mem_of_getElem? ht)
  show Tryd.prog.wantsStandIn t = false
  simpa using this
set_option maxRecDepth 1000000 in
theorem proofElse_holds : Rows.ProofElseCardSaid :=
  Claim7.holds_tied_plain_at .later [] _ _ _ _ proofElse_said (fun _ h => by cases h) (by kernel_rfl) (fun _ h => by cases h) proofElse_row_tie rfl ⟨rfl, rfl⟩ (by kernel_rfl) rfl proofElse_plain (by kernel_rfl)
#print axioms proofElse_holds
end Go.Proofs.YtcanckliggcllaaDoor
