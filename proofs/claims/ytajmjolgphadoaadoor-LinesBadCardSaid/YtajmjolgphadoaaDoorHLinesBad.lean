/- The law LinesBad: for every input the call returns true, and each argument reads behind the call as it read before. -/
import Derived.Test.YtajmjolgphadoaaDoorCLinesBad
import Derived.Test.YtajmjolgphadoaaDoorCN1
import Derived.Test.YtajmjolgphadoaaDoorCN6
namespace Go.Proofs.YtajmjolgphadoaaDoor
open Go.ChangeShapes Go.WideShapes Go.ChangeAt Go.RowKit
set_option linter.unusedVariables false
theorem linesBad_own : ownKnob Tryd.prog.godebug = none := by kernel_rfl
theorem linesBad_laidOut : laidOutB Tryd.prog = true := seat_laidOut
theorem linesBad_j1 : (Rows.linesBadRow.wf (OpenSpec.ofChange Rows.linesBadSpec)) = true := by kernel_rfl
theorem linesBad_j4 : (Tryd.f6.params.all (Tryd.pinned.checked.prog.readableRec ·)) = true := by kernel_rfl
theorem linesBad_j5 : (namedTie Tryd.pinned.checked.prog Rows.linesBadRow.named Rows.linesBadSpec.vars) = true := by kernel_rfl
theorem linesBad_j6 : ((Rows.linesBadRow.stops == [])) = true := by kernel_rfl
theorem linesBad_j8 : ((Rows.linesBadRow.knobs == [])) = true := by kernel_rfl
theorem linesBad_j10 : ((Rows.linesBadRow.inPlace == Tryd.pinned.checked.prog.inPlace 6)) = true := by kernel_rfl
theorem linesBad_j11 : ((Rows.linesBadRow.unfollowed == Tryd.pinned.checked.prog.unfollowed 6)) = true := by kernel_rfl
theorem linesBad_j12 : ((Rows.linesBadRow.recurses == Tryd.pinned.checked.prog.recurses 6)) = true := by kernel_rfl
theorem linesBad_j13 : ((Rows.linesBadRow.named == Tryd.pinned.checked.prog.varsNamed 6)) = true := by kernel_rfl
theorem linesBad_j14 : ((Rows.linesBadRow.maps == (Tryd.f6.params.toList ++ Rows.linesBadSpec.plain.varTypes Tryd.pinned.checked.prog).any (Tryd.pinned.checked.prog.mapsRec ·))) = true := by kernel_rfl
theorem linesBad_j15 : ((Rows.linesBadRow.ifaces == (Tryd.f6.params.toList ++ Rows.linesBadSpec.plain.varTypes Tryd.pinned.checked.prog).any (Tryd.pinned.checked.prog.ifacesRec ·))) = true := by kernel_rfl
theorem linesBad_j16 : ((Rows.linesBadRow.mapsOut == Tryd.pinned.checked.prog.mapsAmong Tryd.f6.resultTypes.toList)) = true := by kernel_rfl
theorem linesBad_j17 : ((Rows.linesBadRow.loops == (Tryd.f6.params.toList ++ Rows.linesBadSpec.plain.varTypes Tryd.pinned.checked.prog).any (Tryd.pinned.checked.prog.loopsFrom ·))) = true := by kernel_rfl
theorem linesBad_j18 : ((Rows.linesBadRow.wideKeys == (Tryd.f6.params.toList ++ Rows.linesBadSpec.plain.varTypes Tryd.pinned.checked.prog ++ Tryd.f6.resultTypes.toList).any (Tryd.pinned.checked.prog.wideKeysFrom ·))) = true := by kernel_rfl
theorem linesBad_j19 : (Rows.linesBadSpec.vars.all (Tryd.pinned.checked.prog.varReadable ·)) = true := by kernel_rfl
theorem linesBad_j20 : (Tryd.f6.resultTypes.all (fun t => Tryd.pinned.checked.prog.readableRec t && decide (t < Tryd.pinned.checked.prog.types.size))) = true := by kernel_rfl
theorem linesBad_j21 : ((Rows.linesBadRow.ifacesOut == Tryd.f6.resultTypes.toList.any (Tryd.pinned.checked.prog.ifacesRec ·))) = true := by kernel_rfl
theorem linesBad_j22 : ((Rows.linesBadRow.loopsOut == Tryd.f6.resultTypes.toList.any (Tryd.pinned.checked.prog.loopsFrom ·))) = true := by kernel_rfl
theorem linesBad_j23 : ((Rows.linesBadRow.plainKeys == Tryd.pinned.checked.prog.plainKeys)) = true := by kernel_rfl
theorem linesBad_j24 : (Rows.linesBadRow.shortTexts.isNone) = true := by kernel_rfl
theorem linesBad_j27 : (Rows.linesBadRow.lifted == Tryd.pinned.checked.prog.liftsFinal) = true := (congrArg (fun b => Rows.linesBadRow.lifted == b) seat_liftsFinal).trans (by kernel_rfl)
theorem linesBad_j28 : (Tryd.pinned.checked.prog.make == some Rows.linesBadRow.make) = true := (congrArg (fun b => b == some Rows.linesBadRow.make) seat_make).trans (by kernel_rfl)
theorem linesBad_j29 : ((Rows.linesBadRow.kinds == (if Rows.linesBadRow.domain.isEmpty then [] else Tryd.f6.params.toList.map fun t => match Tryd.pinned.checked.prog.underlying t with | some (.int k) => some k | _ => none))) = true := by kernel_rfl
theorem linesBad_j30 : ((Rows.linesBadRow.pinned == Rows.linesBadRow.pinnedBy)) = true := by kernel_rfl
theorem linesBad_j31 : ((Rows.linesBadRow.veiled == (Tryd.f6.params.toList ++ Rows.linesBadSpec.plain.varTypes Tryd.pinned.checked.prog ++ Tryd.f6.resultTypes.toList).any (Tryd.pinned.checked.prog.veiledRec ·))) = true := by kernel_rfl
theorem linesBad_j32 : (Rows.linesBadRow.veiledFits Tryd.pinned.checked.prog Tryd.f6.params.toList (Tryd.f6.params.toList ++ Rows.linesBadSpec.plain.varTypes Tryd.pinned.checked.prog ++ Tryd.f6.resultTypes.toList)) = true := by kernel_rfl
theorem linesBad_met (os : Os) : laidMet Tryd.prog Rows.linesBadRow.laid ((linWorld os).forCall (fun _ _ => 0) ⟨#[], #[.slice none 0 0, .int .i64 0, .int .i64 0], []⟩).memory :=
  lin_laid os _
theorem linesBad_reads (os : Os) {H : Type} (enc : TypeId × Value → H) : ∃ x, DataW.whole enc Tryd.prog ((linWorld os).forCall (fun _ _ => 0) ⟨#[], #[.slice none 0 0, .int .i64 0, .int .i64 0], []⟩).memory Tryd.f6.params.toList Rows.linesBadSpec.vars false (#[.slice none 0 0, .int .i64 0, .int .i64 0] : Array Value).toList 8 = some x :=
  Option.isSome_iff_exists.1 (by kernel_rfl)
set_option maxRecDepth 100000 in
theorem linesBad_lifted (os : Os) (started : os.Started) (H : Type) (enc : TypeId × Value → H) (F : Stop.Interp) :
    ReturnsInHanded {} Tryd.checked os 6 .any ((OpenSpec.ofChange Rows.linesBadSpec).preRow enc Tryd.prog Tryd.f6 Rows.linesBadRow.domain false Rows.linesBadRow.laid) (((OpenSpec.ofChange Rows.linesBadSpec).at F).post enc Tryd.prog Tryd.f6 false true false false) := by
  obtain ⟨places, hx⟩ := linesBad_reads os enc
  refine returnsInHanded_of_row (C := Tryd.checked) (s := OpenSpec.ofChange Rows.linesBadSpec) linesBad_own started (by kernel_rfl) Tryd.func6
    (witness_row_atRef (enc := enc) (C := Tryd.checked) false (linWorld os) #[.slice none 0 0, .int .i64 0, .int .i64 0] (World.laidAll_os _ _ _) (by kernel_rfl) (by kernel_rfl) (by kernel_rfl)
      (OpenSpec.preRow_of_cond 8 hx rfl (fun k hk => by cases hk) (by kernel_rfl) (linesBad_met os))) ?_
  intro W base args ds gs before hval0 hW _ _ hsz hL hSh _
  have hval : ∀ (j : Nat) t v, Tryd.f6.params[j]? = some t → args[j]? = some v → Value.okWide Tryd.prog W .any base t v := hval0
  have hW' := hW
  obtain ⟨p, q, hA0, hV, rfl, hfz, hnd⟩ := hW
  have hA : DataW.TrodAll enc Tryd.prog W 0 (fun _ => true) true Tryd.f6.params.toList args.toList ds p := hA0
  rw [Tryd.params6] at hA hval
  obtain ⟨hTl, hWl⟩ := lin_met hL hSh
  obtain ⟨v0, vs0, d0, ds0, p0, q0, hargs, rfl, rfl, h0, r0⟩ := trodAll_cons hA
  obtain ⟨v1, vs1, d1, ds1, p1, q1, rfl, rfl, rfl, h1, r1⟩ := trodAll_cons r0
  obtain ⟨v2, vs2, d2, ds2, p2, q2, rfl, rfl, rfl, h2, r2⟩ := trodAll_cons r1
  obtain ⟨rfl, rfl, rfl⟩ := trodAll_nil r2
  obtain rfl : args = #[v0, v1, v2] := by cases args; simp_all
  obtain ⟨rfl, rfl⟩ := trodVars_none hV
  have k0 := h0
  have lt0 : ∀ x ∈ p0, x.block < W.heap.size := by obtain ⟨m, hm⟩ := k0; exact DataW.trod_lt m _ _ _ hm
  obtain ⟨a0, len0, cap0, rfl⟩ := okWide_slice Tryd.underlying42 (hval 0 42 v0 rfl rfl)
  obtain ⟨l0, w0, fb0⟩ : ∃ l, Fts (whole W) (.slice a0 len0 cap0) l ∧ ∀ g ∈ l, FtB g := by
    obtain ⟨fuel, hf⟩ := h0
    exact rd_feats Tryd.underlying42 Tryd.underlying66 (by kernel_rfl) (by kernel_rfl) rfl rfl rfl Tryd.underlying3 Tryd.underlying27 Tryd.underlying5 (by kernel_rfl) hf
  have k1 := h1
  have lt1 : ∀ x ∈ p1, x.block < W.heap.size := by obtain ⟨m, hm⟩ := k1; exact DataW.trod_lt m _ _ _ hm
  obtain ⟨x1, rfl, _, _, wx1⟩ := open_int Tryd.underlying3 (hval 1 3 v1 rfl rfl) h1
  have b1 := bounds_i64 wx1
  have k2 := h2
  have lt2 : ∀ x ∈ p2, x.block < W.heap.size := by obtain ⟨m, hm⟩ := k2; exact DataW.trod_lt m _ _ _ hm
  obtain ⟨x2, rfl, _, _, wx2⟩ := open_int Tryd.underlying3 (hval 2 3 v2 rfl rfl) h2
  have b2 := bounds_i64 wx2
  clear hA0 hval0
  refine (linesBad_walk W hTl hWl (.slice a0 len0 cap0) l0 w0 fb0 x1 b1.1 b1.2 x2 b2.1 b2.2).mono fun e W' ⟨he, bel⟩ => ?_
  subst he
  exact ⟨_, rfl, _, _, _, [], _, [], hW', trodAll_mk1 (shut_bool Tryd.underlying4 _), (trodAll_cons_mk (Below.trod linesBad_laidOut (by kernel_rfl) (of_decide_eq_true (by kernel_rfl)) k0 bel lt0) (trodAll_cons_mk (Below.trod linesBad_laidOut (by kernel_rfl) (of_decide_eq_true (by kernel_rfl)) k1 bel lt1) (trodAll_cons_mk (Below.trod linesBad_laidOut (by kernel_rfl) (of_decide_eq_true (by kernel_rfl)) k2 bel lt2) trodAll_mk0))), rfl, bel.frame _, fun h => by cases h⟩
set_option maxRecDepth 1000000 in
theorem linesBad_said : Rows.LinesBadSaid :=
  OpenClaim.holds_of_cond 6 Tryd.f6 rfl rfl rfl rfl rfl rfl rfl ⟨rfl, rfl, rfl, rfl, rfl⟩ rfl rfl rfl rfl rfl (by as_aux_lemma => kernel_rfl) Tryd.func6 (joined_mk linesBad_j1 seat_laidOut seat_mapsRowed linesBad_j4 linesBad_j5 linesBad_j6 seat_stops linesBad_j8 seat_stopKnobs linesBad_j10 linesBad_j11 linesBad_j12 linesBad_j13 linesBad_j14 linesBad_j15 linesBad_j16 linesBad_j17 linesBad_j18 linesBad_j19 linesBad_j20 linesBad_j21 linesBad_j22 linesBad_j23 linesBad_j24 seat_stopsHeard seat_mayEnter linesBad_j27 linesBad_j28 linesBad_j29 linesBad_j30 linesBad_j31 linesBad_j32)
    (of_decide_eq_true (by as_aux_lemma => kernel_rfl)) (by unfold Func.isWrapper; first | (rw [if_pos (by decide +kernel)]; kernel_rfl) | (rw [if_neg (by decide +kernel)]; exact ⟨rfl, rfl⟩))
    (fun os started H enc _ F => by rw [OpenClaim.pre_eq_preRow]; exact linesBad_lifted os started H enc F)
theorem linesBad_plain (f : FuncId) (fn : Func) (hf : Tryd.pinned.checked.prog.funcNamed "canopy/canopykeep.LinesBad" = some f) (hfn : Tryd.pinned.checked.prog.funcs[f]? = some fn) :
    true = Tryd.pinned.checked.prog.looks [] ∧ ∀ (j : Nat) t, fn.params[j]? = some t → Tryd.pinned.checked.prog.wantsStandIn t = false := by
  obtain rfl : f = 6 := Option.some.inj ((show Tryd.prog.funcNamed "canopy/canopykeep.LinesBad" = some 6 by kernel_rfl).symm.trans hf) |>.symm
  obtain rfl : fn = Tryd.f6 := (Option.some.inj (Tryd.func6.symm.trans hfn)).symm
  refine ⟨by kernel_rfl, fun j t ht => ?_⟩
  have hall : (Tryd.f6.params.all fun t => !Tryd.prog.wantsStandIn t) = true := by kernel_rfl
  have := Array.all_eq_true_iff_forall_mem.1 hall t (Array.mem_of_getElem? ht)
  show Tryd.prog.wantsStandIn t = false
  simpa using this
set_option maxRecDepth 1000000 in
theorem linesBad_holds : Rows.LinesBadCardSaid :=
  Claim7.holds_tied_plain_at .later [] _ _ _ _ linesBad_said (fun _ h => by cases h) (by kernel_rfl) (fun _ h => by cases h) linesBad_row_tie rfl ⟨rfl, rfl⟩ (by kernel_rfl) rfl linesBad_plain (by kernel_rfl)
#print axioms linesBad_holds
end Go.Proofs.YtajmjolgphadoaaDoor
