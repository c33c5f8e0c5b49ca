/- The law TapeKeeps: for every input the call returns true, and each argument reads behind the call as it read before. -/
import Derived.Test.YtikklmjengkliaaDoorCTapeKeeps
import Derived.Test.YtikklmjengkliaaDoorBT1
import Derived.Test.YtikklmjengkliaaDoorBT3
import Derived.Test.YtikklmjengkliaaDoorBT10
namespace Go.Proofs.YtikklmjengkliaaDoor
open Go.ChangeShapes Go.WideShapes Go.ChangeAt Go.RowKit
set_option linter.unusedVariables false
theorem tapeKeeps_own : ownKnob Tryd.prog.godebug = none := by kernel_rfl
theorem tapeKeeps_laidOut : laidOutB Tryd.prog = true := seat_laidOut
theorem tapeKeeps_j1 : (Rows.tapeKeepsRow.wf (OpenSpec.ofChange Rows.tapeKeepsSpec)) = true := by kernel_rfl
theorem tapeKeeps_j4 : (Tryd.f13.params.all (Tryd.pinned.checked.prog.readableRec ·)) = true := by kernel_rfl
theorem tapeKeeps_j5 : (namedTie Tryd.pinned.checked.prog Rows.tapeKeepsRow.named Rows.tapeKeepsSpec.vars) = true := by kernel_rfl
theorem tapeKeeps_j6 : ((Rows.tapeKeepsRow.stops == [])) = true := by kernel_rfl
theorem tapeKeeps_j8 : ((Rows.tapeKeepsRow.knobs == [])) = true := by kernel_rfl
theorem tapeKeeps_j10 : ((Rows.tapeKeepsRow.inPlace == Tryd.pinned.checked.prog.inPlace 13)) = true := by kernel_rfl
theorem tapeKeeps_j11 : ((Rows.tapeKeepsRow.unfollowed == Tryd.pinned.checked.prog.unfollowed 13)) = true := by kernel_rfl
theorem tapeKeeps_j12 : ((Rows.tapeKeepsRow.recurses == Tryd.pinned.checked.prog.recurses 13)) = true := by kernel_rfl
theorem tapeKeeps_j13 : ((Rows.tapeKeepsRow.named == Tryd.pinned.checked.prog.varsNamed 13)) = true := by kernel_rfl
theorem tapeKeeps_j14 : ((Rows.tapeKeepsRow.maps == (Tryd.f13.params.toList ++ Rows.tapeKeepsSpec.plain.varTypes Tryd.pinned.checked.prog).any (Tryd.pinned.checked.prog.mapsRec ·))) = true := by kernel_rfl
theorem tapeKeeps_j15 : ((Rows.tapeKeepsRow.ifaces == (Tryd.f13.params.toList ++ Rows.tapeKeepsSpec.plain.varTypes Tryd.pinned.checked.prog).any (Tryd.pinned.checked.prog.ifacesRec ·))) = true := by kernel_rfl
theorem tapeKeeps_j16 : ((Rows.tapeKeepsRow.mapsOut == Tryd.pinned.checked.prog.mapsAmong Tryd.f13.resultTypes.toList)) = true := by kernel_rfl
theorem tapeKeeps_j17 : ((Rows.tapeKeepsRow.loops == (Tryd.f13.params.toList ++ Rows.tapeKeepsSpec.plain.varTypes Tryd.pinned.checked.prog).any (Tryd.pinned.checked.prog.loopsFrom ·))) = true := by kernel_rfl
theorem tapeKeeps_j18 : ((Rows.tapeKeepsRow.wideKeys == (Tryd.f13.params.toList ++ Rows.tapeKeepsSpec.plain.varTypes Tryd.pinned.checked.prog ++ Tryd.f13.resultTypes.toList).any (Tryd.pinned.checked.prog.wideKeysFrom ·))) = true := by kernel_rfl
theorem tapeKeeps_j19 : (Rows.tapeKeepsSpec.vars.all (Tryd.pinned.checked.prog.varReadable ·)) = true := by kernel_rfl
theorem tapeKeeps_j20 : (Tryd.f13.resultTypes.all (fun t => Tryd.pinned.checked.prog.readableRec t && decide (t < Tryd.pinned.checked.prog.types.size))) = true := by kernel_rfl
theorem tapeKeeps_j21 : ((Rows.tapeKeepsRow.ifacesOut == Tryd.f13.resultTypes.toList.any (Tryd.pinned.checked.prog.ifacesRec ·))) = true := by kernel_rfl
theorem tapeKeeps_j22 : ((Rows.tapeKeepsRow.loopsOut == Tryd.f13.resultTypes.toList.any (Tryd.pinned.checked.prog.loopsFrom ·))) = true := by kernel_rfl
theorem tapeKeeps_j23 : ((Rows.tapeKeepsRow.plainKeys == Tryd.pinned.checked.prog.plainKeys)) = true := by kernel_rfl
theorem tapeKeeps_j24 : (Rows.tapeKeepsRow.shortTexts.isNone) = true := by kernel_rfl
theorem tapeKeeps_j27 : (Rows.tapeKeepsRow.lifted == Tryd.pinned.checked.prog.liftsFinal) = true := (congrArg (fun b => Rows.tapeKeepsRow.lifted == b) seat_liftsFinal).trans (by kernel_rfl)
theorem tapeKeeps_j28 : (Tryd.pinned.checked.prog.make == some Rows.tapeKeepsRow.make) = true := (congrArg (fun b => b == some Rows.tapeKeepsRow.make) seat_make).trans (by kernel_rfl)
theorem tapeKeeps_j29 : ((Rows.tapeKeepsRow.kinds == (if Rows.tapeKeepsRow.domain.isEmpty then [] else Tryd.f13.params.toList.map fun t => match Tryd.pinned.checked.prog.underlying t with | some (.int k) => some k | _ => none))) = true := by kernel_rfl
theorem tapeKeeps_j30 : ((Rows.tapeKeepsRow.pinned == Rows.tapeKeepsRow.pinnedBy)) = true := by kernel_rfl
theorem tapeKeeps_j31 : ((Rows.tapeKeepsRow.veiled == (Tryd.f13.params.toList ++ Rows.tapeKeepsSpec.plain.varTypes Tryd.pinned.checked.prog ++ Tryd.f13.resultTypes.toList).any (Tryd.pinned.checked.prog.veiledRec ·))) = true := by kernel_rfl
theorem tapeKeeps_j32 : (Rows.tapeKeepsRow.veiledFits Tryd.pinned.checked.prog Tryd.f13.params.toList (Tryd.f13.params.toList ++ Rows.tapeKeepsSpec.plain.varTypes Tryd.pinned.checked.prog ++ Tryd.f13.resultTypes.toList)) = true := by kernel_rfl
theorem tapeKeeps_met (os : Os) : laidMet Tryd.prog Rows.tapeKeepsRow.laid ((digWorld os).forCall (fun _ _ => 0) ⟨#[], #[.slice none 0 0, .int .i64 0, .int .i64 0], []⟩).memory :=
  laidMet_of_run' 8 (by kernel_rfl) (by kernel_rfl)
theorem tapeKeeps_reads (os : Os) {H : Type} (enc : TypeId × Value → H) : ∃ x, DataW.whole enc Tryd.prog ((digWorld os).forCall (fun _ _ => 0) ⟨#[], #[.slice none 0 0, .int .i64 0, .int .i64 0], []⟩).memory Tryd.f13.params.toList Rows.tapeKeepsSpec.vars false (#[.slice none 0 0, .int .i64 0, .int .i64 0] : Array Value).toList 8 = some x :=
  Option.isSome_iff_exists.1 (by kernel_rfl)
set_option maxRecDepth 100000 in
theorem tapeKeeps_lifted (os : Os) (started : os.Started) (H : Type) (enc : TypeId × Value → H) (F : Stop.Interp) :
    ReturnsInHanded {} Tryd.checked os 13 .any ((OpenSpec.ofChange Rows.tapeKeepsSpec).preRow enc Tryd.prog Tryd.f13 Rows.tapeKeepsRow.domain false Rows.tapeKeepsRow.laid) (((OpenSpec.ofChange Rows.tapeKeepsSpec).at F).post enc Tryd.prog Tryd.f13 false true false false) := by
  obtain ⟨places, hx⟩ := tapeKeeps_reads os enc
  refine returnsInHanded_of_row (C := Tryd.checked) (s := OpenSpec.ofChange Rows.tapeKeepsSpec) tapeKeeps_own started (by kernel_rfl) Tryd.func13
    (witness_row_at (enc := enc) (C := Tryd.checked) false (digWorld os) #[.slice none 0 0, .int .i64 0, .int .i64 0] rfl (by kernel_rfl) (by kernel_rfl) (by kernel_rfl)
      (OpenSpec.preRow_of_cond 8 hx rfl (fun k hk => by cases hk) (by kernel_rfl) (tapeKeeps_met os))) ?_
  intro W base args ds gs before hval0 hW _ _ hsz hL _ _
  have hval : ∀ (j : Nat) t v, Tryd.f13.params[j]? = some t → args[j]? = some v → Value.okWide Tryd.prog W .any base t v := hval0
  have hW' := hW
  obtain ⟨p, q, hA0, hV, rfl, hfz, hnd⟩ := hW
  have hA : DataW.TrodAll enc Tryd.prog W 0 (fun _ => true) true Tryd.f13.params.toList args.toList ds p := hA0
  rw [Tryd.params13] at hA hval
  have hT := dig_met hL
  obtain ⟨v0, vs0, d0, ds0, p0, q0, hargs, rfl, rfl, h0, r0⟩ := trodAll_cons hA
  obtain ⟨v1, vs1, d1, ds1, p1, q1, rfl, rfl, rfl, h1, r1⟩ := trodAll_cons r0
  obtain ⟨v2, vs2, d2, ds2, p2, q2, rfl, rfl, rfl, h2, r2⟩ := trodAll_cons r1
  obtain ⟨rfl, rfl, rfl⟩ := trodAll_nil r2
  obtain rfl : args = #[v0, v1, v2] := by cases args; simp_all
  obtain ⟨rfl, rfl⟩ := trodVars_none hV
  have k0 := h0
  have lt0 : ∀ x ∈ p0, x.block < W.heap.size := by obtain ⟨m, hm⟩ := k0; exact DataW.trod_lt m _ _ _ hm
  obtain ⟨a0, len0, cap0, rfl⟩ := okWide_slice Tryd.underlying22 (hval 0 22 v0 rfl rfl)
  obtain ⟨l0, w0⟩ : ∃ l, Pls (whole W) (.slice a0 len0 cap0) l := by
    obtain ⟨fuel, hf⟩ := h0
    exact rd_places Tryd.underlying22 Tryd.underlying45 (by kernel_rfl) (by kernel_rfl) rfl rfl rfl rfl Tryd.underlying23 Tryd.underlying5 (by kernel_rfl) Tryd.underlying4 hf
  have k1 := h1
  have lt1 : ∀ x ∈ p1, x.block < W.heap.size := by obtain ⟨m, hm⟩ := k1; exact DataW.trod_lt m _ _ _ hm
  obtain ⟨x1, rfl, _, _, wx1⟩ := open_int Tryd.underlying3 (hval 1 3 v1 rfl rfl) h1
  have b1 := bounds_i64 wx1
  have k2 := h2
  have lt2 : ∀ x ∈ p2, x.block < W.heap.size := by obtain ⟨m, hm⟩ := k2; exact DataW.trod_lt m _ _ _ hm
  obtain ⟨x2, rfl, _, _, wx2⟩ := open_int Tryd.underlying3 (hval 2 3 v2 rfl rfl) h2
  have b2 := bounds_i64 wx2
  clear hA0 hval0
  refine (tapeKeeps_walk W hT (.slice a0 len0 cap0) l0 w0 x1 b1.1 b1.2 x2 b2.1 b2.2).mono fun e W' ⟨he, bel⟩ => ?_
  subst he
  exact ⟨_, rfl, _, _, _, [], _, [], hW', trodAll_mk1 (shut_bool Tryd.underlying4 _), (trodAll_cons_mk (Below.trod tapeKeeps_laidOut (by kernel_rfl) (of_decide_eq_true (by kernel_rfl)) k0 bel lt0) (trodAll_cons_mk (Below.trod tapeKeeps_laidOut (by kernel_rfl) (of_decide_eq_true (by kernel_rfl)) k1 bel lt1) (trodAll_cons_mk (Below.trod tapeKeeps_laidOut (by kernel_rfl) (of_decide_eq_true (by kernel_rfl)) k2 bel lt2) trodAll_mk0))), rfl, bel.frame _, fun h => by cases h⟩
set_option maxRecDepth 1000000 in
theorem tapeKeeps_said : Rows.TapeKeepsSaid :=
  OpenClaim.holds_of_cond 13 Tryd.f13 rfl rfl rfl rfl rfl rfl rfl ⟨rfl, rfl, rfl, rfl, rfl⟩ rfl rfl rfl rfl rfl (by as_aux_lemma => kernel_rfl) Tryd.func13 (joined_mk tapeKeeps_j1 seat_laidOut seat_mapsRowed tapeKeeps_j4 tapeKeeps_j5 tapeKeeps_j6 seat_stops tapeKeeps_j8 seat_stopKnobs tapeKeeps_j10 tapeKeeps_j11 tapeKeeps_j12 tapeKeeps_j13 tapeKeeps_j14 tapeKeeps_j15 tapeKeeps_j16 tapeKeeps_j17 tapeKeeps_j18 tapeKeeps_j19 tapeKeeps_j20 tapeKeeps_j21 tapeKeeps_j22 tapeKeeps_j23 tapeKeeps_j24 seat_stopsHeard seat_mayEnter tapeKeeps_j27 tapeKeeps_j28 tapeKeeps_j29 tapeKeeps_j30 tapeKeeps_j31 tapeKeeps_j32)
    (of_decide_eq_true (by as_aux_lemma => kernel_rfl)) (by unfold Func.isWrapper; first | (rw [if_pos (by decide +kernel)]; kernel_rfl) | (rw [if_neg (by decide +kernel)]; exact ⟨rfl, rfl⟩))
    (fun os started H enc _ F => by rw [OpenClaim.pre_eq_preRow]; exact tapeKeeps_lifted os started H enc F)
theorem tapeKeeps_plain (f : FuncId) (fn : Func) (hf : Tryd.pinned.checked.prog.funcNamed "canopy/canopykeep.TapeKeeps" = some f) (hfn : Tryd.pinned.checked.prog.funcs[f]? = some fn) :
    false = Tryd.pinned.checked.prog.looks [] ∧ ∀ (j : Nat) t, fn.params[j]? = some t → Tryd.pinned.checked.prog.wantsStandIn t = false := by
  obtain rfl : f = 13 := Option.some.inj ((show Tryd.prog.funcNamed "canopy/canopykeep.TapeKeeps" = some 13 by kernel_rfl).symm.trans hf) |>.symm
  obtain rfl : fn = Tryd.f13 := (Option.some.inj (Tryd.func13.symm.trans hfn)).symm
  refine ⟨by kernel_rfl, fun j t ht => ?_⟩
  have hall : (Tryd.f13.params.all fun t => !Tryd.prog.wantsStandIn t) = true := by kernel_rfl
  have := Array.all_eq_true_iff_forall_mem.1 hall t (Array.mem_of_getElem? ht)
  show Tryd.prog.wantsStandIn t = false
  simpa using this
set_option maxRecDepth 1000000 in
theorem tapeKeeps_holds : Rows.TapeKeepsCardSaid :=
  Claim7.holds_tied_plain_at .later [] _ _ _ _ tapeKeeps_said (fun _ h => by cases h) (by kernel_rfl) (fun _ h => by cases h) tapeKeeps_row_tie rfl ⟨rfl, rfl⟩ (by kernel_rfl) rfl tapeKeeps_plain (by kernel_rfl)
#print axioms tapeKeeps_holds
end Go.Proofs.YtikklmjengkliaaDoor
