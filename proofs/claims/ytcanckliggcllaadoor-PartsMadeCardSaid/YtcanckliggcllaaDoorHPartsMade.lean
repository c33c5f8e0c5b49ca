/- The law PartsMade: for every input the call returns true, and each argument reads behind the call as it read before. -/
import Derived.Test.YtcanckliggcllaaDoorBU9
import Derived.Test.YtcanckliggcllaaDoorBU1
import Derived.Test.YtcanckliggcllaaDoorBU8
namespace Go.Proofs.YtcanckliggcllaaDoor
open Go.ChangeShapes Go.WideShapes Go.ChangeAt Go.RowKit
set_option linter.unusedVariables false
theorem partsMade_own : ownKnob Tryd.prog.godebug = none := by kernel_rfl
theorem partsMade_laidOut : laidOutB Tryd.prog = true := seat_laidOut
theorem partsMade_j1 : (Rows.partsMadeRow.wf (OpenSpec.ofChange Rows.partsMadeSpec)) = true := by kernel_rfl
theorem partsMade_j4 : (Tryd.f5.params.all (Tryd.pinned.checked.prog.readableRec ·)) = true := by kernel_rfl
theorem partsMade_j5 : (namedTie Tryd.pinned.checked.prog Rows.partsMadeRow.named Rows.partsMadeSpec.vars) = true := by kernel_rfl
theorem partsMade_j6 : ((Rows.partsMadeRow.stops == [])) = true := by kernel_rfl
theorem partsMade_j8 : ((Rows.partsMadeRow.knobs == [])) = true := by kernel_rfl
theorem partsMade_j10 : ((Rows.partsMadeRow.inPlace == Tryd.pinned.checked.prog.inPlace 5)) = true := by kernel_rfl
theorem partsMade_j11 : ((Rows.partsMadeRow.unfollowed == Tryd.pinned.checked.prog.unfollowed 5)) = true := by kernel_rfl
theorem partsMade_j12 : ((Rows.partsMadeRow.recurses == Tryd.pinned.checked.prog.recurses 5)) = true := by kernel_rfl
theorem partsMade_j13 : ((Rows.partsMadeRow.named == Tryd.pinned.checked.prog.varsNamed 5)) = true := by kernel_rfl
theorem partsMade_j14 : ((Rows.partsMadeRow.maps == (Tryd.f5.params.toList ++ Rows.partsMadeSpec.plain.varTypes Tryd.pinned.checked.prog).any (Tryd.pinned.checked.prog.mapsRec ·))) = true := by kernel_rfl
theorem partsMade_j15 : ((Rows.partsMadeRow.ifaces == (Tryd.f5.params.toList ++ Rows.partsMadeSpec.plain.varTypes Tryd.pinned.checked.prog).any (Tryd.pinned.checked.prog.ifacesRec ·))) = true := by kernel_rfl
theorem partsMade_j16 : ((Rows.partsMadeRow.mapsOut == Tryd.pinned.checked.prog.mapsAmong Tryd.f5.resultTypes.toList)) = true := by kernel_rfl
theorem partsMade_j17 : ((Rows.partsMadeRow.loops == (Tryd.f5.params.toList ++ Rows.partsMadeSpec.plain.varTypes Tryd.pinned.checked.prog).any (Tryd.pinned.checked.prog.loopsFrom ·))) = true := by kernel_rfl
theorem partsMade_j18 : ((Rows.partsMadeRow.wideKeys == (Tryd.f5.params.toList ++ Rows.partsMadeSpec.plain.varTypes Tryd.pinned.checked.prog ++ Tryd.f5.resultTypes.toList).any (Tryd.pinned.checked.prog.wideKeysFrom ·))) = true := by kernel_rfl
theorem partsMade_j19 : (Rows.partsMadeSpec.vars.all (Tryd.pinned.checked.prog.varReadable ·)) = true := by kernel_rfl
theorem partsMade_j20 : (Tryd.f5.resultTypes.all (fun t => Tryd.pinned.checked.prog.readableRec t && decide (t < Tryd.pinned.checked.prog.types.size))) = true := by kernel_rfl
theorem partsMade_j21 : ((Rows.partsMadeRow.ifacesOut == Tryd.f5.resultTypes.toList.any (Tryd.pinned.checked.prog.ifacesRec ·))) = true := by kernel_rfl
theorem partsMade_j22 : ((Rows.partsMadeRow.loopsOut == Tryd.f5.resultTypes.toList.any (Tryd.pinned.checked.prog.loopsFrom ·))) = true := by kernel_rfl
theorem partsMade_j23 : ((Rows.partsMadeRow.plainKeys == Tryd.pinned.checked.prog.plainKeys)) = true := by kernel_rfl
theorem partsMade_j24 : (Rows.partsMadeRow.shortTexts.isNone) = true := by kernel_rfl
theorem partsMade_j27 : (Rows.partsMadeRow.lifted == Tryd.pinned.checked.prog.liftsFinal) = true := (congrArg (fun b => Rows.partsMadeRow.lifted == b) seat_liftsFinal).trans (by kernel_rfl)
theorem partsMade_j28 : (Tryd.pinned.checked.prog.make == some Rows.partsMadeRow.make) = true := (congrArg (fun b => b == some Rows.partsMadeRow.make) seat_make).trans (by kernel_rfl)
theorem partsMade_j29 : ((Rows.partsMadeRow.kinds == (if Rows.partsMadeRow.domain.isEmpty then [] else Tryd.f5.params.toList.map fun t => match Tryd.pinned.checked.prog.underlying t with | some (.int k) => some k | _ => none))) = true := by kernel_rfl
theorem partsMade_j30 : ((Rows.partsMadeRow.pinned == Rows.partsMadeRow.pinnedBy)) = true := by kernel_rfl
theorem partsMade_j31 : ((Rows.partsMadeRow.veiled == (Tryd.f5.params.toList ++ Rows.partsMadeSpec.plain.varTypes Tryd.pinned.checked.prog ++ Tryd.f5.resultTypes.toList).any (Tryd.pinned.checked.prog.veiledRec ·))) = true := by kernel_rfl
theorem partsMade_j32 : (Rows.partsMadeRow.veiledFits Tryd.pinned.checked.prog Tryd.f5.params.toList (Tryd.f5.params.toList ++ Rows.partsMadeSpec.plain.varTypes Tryd.pinned.checked.prog ++ Tryd.f5.resultTypes.toList)) = true := by kernel_rfl
theorem partsMade_met (os : Os) : laidMet Tryd.prog Rows.partsMadeRow.laid ((digWorld os).forCall (fun _ _ => 0) ⟨#[], #[.int .u8 0, .slice none 0 0, .slice none 0 0], []⟩).memory :=
  laidMet_of_run' 8 (by kernel_rfl) (by kernel_rfl)
theorem partsMade_reads (os : Os) {H : Type} (enc : TypeId × Value → H) : ∃ x, DataW.whole enc Tryd.prog ((digWorld os).forCall (fun _ _ => 0) ⟨#[], #[.int .u8 0, .slice none 0 0, .slice none 0 0], []⟩).memory Tryd.f5.params.toList Rows.partsMadeSpec.vars false (#[.int .u8 0, .slice none 0 0, .slice none 0 0] : Array Value).toList 8 = some x :=
  Option.isSome_iff_exists.1 (by kernel_rfl)
set_option maxRecDepth 100000 in
theorem partsMade_lifted (os : Os) (started : os.Started) (H : Type) (enc : TypeId × Value → H) (F : Stop.Interp) :
    ReturnsInHanded {} Tryd.checked os 5 .any ((OpenSpec.ofChange Rows.partsMadeSpec).preRow enc Tryd.prog Tryd.f5 Rows.partsMadeRow.domain false Rows.partsMadeRow.laid) (((OpenSpec.ofChange Rows.partsMadeSpec).at F).post enc Tryd.prog Tryd.f5 false true false false) := by
  obtain ⟨places, hx⟩ := partsMade_reads os enc
  refine returnsInHanded_of_row (C := Tryd.checked) (s := OpenSpec.ofChange Rows.partsMadeSpec) partsMade_own started (by kernel_rfl) Tryd.func5
    (witness_row_at (enc := enc) (C := Tryd.checked) false (digWorld os) #[.int .u8 0, .slice none 0 0, .slice none 0 0] rfl (by kernel_rfl) (by kernel_rfl) (by kernel_rfl)
      (OpenSpec.preRow_of_cond 8 hx rfl (fun k hk => by cases hk) (by kernel_rfl) (partsMade_met os))) ?_
  intro W base args ds gs before hval0 hW _ _ hsz hL _ _
  have hval : ∀ (j : Nat) t v, Tryd.f5.params[j]? = some t → args[j]? = some v → Value.okWide Tryd.prog W .any base t v := hval0
  have hW' := hW
  obtain ⟨p, q, hA0, hV, rfl, hfz, hnd⟩ := hW
  have hA : DataW.TrodAll enc Tryd.prog W 0 (fun _ => true) true Tryd.f5.params.toList args.toList ds p := hA0
  rw [Tryd.params5] at hA hval
  have hT := dig_met hL
  obtain ⟨v0, vs0, d0, ds0, p0, q0, hargs, rfl, rfl, h0, r0⟩ := trodAll_cons hA
  obtain ⟨v1, vs1, d1, ds1, p1, q1, rfl, rfl, rfl, h1, r1⟩ := trodAll_cons r0
  obtain ⟨v2, vs2, d2, ds2, p2, q2, rfl, rfl, rfl, h2, r2⟩ := trodAll_cons r1
  obtain ⟨rfl, rfl, rfl⟩ := trodAll_nil r2
  obtain rfl : args = #[v0, v1, v2] := by cases args; simp_all
  obtain ⟨rfl, rfl⟩ := trodVars_none hV
  have k0 := h0
  have lt0 : ∀ x ∈ p0, x.block < W.heap.size := by obtain ⟨m, hm⟩ := k0; exact DataW.trod_lt m _ _ _ hm
  obtain ⟨x0, rfl, _, _, wx0⟩ := open_int Tryd.underlying5 (hval 0 5 v0 rfl rfl) h0
  have b0 := bounds_u8 wx0
  obtain ⟨u0, rfl⟩ : ∃ u : UInt8, x0 = (u.toNat : Int) := ⟨UInt8.ofNat x0.toNat, by simp; omega⟩
  have k1 := h1
  have lt1 : ∀ x ∈ p1, x.block < W.heap.size := by obtain ⟨m, hm⟩ := k1; exact DataW.trod_lt m _ _ _ hm
  obtain ⟨a1, len1, cap1, rfl⟩ := okWide_slice Tryd.underlying22 (hval 1 22 v1 rfl rfl)
  obtain ⟨l1, w1⟩ : ∃ l, Bs (whole W) (.slice a1 len1 cap1) l := by
    obtain ⟨fuel, hf⟩ := h1
    exact rd_bytes_cells Tryd.underlying22 Tryd.underlying5 (by kernel_rfl) hf
  have k2 := h2
  have lt2 : ∀ x ∈ p2, x.block < W.heap.size := by obtain ⟨m, hm⟩ := k2; exact DataW.trod_lt m _ _ _ hm
  obtain ⟨a2, len2, cap2, rfl⟩ := okWide_slice Tryd.underlying22 (hval 2 22 v2 rfl rfl)
  obtain ⟨l2, w2⟩ : ∃ l, Bs (whole W) (.slice a2 len2 cap2) l := by
    obtain ⟨fuel, hf⟩ := h2
    exact rd_bytes_cells Tryd.underlying22 Tryd.underlying5 (by kernel_rfl) hf
  clear hA0 hval0
  refine (partsMade_walk W hT u0 (.slice a1 len1 cap1) l1 w1 (.slice a2 len2 cap2) l2 w2).mono fun e W' ⟨he, bel⟩ => ?_
  subst he
  exact ⟨_, rfl, _, _, _, [], _, [], hW', trodAll_mk1 (shut_bool Tryd.underlying4 _), (trodAll_cons_mk (Below.trod partsMade_laidOut (by kernel_rfl) (of_decide_eq_true (by kernel_rfl)) k0 bel lt0) (trodAll_cons_mk (Below.trod partsMade_laidOut (by kernel_rfl) (of_decide_eq_true (by kernel_rfl)) k1 bel lt1) (trodAll_cons_mk (Below.trod partsMade_laidOut (by kernel_rfl) (of_decide_eq_true (by kernel_rfl)) k2 bel lt2) trodAll_mk0))), rfl, bel.frame _, fun h => by cases h⟩
set_option maxRecDepth 1000000 in
theorem partsMade_said : Rows.PartsMadeSaid :=
  OpenClaim.holds_of_cond 5 Tryd.f5 rfl rfl rfl rfl rfl rfl rfl ⟨rfl, rfl, rfl, rfl, rfl⟩ rfl rfl rfl rfl rfl (by as_aux_lemma => kernel_rfl) Tryd.func5 (joined_mk partsMade_j1 seat_laidOut seat_mapsRowed partsMade_j4 partsMade_j5 partsMade_j6 seat_stops partsMade_j8 seat_stopKnobs partsMade_j10 partsMade_j11 partsMade_j12 partsMade_j13 partsMade_j14 partsMade_j15 partsMade_j16 partsMade_j17 partsMade_j18 partsMade_j19 partsMade_j20 partsMade_j21 partsMade_j22 partsMade_j23 partsMade_j24 seat_stopsHeard seat_mayEnter partsMade_j27 partsMade_j28 partsMade_j29 partsMade_j30 partsMade_j31 partsMade_j32)
    (of_decide_eq_true (by as_aux_lemma => kernel_rfl)) (by unfold Func.isWrapper; first | (rw [if_pos (by decide +kernel)]; kernel_rfl) | (rw [if_neg (by decide +kernel)]; exact ⟨rfl, rfl⟩))
    (fun os started H enc _ F => by rw [OpenClaim.pre_eq_preRow]; exact partsMade_lifted os started H enc F)
theorem partsMade_plain (f : FuncId) (fn : Func) (hf : Tryd.pinned.checked.prog.funcNamed "canopy/canopykeep.PartsMade" = some f) (hfn : Tryd.pinned.checked.prog.funcs[f]? = some fn) :
    false = Tryd.pinned.checked.prog.looks [] ∧ ∀ (j : Nat) t, fn.params[j]? = some t → Tryd.pinned.checked.prog.wantsStandIn t = false := by
  obtain rfl : f = 5 := Option.some.inj ((show Tryd.prog.funcNamed "canopy/canopykeep.PartsMade" = some 5 by kernel_rfl).symm.trans hf) |>.symm
  obtain rfl : fn = Tryd.f5 := (Option.some.inj (Tryd.func5.symm.trans hfn)).symm
  refine ⟨by kernel_rfl, fun j t ht => ?_⟩
  have hall : (Tryd.f5.params.all fun t => !Tryd.prog.wantsStandIn t) = true := by kernel_rfl
  have := Array.all_eq_true_iff_forall_mem.1 hall t (Array.mem_of_getElem? ht)
  show Tryd.prog.wantsStandIn t = false
  simpa using this
set_option maxRecDepth 1000000 in
theorem partsMade_holds : Rows.PartsMadeCardSaid :=
  Claim7.holds_tied_plain_at .later [] _ _ _ _ partsMade_said (fun _ h => by cases h) (by kernel_rfl) (fun _ h => by cases h) partsMade_row_tie rfl ⟨rfl, rfl⟩ (by kernel_rfl) rfl partsMade_plain (by kernel_rfl)
#print axioms partsMade_holds
end Go.Proofs.YtcanckliggcllaaDoor
