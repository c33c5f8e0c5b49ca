/- The law ForestApart: for every input the call returns true, and each argument reads behind the call as it read before. -/
import Derived.Test.YtikklmjengkliaaDoorCForestApart
import Derived.Test.YtikklmjengkliaaDoorCB1
import Derived.Test.YtikklmjengkliaaDoorCB3
import Derived.Test.YtikklmjengkliaaDoorCB10
import Derived.Lib.SmallJoins
namespace Go.Proofs.YtikklmjengkliaaDoor
open Go.ChangeShapes Go.WideShapes Go.ChangeAt Go.RowKit
set_option linter.unusedVariables false
theorem forestApart_own : ownKnob Tryd.prog.godebug = none := by kernel_rfl
theorem forestApart_laidOut : laidOutB Tryd.prog = true := seat_laidOut
theorem forestApart_j1 : (Rows.forestApartRow.wf (OpenSpec.ofChange Rows.forestApartSpec)) = true := by kernel_rfl
theorem forestApart_j4 : (Tryd.f6.params.all (Tryd.pinned.checked.prog.readableRec ·)) = true := by kernel_rfl
theorem forestApart_j5 : (namedTie Tryd.pinned.checked.prog Rows.forestApartRow.named Rows.forestApartSpec.vars) = true := by kernel_rfl
theorem forestApart_j6 : ((Rows.forestApartRow.stops == [])) = true := by kernel_rfl
theorem forestApart_j8 : ((Rows.forestApartRow.knobs == [])) = true := by kernel_rfl
theorem forestApart_j10 : ((Rows.forestApartRow.inPlace == Tryd.pinned.checked.prog.inPlace 6)) = true := by kernel_rfl
theorem forestApart_j11 : ((Rows.forestApartRow.unfollowed == Tryd.pinned.checked.prog.unfollowed 6)) = true := by kernel_rfl
theorem forestApart_j12 : ((Rows.forestApartRow.recurses == Tryd.pinned.checked.prog.recurses 6)) = true := by kernel_rfl
theorem forestApart_j13 : ((Rows.forestApartRow.named == Tryd.pinned.checked.prog.varsNamed 6)) = true := by kernel_rfl
theorem forestApart_j14 : ((Rows.forestApartRow.maps == (Tryd.f6.params.toList ++ Rows.forestApartSpec.plain.varTypes Tryd.pinned.checked.prog).any (Tryd.pinned.checked.prog.mapsRec ·))) = true := by kernel_rfl
theorem forestApart_j15 : ((Rows.forestApartRow.ifaces == (Tryd.f6.params.toList ++ Rows.forestApartSpec.plain.varTypes Tryd.pinned.checked.prog).any (Tryd.pinned.checked.prog.ifacesRec ·))) = true := by kernel_rfl
theorem forestApart_j16 : ((Rows.forestApartRow.mapsOut == Tryd.pinned.checked.prog.mapsAmong Tryd.f6.resultTypes.toList)) = true := by kernel_rfl
theorem forestApart_j17 : ((Rows.forestApartRow.loops == (Tryd.f6.params.toList ++ Rows.forestApartSpec.plain.varTypes Tryd.pinned.checked.prog).any (Tryd.pinned.checked.prog.loopsFrom ·))) = true := by kernel_rfl
theorem forestApart_j18 : ((Rows.forestApartRow.wideKeys == (Tryd.f6.params.toList ++ Rows.forestApartSpec.plain.varTypes Tryd.pinned.checked.prog ++ Tryd.f6.resultTypes.toList).any (Tryd.pinned.checked.prog.wideKeysFrom ·))) = true := by kernel_rfl
theorem forestApart_j19 : (Rows.forestApartSpec.vars.all (Tryd.pinned.checked.prog.varReadable ·)) = true := by kernel_rfl
theorem forestApart_j20 : (Tryd.f6.resultTypes.all (fun t => Tryd.pinned.checked.prog.readableRec t && decide (t < Tryd.pinned.checked.prog.types.size))) = true := by kernel_rfl
theorem forestApart_j21 : ((Rows.forestApartRow.ifacesOut == Tryd.f6.resultTypes.toList.any (Tryd.pinned.checked.prog.ifacesRec ·))) = true := by kernel_rfl
theorem forestApart_j22 : ((Rows.forestApartRow.loopsOut == Tryd.f6.resultTypes.toList.any (Tryd.pinned.checked.prog.loopsFrom ·))) = true := by kernel_rfl
theorem forestApart_j23 : ((Rows.forestApartRow.plainKeys == Tryd.pinned.checked.prog.plainKeys)) = true := by kernel_rfl
theorem forestApart_j24 : (Rows.forestApartRow.shortTexts.isNone) = true := by kernel_rfl
theorem forestApart_j27 : (Rows.forestApartRow.lifted == Tryd.pinned.checked.prog.liftsFinal) = true := (congrArg (fun b => Rows.forestApartRow.lifted == b) seat_liftsFinal).trans (by kernel_rfl)
theorem forestApart_j28 : (Tryd.pinned.checked.prog.make == some Rows.forestApartRow.make) = true := (congrArg (fun b => b == some Rows.forestApartRow.make) seat_make).trans (by kernel_rfl)
theorem forestApart_j29 : ((Rows.forestApartRow.kinds == (if Rows.forestApartRow.domain.isEmpty then [] else Tryd.f6.params.toList.map fun t => match Tryd.pinned.checked.prog.underlying t with | some (.int k) => some k | _ => none))) = true := by kernel_rfl
theorem forestApart_j30 : ((Rows.forestApartRow.pinned == Rows.forestApartRow.pinnedBy)) = true := by kernel_rfl
theorem forestApart_j31 : ((Rows.forestApartRow.veiled == (Tryd.f6.params.toList ++ Rows.forestApartSpec.plain.varTypes Tryd.pinned.checked.prog ++ Tryd.f6.resultTypes.toList).any (Tryd.pinned.checked.prog.veiledRec ·))) = true := by kernel_rfl
theorem forestApart_j32 : (Rows.forestApartRow.veiledFits Tryd.pinned.checked.prog Tryd.f6.params.toList (Tryd.f6.params.toList ++ Rows.forestApartSpec.plain.varTypes Tryd.pinned.checked.prog ++ Tryd.f6.resultTypes.toList)) = true := by kernel_rfl
theorem forestApart_met (os : Os) : laidMet Tryd.prog Rows.forestApartRow.laid ((digWorld os).forCall (fun _ _ => 0) ⟨#[], #[.slice none 0 0, .agg #[.slice none 0 0, .slice none 0 0, .slice none 0 0, .bool false], .agg #[.slice none 0 0, .slice none 0 0, .slice none 0 0, .bool false]], []⟩).memory :=
  laidMet_of_run' 8 (by kernel_rfl) (by kernel_rfl)
theorem forestApart_reads (os : Os) {H : Type} (enc : TypeId × Value → H) : ∃ x, DataW.whole enc Tryd.prog ((digWorld os).forCall (fun _ _ => 0) ⟨#[], #[.slice none 0 0, .agg #[.slice none 0 0, .slice none 0 0, .slice none 0 0, .bool false], .agg #[.slice none 0 0, .slice none 0 0, .slice none 0 0, .bool false]], []⟩).memory Tryd.f6.params.toList Rows.forestApartSpec.vars false (#[.slice none 0 0, .agg #[.slice none 0 0, .slice none 0 0, .slice none 0 0, .bool false], .agg #[.slice none 0 0, .slice none 0 0, .slice none 0 0, .bool false]] : Array Value).toList 8 = some x :=
  Option.isSome_iff_exists.1 (by kernel_rfl)
set_option maxRecDepth 100000 in
theorem forestApart_lifted (os : Os) (started : os.Started) (H : Type) (enc : TypeId × Value → H) (F : Stop.Interp) :
    ReturnsInHanded {} Tryd.checked os 6 .any ((OpenSpec.ofChange Rows.forestApartSpec).preRow enc Tryd.prog Tryd.f6 Rows.forestApartRow.domain false Rows.forestApartRow.laid) (((OpenSpec.ofChange Rows.forestApartSpec).at F).post enc Tryd.prog Tryd.f6 false true false false) := by
  obtain ⟨places, hx⟩ := forestApart_reads os enc
  refine returnsInHanded_of_row (C := Tryd.checked) (s := OpenSpec.ofChange Rows.forestApartSpec) forestApart_own started (by kernel_rfl) Tryd.func6
    (witness_row_at (enc := enc) (C := Tryd.checked) false (digWorld os) #[.slice none 0 0, .agg #[.slice none 0 0, .slice none 0 0, .slice none 0 0, .bool false], .agg #[.slice none 0 0, .slice none 0 0, .slice none 0 0, .bool false]] rfl (by kernel_rfl) (by kernel_rfl) (by kernel_rfl)
      (OpenSpec.preRow_of_cond 8 hx rfl (fun k hk => by cases hk) (by kernel_rfl) (forestApart_met os))) ?_
  intro W base args ds gs before hval0 hW _ _ hsz hL _ _
  have hval : ∀ (j : Nat) t v, Tryd.f6.params[j]? = some t → args[j]? = some v → Value.okWide Tryd.prog W .any base t v := hval0
  have hW' := hW
  obtain ⟨p, q, hA0, hV, rfl, hfz, hnd⟩ := hW
  have hA : DataW.TrodAll enc Tryd.prog W 0 (fun _ => true) true Tryd.f6.params.toList args.toList ds p := hA0
  rw [Tryd.params6] at hA hval
  have hT := dig_met hL
  obtain ⟨v0, vs0, d0, ds0, p0, q0, hargs, rfl, rfl, h0, r0⟩ := trodAll_cons hA
  obtain ⟨v1, vs1, d1, ds1, p1, q1, rfl, rfl, rfl, h1, r1⟩ := trodAll_cons r0
  obtain ⟨v2, vs2, d2, ds2, p2, q2, rfl, rfl, rfl, h2, r2⟩ := trodAll_cons r1
  obtain ⟨rfl, rfl, rfl⟩ := trodAll_nil r2
  obtain rfl : args = #[v0, v1, v2] := by cases args; simp_all
  obtain ⟨rfl, rfl⟩ := trodVars_none hV
  have k0 := h0
  have lt0 : ∀ x ∈ p0, x.block < W.heap.size := by obtain ⟨m, hm⟩ := k0; exact DataW.trod_lt m _ _ _ hm
  obtain ⟨a0, len0, cap0, rfl⟩ := okWide_slice Tryd.underlying22 (hval 0 22 v0 rfl rfl)
  obtain ⟨l0, w0⟩ : ∃ l, Pls (whole W) (.slice a0 len0 cap0) l := by
    obtain ⟨fuel, hf⟩ := h0
    exact rd_places Tryd.underlying22 Tryd.underlying45 (by kernel_rfl) (by kernel_rfl) rfl rfl rfl rfl Tryd.underlying23 Tryd.underlying5 (by kernel_rfl) Tryd.underlying4 hf
  have k1 := h1
  have lt1 : ∀ x ∈ p1, x.block < W.heap.size := by obtain ⟨m, hm⟩ := k1; exact DataW.trod_lt m _ _ _ hm
  obtain ⟨c1_0, c1_1, c1_2, c1_3, y1_0, y1_1, y1_2, y1_3, n1, rfl, _, _, t1_0, t1_1, t1_2, t1_3⟩ := Joins.open_agg4 Tryd.underlying45 (by kernel_rfl) (by kernel_rfl) (hval 1 45 v1 rfl rfl) h1
  obtain ⟨l1_0, w1_0⟩ := rd_bytes_cells Tryd.underlying23 Tryd.underlying5 (by kernel_rfl) t1_0
  obtain ⟨l1_1, w1_1⟩ := rd_bytes_cells Tryd.underlying23 Tryd.underlying5 (by kernel_rfl) t1_1
  obtain ⟨l1_2, w1_2⟩ := rd_bytes_cells Tryd.underlying23 Tryd.underlying5 (by kernel_rfl) t1_2
  obtain ⟨z1_3, ez1_3, _⟩ := DataW.trod_bool Tryd.underlying4 t1_3
  obtain rfl : c1_3 = _ := by simpa using ez1_3
  have k2 := h2
  have lt2 : ∀ x ∈ p2, x.block < W.heap.size := by obtain ⟨m, hm⟩ := k2; exact DataW.trod_lt m _ _ _ hm
  obtain ⟨c2_0, c2_1, c2_2, c2_3, y2_0, y2_1, y2_2, y2_3, n2, rfl, _, _, t2_0, t2_1, t2_2, t2_3⟩ := Joins.open_agg4 Tryd.underlying45 (by kernel_rfl) (by kernel_rfl) (hval 2 45 v2 rfl rfl) h2
  obtain ⟨l2_0, w2_0⟩ := rd_bytes_cells Tryd.underlying23 Tryd.underlying5 (by kernel_rfl) t2_0
  obtain ⟨l2_1, w2_1⟩ := rd_bytes_cells Tryd.underlying23 Tryd.underlying5 (by kernel_rfl) t2_1
  obtain ⟨l2_2, w2_2⟩ := rd_bytes_cells Tryd.underlying23 Tryd.underlying5 (by kernel_rfl) t2_2
  obtain ⟨z2_3, ez2_3, _⟩ := DataW.trod_bool Tryd.underlying4 t2_3
  obtain rfl : c2_3 = _ := by simpa using ez2_3
  clear hA0 hval0
  refine (forestApart_walk W hT (.slice a0 len0 cap0) l0 w0 (⟨l1_0, l1_1, l1_2, z1_3⟩ : Pl) c1_0 w1_0 c1_1 w1_1 c1_2 w1_2 (⟨l2_0, l2_1, l2_2, z2_3⟩ : Pl) c2_0 w2_0 c2_1 w2_1 c2_2 w2_2).mono fun e W' ⟨he, bel⟩ => ?_
  subst he
  exact ⟨_, rfl, _, _, _, [], _, [], hW', trodAll_mk1 (shut_bool Tryd.underlying4 _), (trodAll_cons_mk (Below.trod forestApart_laidOut (by kernel_rfl) (of_decide_eq_true (by kernel_rfl)) k0 bel lt0) (trodAll_cons_mk (Below.trod forestApart_laidOut (by kernel_rfl) (of_decide_eq_true (by kernel_rfl)) k1 bel lt1) (trodAll_cons_mk (Below.trod forestApart_laidOut (by kernel_rfl) (of_decide_eq_true (by kernel_rfl)) k2 bel lt2) trodAll_mk0))), rfl, bel.frame _, fun h => by cases h⟩
set_option maxRecDepth 1000000 in
theorem forestApart_said : Rows.ForestApartSaid :=
  OpenClaim.holds_of_cond 6 Tryd.f6 rfl rfl rfl rfl rfl rfl rfl ⟨rfl, rfl, rfl, rfl, rfl⟩ rfl rfl rfl rfl rfl (by as_aux_lemma => kernel_rfl) Tryd.func6 (joined_mk forestApart_j1 seat_laidOut seat_mapsRowed forestApart_j4 forestApart_j5 forestApart_j6 seat_stops forestApart_j8 seat_stopKnobs forestApart_j10 forestApart_j11 forestApart_j12 forestApart_j13 forestApart_j14 forestApart_j15 forestApart_j16 forestApart_j17 forestApart_j18 forestApart_j19 forestApart_j20 forestApart_j21 forestApart_j22 forestApart_j23 forestApart_j24 seat_stopsHeard seat_mayEnter forestApart_j27 forestApart_j28 forestApart_j29 forestApart_j30 forestApart_j31 forestApart_j32)
    (of_decide_eq_true (by as_aux_lemma => kernel_rfl)) (by unfold Func.isWrapper; first | (rw [if_pos (by decide +kernel)]; kernel_rfl) | (rw [if_neg (by decide +kernel)]; exact ⟨rfl, rfl⟩))
    (fun os started H enc _ F => by rw [OpenClaim.pre_eq_preRow]; exact forestApart_lifted os started H enc F)
theorem forestApart_plain (f : FuncId) (fn : Func) (hf : Tryd.pinned.checked.prog.funcNamed "canopy/canopykeep.ForestApart" = some f) (hfn : Tryd.pinned.checked.prog.funcs[f]? = some fn) :
    false = Tryd.pinned.checked.prog.looks [] ∧ ∀ (j : Nat) t, fn.params[j]? = some t → Tryd.pinned.checked.prog.wantsStandIn t = false := by
  obtain rfl : f = 6 := Option.some.inj ((show Tryd.prog.funcNamed "canopy/canopykeep.ForestApart" = some 6 by kernel_rfl).symm.trans hf) |>.symm
  obtain rfl : fn = Tryd.f6 := (Option.some.inj (Tryd.func6.symm.trans hfn)).symm
  refine ⟨by kernel_rfl, fun j t ht => ?_⟩
  have hall : (Tryd.f6.params.all fun t => !Tryd.prog.wantsStandIn t) = true := by kernel_rfl
  have := Array.all_eq_true_iff_forall_mem.1 hall t (Array.mem_of_getElem? ht)
  show Tryd.prog.wantsStandIn t = false
  simpa using this
set_option maxRecDepth 1000000 in
theorem forestApart_holds : Rows.ForestApartCardSaid :=
  Claim7.holds_tied_plain_at .later [] _ _ _ _ forestApart_said (fun _ h => by cases h) (by kernel_rfl) (fun _ h => by cases h) forestApart_row_tie rfl ⟨rfl, rfl⟩ (by kernel_rfl) rfl forestApart_plain (by kernel_rfl)
#print axioms forestApart_holds
end Go.Proofs.YtikklmjengkliaaDoor
