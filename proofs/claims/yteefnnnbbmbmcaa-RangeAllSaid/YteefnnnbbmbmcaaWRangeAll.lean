/- Walk of RangeAll -/
import Derived.Test.YteefnnnbbmbmcaaK3
namespace Go.Proofs.Yteefnnnbbmbmcaa
open Go.RowKit
set_option maxRecDepth 100000
set_option linter.unusedVariables false
set_option linter.unusedSimpArgs false
theorem rangeT_succ {l : List Pr} {k : Nat} {p : Pr} (a b : By) (h : l[k]? = some p) : rangeT (l.take (k + 1)) a b = rangeT (l.take k) a b ++ (if (!Op.bytesLess p.1 a && !Op.bytesLess b p.1) = true then [p] else []) := by
  rw [take_snoc h]
  unfold rangeT
  rw [List.filter_append]
  congr 1
  by_cases hc : (!Op.bytesLess p.1 a && !Op.bytesLess b p.1) = true
  · rw [if_pos hc]; simp only [List.filter_cons, List.filter_nil, hc, if_true]
  · rw [if_neg hc]; simp only [List.filter_cons, List.filter_nil, hc]; rfl
theorem leq_less (x y : By) : (Op.bytesLess x y || x == y) = !Op.bytesLess y x := by
  cases h : Op.bytesLess x y with
  | true => rw [less_asymm x y h]; rfl
  | false =>
    cases h2 : Op.bytesLess y x with
    | true => have : x ≠ y := by rintro rfl; rw [h] at h2; cases h2
              simp [this]
    | false => have := less_total x y h h2; simp [this]
theorem fill_set (i : Nat) (h : i < 16) : splice ((List.replicate i (255 : UInt8) ++ List.replicate (16 - i) 0).map bv) i [bv 255] = (List.replicate (i + 1) (255 : UInt8) ++ List.replicate (16 - (i + 1)) 0).map bv := by
  unfold splice
  apply List.ext_getElem?
  intro j
  simp only [List.map_append, List.map_replicate, List.getElem?_append, List.getElem?_take, List.getElem?_drop, List.length_take, List.length_append, List.length_replicate, List.length_singleton, List.getElem?_replicate]
  grind
theorem range_len (l : List Pr) (k : Nat) (a b : By) (h : l.length ≤ 30) : (rangeT (l.take k) a b).length ≤ 30 := by
  have := rangeT_sub (l.take k) a b
  rw [List.length_take] at this
  omega
set_option maxHeartbeats 8000000 in
theorem rangeAll_walk (W : World) (v0 : Value) (l0 : List Pr) (z0 : Prs (whole W) v0 l0) (v1 : Value) (l1 : By) (z1 : Bs (whole W) v1 l1) (v2 : Value) (l2 : By) (z2 : Bs (whole W) v2 l2) :
    Calls Try.prog 10 #[v0, v1, v2] W (Tells W (.bool true)) := by
  obtain ⟨a0, c0, rfl, q0, q0'⟩ := Sl.shape z0
  obtain ⟨a1, c1, rfl, _⟩ := z1.shape
  obtain ⟨a2, c2, rfl, _⟩ := z2.shape
  have S := St.start (Sat.whole W)
  go_enter Try.func10, Try.ntmps10
  obtain ⟨i49, hi49, hz49, hs49, hb49⟩ := info_parts info_49
  obtain ⟨i5, hi5, hz5, hs5, hb5⟩ := info_parts infoU8
  refine wp_seq_k (fun K1 hK1 => ?_)
  refine region_wl ?_
  refine do_ rfl (.bool false) (ex_assign _) ?_
  simp only [Act.put, List.setIfInBounds_toArray, List.set_cons_succ, List.set_cons_zero]
  refine wl_nil ?_
  (try simp only [Exit.then, Exit.inBlock, ↓reduceIte, Nat.reduceEqDiff])
  refine hK1 _ _ ?_
  refine wp_seq_k (fun K2 hK2 => ?_)
  refine region_wl ?_
  refine do_ rfl (.slice a0 l0.length c0) (ex_move _) ?_
  simp only [Act.put, List.setIfInBounds_toArray, List.set_cons_succ, List.set_cons_zero]
  refine stGivesO PrC.mono S rfl (ex_fn (vs := #[(.slice a0 l0.length c0), (.int .i64 30)]) (map2 rfl rfl) rfl (ent_48 _ _)) (pairs_spec _ _ _ l0 30 (S).sat z0 (by omega)) ?_
  intro v7 w3 F5 S4 le6
  simp only [Act.put, List.setIfInBounds_toArray, List.set_cons_succ, List.set_cons_zero]
  have S4 : St W (whole W) w3 F5 [] [ownP 2 PrC PrC.mono 49 W.heap.size v7 (pairsN l0 30)] := S4
  obtain ⟨F8, S9, le10, hv11⟩ := St.freeze S4 (i := 0) rfl (Nat.le_refl _)
  have S9 : St W (whole W) w3 F8 [] [] := S9
  have hv11 : Prs _ v7 (pairsN l0 30) := hv11
  obtain ⟨a12, c13, rfl, h14, h15⟩ := Sl.shape hv11
  unfold maxLen at h15
  refine do_ rfl (.slice a12 (pairsN l0 30).length c13) (ex_assign _) ?_
  simp only [Act.put, List.setIfInBounds_toArray, List.set_cons_succ, List.set_cons_zero]
  refine wl_nil ?_
  (try simp only [Exit.then, Exit.inBlock, ↓reduceIte, Nat.reduceEqDiff])
  refine hK2 _ _ ?_
  refine wp_seq_k (fun K16 hK16 => ?_)
  refine region_wl ?_
  refine do_ rfl (.slice a1 l1.length c1) (ex_move _) ?_
  simp only [Act.put, List.setIfInBounds_toArray, List.set_cons_succ, List.set_cons_zero]
  refine stGives S9 rfl (ex_fn (vs := #[(.slice a1 l1.length c1)]) (map1 rfl) rfl (ent_44 _ _)) (key_spec _ _ _ l1 (S9).sat (z1.mono (le6.trans le10))) ?_
  intro v22 w17 F19 S18 le20 R21
  obtain ⟨xa23, xc24, rfl, _⟩ := R21.shape
  simp only [Act.put, List.setIfInBounds_toArray, List.set_cons_succ, List.set_cons_zero]
  have S18 : St W (whole W) w17 F19 [] [] := S18
  refine do_ rfl (.slice xa23 (keyL l1).length xc24) (ex_assign _) ?_
  simp only [Act.put, List.setIfInBounds_toArray, List.set_cons_succ, List.set_cons_zero]
  refine wl_nil ?_
  (try simp only [Exit.then, Exit.inBlock, ↓reduceIte, Nat.reduceEqDiff])
  refine hK16 _ _ ?_
  refine wp_seq_k (fun K25 hK25 => ?_)
  refine region_wl ?_
  refine do_ rfl (.slice a2 l2.length c2) (ex_move _) ?_
  simp only [Act.put, List.setIfInBounds_toArray, List.set_cons_succ, List.set_cons_zero]
  refine stGives S18 rfl (ex_fn (vs := #[(.slice a2 l2.length c2)]) (map1 rfl) rfl (ent_44 _ _)) (key_spec _ _ _ l2 (S18).sat (z2.mono ((le6.trans le10).trans le20))) ?_
  intro v31 w26 F28 S27 le29 R30
  obtain ⟨xa32, xc33, rfl, _⟩ := R30.shape
  simp only [Act.put, List.setIfInBounds_toArray, List.set_cons_succ, List.set_cons_zero]
  have S27 : St W (whole W) w26 F28 [] [] := S27
  refine do_ rfl (.slice xa32 (keyL l2).length xc33) (ex_assign _) ?_
  simp only [Act.put, List.setIfInBounds_toArray, List.set_cons_succ, List.set_cons_zero]
  refine wl_nil ?_
  (try simp only [Exit.then, Exit.inBlock, ↓reduceIte, Nat.reduceEqDiff])
  refine hK25 _ _ ?_
  refine wp_seq_k (fun K34 hK34 => ?_)
  refine region_wl ?_
  refine do_ rfl (.slice a12 (pairsN l0 30).length c13) (ex_move _) ?_
  simp only [Act.put, List.setIfInBounds_toArray, List.set_cons_succ, List.set_cons_zero]
  refine do_ rfl (.slice xa23 (keyL l1).length xc24) (ex_move _) ?_
  simp only [Act.put, List.setIfInBounds_toArray, List.set_cons_succ, List.set_cons_zero]
  refine do_ rfl (.slice xa32 (keyL l2).length xc33) (ex_move _) ?_
  simp only [Act.put, List.setIfInBounds_toArray, List.set_cons_succ, List.set_cons_zero]
  refine stGives S27 rfl (ex_fn (vs := #[(.slice a12 (pairsN l0 30).length c13), (.slice xa23 (keyL l1).length xc24), (.slice xa32 (keyL l2).length xc33)]) (map3 rfl rfl rfl) rfl (ent_49 _ _)) (rangeOk_spec _ _ _ _ _ (pairsN l0 30) (keyL l1) (keyL l2) (S27).sat (hv11.mono (le20.trans le29)) (R21.mono le29) R30 (TreeOk.mono (show TreeOk 30 (pairsN l0 30) from pairsN_ok l0 30) (by omega)) (keyL_len l1) (keyL_len l2)) ?_
  intro v40 w35 F37 S36 le38 R39
  obtain ⟨_, rfl, r43⟩ := R39
  obtain ⟨a41, c42, rfl, h44, h45⟩ := Sl.shape r43
  unfold maxLen at h45
  have h44 : (rangeT (pairsN l0 30) (keyL l1) (keyL l2)).length ≤ c42 := h44
  have r43 : Prs _ (.slice a41 (rangeT (pairsN l0 30) (keyL l1) (keyL l2)).length c42) (rangeT (pairsN l0 30) (keyL l1) (keyL l2)) := r43
  simp only [Act.put, List.setIfInBounds_toArray, List.set_cons_succ, List.set_cons_zero]
  have S36 : St W (whole W) w35 F37 [] [] := S36
  refine do_ rfl (.tuple #[(.slice a41 (rangeT (pairsN l0 30) (keyL l1) (keyL l2)).length c42), (.int .i64 0)]) (ex_move _) ?_
  simp only [Act.put, List.setIfInBounds_toArray, List.set_cons_succ, List.set_cons_zero]
  refine do_ rfl (.slice a41 (rangeT (pairsN l0 30) (keyL l1) (keyL l2)).length c42) (ex_extract rfl rfl) ?_
  simp only [Act.put, List.setIfInBounds_toArray, List.set_cons_succ, List.set_cons_zero]
  refine do_ rfl (.int .i64 0) (ex_extract rfl rfl) ?_
  simp only [Act.put, List.setIfInBounds_toArray, List.set_cons_succ, List.set_cons_zero]
  refine do_ rfl (.slice a41 (rangeT (pairsN l0 30) (keyL l1) (keyL l2)).length c42) (ex_assign _) ?_
  simp only [Act.put, List.setIfInBounds_toArray, List.set_cons_succ, List.set_cons_zero]
  refine do_ rfl (.int .i64 0) (ex_assign _) ?_
  simp only [Act.put, List.setIfInBounds_toArray, List.set_cons_succ, List.set_cons_zero]
  refine wl_nil ?_
  (try simp only [Exit.then, Exit.inBlock, ↓reduceIte, Nat.reduceEqDiff])
  refine hK34 _ _ ?_
  refine wp_seq_k (fun K46 hK46 => ?_)
  refine region_wl ?_
  refine do_ rfl (.slice none 0 0) (ex_assign _) ?_
  simp only [Act.put, List.setIfInBounds_toArray, List.set_cons_succ, List.set_cons_zero]
  refine wl_nil ?_
  (try simp only [Exit.then, Exit.inBlock, ↓reduceIte, Nat.reduceEqDiff])
  refine hK46 _ _ ?_
  refine wp_seq_k (fun K47 hK47 => ?_)
  refine wp_seq_k (fun K48 hK48 => ?_)
  have S49 := St.addNil S36 2 PrC PrC.mono 49 W.heap.size
  refine region_wl ?_
  refine do_ rfl (.int .i64 0) (ex_assign _) ?_
  simp only [Act.put, List.setIfInBounds_toArray, List.set_cons_succ, List.set_cons_zero]
  refine wl_nil ?_
  (try simp only [Exit.then, Exit.inBlock, ↓reduceIte, Nat.reduceEqDiff])
  refine hK48 _ _ ?_
  refine wp_block ?_
  refine wp_loop_g (fun mm aa w52 => ∃ (k : Nat) (v : Value) (F50 : Fz) (u51 : Nat → Value), mm = (pairsN l0 30).length - k ∧ aa = ⟨#[(.slice a0 l0.length c0), (.slice a1 l1.length c1), (.slice a2 l2.length c2), undef, undef, undef, (.bool false), (.slice a12 (pairsN l0 30).length c13), (.slice xa23 (keyL l1).length xc24), (.slice xa32 (keyL l2).length xc33), (.slice a41 (rangeT (pairsN l0 30) (keyL l1) (keyL l2)).length c42), (.int .i64 0), v, (.int .i64 ((k : Nat) : Int)), undef, undef, undef, undef, undef, undef, (.slice a0 l0.length c0), (.slice a12 (pairsN l0 30).length c13), (.slice a1 l1.length c1), (.slice xa23 (keyL l1).length xc24), (.slice a2 l2.length c2), (.slice xa32 (keyL l2).length xc33), (.tuple #[(.slice a41 (rangeT (pairsN l0 30) (keyL l1) (keyL l2)).length c42), (.int .i64 0)]), (.slice a12 (pairsN l0 30).length c13), (.slice xa23 (keyL l1).length xc24), (.slice xa32 (keyL l2).length xc33), (.tuple #[(.slice a41 (rangeT (pairsN l0 30) (keyL l1) (keyL l2)).length c42), (.int .i64 0)]), (.slice a41 (rangeT (pairsN l0 30) (keyL l1) (keyL l2)).length c42), (.int .i64 0), (u51 33), (u51 34), (u51 35), (u51 36), (u51 37), (u51 38), (u51 39), (u51 40), (u51 41), (u51 42), (u51 43), (u51 44), (u51 45), (u51 46), (u51 47), (u51 48), (u51 49), (u51 50), (u51 51), (u51 52), (u51 53), (u51 54), (u51 55), (u51 56), (u51 57), (u51 58), (u51 59), (u51 60), (u51 61), (u51 62), (u51 63), (u51 64), (u51 65), undef, undef, undef, undef, undef, undef, undef, undef, undef, undef, undef, undef, undef, undef, undef, undef, undef, undef, undef, undef, undef, undef, undef, undef, undef, undef, undef, undef, undef, undef, undef, undef, undef, undef, undef, undef, undef, undef, undef, undef, undef, undef, undef], []⟩ ∧ St W (whole W) w52 F50 [] [ownP 2 PrC PrC.mono 49 W.heap.size v (rangeT ((pairsN l0 30).take k) (keyL l1) (keyL l2))] ∧ Le F37 F50 ∧ (k ≤ (pairsN l0 30).length)) _ ⟨0, (.slice none 0 0), F37, (slotF [(.slice a0 l0.length c0), (.slice a1 l1.length c1), (.slice a2 l2.length c2), undef, undef, undef, (.bool false), (.slice a12 (pairsN l0 30).length c13), (.slice xa23 (keyL l1).length xc24), (.slice xa32 (keyL l2).length xc33), (.slice a41 (rangeT (pairsN l0 30) (keyL l1) (keyL l2)).length c42), (.int .i64 0), (.slice none 0 0), (.int .i64 0), undef, undef, undef, undef, undef, undef, (.slice a0 l0.length c0), (.slice a12 (pairsN l0 30).length c13), (.slice a1 l1.length c1), (.slice xa23 (keyL l1).length xc24), (.slice a2 l2.length c2), (.slice xa32 (keyL l2).length xc33), (.tuple #[(.slice a41 (rangeT (pairsN l0 30) (keyL l1) (keyL l2)).length c42), (.int .i64 0)]), (.slice a12 (pairsN l0 30).length c13), (.slice xa23 (keyL l1).length xc24), (.slice xa32 (keyL l2).length xc33), (.tuple #[(.slice a41 (rangeT (pairsN l0 30) (keyL l1) (keyL l2)).length c42), (.int .i64 0)]), (.slice a41 (rangeT (pairsN l0 30) (keyL l1) (keyL l2)).length c42), (.int .i64 0), undef, undef, undef, undef, undef, undef, undef, undef, undef, undef, undef, undef, undef, undef, undef, undef, undef, undef, undef, undef, undef, undef, undef, undef, undef, undef, undef, undef, undef, undef, undef, undef, undef, undef, undef, undef, undef, undef, undef, undef, undef, undef, undef, undef, undef, undef, undef, undef, undef, undef, undef, undef, undef, undef, undef, undef, undef, undef, undef, undef, undef, undef, undef, undef, undef, undef, undef, undef, undef, undef, undef, undef, undef, undef, undef, undef]), rfl, rfl, S49, Le.refl _, (by omega)⟩ ?_
  rintro m53 a54 w55 ⟨k, v, F50, u51, rfl, rfl, S56, le57, hk⟩ K58 hK58
  refine wp_seq_k (fun K59 hK59 => ?_)
  refine wp_seq_k (fun K60 hK60 => ?_)
  refine region_wl ?_
  refine do_ rfl (.int .i64 ((k : Nat) : Int)) (ex_move _) ?_
  simp only [Act.put, List.setIfInBounds_toArray, List.set_cons_succ, List.set_cons_zero]
  refine do_ rfl (.slice a12 (pairsN l0 30).length c13) (ex_move _) ?_
  simp only [Act.put, List.setIfInBounds_toArray, List.set_cons_succ, List.set_cons_zero]
  refine do_ rfl (.int .i64 (((pairsN l0 30).length : Nat) : Int)) (ex_len Try.underlying44 rfl) ?_
  simp only [Act.put, List.setIfInBounds_toArray, List.set_cons_succ, List.set_cons_zero]
  by_cases hc36 : k < (pairsN l0 30).length
  · refine do_ rfl (.bool true) (ex_lss (m := ((k : Nat) : Int)) (n := (((pairsN l0 30).length : Nat) : Int)) (b := true) rfl rfl (decide_eq_true (by omega))) ?_
    simp only [Act.put, List.setIfInBounds_toArray, List.set_cons_succ, List.set_cons_zero]
    refine wl_nil ?_
    (try simp only [Exit.then, Exit.inBlock, ↓reduceIte, Nat.reduceEqDiff])
    refine hK60 _ _ ?_
    refine wp_cond_true rfl ?_
    refine wp_skip ?_
    (try simp only [Exit.then, Exit.inBlock, ↓reduceIte, Nat.reduceEqDiff])
    refine hK59 _ _ ?_
    refine wp_seq_k (fun K61 hK61 => ?_)
    refine wp_block ?_
    refine wp_seq_k (fun K62 hK62 => ?_)
    obtain ⟨p, hp⟩ : ∃ p, (pairsN l0 30)[k]? = some p := ⟨(pairsN l0 30)[k], List.getElem?_eq_getElem hc36⟩
    have hnew := rangeT_succ (keyL l1) (keyL l2) hp
    have hwl := range_len (pairsN l0 30) k (keyL l1) (keyL l2) (pairsN_len l0 30)
    obtain ⟨b63, o64, ha65, xa67, xc68, xa71, xc72, c66, c70, r69, r73⟩ := Prs.get (hv11.mono (((le20.trans le29).trans le38).trans le57)) hp
    by_cases h1 : Op.bytesLess p.1 (keyL l1) = true
    · rw [h1] at hnew
      simp only [Bool.not_true, Bool.false_and, Bool.false_eq_true, if_false, List.append_nil] at hnew
      refine region_gw F50 18 [] (by kernel_rfl) (by kernel_rfl) ?_
      simp only [List.take_succ_cons, List.take_zero]
      refine gw_pure rfl rfl (.slice a12 (pairsN l0 30).length c13) (fun w74 hCw74 => pureAt_of (ex_move _)) ?_
      simp only [Act.put, List.setIfInBounds_toArray, List.set_cons_succ, List.set_cons_zero]
      refine gw_pure rfl rfl (.int .i64 ((k : Nat) : Int)) (fun w74 hCw74 => pureAt_of (ex_move _)) ?_
      simp only [Act.put, List.setIfInBounds_toArray, List.set_cons_succ, List.set_cons_zero]
      refine gw_pure rfl rfl (.pointer (some ⟨b63, o64 + k * 2, none⟩)) (fun w74 hCw74 => pureAt_of (ex_at (i := k) (sz := 2) Try.underlying44 (sizeof_49 _) rfl ha65 rfl (by omega) rfl)) ?_
      simp only [Act.put, List.setIfInBounds_toArray, List.set_cons_succ, List.set_cons_zero]
      refine gw_pure rfl rfl (.pointer (some ⟨b63, o64 + k * 2, none⟩)) (fun w74 hCw74 => pureAt_of (ex_field (q := ⟨b63, o64 + k * 2, none⟩) rfl (fa_49_0 _ _))) ?_
      simp only [Act.put, List.setIfInBounds_toArray, List.set_cons_succ, List.set_cons_zero]
      refine gw_pure rfl rfl (.slice xa67 p.1.length xc68) (fun w74 hCw74 => pureAt_of (ex_load rfl (load1 (nagg_27 _) (St.fz (St.tells S56 hCw74) c66)))) ?_
      simp only [Act.put, List.setIfInBounds_toArray, List.set_cons_succ, List.set_cons_zero]
      refine gw_pure rfl rfl (.string ⟨p.1.toArray⟩) (fun w74 hCw74 => pureAt_of (ex_convert (v := (.slice xa67 p.1.length xc68)) rfl (run_string Try.underlying27 Try.underlying5 Try.underlying9 ((St.tells S56 hCw74)).sat r69))) ?_
      simp only [Act.put, List.setIfInBounds_toArray, List.set_cons_succ, List.set_cons_zero]
      refine gw_pure rfl rfl (.slice xa23 (keyL l1).length xc24) (fun w74 hCw74 => pureAt_of (ex_move _)) ?_
      simp only [Act.put, List.setIfInBounds_toArray, List.set_cons_succ, List.set_cons_zero]
      refine gw_pure rfl rfl (.string ⟨(keyL l1).toArray⟩) (fun w74 hCw74 => pureAt_of (ex_convert (v := (.slice xa23 (keyL l1).length xc24)) rfl (run_string Try.underlying27 Try.underlying5 Try.underlying9 ((St.tells S56 hCw74)).sat (R21.mono ((le29.trans le38).trans le57))))) ?_
      simp only [Act.put, List.setIfInBounds_toArray, List.set_cons_succ, List.set_cons_zero]
      refine gw_pure rfl rfl (.bool false) (fun w74 hCw74 => pureAt_of (ex_strop (op := .geq) (l := p.1) (m := (keyL l1)) (b := false) (by simp) rfl rfl (by rw [show strB .geq _ _ = !Op.bytesLess _ _ from rfl, h1]; rfl))) ?_
      simp only [Act.put, List.setIfInBounds_toArray, List.set_cons_succ, List.set_cons_zero]
      refine gw_pure rfl rfl (.bool false) (fun w74 hCw74 => pureAt_of (ex_move _)) ?_
      simp only [Act.put, List.setIfInBounds_toArray, List.set_cons_succ, List.set_cons_zero]
      refine gw_skip (wanted_no rfl rfl rfl (c := false) rfl (by decide)) ?_
      simp only [Act.put, List.setIfInBounds_toArray, List.set_cons_succ, List.set_cons_zero]
      refine gw_skip (wanted_no rfl rfl rfl (c := false) rfl (by decide)) ?_
      simp only [Act.put, List.setIfInBounds_toArray, List.set_cons_succ, List.set_cons_zero]
      refine gw_skip (wanted_no rfl rfl rfl (c := false) rfl (by decide)) ?_
      simp only [Act.put, List.setIfInBounds_toArray, List.set_cons_succ, List.set_cons_zero]
      refine gw_skip (wanted_no rfl rfl rfl (c := false) rfl (by decide)) ?_
      simp only [Act.put, List.setIfInBounds_toArray, List.set_cons_succ, List.set_cons_zero]
      refine gw_skip (wanted_no rfl rfl rfl (c := false) rfl (by decide)) ?_
      simp only [Act.put, List.setIfInBounds_toArray, List.set_cons_succ, List.set_cons_zero]
      refine gw_skip (wanted_no rfl rfl rfl (c := false) rfl (by decide)) ?_
      simp only [Act.put, List.setIfInBounds_toArray, List.set_cons_succ, List.set_cons_zero]
      refine gw_skip (wanted_no rfl rfl rfl (c := false) rfl (by decide)) ?_
      simp only [Act.put, List.setIfInBounds_toArray, List.set_cons_succ, List.set_cons_zero]
      refine gw_skip (wanted_no rfl rfl rfl (c := false) rfl (by decide)) ?_
      simp only [Act.put, List.setIfInBounds_toArray, List.set_cons_succ, List.set_cons_zero]
      refine gw_nil ?_
      intro w75 hC77 hF78
      clear hF78
      have S76 := St.tells S56 hC77
      simp only [List.drop_succ_cons, List.drop_zero]
      have S76 : St W (whole W) w75 F50 [] [ownP 2 PrC PrC.mono 49 W.heap.size v (rangeT ((pairsN l0 30).take k) (keyL l1) (keyL l2))] := S76
      refine doN (wanted_no rfl rfl rfl (c := false) rfl (by decide)) ?_
      simp only [Act.put, List.setIfInBounds_toArray, List.set_cons_succ, List.set_cons_zero]
      refine do_ rfl (.bool false) (ex_pick (b := false) rfl) ?_
      simp only [Act.put, List.setIfInBounds_toArray, List.set_cons_succ, List.set_cons_zero]
      refine wl_nil ?_
      (try simp only [Exit.then, Exit.inBlock, ↓reduceIte, Nat.reduceEqDiff])
      refine hK62 _ _ ?_
      refine wp_cond_false rfl ?_
      refine wp_skip ?_
      (try simp only [Exit.then, Exit.inBlock, ↓reduceIte, Nat.reduceEqDiff])
      refine hK61 _ _ ?_
      refine region_wl ?_
      refine do_ rfl (.int .i64 ((k : Nat) : Int)) (ex_move _) ?_
      simp only [Act.put, List.setIfInBounds_toArray, List.set_cons_succ, List.set_cons_zero]
      refine do_ rfl (.int .i64 (((k + 1) : Nat) : Int)) (ex_add (m := ((k : Nat) : Int)) (n := (1 : Int)) (r := (((k + 1) : Nat) : Int)) rfl rfl (by omega) (by omega) (by omega)) ?_
      simp only [Act.put, List.setIfInBounds_toArray, List.set_cons_succ, List.set_cons_zero]
      refine do_ rfl (.int .i64 (((k + 1) : Nat) : Int)) (ex_assign _) ?_
      simp only [Act.put, List.setIfInBounds_toArray, List.set_cons_succ, List.set_cons_zero]
      refine wl_nil ?_
      (try simp only [Exit.then, Exit.inBlock, ↓reduceIte, Nat.reduceEqDiff])
      rw [← hnew] at S76
      exact hK58 _ _ _ (by omega) ⟨(k + 1), v, F50, (slotF [(.slice a0 l0.length c0), (.slice a1 l1.length c1), (.slice a2 l2.length c2), undef, undef, undef, (.bool false), (.slice a12 (pairsN l0 30).length c13), (.slice xa23 (keyL l1).length xc24), (.slice xa32 (keyL l2).length xc33), (.slice a41 (rangeT (pairsN l0 30) (keyL l1) (keyL l2)).length c42), (.int .i64 0), v, (.int .i64 (((k + 1) : Nat) : Int)), undef, undef, undef, undef, undef, undef, (.slice a0 l0.length c0), (.slice a12 (pairsN l0 30).length c13), (.slice a1 l1.length c1), (.slice xa23 (keyL l1).length xc24), (.slice a2 l2.length c2), (.slice xa32 (keyL l2).length xc33), (.tuple #[(.slice a41 (rangeT (pairsN l0 30) (keyL l1) (keyL l2)).length c42), (.int .i64 0)]), (.slice a12 (pairsN l0 30).length c13), (.slice xa23 (keyL l1).length xc24), (.slice xa32 (keyL l2).length xc33), (.tuple #[(.slice a41 (rangeT (pairsN l0 30) (keyL l1) (keyL l2)).length c42), (.int .i64 0)]), (.slice a41 (rangeT (pairsN l0 30) (keyL l1) (keyL l2)).length c42), (.int .i64 0), (.int .i64 ((k : Nat) : Int)), (.slice a12 (pairsN l0 30).length c13), (.int .i64 (((pairsN l0 30).length : Nat) : Int)), (.bool true), (.int .i64 ((k : Nat) : Int)), (.int .i64 (((k + 1) : Nat) : Int)), (.slice a12 (pairsN l0 30).length c13), (.int .i64 ((k : Nat) : Int)), (.pointer (some ⟨b63, o64 + k * 2, none⟩)), (.pointer (some ⟨b63, o64 + k * 2, none⟩)), (.slice xa67 p.1.length xc68), (.string ⟨p.1.toArray⟩), (.slice xa23 (keyL l1).length xc24), (.string ⟨(keyL l1).toArray⟩), (.bool false), (.bool false), undef, undef, undef, undef, undef, undef, undef, undef, undef, (.bool false), (u51 59), (u51 60), (u51 61), (u51 62), (u51 63), (u51 64), (u51 65), undef, undef, undef, undef, undef, undef, undef, undef, undef, undef, undef, undef, undef, undef, undef, undef, undef, undef, undef, undef, undef, undef, undef, undef, undef, undef, undef, undef, undef, undef, undef, undef, undef, undef, undef, undef, undef, undef, undef, undef, undef, undef, undef]), rfl, rfl, S76, le57, (by omega)⟩
    · replace h1 : Op.bytesLess p.1 (keyL l1) = false := by simpa using h1
      by_cases h2 : Op.bytesLess (keyL l2) p.1 = true
      · rw [h1, h2] at hnew
        simp only [Bool.not_true, Bool.and_false, Bool.false_eq_true, if_false, List.append_nil] at hnew
        refine region_gw F50 18 [] (by kernel_rfl) (by kernel_rfl) ?_
        simp only [List.take_succ_cons, List.take_zero]
        refine gw_pure rfl rfl (.slice a12 (pairsN l0 30).length c13) (fun w79 hCw79 => pureAt_of (ex_move _)) ?_
        simp only [Act.put, List.setIfInBounds_toArray, List.set_cons_succ, List.set_cons_zero]
        refine gw_pure rfl rfl (.int .i64 ((k : Nat) : Int)) (fun w79 hCw79 => pureAt_of (ex_move _)) ?_
        simp only [Act.put, List.setIfInBounds_toArray, List.set_cons_succ, List.set_cons_zero]
        refine gw_pure rfl rfl (.pointer (some ⟨b63, o64 + k * 2, none⟩)) (fun w79 hCw79 => pureAt_of (ex_at (i := k) (sz := 2) Try.underlying44 (sizeof_49 _) rfl ha65 rfl (by omega) rfl)) ?_
        simp only [Act.put, List.setIfInBounds_toArray, List.set_cons_succ, List.set_cons_zero]
        refine gw_pure rfl rfl (.pointer (some ⟨b63, o64 + k * 2, none⟩)) (fun w79 hCw79 => pureAt_of (ex_field (q := ⟨b63, o64 + k * 2, none⟩) rfl (fa_49_0 _ _))) ?_
        simp only [Act.put, List.setIfInBounds_toArray, List.set_cons_succ, List.set_cons_zero]
        refine gw_pure rfl rfl (.slice xa67 p.1.length xc68) (fun w79 hCw79 => pureAt_of (ex_load rfl (load1 (nagg_27 _) (St.fz (St.tells S56 hCw79) c66)))) ?_
        simp only [Act.put, List.setIfInBounds_toArray, List.set_cons_succ, List.set_cons_zero]
        refine gw_pure rfl rfl (.string ⟨p.1.toArray⟩) (fun w79 hCw79 => pureAt_of (ex_convert (v := (.slice xa67 p.1.length xc68)) rfl (run_string Try.underlying27 Try.underlying5 Try.underlying9 ((St.tells S56 hCw79)).sat r69))) ?_
        simp only [Act.put, List.setIfInBounds_toArray, List.set_cons_succ, List.set_cons_zero]
        refine gw_pure rfl rfl (.slice xa23 (keyL l1).length xc24) (fun w79 hCw79 => pureAt_of (ex_move _)) ?_
        simp only [Act.put, List.setIfInBounds_toArray, List.set_cons_succ, List.set_cons_zero]
        refine gw_pure rfl rfl (.string ⟨(keyL l1).toArray⟩) (fun w79 hCw79 => pureAt_of (ex_convert (v := (.slice xa23 (keyL l1).length xc24)) rfl (run_string Try.underlying27 Try.underlying5 Try.underlying9 ((St.tells S56 hCw79)).sat (R21.mono ((le29.trans le38).trans le57))))) ?_
        simp only [Act.put, List.setIfInBounds_toArray, List.set_cons_succ, List.set_cons_zero]
        refine gw_pure rfl rfl (.bool true) (fun w79 hCw79 => pureAt_of (ex_strop (op := .geq) (l := p.1) (m := (keyL l1)) (b := true) (by simp) rfl rfl (by rw [show strB .geq _ _ = !Op.bytesLess _ _ from rfl, h1]; rfl))) ?_
        simp only [Act.put, List.setIfInBounds_toArray, List.set_cons_succ, List.set_cons_zero]
        refine gw_pure rfl rfl (.bool true) (fun w79 hCw79 => pureAt_of (ex_move _)) ?_
        simp only [Act.put, List.setIfInBounds_toArray, List.set_cons_succ, List.set_cons_zero]
        refine gw_pure rfl rfl (.slice a12 (pairsN l0 30).length c13) (fun w79 hCw79 => pureAt_of (ex_move _)) ?_
        simp only [Act.put, List.setIfInBounds_toArray, List.set_cons_succ, List.set_cons_zero]
        refine gw_pure rfl rfl (.int .i64 ((k : Nat) : Int)) (fun w79 hCw79 => pureAt_of (ex_move _)) ?_
        simp only [Act.put, List.setIfInBounds_toArray, List.set_cons_succ, List.set_cons_zero]
        refine gw_pure rfl rfl (.pointer (some ⟨b63, o64 + k * 2, none⟩)) (fun w79 hCw79 => pureAt_of (ex_at (i := k) (sz := 2) Try.underlying44 (sizeof_49 _) rfl ha65 rfl (by omega) rfl)) ?_
        simp only [Act.put, List.setIfInBounds_toArray, List.set_cons_succ, List.set_cons_zero]
        refine gw_pure rfl rfl (.pointer (some ⟨b63, o64 + k * 2, none⟩)) (fun w79 hCw79 => pureAt_of (ex_field (q := ⟨b63, o64 + k * 2, none⟩) rfl (fa_49_0 _ _))) ?_
        simp only [Act.put, List.setIfInBounds_toArray, List.set_cons_succ, List.set_cons_zero]
        refine gw_pure rfl rfl (.slice xa67 p.1.length xc68) (fun w79 hCw79 => pureAt_of (ex_load rfl (load1 (nagg_27 _) (St.fz (St.tells S56 hCw79) c66)))) ?_
        simp only [Act.put, List.setIfInBounds_toArray, List.set_cons_succ, List.set_cons_zero]
        refine gw_pure rfl rfl (.string ⟨p.1.toArray⟩) (fun w79 hCw79 => pureAt_of (ex_convert (v := (.slice xa67 p.1.length xc68)) rfl (run_string Try.underlying27 Try.underlying5 Try.underlying9 ((St.tells S56 hCw79)).sat r69))) ?_
        simp only [Act.put, List.setIfInBounds_toArray, List.set_cons_succ, List.set_cons_zero]
        refine gw_pure rfl rfl (.slice xa32 (keyL l2).length xc33) (fun w79 hCw79 => pureAt_of (ex_move _)) ?_
        simp only [Act.put, List.setIfInBounds_toArray, List.set_cons_succ, List.set_cons_zero]
        refine gw_pure rfl rfl (.string ⟨(keyL l2).toArray⟩) (fun w79 hCw79 => pureAt_of (ex_convert (v := (.slice xa32 (keyL l2).length xc33)) rfl (run_string Try.underlying27 Try.underlying5 Try.underlying9 ((St.tells S56 hCw79)).sat (R30.mono (le38.trans le57))))) ?_
        simp only [Act.put, List.setIfInBounds_toArray, List.set_cons_succ, List.set_cons_zero]
        refine gw_nil ?_
        intro w80 hC82 hF83
        clear hF83
        have S81 := St.tells S56 hC82
        simp only [List.drop_succ_cons, List.drop_zero]
        have S81 : St W (whole W) w80 F50 [] [ownP 2 PrC PrC.mono 49 W.heap.size v (rangeT ((pairsN l0 30).take k) (keyL l1) (keyL l2))] := S81
        refine do_ rfl (.bool false) (ex_strop (op := .leq) (l := p.1) (m := (keyL l2)) (b := false) (by simp) rfl rfl (by rw [show strB .leq _ _ = (Op.bytesLess _ _ || _ == _) from rfl, leq_less, h2]; rfl)) ?_
        simp only [Act.put, List.setIfInBounds_toArray, List.set_cons_succ, List.set_cons_zero]
        refine do_ rfl (.bool false) (ex_pick (b := true) rfl) ?_
        simp only [Act.put, List.setIfInBounds_toArray, List.set_cons_succ, List.set_cons_zero]
        refine wl_nil ?_
        (try simp only [Exit.then, Exit.inBlock, ↓reduceIte, Nat.reduceEqDiff])
        refine hK62 _ _ ?_
        refine wp_cond_false rfl ?_
        refine wp_skip ?_
        (try simp only [Exit.then, Exit.inBlock, ↓reduceIte, Nat.reduceEqDiff])
        refine hK61 _ _ ?_
        refine region_wl ?_
        refine do_ rfl (.int .i64 ((k : Nat) : Int)) (ex_move _) ?_
        simp only [Act.put, List.setIfInBounds_toArray, List.set_cons_succ, List.set_cons_zero]
        refine do_ rfl (.int .i64 (((k + 1) : Nat) : Int)) (ex_add (m := ((k : Nat) : Int)) (n := (1 : Int)) (r := (((k + 1) : Nat) : Int)) rfl rfl (by omega) (by omega) (by omega)) ?_
        simp only [Act.put, List.setIfInBounds_toArray, List.set_cons_succ, List.set_cons_zero]
        refine do_ rfl (.int .i64 (((k + 1) : Nat) : Int)) (ex_assign _) ?_
        simp only [Act.put, List.setIfInBounds_toArray, List.set_cons_succ, List.set_cons_zero]
        refine wl_nil ?_
        (try simp only [Exit.then, Exit.inBlock, ↓reduceIte, Nat.reduceEqDiff])
        rw [← hnew] at S81
        exact hK58 _ _ _ (by omega) ⟨(k + 1), v, F50, (slotF [(.slice a0 l0.length c0), (.slice a1 l1.length c1), (.slice a2 l2.length c2), undef, undef, undef, (.bool false), (.slice a12 (pairsN l0 30).length c13), (.slice xa23 (keyL l1).length xc24), (.slice xa32 (keyL l2).length xc33), (.slice a41 (rangeT (pairsN l0 30) (keyL l1) (keyL l2)).length c42), (.int .i64 0), v, (.int .i64 (((k + 1) : Nat) : Int)), undef, undef, undef, undef, undef, undef, (.slice a0 l0.length c0), (.slice a12 (pairsN l0 30).length c13), (.slice a1 l1.length c1), (.slice xa23 (keyL l1).length xc24), (.slice a2 l2.length c2), (.slice xa32 (keyL l2).length xc33), (.tuple #[(.slice a41 (rangeT (pairsN l0 30) (keyL l1) (keyL l2)).length c42), (.int .i64 0)]), (.slice a12 (pairsN l0 30).length c13), (.slice xa23 (keyL l1).length xc24), (.slice xa32 (keyL l2).length xc33), (.tuple #[(.slice a41 (rangeT (pairsN l0 30) (keyL l1) (keyL l2)).length c42), (.int .i64 0)]), (.slice a41 (rangeT (pairsN l0 30) (keyL l1) (keyL l2)).length c42), (.int .i64 0), (.int .i64 ((k : Nat) : Int)), (.slice a12 (pairsN l0 30).length c13), (.int .i64 (((pairsN l0 30).length : Nat) : Int)), (.bool true), (.int .i64 ((k : Nat) : Int)), (.int .i64 (((k + 1) : Nat) : Int)), (.slice a12 (pairsN l0 30).length c13), (.int .i64 ((k : Nat) : Int)), (.pointer (some ⟨b63, o64 + k * 2, none⟩)), (.pointer (some ⟨b63, o64 + k * 2, none⟩)), (.slice xa67 p.1.length xc68), (.string ⟨p.1.toArray⟩), (.slice xa23 (keyL l1).length xc24), (.string ⟨(keyL l1).toArray⟩), (.bool true), (.bool true), (.slice a12 (pairsN l0 30).length c13), (.int .i64 ((k : Nat) : Int)), (.pointer (some ⟨b63, o64 + k * 2, none⟩)), (.pointer (some ⟨b63, o64 + k * 2, none⟩)), (.slice xa67 p.1.length xc68), (.string ⟨p.1.toArray⟩), (.slice xa32 (keyL l2).length xc33), (.string ⟨(keyL l2).toArray⟩), (.bool false), (.bool false), (u51 59), (u51 60), (u51 61), (u51 62), (u51 63), (u51 64), (u51 65), undef, undef, undef, undef, undef, undef, undef, undef, undef, undef, undef, undef, undef, undef, undef, undef, undef, undef, undef, undef, undef, undef, undef, undef, undef, undef, undef, undef, undef, undef, undef, undef, undef, undef, undef, undef, undef, undef, undef, undef, undef, undef, undef]), rfl, rfl, S81, le57, (by omega)⟩
      · replace h2 : Op.bytesLess (keyL l2) p.1 = false := by simpa using h2
        rw [h1, h2] at hnew
        simp only [Bool.not_false, Bool.and_self, if_true] at hnew
        refine region_gw F50 18 [] (by kernel_rfl) (by kernel_rfl) ?_
        simp only [List.take_succ_cons, List.take_zero]
        refine gw_pure rfl rfl (.slice a12 (pairsN l0 30).length c13) (fun w84 hCw84 => pureAt_of (ex_move _)) ?_
        simp only [Act.put, List.setIfInBounds_toArray, List.set_cons_succ, List.set_cons_zero]
        refine gw_pure rfl rfl (.int .i64 ((k : Nat) : Int)) (fun w84 hCw84 => pureAt_of (ex_move _)) ?_
        simp only [Act.put, List.setIfInBounds_toArray, List.set_cons_succ, List.set_cons_zero]
        refine gw_pure rfl rfl (.pointer (some ⟨b63, o64 + k * 2, none⟩)) (fun w84 hCw84 => pureAt_of (ex_at (i := k) (sz := 2) Try.underlying44 (sizeof_49 _) rfl ha65 rfl (by omega) rfl)) ?_
        simp only [Act.put, List.setIfInBounds_toArray, List.set_cons_succ, List.set_cons_zero]
        refine gw_pure rfl rfl (.pointer (some ⟨b63, o64 + k * 2, none⟩)) (fun w84 hCw84 => pureAt_of (ex_field (q := ⟨b63, o64 + k * 2, none⟩) rfl (fa_49_0 _ _))) ?_
        simp only [Act.put, List.setIfInBounds_toArray, List.set_cons_succ, List.set_cons_zero]
        refine gw_pure rfl rfl (.slice xa67 p.1.length xc68) (fun w84 hCw84 => pureAt_of (ex_load rfl (load1 (nagg_27 _) (St.fz (St.tells S56 hCw84) c66)))) ?_
        simp only [Act.put, List.setIfInBounds_toArray, List.set_cons_succ, List.set_cons_zero]
        refine gw_pure rfl rfl (.string ⟨p.1.toArray⟩) (fun w84 hCw84 => pureAt_of (ex_convert (v := (.slice xa67 p.1.length xc68)) rfl (run_string Try.underlying27 Try.underlying5 Try.underlying9 ((St.tells S56 hCw84)).sat r69))) ?_
        simp only [Act.put, List.setIfInBounds_toArray, List.set_cons_succ, List.set_cons_zero]
        refine gw_pure rfl rfl (.slice xa23 (keyL l1).length xc24) (fun w84 hCw84 => pureAt_of (ex_move _)) ?_
        simp only [Act.put, List.setIfInBounds_toArray, List.set_cons_succ, List.set_cons_zero]
        refine gw_pure rfl rfl (.string ⟨(keyL l1).toArray⟩) (fun w84 hCw84 => pureAt_of (ex_convert (v := (.slice xa23 (keyL l1).length xc24)) rfl (run_string Try.underlying27 Try.underlying5 Try.underlying9 ((St.tells S56 hCw84)).sat (R21.mono ((le29.trans le38).trans le57))))) ?_
        simp only [Act.put, List.setIfInBounds_toArray, List.set_cons_succ, List.set_cons_zero]
        refine gw_pure rfl rfl (.bool true) (fun w84 hCw84 => pureAt_of (ex_strop (op := .geq) (l := p.1) (m := (keyL l1)) (b := true) (by simp) rfl rfl (by rw [show strB .geq _ _ = !Op.bytesLess _ _ from rfl, h1]; rfl))) ?_
        simp only [Act.put, List.setIfInBounds_toArray, List.set_cons_succ, List.set_cons_zero]
        refine gw_pure rfl rfl (.bool true) (fun w84 hCw84 => pureAt_of (ex_move _)) ?_
        simp only [Act.put, List.setIfInBounds_toArray, List.set_cons_succ, List.set_cons_zero]
        refine gw_pure rfl rfl (.slice a12 (pairsN l0 30).length c13) (fun w84 hCw84 => pureAt_of (ex_move _)) ?_
        simp only [Act.put, List.setIfInBounds_toArray, List.set_cons_succ, List.set_cons_zero]
        refine gw_pure rfl rfl (.int .i64 ((k : Nat) : Int)) (fun w84 hCw84 => pureAt_of (ex_move _)) ?_
        simp only [Act.put, List.setIfInBounds_toArray, List.set_cons_succ, List.set_cons_zero]
        refine gw_pure rfl rfl (.pointer (some ⟨b63, o64 + k * 2, none⟩)) (fun w84 hCw84 => pureAt_of (ex_at (i := k) (sz := 2) Try.underlying44 (sizeof_49 _) rfl ha65 rfl (by omega) rfl)) ?_
        simp only [Act.put, List.setIfInBounds_toArray, List.set_cons_succ, List.set_cons_zero]
        refine gw_pure rfl rfl (.pointer (some ⟨b63, o64 + k * 2, none⟩)) (fun w84 hCw84 => pureAt_of (ex_field (q := ⟨b63, o64 + k * 2, none⟩) rfl (fa_49_0 _ _))) ?_
        simp only [Act.put, List.setIfInBounds_toArray, List.set_cons_succ, List.set_cons_zero]
        refine gw_pure rfl rfl (.slice xa67 p.1.length xc68) (fun w84 hCw84 => pureAt_of (ex_load rfl (load1 (nagg_27 _) (St.fz (St.tells S56 hCw84) c66)))) ?_
        simp only [Act.put, List.setIfInBounds_toArray, List.set_cons_succ, List.set_cons_zero]
        refine gw_pure rfl rfl (.string ⟨p.1.toArray⟩) (fun w84 hCw84 => pureAt_of (ex_convert (v := (.slice xa67 p.1.length xc68)) rfl (run_string Try.underlying27 Try.underlying5 Try.underlying9 ((St.tells S56 hCw84)).sat r69))) ?_
        simp only [Act.put, List.setIfInBounds_toArray, List.set_cons_succ, List.set_cons_zero]
        refine gw_pure rfl rfl (.slice xa32 (keyL l2).length xc33) (fun w84 hCw84 => pureAt_of (ex_move _)) ?_
        simp only [Act.put, List.setIfInBounds_toArray, List.set_cons_succ, List.set_cons_zero]
        refine gw_pure rfl rfl (.string ⟨(keyL l2).toArray⟩) (fun w84 hCw84 => pureAt_of (ex_convert (v := (.slice xa32 (keyL l2).length xc33)) rfl (run_string Try.underlying27 Try.underlying5 Try.underlying9 ((St.tells S56 hCw84)).sat (R30.mono (le38.trans le57))))) ?_
        simp only [Act.put, List.setIfInBounds_toArray, List.set_cons_succ, List.set_cons_zero]
        refine gw_nil ?_
        intro w85 hC87 hF88
        clear hF88
        have S86 := St.tells S56 hC87
        simp only [List.drop_succ_cons, List.drop_zero]
        have S86 : St W (whole W) w85 F50 [] [ownP 2 PrC PrC.mono 49 W.heap.size v (rangeT ((pairsN l0 30).take k) (keyL l1) (keyL l2))] := S86
        refine do_ rfl (.bool true) (ex_strop (op := .leq) (l := p.1) (m := (keyL l2)) (b := true) (by simp) rfl rfl (by rw [show strB .leq _ _ = (Op.bytesLess _ _ || _ == _) from rfl, leq_less, h2]; rfl)) ?_
        simp only [Act.put, List.setIfInBounds_toArray, List.set_cons_succ, List.set_cons_zero]
        refine do_ rfl (.bool true) (ex_pick (b := true) rfl) ?_
        simp only [Act.put, List.setIfInBounds_toArray, List.set_cons_succ, List.set_cons_zero]
        refine wl_nil ?_
        (try simp only [Exit.then, Exit.inBlock, ↓reduceIte, Nat.reduceEqDiff])
        refine hK62 _ _ ?_
        refine wp_cond_true rfl ?_
        refine region_wl ?_
        refine do_ rfl v (ex_move _) ?_
        simp only [Act.put, List.setIfInBounds_toArray, List.set_cons_succ, List.set_cons_zero]
        refine do_ rfl (.slice a12 (pairsN l0 30).length c13) (ex_move _) ?_
        simp only [Act.put, List.setIfInBounds_toArray, List.set_cons_succ, List.set_cons_zero]
        refine do_ rfl (.int .i64 ((k : Nat) : Int)) (ex_move _) ?_
        simp only [Act.put, List.setIfInBounds_toArray, List.set_cons_succ, List.set_cons_zero]
        refine do_ rfl (.pointer (some ⟨b63, o64 + k * 2, none⟩)) (ex_at (i := k) (sz := 2) Try.underlying44 (sizeof_49 _) rfl ha65 rfl (by omega) rfl) ?_
        simp only [Act.put, List.setIfInBounds_toArray, List.set_cons_succ, List.set_cons_zero]
        refine do_ rfl (.agg #[(.slice xa67 p.1.length xc68), (.slice xa71 p.2.length xc72)]) (ex_load rfl (loadN (cs := [(.slice xa67 p.1.length xc68), (.slice xa71 p.2.length xc72)]) Try.underlying49 rfl (size_49) (range2 (St.fz S86 c66) (St.fz S86 c70)))) ?_
        simp only [Act.put, List.setIfInBounds_toArray, List.set_cons_succ, List.set_cons_zero]
        refine stNew S86 (v := fun n => .slice (some ⟨n, 0, none⟩) 1 1) rfl (ex_lit (ps := #[(0, (.agg #[(.slice xa67 p.1.length xc68), (.slice xa71 p.2.length xc72)]))]) (cells := #[(.slice xa67 p.1.length xc68), (.slice xa71 p.2.length xc72)]) (E := 49) (bmap1 rfl) (fun w => by kernel_rfl)) (fun n89 w90 S91 => ?_)
        simp only [Act.put, List.setIfInBounds_toArray, List.set_cons_succ, List.set_cons_zero]
        have S91 : St W (whole W) w90 F50 [⟨n89, [(.slice xa67 p.1.length xc68), (.slice xa71 p.2.length xc72)], 49⟩] [ownP 2 PrC PrC.mono 49 W.heap.size v (rangeT ((pairsN l0 30).take k) (keyL l1) (keyL l2))] := S91
        refine stPush (i := 0) (r := 0) (p := p) (cs := [(.slice xa67 p.1.length xc68), (.slice xa71 p.2.length xc72)]) S91 rfl i49 (.agg #[(.slice none 0 0), (.slice none 0 0)]) 48 Try.underlying44 hi49 hz49 hs49 hb49 rfl (by decide) rfl rfl rfl rfl rfl (PrC.oneCell (p := p) ⟨_, _, rfl, r69, r73⟩) (⟨_, _, rfl, r69, r73⟩) (Nat.le_refl _) S91.gr.below.size (by unfold maxLen; omega) (by omega) ?_
        intro v92 w93 S94 hn95
        simp only [Act.put, List.setIfInBounds_toArray, List.set_cons_succ, List.set_cons_zero]
        have S94 := St.drop S94 (L' := []) (.cons _ (List.Sublist.refl _))
        have S94 : St W (whole W) w93 F50 [] [ownP 2 PrC PrC.mono 49 W.heap.size v92 ((rangeT ((pairsN l0 30).take k) (keyL l1) (keyL l2)) ++ [p])] := S94
        refine do_ rfl v92 (ex_assign _) ?_
        simp only [Act.put, List.setIfInBounds_toArray, List.set_cons_succ, List.set_cons_zero]
        refine wl_nil ?_
        (try simp only [Exit.then, Exit.inBlock, ↓reduceIte, Nat.reduceEqDiff])
        refine hK61 _ _ ?_
        refine region_wl ?_
        refine do_ rfl (.int .i64 ((k : Nat) : Int)) (ex_move _) ?_
        simp only [Act.put, List.setIfInBounds_toArray, List.set_cons_succ, List.set_cons_zero]
        refine do_ rfl (.int .i64 (((k + 1) : Nat) : Int)) (ex_add (m := ((k : Nat) : Int)) (n := (1 : Int)) (r := (((k + 1) : Nat) : Int)) rfl rfl (by omega) (by omega) (by omega)) ?_
        simp only [Act.put, List.setIfInBounds_toArray, List.set_cons_succ, List.set_cons_zero]
        refine do_ rfl (.int .i64 (((k + 1) : Nat) : Int)) (ex_assign _) ?_
        simp only [Act.put, List.setIfInBounds_toArray, List.set_cons_succ, List.set_cons_zero]
        refine wl_nil ?_
        (try simp only [Exit.then, Exit.inBlock, ↓reduceIte, Nat.reduceEqDiff])
        rw [← hnew] at S94
        exact hK58 _ _ _ (by omega) ⟨(k + 1), v92, F50, (slotF [(.slice a0 l0.length c0), (.slice a1 l1.length c1), (.slice a2 l2.length c2), undef, undef, undef, (.bool false), (.slice a12 (pairsN l0 30).length c13), (.slice xa23 (keyL l1).length xc24), (.slice xa32 (keyL l2).length xc33), (.slice a41 (rangeT (pairsN l0 30) (keyL l1) (keyL l2)).length c42), (.int .i64 0), v92, (.int .i64 (((k + 1) : Nat) : Int)), undef, undef, undef, undef, undef, undef, (.slice a0 l0.length c0), (.slice a12 (pairsN l0 30).length c13), (.slice a1 l1.length c1), (.slice xa23 (keyL l1).length xc24), (.slice a2 l2.length c2), (.slice xa32 (keyL l2).length xc33), (.tuple #[(.slice a41 (rangeT (pairsN l0 30) (keyL l1) (keyL l2)).length c42), (.int .i64 0)]), (.slice a12 (pairsN l0 30).length c13), (.slice xa23 (keyL l1).length xc24), (.slice xa32 (keyL l2).length xc33), (.tuple #[(.slice a41 (rangeT (pairsN l0 30) (keyL l1) (keyL l2)).length c42), (.int .i64 0)]), (.slice a41 (rangeT (pairsN l0 30) (keyL l1) (keyL l2)).length c42), (.int .i64 0), (.int .i64 ((k : Nat) : Int)), (.slice a12 (pairsN l0 30).length c13), (.int .i64 (((pairsN l0 30).length : Nat) : Int)), (.bool true), (.int .i64 ((k : Nat) : Int)), (.int .i64 (((k + 1) : Nat) : Int)), (.slice a12 (pairsN l0 30).length c13), (.int .i64 ((k : Nat) : Int)), (.pointer (some ⟨b63, o64 + k * 2, none⟩)), (.pointer (some ⟨b63, o64 + k * 2, none⟩)), (.slice xa67 p.1.length xc68), (.string ⟨p.1.toArray⟩), (.slice xa23 (keyL l1).length xc24), (.string ⟨(keyL l1).toArray⟩), (.bool true), (.bool true), (.slice a12 (pairsN l0 30).length c13), (.int .i64 ((k : Nat) : Int)), (.pointer (some ⟨b63, o64 + k * 2, none⟩)), (.pointer (some ⟨b63, o64 + k * 2, none⟩)), (.slice xa67 p.1.length xc68), (.string ⟨p.1.toArray⟩), (.slice xa32 (keyL l2).length xc33), (.string ⟨(keyL l2).toArray⟩), (.bool true), (.bool true), v, (.slice a12 (pairsN l0 30).length c13), (.int .i64 ((k : Nat) : Int)), (.pointer (some ⟨b63, o64 + k * 2, none⟩)), (.agg #[(.slice xa67 p.1.length xc68), (.slice xa71 p.2.length xc72)]), (.slice (some ⟨n89, 0, none⟩) 1 1), v92, undef, undef, undef, undef, undef, undef, undef, undef, undef, undef, undef, undef, undef, undef, undef, undef, undef, undef, undef, undef, undef, undef, undef, undef, undef, undef, undef, undef, undef, undef, undef, undef, undef, undef, undef, undef, undef, undef, undef, undef, undef, undef, undef]), rfl, rfl, S94, le57, (by omega)⟩
  · refine do_ rfl (.bool false) (ex_lss (m := ((k : Nat) : Int)) (n := (((pairsN l0 30).length : Nat) : Int)) (b := false) rfl rfl (decide_eq_false (by omega))) ?_
    simp only [Act.put, List.setIfInBounds_toArray, List.set_cons_succ, List.set_cons_zero]
    refine wl_nil ?_
    (try simp only [Exit.then, Exit.inBlock, ↓reduceIte, Nat.reduceEqDiff])
    refine hK60 _ _ ?_
    refine wp_cond_false rfl ?_
    refine wp_exit ?_
    (try simp only [Exit.then, Exit.inBlock, ↓reduceIte, Nat.reduceEqDiff])
    refine hK47 _ _ ?_
    refine wp_seq_k (fun K96 hK96 => ?_)
    refine region_wl ?_
    refine stMake (k := 1) (n := 16) (m := 16) S56 rfl i5 (.int .u8 0) 1 Try.underlying27 hi5 hz5 hs5 hb5 rfl rfl (by decide) (by decide) (by decide) ?_
    intro g97 w98 S99
    rw [show (madeCells (Value.int .u8 0).cells (16 * 1)).toList = (List.replicate 0 (255 : UInt8) ++ List.replicate (16 - 0) 0).map bv from by rw [show (Value.int .u8 0).cells = #[.int .u8 0] from rfl, toList_madeCells_one]; simp [bv]] at S99
    simp only [Act.put, List.setIfInBounds_toArray, List.set_cons_succ, List.set_cons_zero]
    have S99 : St W (whole W) w98 F50 [⟨g97, ((List.replicate 0 (255 : UInt8) ++ List.replicate (16 - 0) 0).map bv), 5⟩] [ownP 2 PrC PrC.mono 49 W.heap.size v (rangeT ((pairsN l0 30).take k) (keyL l1) (keyL l2))] := S99
    refine do_ rfl (.slice (some ⟨g97, 0, none⟩) 16 16) (ex_assign _) ?_
    simp only [Act.put, List.setIfInBounds_toArray, List.set_cons_succ, List.set_cons_zero]
    refine wl_nil ?_
    (try simp only [Exit.then, Exit.inBlock, ↓reduceIte, Nat.reduceEqDiff])
    refine hK96 _ _ ?_
    refine wp_seq_k (fun K100 hK100 => ?_)
    refine wp_seq_k (fun K101 hK101 => ?_)
    refine region_wl ?_
    refine do_ rfl (.int .i64 0) (ex_assign _) ?_
    simp only [Act.put, List.setIfInBounds_toArray, List.set_cons_succ, List.set_cons_zero]
    refine wl_nil ?_
    (try simp only [Exit.then, Exit.inBlock, ↓reduceIte, Nat.reduceEqDiff])
    refine hK101 _ _ ?_
    refine wp_block ?_
    refine wp_loop_g (fun mm aa w103 => ∃ (j : Nat) (u102 : Nat → Value), mm = 16 - j ∧ aa = ⟨#[(.slice a0 l0.length c0), (.slice a1 l1.length c1), (.slice a2 l2.length c2), undef, undef, undef, (.bool false), (.slice a12 (pairsN l0 30).length c13), (.slice xa23 (keyL l1).length xc24), (.slice xa32 (keyL l2).length xc33), (.slice a41 (rangeT (pairsN l0 30) (keyL l1) (keyL l2)).length c42), (.int .i64 0), v, (.int .i64 ((k : Nat) : Int)), (.slice (some ⟨g97, 0, none⟩) 16 16), (.int .i64 ((j : Nat) : Int)), undef, undef, undef, undef, (.slice a0 l0.length c0), (.slice a12 (pairsN l0 30).length c13), (.slice a1 l1.length c1), (.slice xa23 (keyL l1).length xc24), (.slice a2 l2.length c2), (.slice xa32 (keyL l2).length xc33), (.tuple #[(.slice a41 (rangeT (pairsN l0 30) (keyL l1) (keyL l2)).length c42), (.int .i64 0)]), (.slice a12 (pairsN l0 30).length c13), (.slice xa23 (keyL l1).length xc24), (.slice xa32 (keyL l2).length xc33), (.tuple #[(.slice a41 (rangeT (pairsN l0 30) (keyL l1) (keyL l2)).length c42), (.int .i64 0)]), (.slice a41 (rangeT (pairsN l0 30) (keyL l1) (keyL l2)).length c42), (.int .i64 0), (.int .i64 ((k : Nat) : Int)), (.slice a12 (pairsN l0 30).length c13), (.int .i64 (((pairsN l0 30).length : Nat) : Int)), (.bool false), (u51 37), (u51 38), (u51 39), (u51 40), (u51 41), (u51 42), (u51 43), (u51 44), (u51 45), (u51 46), (u51 47), (u51 48), (u51 49), (u51 50), (u51 51), (u51 52), (u51 53), (u51 54), (u51 55), (u51 56), (u51 57), (u51 58), (u51 59), (u51 60), (u51 61), (u51 62), (u51 63), (u51 64), (u51 65), (.slice (some ⟨g97, 0, none⟩) 16 16), (u102 67), (u102 68), (u102 69), (u102 70), (u102 71), (u102 72), (u102 73), (u102 74), (u102 75), undef, undef, undef, undef, undef, undef, undef, undef, undef, undef, undef, undef, undef, undef, undef, undef, undef, undef, undef, undef, undef, undef, undef, undef, undef, undef, undef, undef, undef, undef, undef, undef, undef], []⟩ ∧ St W (whole W) w103 F50 [⟨g97, ((List.replicate j (255 : UInt8) ++ List.replicate (16 - j) 0).map bv), 5⟩] [ownP 2 PrC PrC.mono 49 W.heap.size v (rangeT ((pairsN l0 30).take k) (keyL l1) (keyL l2))] ∧ (j ≤ 16)) _ ⟨0, (slotF [(.slice a0 l0.length c0), (.slice a1 l1.length c1), (.slice a2 l2.length c2), undef, undef, undef, (.bool false), (.slice a12 (pairsN l0 30).length c13), (.slice xa23 (keyL l1).length xc24), (.slice xa32 (keyL l2).length xc33), (.slice a41 (rangeT (pairsN l0 30) (keyL l1) (keyL l2)).length c42), (.int .i64 0), v, (.int .i64 ((k : Nat) : Int)), (.slice (some ⟨g97, 0, none⟩) 16 16), (.int .i64 0), undef, undef, undef, undef, (.slice a0 l0.length c0), (.slice a12 (pairsN l0 30).length c13), (.slice a1 l1.length c1), (.slice xa23 (keyL l1).length xc24), (.slice a2 l2.length c2), (.slice xa32 (keyL l2).length xc33), (.tuple #[(.slice a41 (rangeT (pairsN l0 30) (keyL l1) (keyL l2)).length c42), (.int .i64 0)]), (.slice a12 (pairsN l0 30).length c13), (.slice xa23 (keyL l1).length xc24), (.slice xa32 (keyL l2).length xc33), (.tuple #[(.slice a41 (rangeT (pairsN l0 30) (keyL l1) (keyL l2)).length c42), (.int .i64 0)]), (.slice a41 (rangeT (pairsN l0 30) (keyL l1) (keyL l2)).length c42), (.int .i64 0), (.int .i64 ((k : Nat) : Int)), (.slice a12 (pairsN l0 30).length c13), (.int .i64 (((pairsN l0 30).length : Nat) : Int)), (.bool false), (u51 37), (u51 38), (u51 39), (u51 40), (u51 41), (u51 42), (u51 43), (u51 44), (u51 45), (u51 46), (u51 47), (u51 48), (u51 49), (u51 50), (u51 51), (u51 52), (u51 53), (u51 54), (u51 55), (u51 56), (u51 57), (u51 58), (u51 59), (u51 60), (u51 61), (u51 62), (u51 63), (u51 64), (u51 65), (.slice (some ⟨g97, 0, none⟩) 16 16), undef, undef, undef, undef, undef, undef, undef, undef, undef, undef, undef, undef, undef, undef, undef, undef, undef, undef, undef, undef, undef, undef, undef, undef, undef, undef, undef, undef, undef, undef, undef, undef, undef, undef, undef, undef, undef, undef, undef, undef, undef, undef]), rfl, rfl, S99, (by omega)⟩ ?_
    rintro m104 a105 w106 ⟨j, u102, rfl, rfl, S107, hj⟩ K109 hK109
    refine wp_seq_k (fun K110 hK110 => ?_)
    refine wp_seq_k (fun K111 hK111 => ?_)
    refine region_wl ?_
    refine do_ rfl (.int .i64 ((j : Nat) : Int)) (ex_move _) ?_
    simp only [Act.put, List.setIfInBounds_toArray, List.set_cons_succ, List.set_cons_zero]
    refine do_ rfl (.slice (some ⟨g97, 0, none⟩) 16 16) (ex_move _) ?_
    simp only [Act.put, List.setIfInBounds_toArray, List.set_cons_succ, List.set_cons_zero]
    refine do_ rfl (.int .i64 16) (ex_len Try.underlying27 rfl) ?_
    simp only [Act.put, List.setIfInBounds_toArray, List.set_cons_succ, List.set_cons_zero]
    by_cases hc70 : j < 16
    · refine do_ rfl (.bool true) (ex_lss (m := ((j : Nat) : Int)) (n := (16 : Int)) (b := true) rfl rfl (decide_eq_true (by omega))) ?_
      simp only [Act.put, List.setIfInBounds_toArray, List.set_cons_succ, List.set_cons_zero]
      refine wl_nil ?_
      (try simp only [Exit.then, Exit.inBlock, ↓reduceIte, Nat.reduceEqDiff])
      refine hK111 _ _ ?_
      refine wp_cond_true rfl ?_
      refine wp_skip ?_
      (try simp only [Exit.then, Exit.inBlock, ↓reduceIte, Nat.reduceEqDiff])
      refine hK110 _ _ ?_
      refine wp_seq_k (fun K112 hK112 => ?_)
      refine wp_block ?_
      refine region_wl ?_
      refine do_ rfl (.slice (some ⟨g97, 0, none⟩) 16 16) (ex_move _) ?_
      simp only [Act.put, List.setIfInBounds_toArray, List.set_cons_succ, List.set_cons_zero]
      refine do_ rfl (.int .i64 ((j : Nat) : Int)) (ex_move _) ?_
      simp only [Act.put, List.setIfInBounds_toArray, List.set_cons_succ, List.set_cons_zero]
      refine do_ rfl (.pointer (some ⟨g97, 0 + j * 1, none⟩)) (ex_at (i := j) (sz := 1) Try.underlying27 (sizeof_5 _) rfl rfl rfl (by omega) rfl) ?_
      simp only [Act.put, List.setIfInBounds_toArray, List.set_cons_succ, List.set_cons_zero]
      refine stStore (i := 0) (j := 0 + j * 1) (v := (.int .u8 255)) S107 rfl rfl rfl rfl (size_5) (allc1 rfl) (by simp only [List.length_map, List.length_append, List.length_replicate]; show 0 + j * 1 + 1 ≤ _; omega) (fun w113 S114 => ?_)
      simp only [Act.put, List.setIfInBounds_toArray, List.set_cons_succ, List.set_cons_zero]
      have hfill := fill_set j (by omega)
      rw [show 0 + j * 1 = j from by omega, show (Value.int .u8 255).cells.toList = [bv 255] from rfl] at S114
      replace S114 := (show St W (whole W) w113 F50 (⟨g97, splice _ j [bv 255], _⟩ :: _) _ from S114)
      rw [hfill] at S114
      have S114 : St W (whole W) w113 F50 [⟨g97, ((List.replicate (j + 1) (255 : UInt8) ++ List.replicate (16 - (j + 1)) 0).map bv), 5⟩] [ownP 2 PrC PrC.mono 49 W.heap.size v (rangeT ((pairsN l0 30).take k) (keyL l1) (keyL l2))] := S114
      refine wl_nil ?_
      (try simp only [Exit.then, Exit.inBlock, ↓reduceIte, Nat.reduceEqDiff])
      refine hK112 _ _ ?_
      refine region_wl ?_
      refine do_ rfl (.int .i64 ((j : Nat) : Int)) (ex_move _) ?_
      simp only [Act.put, List.setIfInBounds_toArray, List.set_cons_succ, List.set_cons_zero]
      refine do_ rfl (.int .i64 (((j + 1) : Nat) : Int)) (ex_add (m := ((j : Nat) : Int)) (n := (1 : Int)) (r := (((j + 1) : Nat) : Int)) rfl rfl (by omega) (by omega) (by omega)) ?_
      simp only [Act.put, List.setIfInBounds_toArray, List.set_cons_succ, List.set_cons_zero]
      refine do_ rfl (.int .i64 (((j + 1) : Nat) : Int)) (ex_assign _) ?_
      simp only [Act.put, List.setIfInBounds_toArray, List.set_cons_succ, List.set_cons_zero]
      refine wl_nil ?_
      (try simp only [Exit.then, Exit.inBlock, ↓reduceIte, Nat.reduceEqDiff])
      exact hK109 _ _ _ (by omega) ⟨(j + 1), (slotF [(.slice a0 l0.length c0), (.slice a1 l1.length c1), (.slice a2 l2.length c2), undef, undef, undef, (.bool false), (.slice a12 (pairsN l0 30).length c13), (.slice xa23 (keyL l1).length xc24), (.slice xa32 (keyL l2).length xc33), (.slice a41 (rangeT (pairsN l0 30) (keyL l1) (keyL l2)).length c42), (.int .i64 0), v, (.int .i64 ((k : Nat) : Int)), (.slice (some ⟨g97, 0, none⟩) 16 16), (.int .i64 (((j + 1) : Nat) : Int)), undef, undef, undef, undef, (.slice a0 l0.length c0), (.slice a12 (pairsN l0 30).length c13), (.slice a1 l1.length c1), (.slice xa23 (keyL l1).length xc24), (.slice a2 l2.length c2), (.slice xa32 (keyL l2).length xc33), (.tuple #[(.slice a41 (rangeT (pairsN l0 30) (keyL l1) (keyL l2)).length c42), (.int .i64 0)]), (.slice a12 (pairsN l0 30).length c13), (.slice xa23 (keyL l1).length xc24), (.slice xa32 (keyL l2).length xc33), (.tuple #[(.slice a41 (rangeT (pairsN l0 30) (keyL l1) (keyL l2)).length c42), (.int .i64 0)]), (.slice a41 (rangeT (pairsN l0 30) (keyL l1) (keyL l2)).length c42), (.int .i64 0), (.int .i64 ((k : Nat) : Int)), (.slice a12 (pairsN l0 30).length c13), (.int .i64 (((pairsN l0 30).length : Nat) : Int)), (.bool false), (u51 37), (u51 38), (u51 39), (u51 40), (u51 41), (u51 42), (u51 43), (u51 44), (u51 45), (u51 46), (u51 47), (u51 48), (u51 49), (u51 50), (u51 51), (u51 52), (u51 53), (u51 54), (u51 55), (u51 56), (u51 57), (u51 58), (u51 59), (u51 60), (u51 61), (u51 62), (u51 63), (u51 64), (u51 65), (.slice (some ⟨g97, 0, none⟩) 16 16), (.int .i64 ((j : Nat) : Int)), (.slice (some ⟨g97, 0, none⟩) 16 16), (.int .i64 16), (.bool true), (.int .i64 ((j : Nat) : Int)), (.int .i64 (((j + 1) : Nat) : Int)), (.slice (some ⟨g97, 0, none⟩) 16 16), (.int .i64 ((j : Nat) : Int)), (.pointer (some ⟨g97, 0 + j * 1, none⟩)), undef, undef, undef, undef, undef, undef, undef, undef, undef, undef, undef, undef, undef, undef, undef, undef, undef, undef, undef, undef, undef, undef, undef, undef, undef, undef, undef, undef, undef, undef, undef, undef, undef]), rfl, rfl, S114, (by omega)⟩
    · refine do_ rfl (.bool false) (ex_lss (m := ((j : Nat) : Int)) (n := (16 : Int)) (b := false) rfl rfl (decide_eq_false (by omega))) ?_
      simp only [Act.put, List.setIfInBounds_toArray, List.set_cons_succ, List.set_cons_zero]
      refine wl_nil ?_
      (try simp only [Exit.then, Exit.inBlock, ↓reduceIte, Nat.reduceEqDiff])
      refine hK111 _ _ ?_
      refine wp_cond_false rfl ?_
      refine wp_exit ?_
      (try simp only [Exit.then, Exit.inBlock, ↓reduceIte, Nat.reduceEqDiff])
      refine hK100 _ _ ?_
      refine wp_seq_k (fun K115 hK115 => ?_)
      obtain rfl : j = 16 := by omega
      obtain ⟨S116, le117, hc118⟩ := St.freezeBlk S107 (i := 0) rfl
      have r120 : Bs _ (.slice (some ⟨g97, 0, none⟩) 16 16) (List.replicate 16 (255 : UInt8)) := bs_of_block (l := (List.replicate 16 (255 : UInt8))) hc118 rfl (by unfold maxLen; simp)
      generalize addF F50 w106 g97 = F119 at *
      have S116 : St W (whole W) w106 F119 [] [ownP 2 PrC PrC.mono 49 W.heap.size v (rangeT ((pairsN l0 30).take k) (keyL l1) (keyL l2))] := S116
      have hkend : k = (pairsN l0 30).length := by omega
      have hwant : rangeT ((pairsN l0 30).take k) (keyL l1) (keyL l2) = rangeT (pairsN l0 30) (keyL l1) (keyL l2) := by rw [hkend, List.take_length]
      have hall := range_all (pairsN_ok l0 30)
      refine region_wl ?_
      refine do_ rfl (.slice a12 (pairsN l0 30).length c13) (ex_move _) ?_
      simp only [Act.put, List.setIfInBounds_toArray, List.set_cons_succ, List.set_cons_zero]
      refine stNew S116 (v := fun n => .slice (some ⟨n, 0, none⟩) 1 1) rfl (ex_lit (ps := #[(0, (.int .u8 0))]) (cells := #[(.int .u8 0)]) (E := 5) (bmap1 rfl) (fun w => by kernel_rfl)) (fun n121 w122 S123 => ?_)
      simp only [Act.put, List.setIfInBounds_toArray, List.set_cons_succ, List.set_cons_zero]
      have S123 : St W (whole W) w122 F119 [⟨n121, [(.int .u8 0)], 5⟩] [ownP 2 PrC PrC.mono 49 W.heap.size v (rangeT ((pairsN l0 30).take k) (keyL l1) (keyL l2))] := S123
      refine do_ rfl (.slice (some ⟨g97, 0, none⟩) 16 16) (ex_move _) ?_
      simp only [Act.put, List.setIfInBounds_toArray, List.set_cons_succ, List.set_cons_zero]
      obtain ⟨S124, le125, hc126⟩ := St.freezeBlk S123 (i := 0) rfl
      have r128 : Bs _ (.slice (some ⟨n121, 0, none⟩) 1 1) ([0] : By) := bs_of_block (l := ([0] : By)) hc126 (rfl) (by unfold maxLen; simp)
      generalize addF F119 w122 n121 = F127 at *
      have S124 : St W (whole W) w122 F127 [] [ownP 2 PrC PrC.mono 49 W.heap.size v (rangeT ((pairsN l0 30).take k) (keyL l1) (keyL l2))] := S124
      refine stGives S124 rfl (ex_fn (vs := #[(.slice a12 (pairsN l0 30).length c13), (.slice (some ⟨n121, 0, none⟩) 1 1), (.slice (some ⟨g97, 0, none⟩) 16 16)]) (map3 rfl rfl rfl) rfl (ent_49 _ _)) (rangeOk_spec _ _ _ _ _ (pairsN l0 30) ([0] : By) (List.replicate 16 (255 : UInt8)) (S124).sat (hv11.mono (((((le20.trans le29).trans le38).trans le57).trans le117).trans le125)) r128 (r120.mono le125) (TreeOk.mono (show TreeOk 30 (pairsN l0 30) from pairsN_ok l0 30) (by omega)) ((by simp : 1 ≤ ([0] : By).length ∧ ([0] : By).length ≤ 16)) ((by simp : 1 ≤ (List.replicate 16 (255 : UInt8)).length ∧ (List.replicate 16 (255 : UInt8)).length ≤ 16))) ?_
      intro v134 w129 F131 S130 le132 R133
      obtain ⟨_, rfl, r137⟩ := R133
      obtain ⟨a135, c136, rfl, h138, h139⟩ := Sl.shape r137
      unfold maxLen at h139
      have h138 : (rangeT (pairsN l0 30) ([0] : By) (List.replicate 16 (255 : UInt8))).length ≤ c136 := h138
      have r137 : Prs _ (.slice a135 (rangeT (pairsN l0 30) ([0] : By) (List.replicate 16 (255 : UInt8))).length c136) (rangeT (pairsN l0 30) ([0] : By) (List.replicate 16 (255 : UInt8))) := r137
      simp only [Act.put, List.setIfInBounds_toArray, List.set_cons_succ, List.set_cons_zero]
      have S130 : St W (whole W) w129 F131 [] [ownP 2 PrC PrC.mono 49 W.heap.size v (rangeT ((pairsN l0 30).take k) (keyL l1) (keyL l2))] := S130
      refine do_ rfl (.tuple #[(.slice a135 (rangeT (pairsN l0 30) ([0] : By) (List.replicate 16 (255 : UInt8))).length c136), (.int .i64 0)]) (ex_move _) ?_
      simp only [Act.put, List.setIfInBounds_toArray, List.set_cons_succ, List.set_cons_zero]
      refine do_ rfl (.slice a135 (rangeT (pairsN l0 30) ([0] : By) (List.replicate 16 (255 : UInt8))).length c136) (ex_extract rfl rfl) ?_
      simp only [Act.put, List.setIfInBounds_toArray, List.set_cons_succ, List.set_cons_zero]
      refine do_ rfl (.int .i64 0) (ex_extract rfl rfl) ?_
      simp only [Act.put, List.setIfInBounds_toArray, List.set_cons_succ, List.set_cons_zero]
      refine do_ rfl (.slice a135 (rangeT (pairsN l0 30) ([0] : By) (List.replicate 16 (255 : UInt8))).length c136) (ex_assign _) ?_
      simp only [Act.put, List.setIfInBounds_toArray, List.set_cons_succ, List.set_cons_zero]
      refine do_ rfl (.int .i64 0) (ex_assign _) ?_
      simp only [Act.put, List.setIfInBounds_toArray, List.set_cons_succ, List.set_cons_zero]
      refine wl_nil ?_
      (try simp only [Exit.then, Exit.inBlock, ↓reduceIte, Nat.reduceEqDiff])
      refine hK115 _ _ ?_
      refine wp_seq_k (fun K140 hK140 => ?_)
      refine region_wl ?_
      refine do_ rfl (.slice a12 (pairsN l0 30).length c13) (ex_move _) ?_
      simp only [Act.put, List.setIfInBounds_toArray, List.set_cons_succ, List.set_cons_zero]
      refine do_ rfl (.slice (some ⟨g97, 0, none⟩) 16 16) (ex_move _) ?_
      simp only [Act.put, List.setIfInBounds_toArray, List.set_cons_succ, List.set_cons_zero]
      refine stGives S130 rfl (ex_fn (vs := #[(.slice a12 (pairsN l0 30).length c13), (.slice none 0 0), (.slice (some ⟨g97, 0, none⟩) 16 16)]) (map3 rfl rfl rfl) rfl (ent_49 _ _)) (rangeBad_spec _ _ _ _ _ (pairsN l0 30) [] (List.replicate 16 (255 : UInt8)) (S130).sat (hv11.mono ((((((le20.trans le29).trans le38).trans le57).trans le117).trans le125).trans le132)) (Bs.nil _) (r120.mono (le125.trans le132)) (TreeOk.mono (show TreeOk 30 (pairsN l0 30) from pairsN_ok l0 30) (by omega)) (by unfold rangeE; rw [if_pos (by decide)]; rfl)) ?_
      intro v146 w141 F143 S142 le144 R145
      obtain ⟨_, rfl, r149⟩ := R145
      obtain ⟨a147, c148, rfl, h150, h151⟩ := Sl.shape r149
      unfold maxLen at h151
      simp only [Act.put, List.setIfInBounds_toArray, List.set_cons_succ, List.set_cons_zero]
      have S142 : St W (whole W) w141 F143 [] [ownP 2 PrC PrC.mono 49 W.heap.size v (rangeT ((pairsN l0 30).take k) (keyL l1) (keyL l2))] := S142
      refine do_ rfl (.tuple #[(.slice a147 ([] : List Pr).length c148), (.int .i64 1)]) (ex_move _) ?_
      simp only [Act.put, List.setIfInBounds_toArray, List.set_cons_succ, List.set_cons_zero]
      refine do_ rfl (.slice a147 ([] : List Pr).length c148) (ex_extract rfl rfl) ?_
      simp only [Act.put, List.setIfInBounds_toArray, List.set_cons_succ, List.set_cons_zero]
      refine do_ rfl (.int .i64 1) (ex_extract rfl rfl) ?_
      simp only [Act.put, List.setIfInBounds_toArray, List.set_cons_succ, List.set_cons_zero]
      refine do_ rfl (.slice a147 ([] : List Pr).length c148) (ex_assign _) ?_
      simp only [Act.put, List.setIfInBounds_toArray, List.set_cons_succ, List.set_cons_zero]
      refine do_ rfl (.int .i64 1) (ex_assign _) ?_
      simp only [Act.put, List.setIfInBounds_toArray, List.set_cons_succ, List.set_cons_zero]
      refine wl_nil ?_
      (try simp only [Exit.then, Exit.inBlock, ↓reduceIte, Nat.reduceEqDiff])
      refine hK140 _ _ ?_
      refine wp_seq_k (fun K152 hK152 => ?_)
      refine region_wl ?_
      refine do_ rfl (.int .i64 0) (ex_move _) ?_
      simp only [Act.put, List.setIfInBounds_toArray, List.set_cons_succ, List.set_cons_zero]
      refine do_ rfl (.bool true) (ex_eql (b := true) rfl rfl (by decide)) ?_
      simp only [Act.put, List.setIfInBounds_toArray, List.set_cons_succ, List.set_cons_zero]
      refine do_ rfl (.bool true) (ex_move _) ?_
      simp only [Act.put, List.setIfInBounds_toArray, List.set_cons_succ, List.set_cons_zero]
      refine do_ rfl (.int .i64 0) (ex_move _) ?_
      simp only [Act.put, List.setIfInBounds_toArray, List.set_cons_succ, List.set_cons_zero]
      refine do_ rfl (.bool true) (ex_eql (b := true) rfl rfl (by decide)) ?_
      simp only [Act.put, List.setIfInBounds_toArray, List.set_cons_succ, List.set_cons_zero]
      refine do_ rfl (.bool true) (ex_pick (b := true) rfl) ?_
      simp only [Act.put, List.setIfInBounds_toArray, List.set_cons_succ, List.set_cons_zero]
      refine do_ rfl (.bool true) (ex_move _) ?_
      simp only [Act.put, List.setIfInBounds_toArray, List.set_cons_succ, List.set_cons_zero]
      refine do_ rfl (.int .i64 1) (ex_move _) ?_
      simp only [Act.put, List.setIfInBounds_toArray, List.set_cons_succ, List.set_cons_zero]
      refine do_ rfl (.bool true) (ex_eql (b := true) rfl rfl (by decide)) ?_
      simp only [Act.put, List.setIfInBounds_toArray, List.set_cons_succ, List.set_cons_zero]
      refine do_ rfl (.bool true) (ex_pick (b := true) rfl) ?_
      simp only [Act.put, List.setIfInBounds_toArray, List.set_cons_succ, List.set_cons_zero]
      refine do_ rfl (.bool true) (ex_move _) ?_
      simp only [Act.put, List.setIfInBounds_toArray, List.set_cons_succ, List.set_cons_zero]
      refine do_ rfl (.slice a41 (rangeT (pairsN l0 30) (keyL l1) (keyL l2)).length c42) (ex_move _) ?_
      simp only [Act.put, List.setIfInBounds_toArray, List.set_cons_succ, List.set_cons_zero]
      refine do_ rfl v (ex_move _) ?_
      simp only [Act.put, List.setIfInBounds_toArray, List.set_cons_succ, List.set_cons_zero]
      obtain ⟨F153, S154, le155, hv156⟩ := St.freeze S142 (i := 0) rfl (Nat.le_refl _)
      have S154 : St W (whole W) w141 F153 [] [] := S154
      have hv156 : Prs _ v (rangeT ((pairsN l0 30).take k) (keyL l1) (keyL l2)) := hv156
      obtain ⟨a157, c158, rfl, h159, h160⟩ := Sl.shape hv156
      unfold maxLen at h160
      refine stTells (v := (.bool true)) S154 rfl (ex_fn (vs := #[(.slice a41 (rangeT (pairsN l0 30) (keyL l1) (keyL l2)).length c42), (.slice a157 (rangeT ((pairsN l0 30).take k) (keyL l1) (keyL l2)).length c158)]) (map2 rfl rfl) rfl (ent_50 _ _)) (tells_bool (samePairs_spec _ _ _ _ (rangeT (pairsN l0 30) (keyL l1) (keyL l2)) (rangeT ((pairsN l0 30).take k) (keyL l1) (keyL l2)) (S154).sat (r43.mono (((((le57.trans le117).trans le125).trans le132).trans le144).trans le155)) hv156 (by have := rangeT_sub (pairsN l0 30) (keyL l1) (keyL l2); have := pairsN_len l0 30; omega)) (decide_eq_true hwant.symm)) (fun w161 S162 => ?_)
      simp only [Act.put, List.setIfInBounds_toArray, List.set_cons_succ, List.set_cons_zero]
      have S162 : St W (whole W) w161 F153 [] [] := S162
      refine do_ rfl (.bool true) (ex_pick (b := true) rfl) ?_
      simp only [Act.put, List.setIfInBounds_toArray, List.set_cons_succ, List.set_cons_zero]
      refine do_ rfl (.bool true) (ex_move _) ?_
      simp only [Act.put, List.setIfInBounds_toArray, List.set_cons_succ, List.set_cons_zero]
      refine do_ rfl (.slice a135 (rangeT (pairsN l0 30) ([0] : By) (List.replicate 16 (255 : UInt8))).length c136) (ex_move _) ?_
      simp only [Act.put, List.setIfInBounds_toArray, List.set_cons_succ, List.set_cons_zero]
      refine do_ rfl (.slice a12 (pairsN l0 30).length c13) (ex_move _) ?_
      simp only [Act.put, List.setIfInBounds_toArray, List.set_cons_succ, List.set_cons_zero]
      refine stTells (v := (.bool true)) S162 rfl (ex_fn (vs := #[(.slice a135 (rangeT (pairsN l0 30) ([0] : By) (List.replicate 16 (255 : UInt8))).length c136), (.slice a12 (pairsN l0 30).length c13)]) (map2 rfl rfl) rfl (ent_50 _ _)) (tells_bool (samePairs_spec _ _ _ _ (rangeT (pairsN l0 30) ([0] : By) (List.replicate 16 (255 : UInt8))) (pairsN l0 30) (S162).sat (r137.mono (le144.trans le155)) (hv11.mono ((((((((le20.trans le29).trans le38).trans le57).trans le117).trans le125).trans le132).trans le144).trans le155)) (by have := TreeOk.len (show TreeOk 30 (rangeT (pairsN l0 30) ([0] : By) (List.replicate 16 (255 : UInt8))) from (show TreeOk 30 (pairsN l0 30) from pairsN_ok l0 30).range ([0] : By) (List.replicate 16 (255 : UInt8))); omega)) (decide_eq_true (hall))) (fun w163 S164 => ?_)
      simp only [Act.put, List.setIfInBounds_toArray, List.set_cons_succ, List.set_cons_zero]
      have S164 : St W (whole W) w163 F153 [] [] := S164
      refine do_ rfl (.bool true) (ex_pick (b := true) rfl) ?_
      simp only [Act.put, List.setIfInBounds_toArray, List.set_cons_succ, List.set_cons_zero]
      refine do_ rfl (.bool true) (ex_assign _) ?_
      simp only [Act.put, List.setIfInBounds_toArray, List.set_cons_succ, List.set_cons_zero]
      refine wl_nil ?_
      (try simp only [Exit.then, Exit.inBlock, ↓reduceIte, Nat.reduceEqDiff])
      refine hK152 _ _ ?_
      refine wp_ret ?_
      (try simp only [Exit.then, Exit.inBlock, ↓reduceIte, Nat.reduceEqDiff])
      refine bodyPost_ret (v := (.bool true)) ?_ rfl ?_
      · exact res_t rfl rfl
      · exact ⟨rfl, S164.gr.below⟩
end Go.Proofs.Yteefnnnbbmbmcaa
