/- Walk of RangeParts -/
import Derived.Test.YteefnnnbbmbmcaaK3
namespace Go.Proofs.Yteefnnnbbmbmcaa
open Go.RowKit
set_option maxRecDepth 100000
set_option linter.unusedVariables false
set_option linter.unusedSimpArgs false
theorem TreeOk.sub {n : Nat} {l m : List Pr} (h : TreeOk n l) (hs : m.Sublist l) : TreeOk n m := ⟨Nat.le_trans hs.length_le h.len, fun p hp => h.ok p (hs.subset hp), h.rise.sublist hs⟩
set_option maxHeartbeats 8000000 in
theorem rangeParts_walk (W : World) (v0 : Value) (l0 : List Pr) (z0 : Prs (whole W) v0 l0) (v1 : Value) (l1 : By) (z1 : Bs (whole W) v1 l1) (v2 : Value) (l2 : By) (z2 : Bs (whole W) v2 l2) (v3 : Value) (l3 : By) (z3 : Bs (whole W) v3 l3) :
    Calls Try.prog 11 #[v0, v1, v2, v3] W (Tells W (.bool true)) := by
  obtain ⟨a0, c0, rfl, q0, q0'⟩ := Sl.shape z0
  obtain ⟨a1, c1, rfl, _⟩ := z1.shape
  obtain ⟨a2, c2, rfl, _⟩ := z2.shape
  obtain ⟨a3, c3, rfl, _⟩ := z3.shape
  have S := St.start (Sat.whole W)
  go_enter Try.func11, Try.ntmps11
  obtain ⟨i49, hi49, hz49, hs49, hb49⟩ := info_parts info_49
  refine wp_seq_k (fun K1 hK1 => ?_)
  refine region_wl ?_
  refine do_ rfl (.bool false) (ex_assign _) ?_
  simp only [Act.put, List.setIfInBounds_toArray, List.set_cons_succ, List.set_cons_zero]
  refine wl_nil ?_
  (try simp only [Exit.then, Exit.inBlock, ↓reduceIte, Nat.reduceEqDiff])
  refine hK1 _ _ ?_
  refine wp_seq_k (fun K2 hK2 => ?_)
  refine region_wl ?_
  refine do_ rfl (.slice a0 l0.length c0) (ex_move _) ?_
  simp only [Act.put, List.setIfInBounds_toArray, List.set_cons_succ, List.set_cons_zero]
  refine stGivesO PrC.mono S rfl (ex_fn (vs := #[(.slice a0 l0.length c0), (.int .i64 30)]) (map2 rfl rfl) rfl (ent_48 _ _)) (pairs_spec _ _ _ l0 30 (S).sat z0 (by omega)) ?_
  intro v7 w3 F5 S4 le6
  simp only [Act.put, List.setIfInBounds_toArray, List.set_cons_succ, List.set_cons_zero]
  have S4 : St W (whole W) w3 F5 [] [ownP 2 PrC PrC.mono 49 W.heap.size v7 (pairsN l0 30)] := S4
  obtain ⟨F8, S9, le10, hv11⟩ := St.freeze S4 (i := 0) rfl (Nat.le_refl _)
  have S9 : St W (whole W) w3 F8 [] [] := S9
  have hv11 : Prs _ v7 (pairsN l0 30) := hv11
  obtain ⟨a12, c13, rfl, h14, h15⟩ := Sl.shape hv11
  unfold maxLen at h15
  refine do_ rfl (.slice a12 (pairsN l0 30).length c13) (ex_assign _) ?_
  simp only [Act.put, List.setIfInBounds_toArray, List.set_cons_succ, List.set_cons_zero]
  refine wl_nil ?_
  (try simp only [Exit.then, Exit.inBlock, ↓reduceIte, Nat.reduceEqDiff])
  refine hK2 _ _ ?_
  refine wp_seq_k (fun K16 hK16 => ?_)
  refine region_wl ?_
  refine do_ rfl (.slice a1 l1.length c1) (ex_move _) ?_
  simp only [Act.put, List.setIfInBounds_toArray, List.set_cons_succ, List.set_cons_zero]
  refine stGives S9 rfl (ex_fn (vs := #[(.slice a1 l1.length c1)]) (map1 rfl) rfl (ent_44 _ _)) (key_spec _ _ _ l1 (S9).sat (z1.mono (le6.trans le10))) ?_
  intro v22 w17 F19 S18 le20 R21
  obtain ⟨xa23, xc24, rfl, _⟩ := R21.shape
  simp only [Act.put, List.setIfInBounds_toArray, List.set_cons_succ, List.set_cons_zero]
  have S18 : St W (whole W) w17 F19 [] [] := S18
  refine do_ rfl (.slice xa23 (keyL l1).length xc24) (ex_assign _) ?_
  simp only [Act.put, List.setIfInBounds_toArray, List.set_cons_succ, List.set_cons_zero]
  refine wl_nil ?_
  (try simp only [Exit.then, Exit.inBlock, ↓reduceIte, Nat.reduceEqDiff])
  refine hK16 _ _ ?_
  refine wp_seq_k (fun K25 hK25 => ?_)
  refine region_wl ?_
  refine do_ rfl (.slice a3 l3.length c3) (ex_move _) ?_
  simp only [Act.put, List.setIfInBounds_toArray, List.set_cons_succ, List.set_cons_zero]
  refine stGives S18 rfl (ex_fn (vs := #[(.slice a3 l3.length c3)]) (map1 rfl) rfl (ent_44 _ _)) (key_spec _ _ _ l3 (S18).sat (z3.mono ((le6.trans le10).trans le20))) ?_
  intro v31 w26 F28 S27 le29 R30
  obtain ⟨xa32, xc33, rfl, _⟩ := R30.shape
  simp only [Act.put, List.setIfInBounds_toArray, List.set_cons_succ, List.set_cons_zero]
  have S27 : St W (whole W) w26 F28 [] [] := S27
  refine do_ rfl (.slice xa32 (keyL l3).length xc33) (ex_assign _) ?_
  simp only [Act.put, List.setIfInBounds_toArray, List.set_cons_succ, List.set_cons_zero]
  refine wl_nil ?_
  (try simp only [Exit.then, Exit.inBlock, ↓reduceIte, Nat.reduceEqDiff])
  refine hK25 _ _ ?_
  refine wp_seq_k (fun K34 hK34 => ?_)
  refine region_wl ?_
  refine do_ rfl (.slice a2 l2.length c2) (ex_move _) ?_
  simp only [Act.put, List.setIfInBounds_toArray, List.set_cons_succ, List.set_cons_zero]
  refine stGives S27 rfl (ex_fn (vs := #[(.slice a2 l2.length c2)]) (map1 rfl) rfl (ent_44 _ _)) (key_spec _ _ _ l2 (S27).sat (z2.mono (((le6.trans le10).trans le20).trans le29))) ?_
  intro v40 w35 F37 S36 le38 R39
  obtain ⟨xa41, xc42, rfl, _⟩ := R39.shape
  simp only [Act.put, List.setIfInBounds_toArray, List.set_cons_succ, List.set_cons_zero]
  have S36 : St W (whole W) w35 F37 [] [] := S36
  refine do_ rfl (.slice xa41 (keyL l2).length xc42) (ex_assign _) ?_
  simp only [Act.put, List.setIfInBounds_toArray, List.set_cons_succ, List.set_cons_zero]
  refine wl_nil ?_
  (try simp only [Exit.then, Exit.inBlock, ↓reduceIte, Nat.reduceEqDiff])
  refine hK34 _ _ ?_
  refine wp_seq_k (fun K43 hK43 => ?_)
  refine wp_seq_k (fun K44 hK44 => ?_)
  by_cases hba : Lt (keyL l3) (keyL l1)
  · refine region_wl ?_
    refine do_ rfl (.slice xa32 (keyL l3).length xc33) (ex_move _) ?_
    simp only [Act.put, List.setIfInBounds_toArray, List.set_cons_succ, List.set_cons_zero]
    refine do_ rfl (.string ⟨(keyL l3).toArray⟩) (ex_convert (v := (.slice xa32 (keyL l3).length xc33)) rfl (run_string Try.underlying27 Try.underlying5 Try.underlying9 (S36).sat (R30.mono le38))) ?_
    simp only [Act.put, List.setIfInBounds_toArray, List.set_cons_succ, List.set_cons_zero]
    refine do_ rfl (.slice xa23 (keyL l1).length xc24) (ex_move _) ?_
    simp only [Act.put, List.setIfInBounds_toArray, List.set_cons_succ, List.set_cons_zero]
    refine do_ rfl (.string ⟨(keyL l1).toArray⟩) (ex_convert (v := (.slice xa23 (keyL l1).length xc24)) rfl (run_string Try.underlying27 Try.underlying5 Try.underlying9 (S36).sat (R21.mono (le29.trans le38)))) ?_
    simp only [Act.put, List.setIfInBounds_toArray, List.set_cons_succ, List.set_cons_zero]
    refine do_ rfl (.bool true) (ex_strop (op := .lss) (l := (keyL l3)) (m := (keyL l1)) (b := true) (by simp) rfl rfl (hba)) ?_
    simp only [Act.put, List.setIfInBounds_toArray, List.set_cons_succ, List.set_cons_zero]
    refine do_ rfl (.bool true) (ex_move _) ?_
    simp only [Act.put, List.setIfInBounds_toArray, List.set_cons_succ, List.set_cons_zero]
    refine doN (wanted_no rfl rfl rfl (c := true) rfl (by decide)) ?_
    simp only [Act.put, List.setIfInBounds_toArray, List.set_cons_succ, List.set_cons_zero]
    refine doN (wanted_no rfl rfl rfl (c := true) rfl (by decide)) ?_
    simp only [Act.put, List.setIfInBounds_toArray, List.set_cons_succ, List.set_cons_zero]
    refine doN (wanted_no rfl rfl rfl (c := true) rfl (by decide)) ?_
    simp only [Act.put, List.setIfInBounds_toArray, List.set_cons_succ, List.set_cons_zero]
    refine doN (wanted_no rfl rfl rfl (c := true) rfl (by decide)) ?_
    simp only [Act.put, List.setIfInBounds_toArray, List.set_cons_succ, List.set_cons_zero]
    refine doN (wanted_no rfl rfl rfl (c := true) rfl (by decide)) ?_
    simp only [Act.put, List.setIfInBounds_toArray, List.set_cons_succ, List.set_cons_zero]
    refine do_ rfl (.bool true) (ex_pick (b := true) rfl) ?_
    simp only [Act.put, List.setIfInBounds_toArray, List.set_cons_succ, List.set_cons_zero]
    refine wl_nil ?_
    (try simp only [Exit.then, Exit.inBlock, ↓reduceIte, Nat.reduceEqDiff])
    refine hK44 _ _ ?_
    refine wp_cond_true rfl ?_
    refine wp_seq_k (fun K45 hK45 => ?_)
    refine region_wl ?_
    refine do_ rfl (.slice a12 (pairsN l0 30).length c13) (ex_move _) ?_
    simp only [Act.put, List.setIfInBounds_toArray, List.set_cons_succ, List.set_cons_zero]
    refine do_ rfl (.slice xa41 (keyL l2).length xc42) (ex_move _) ?_
    simp only [Act.put, List.setIfInBounds_toArray, List.set_cons_succ, List.set_cons_zero]
    refine do_ rfl (.slice xa23 (keyL l1).length xc24) (ex_move _) ?_
    simp only [Act.put, List.setIfInBounds_toArray, List.set_cons_succ, List.set_cons_zero]
    refine stGives S36 rfl (ex_fn (vs := #[(.slice a12 (pairsN l0 30).length c13), (.slice xa41 (keyL l2).length xc42), (.slice xa23 (keyL l1).length xc24)]) (map3 rfl rfl rfl) rfl (ent_49 _ _)) (rangeOk_spec _ _ _ _ _ (pairsN l0 30) (keyL l2) (keyL l1) (S36).sat (hv11.mono ((le20.trans le29).trans le38)) R39 (R21.mono (le29.trans le38)) (TreeOk.mono (show TreeOk 30 (pairsN l0 30) from pairsN_ok l0 30) (by omega)) (keyL_len l2) (keyL_len l1)) ?_
    intro v51 w46 F48 S47 le49 R50
    obtain ⟨_, rfl, r54⟩ := R50
    obtain ⟨a52, c53, rfl, h55, h56⟩ := Sl.shape r54
    unfold maxLen at h56
    have h55 : (rangeT (pairsN l0 30) (keyL l2) (keyL l1)).length ≤ c53 := h55
    have r54 : Prs _ (.slice a52 (rangeT (pairsN l0 30) (keyL l2) (keyL l1)).length c53) (rangeT (pairsN l0 30) (keyL l2) (keyL l1)) := r54
    simp only [Act.put, List.setIfInBounds_toArray, List.set_cons_succ, List.set_cons_zero]
    have S47 : St W (whole W) w46 F48 [] [] := S47
    refine do_ rfl (.tuple #[(.slice a52 (rangeT (pairsN l0 30) (keyL l2) (keyL l1)).length c53), (.int .i64 0)]) (ex_move _) ?_
    simp only [Act.put, List.setIfInBounds_toArray, List.set_cons_succ, List.set_cons_zero]
    refine do_ rfl (.slice a52 (rangeT (pairsN l0 30) (keyL l2) (keyL l1)).length c53) (ex_extract rfl rfl) ?_
    simp only [Act.put, List.setIfInBounds_toArray, List.set_cons_succ, List.set_cons_zero]
    refine do_ rfl (.int .i64 0) (ex_extract rfl rfl) ?_
    simp only [Act.put, List.setIfInBounds_toArray, List.set_cons_succ, List.set_cons_zero]
    refine do_ rfl (.slice a52 (rangeT (pairsN l0 30) (keyL l2) (keyL l1)).length c53) (ex_assign _) ?_
    simp only [Act.put, List.setIfInBounds_toArray, List.set_cons_succ, List.set_cons_zero]
    refine do_ rfl (.int .i64 0) (ex_assign _) ?_
    simp only [Act.put, List.setIfInBounds_toArray, List.set_cons_succ, List.set_cons_zero]
    refine wl_nil ?_
    (try simp only [Exit.then, Exit.inBlock, ↓reduceIte, Nat.reduceEqDiff])
    refine hK45 _ _ ?_
    refine wp_seq_k (fun K57 hK57 => ?_)
    refine region_wl ?_
    refine do_ rfl (.slice a12 (pairsN l0 30).length c13) (ex_move _) ?_
    simp only [Act.put, List.setIfInBounds_toArray, List.set_cons_succ, List.set_cons_zero]
    refine do_ rfl (.slice xa41 (keyL l2).length xc42) (ex_move _) ?_
    simp only [Act.put, List.setIfInBounds_toArray, List.set_cons_succ, List.set_cons_zero]
    refine stGives S47 rfl (ex_fn (vs := #[(.slice a12 (pairsN l0 30).length c13), (.slice xa41 (keyL l2).length xc42), (.slice none 0 0)]) (map3 rfl rfl rfl) rfl (ent_49 _ _)) (rangeBad_spec _ _ _ _ _ (pairsN l0 30) (keyL l2) [] (S47).sat (hv11.mono (((le20.trans le29).trans le38).trans le49)) (R39.mono le49) (Bs.nil _) (TreeOk.mono (show TreeOk 30 (pairsN l0 30) from pairsN_ok l0 30) (by omega)) (by unfold rangeE; rw [if_neg (by rw [checkN_ok (keyL_len l2).1 (keyL_len l2).2]; simp)]; rfl)) ?_
    intro v63 w58 F60 S59 le61 R62
    obtain ⟨_, rfl, r66⟩ := R62
    obtain ⟨a64, c65, rfl, h67, h68⟩ := Sl.shape r66
    unfold maxLen at h68
    simp only [Act.put, List.setIfInBounds_toArray, List.set_cons_succ, List.set_cons_zero]
    have S59 : St W (whole W) w58 F60 [] [] := S59
    refine do_ rfl (.tuple #[(.slice a64 ([] : List Pr).length c65), (.int .i64 1)]) (ex_move _) ?_
    simp only [Act.put, List.setIfInBounds_toArray, List.set_cons_succ, List.set_cons_zero]
    refine do_ rfl (.slice a64 ([] : List Pr).length c65) (ex_extract rfl rfl) ?_
    simp only [Act.put, List.setIfInBounds_toArray, List.set_cons_succ, List.set_cons_zero]
    refine do_ rfl (.int .i64 1) (ex_extract rfl rfl) ?_
    simp only [Act.put, List.setIfInBounds_toArray, List.set_cons_succ, List.set_cons_zero]
    refine do_ rfl (.slice a64 ([] : List Pr).length c65) (ex_assign _) ?_
    simp only [Act.put, List.setIfInBounds_toArray, List.set_cons_succ, List.set_cons_zero]
    refine do_ rfl (.int .i64 1) (ex_assign _) ?_
    simp only [Act.put, List.setIfInBounds_toArray, List.set_cons_succ, List.set_cons_zero]
    refine wl_nil ?_
    (try simp only [Exit.then, Exit.inBlock, ↓reduceIte, Nat.reduceEqDiff])
    refine hK57 _ _ ?_
    refine wp_seq_k (fun K69 hK69 => ?_)
    refine region_wl ?_
    refine do_ rfl (.int .i64 0) (ex_move _) ?_
    simp only [Act.put, List.setIfInBounds_toArray, List.set_cons_succ, List.set_cons_zero]
    refine do_ rfl (.bool true) (ex_eql (b := true) rfl rfl (by decide)) ?_
    simp only [Act.put, List.setIfInBounds_toArray, List.set_cons_succ, List.set_cons_zero]
    refine do_ rfl (.bool true) (ex_move _) ?_
    simp only [Act.put, List.setIfInBounds_toArray, List.set_cons_succ, List.set_cons_zero]
    refine do_ rfl (.int .i64 1) (ex_move _) ?_
    simp only [Act.put, List.setIfInBounds_toArray, List.set_cons_succ, List.set_cons_zero]
    refine do_ rfl (.bool true) (ex_eql (b := true) rfl rfl (by decide)) ?_
    simp only [Act.put, List.setIfInBounds_toArray, List.set_cons_succ, List.set_cons_zero]
    refine do_ rfl (.bool true) (ex_pick (b := true) rfl) ?_
    simp only [Act.put, List.setIfInBounds_toArray, List.set_cons_succ, List.set_cons_zero]
    refine do_ rfl (.bool true) (ex_move _) ?_
    simp only [Act.put, List.setIfInBounds_toArray, List.set_cons_succ, List.set_cons_zero]
    refine do_ rfl (.slice a52 (rangeT (pairsN l0 30) (keyL l2) (keyL l1)).length c53) (ex_move _) ?_
    simp only [Act.put, List.setIfInBounds_toArray, List.set_cons_succ, List.set_cons_zero]
    refine do_ rfl (.int .i64 (((rangeT (pairsN l0 30) (keyL l2) (keyL l1)).length : Nat) : Int)) (ex_len Try.underlying44 rfl) ?_
    simp only [Act.put, List.setIfInBounds_toArray, List.set_cons_succ, List.set_cons_zero]
    refine do_ rfl (.slice a12 (pairsN l0 30).length c13) (ex_move _) ?_
    simp only [Act.put, List.setIfInBounds_toArray, List.set_cons_succ, List.set_cons_zero]
    refine do_ rfl (.int .i64 (((pairsN l0 30).length : Nat) : Int)) (ex_len Try.underlying44 rfl) ?_
    simp only [Act.put, List.setIfInBounds_toArray, List.set_cons_succ, List.set_cons_zero]
    refine do_ rfl (.bool true) (ex_leq (m := (((rangeT (pairsN l0 30) (keyL l2) (keyL l1)).length : Nat) : Int)) (n := (((pairsN l0 30).length : Nat) : Int)) (b := true) rfl rfl (decide_eq_true (by have := rangeT_sub (pairsN l0 30) (keyL l2) (keyL l1); omega))) ?_
    simp only [Act.put, List.setIfInBounds_toArray, List.set_cons_succ, List.set_cons_zero]
    refine do_ rfl (.bool true) (ex_pick (b := true) rfl) ?_
    simp only [Act.put, List.setIfInBounds_toArray, List.set_cons_succ, List.set_cons_zero]
    refine do_ rfl (.bool true) (ex_assign _) ?_
    simp only [Act.put, List.setIfInBounds_toArray, List.set_cons_succ, List.set_cons_zero]
    refine wl_nil ?_
    (try simp only [Exit.then, Exit.inBlock, ↓reduceIte, Nat.reduceEqDiff])
    refine hK69 _ _ ?_
    refine wp_ret ?_
    (try simp only [Exit.then, Exit.inBlock, ↓reduceIte, Nat.reduceEqDiff])
    refine bodyPost_ret (v := (.bool true)) ?_ rfl ?_
    · exact res_t rfl rfl
    · exact ⟨rfl, S59.gr.below⟩
  · by_cases hcb : Lt (keyL l2) (keyL l3)
    · refine region_wl ?_
      refine do_ rfl (.slice xa32 (keyL l3).length xc33) (ex_move _) ?_
      simp only [Act.put, List.setIfInBounds_toArray, List.set_cons_succ, List.set_cons_zero]
      refine do_ rfl (.string ⟨(keyL l3).toArray⟩) (ex_convert (v := (.slice xa32 (keyL l3).length xc33)) rfl (run_string Try.underlying27 Try.underlying5 Try.underlying9 (S36).sat (R30.mono le38))) ?_
      simp only [Act.put, List.setIfInBounds_toArray, List.set_cons_succ, List.set_cons_zero]
      refine do_ rfl (.slice xa23 (keyL l1).length xc24) (ex_move _) ?_
      simp only [Act.put, List.setIfInBounds_toArray, List.set_cons_succ, List.set_cons_zero]
      refine do_ rfl (.string ⟨(keyL l1).toArray⟩) (ex_convert (v := (.slice xa23 (keyL l1).length xc24)) rfl (run_string Try.underlying27 Try.underlying5 Try.underlying9 (S36).sat (R21.mono (le29.trans le38)))) ?_
      simp only [Act.put, List.setIfInBounds_toArray, List.set_cons_succ, List.set_cons_zero]
      refine do_ rfl (.bool false) (ex_strop (op := .lss) (l := (keyL l3)) (m := (keyL l1)) (b := false) (by simp) rfl rfl (by show Op.bytesLess _ _ = false; simpa using hba)) ?_
      simp only [Act.put, List.setIfInBounds_toArray, List.set_cons_succ, List.set_cons_zero]
      refine do_ rfl (.bool false) (ex_move _) ?_
      simp only [Act.put, List.setIfInBounds_toArray, List.set_cons_succ, List.set_cons_zero]
      refine do_ rfl (.slice xa41 (keyL l2).length xc42) (ex_move _) ?_
      simp only [Act.put, List.setIfInBounds_toArray, List.set_cons_succ, List.set_cons_zero]
      refine do_ rfl (.string ⟨(keyL l2).toArray⟩) (ex_convert (v := (.slice xa41 (keyL l2).length xc42)) rfl (run_string Try.underlying27 Try.underlying5 Try.underlying9 (S36).sat R39)) ?_
      simp only [Act.put, List.setIfInBounds_toArray, List.set_cons_succ, List.set_cons_zero]
      refine do_ rfl (.slice xa32 (keyL l3).length xc33) (ex_move _) ?_
      simp only [Act.put, List.setIfInBounds_toArray, List.set_cons_succ, List.set_cons_zero]
      refine do_ rfl (.string ⟨(keyL l3).toArray⟩) (ex_convert (v := (.slice xa32 (keyL l3).length xc33)) rfl (run_string Try.underlying27 Try.underlying5 Try.underlying9 (S36).sat (R30.mono le38))) ?_
      simp only [Act.put, List.setIfInBounds_toArray, List.set_cons_succ, List.set_cons_zero]
      refine do_ rfl (.bool true) (ex_strop (op := .lss) (l := (keyL l2)) (m := (keyL l3)) (b := true) (by simp) rfl rfl (hcb)) ?_
      simp only [Act.put, List.setIfInBounds_toArray, List.set_cons_succ, List.set_cons_zero]
      refine do_ rfl (.bool true) (ex_pick (b := false) rfl) ?_
      simp only [Act.put, List.setIfInBounds_toArray, List.set_cons_succ, List.set_cons_zero]
      refine wl_nil ?_
      (try simp only [Exit.then, Exit.inBlock, ↓reduceIte, Nat.reduceEqDiff])
      refine hK44 _ _ ?_
      refine wp_cond_true rfl ?_
      refine wp_seq_k (fun K70 hK70 => ?_)
      refine region_wl ?_
      refine do_ rfl (.slice a12 (pairsN l0 30).length c13) (ex_move _) ?_
      simp only [Act.put, List.setIfInBounds_toArray, List.set_cons_succ, List.set_cons_zero]
      refine do_ rfl (.slice xa41 (keyL l2).length xc42) (ex_move _) ?_
      simp only [Act.put, List.setIfInBounds_toArray, List.set_cons_succ, List.set_cons_zero]
      refine do_ rfl (.slice xa23 (keyL l1).length xc24) (ex_move _) ?_
      simp only [Act.put, List.setIfInBounds_toArray, List.set_cons_succ, List.set_cons_zero]
      refine stGives S36 rfl (ex_fn (vs := #[(.slice a12 (pairsN l0 30).length c13), (.slice xa41 (keyL l2).length xc42), (.slice xa23 (keyL l1).length xc24)]) (map3 rfl rfl rfl) rfl (ent_49 _ _)) (rangeOk_spec _ _ _ _ _ (pairsN l0 30) (keyL l2) (keyL l1) (S36).sat (hv11.mono ((le20.trans le29).trans le38)) R39 (R21.mono (le29.trans le38)) (TreeOk.mono (show TreeOk 30 (pairsN l0 30) from pairsN_ok l0 30) (by omega)) (keyL_len l2) (keyL_len l1)) ?_
      intro v76 w71 F73 S72 le74 R75
      obtain ⟨_, rfl, r79⟩ := R75
      obtain ⟨a77, c78, rfl, h80, h81⟩ := Sl.shape r79
      unfold maxLen at h81
      have h80 : (rangeT (pairsN l0 30) (keyL l2) (keyL l1)).length ≤ c78 := h80
      have r79 : Prs _ (.slice a77 (rangeT (pairsN l0 30) (keyL l2) (keyL l1)).length c78) (rangeT (pairsN l0 30) (keyL l2) (keyL l1)) := r79
      simp only [Act.put, List.setIfInBounds_toArray, List.set_cons_succ, List.set_cons_zero]
      have S72 : St W (whole W) w71 F73 [] [] := S72
      refine do_ rfl (.tuple #[(.slice a77 (rangeT (pairsN l0 30) (keyL l2) (keyL l1)).length c78), (.int .i64 0)]) (ex_move _) ?_
      simp only [Act.put, List.setIfInBounds_toArray, List.set_cons_succ, List.set_cons_zero]
      refine do_ rfl (.slice a77 (rangeT (pairsN l0 30) (keyL l2) (keyL l1)).length c78) (ex_extract rfl rfl) ?_
      simp only [Act.put, List.setIfInBounds_toArray, List.set_cons_succ, List.set_cons_zero]
      refine do_ rfl (.int .i64 0) (ex_extract rfl rfl) ?_
      simp only [Act.put, List.setIfInBounds_toArray, List.set_cons_succ, List.set_cons_zero]
      refine do_ rfl (.slice a77 (rangeT (pairsN l0 30) (keyL l2) (keyL l1)).length c78) (ex_assign _) ?_
      simp only [Act.put, List.setIfInBounds_toArray, List.set_cons_succ, List.set_cons_zero]
      refine do_ rfl (.int .i64 0) (ex_assign _) ?_
      simp only [Act.put, List.setIfInBounds_toArray, List.set_cons_succ, List.set_cons_zero]
      refine wl_nil ?_
      (try simp only [Exit.then, Exit.inBlock, ↓reduceIte, Nat.reduceEqDiff])
      refine hK70 _ _ ?_
      refine wp_seq_k (fun K82 hK82 => ?_)
      refine region_wl ?_
      refine do_ rfl (.slice a12 (pairsN l0 30).length c13) (ex_move _) ?_
      simp only [Act.put, List.setIfInBounds_toArray, List.set_cons_succ, List.set_cons_zero]
      refine do_ rfl (.slice xa41 (keyL l2).length xc42) (ex_move _) ?_
      simp only [Act.put, List.setIfInBounds_toArray, List.set_cons_succ, List.set_cons_zero]
      refine stGives S72 rfl (ex_fn (vs := #[(.slice a12 (pairsN l0 30).length c13), (.slice xa41 (keyL l2).length xc42), (.slice none 0 0)]) (map3 rfl rfl rfl) rfl (ent_49 _ _)) (rangeBad_spec _ _ _ _ _ (pairsN l0 30) (keyL l2) [] (S72).sat (hv11.mono (((le20.trans le29).trans le38).trans le74)) (R39.mono le74) (Bs.nil _) (TreeOk.mono (show TreeOk 30 (pairsN l0 30) from pairsN_ok l0 30) (by omega)) (by unfold rangeE; rw [if_neg (by rw [checkN_ok (keyL_len l2).1 (keyL_len l2).2]; simp)]; rfl)) ?_
      intro v88 w83 F85 S84 le86 R87
      obtain ⟨_, rfl, r91⟩ := R87
      obtain ⟨a89, c90, rfl, h92, h93⟩ := Sl.shape r91
      unfold maxLen at h93
      simp only [Act.put, List.setIfInBounds_toArray, List.set_cons_succ, List.set_cons_zero]
      have S84 : St W (whole W) w83 F85 [] [] := S84
      refine do_ rfl (.tuple #[(.slice a89 ([] : List Pr).length c90), (.int .i64 1)]) (ex_move _) ?_
      simp only [Act.put, List.setIfInBounds_toArray, List.set_cons_succ, List.set_cons_zero]
      refine do_ rfl (.slice a89 ([] : List Pr).length c90) (ex_extract rfl rfl) ?_
      simp only [Act.put, List.setIfInBounds_toArray, List.set_cons_succ, List.set_cons_zero]
      refine do_ rfl (.int .i64 1) (ex_extract rfl rfl) ?_
      simp only [Act.put, List.setIfInBounds_toArray, List.set_cons_succ, List.set_cons_zero]
      refine do_ rfl (.slice a89 ([] : List Pr).length c90) (ex_assign _) ?_
      simp only [Act.put, List.setIfInBounds_toArray, List.set_cons_succ, List.set_cons_zero]
      refine do_ rfl (.int .i64 1) (ex_assign _) ?_
      simp only [Act.put, List.setIfInBounds_toArray, List.set_cons_succ, List.set_cons_zero]
      refine wl_nil ?_
      (try simp only [Exit.then, Exit.inBlock, ↓reduceIte, Nat.reduceEqDiff])
      refine hK82 _ _ ?_
      refine wp_seq_k (fun K94 hK94 => ?_)
      refine region_wl ?_
      refine do_ rfl (.int .i64 0) (ex_move _) ?_
      simp only [Act.put, List.setIfInBounds_toArray, List.set_cons_succ, List.set_cons_zero]
      refine do_ rfl (.bool true) (ex_eql (b := true) rfl rfl (by decide)) ?_
      simp only [Act.put, List.setIfInBounds_toArray, List.set_cons_succ, List.set_cons_zero]
      refine do_ rfl (.bool true) (ex_move _) ?_
      simp only [Act.put, List.setIfInBounds_toArray, List.set_cons_succ, List.set_cons_zero]
      refine do_ rfl (.int .i64 1) (ex_move _) ?_
      simp only [Act.put, List.setIfInBounds_toArray, List.set_cons_succ, List.set_cons_zero]
      refine do_ rfl (.bool true) (ex_eql (b := true) rfl rfl (by decide)) ?_
      simp only [Act.put, List.setIfInBounds_toArray, List.set_cons_succ, List.set_cons_zero]
      refine do_ rfl (.bool true) (ex_pick (b := true) rfl) ?_
      simp only [Act.put, List.setIfInBounds_toArray, List.set_cons_succ, List.set_cons_zero]
      refine do_ rfl (.bool true) (ex_move _) ?_
      simp only [Act.put, List.setIfInBounds_toArray, List.set_cons_succ, List.set_cons_zero]
      refine do_ rfl (.slice a77 (rangeT (pairsN l0 30) (keyL l2) (keyL l1)).length c78) (ex_move _) ?_
      simp only [Act.put, List.setIfInBounds_toArray, List.set_cons_succ, List.set_cons_zero]
      refine do_ rfl (.int .i64 (((rangeT (pairsN l0 30) (keyL l2) (keyL l1)).length : Nat) : Int)) (ex_len Try.underlying44 rfl) ?_
      simp only [Act.put, List.setIfInBounds_toArray, List.set_cons_succ, List.set_cons_zero]
      refine do_ rfl (.slice a12 (pairsN l0 30).length c13) (ex_move _) ?_
      simp only [Act.put, List.setIfInBounds_toArray, List.set_cons_succ, List.set_cons_zero]
      refine do_ rfl (.int .i64 (((pairsN l0 30).length : Nat) : Int)) (ex_len Try.underlying44 rfl) ?_
      simp only [Act.put, List.setIfInBounds_toArray, List.set_cons_succ, List.set_cons_zero]
      refine do_ rfl (.bool true) (ex_leq (m := (((rangeT (pairsN l0 30) (keyL l2) (keyL l1)).length : Nat) : Int)) (n := (((pairsN l0 30).length : Nat) : Int)) (b := true) rfl rfl (decide_eq_true (by have := rangeT_sub (pairsN l0 30) (keyL l2) (keyL l1); omega))) ?_
      simp only [Act.put, List.setIfInBounds_toArray, List.set_cons_succ, List.set_cons_zero]
      refine do_ rfl (.bool true) (ex_pick (b := true) rfl) ?_
      simp only [Act.put, List.setIfInBounds_toArray, List.set_cons_succ, List.set_cons_zero]
      refine do_ rfl (.bool true) (ex_assign _) ?_
      simp only [Act.put, List.setIfInBounds_toArray, List.set_cons_succ, List.set_cons_zero]
      refine wl_nil ?_
      (try simp only [Exit.then, Exit.inBlock, ↓reduceIte, Nat.reduceEqDiff])
      refine hK94 _ _ ?_
      refine wp_ret ?_
      (try simp only [Exit.then, Exit.inBlock, ↓reduceIte, Nat.reduceEqDiff])
      refine bodyPost_ret (v := (.bool true)) ?_ rfl ?_
      · exact res_t rfl rfl
      · exact ⟨rfl, S84.gr.below⟩
    · refine region_wl ?_
      refine do_ rfl (.slice xa32 (keyL l3).length xc33) (ex_move _) ?_
      simp only [Act.put, List.setIfInBounds_toArray, List.set_cons_succ, List.set_cons_zero]
      refine do_ rfl (.string ⟨(keyL l3).toArray⟩) (ex_convert (v := (.slice xa32 (keyL l3).length xc33)) rfl (run_string Try.underlying27 Try.underlying5 Try.underlying9 (S36).sat (R30.mono le38))) ?_
      simp only [Act.put, List.setIfInBounds_toArray, List.set_cons_succ, List.set_cons_zero]
      refine do_ rfl (.slice xa23 (keyL l1).length xc24) (ex_move _) ?_
      simp only [Act.put, List.setIfInBounds_toArray, List.set_cons_succ, List.set_cons_zero]
      refine do_ rfl (.string ⟨(keyL l1).toArray⟩) (ex_convert (v := (.slice xa23 (keyL l1).length xc24)) rfl (run_string Try.underlying27 Try.underlying5 Try.underlying9 (S36).sat (R21.mono (le29.trans le38)))) ?_
      simp only [Act.put, List.setIfInBounds_toArray, List.set_cons_succ, List.set_cons_zero]
      refine do_ rfl (.bool false) (ex_strop (op := .lss) (l := (keyL l3)) (m := (keyL l1)) (b := false) (by simp) rfl rfl (by show Op.bytesLess _ _ = false; simpa using hba)) ?_
      simp only [Act.put, List.setIfInBounds_toArray, List.set_cons_succ, List.set_cons_zero]
      refine do_ rfl (.bool false) (ex_move _) ?_
      simp only [Act.put, List.setIfInBounds_toArray, List.set_cons_succ, List.set_cons_zero]
      refine do_ rfl (.slice xa41 (keyL l2).length xc42) (ex_move _) ?_
      simp only [Act.put, List.setIfInBounds_toArray, List.set_cons_succ, List.set_cons_zero]
      refine do_ rfl (.string ⟨(keyL l2).toArray⟩) (ex_convert (v := (.slice xa41 (keyL l2).length xc42)) rfl (run_string Try.underlying27 Try.underlying5 Try.underlying9 (S36).sat R39)) ?_
      simp only [Act.put, List.setIfInBounds_toArray, List.set_cons_succ, List.set_cons_zero]
      refine do_ rfl (.slice xa32 (keyL l3).length xc33) (ex_move _) ?_
      simp only [Act.put, List.setIfInBounds_toArray, List.set_cons_succ, List.set_cons_zero]
      refine do_ rfl (.string ⟨(keyL l3).toArray⟩) (ex_convert (v := (.slice xa32 (keyL l3).length xc33)) rfl (run_string Try.underlying27 Try.underlying5 Try.underlying9 (S36).sat (R30.mono le38))) ?_
      simp only [Act.put, List.setIfInBounds_toArray, List.set_cons_succ, List.set_cons_zero]
      refine do_ rfl (.bool false) (ex_strop (op := .lss) (l := (keyL l2)) (m := (keyL l3)) (b := false) (by simp) rfl rfl (by show Op.bytesLess _ _ = false; simpa using hcb)) ?_
      simp only [Act.put, List.setIfInBounds_toArray, List.set_cons_succ, List.set_cons_zero]
      refine do_ rfl (.bool false) (ex_pick (b := false) rfl) ?_
      simp only [Act.put, List.setIfInBounds_toArray, List.set_cons_succ, List.set_cons_zero]
      refine wl_nil ?_
      (try simp only [Exit.then, Exit.inBlock, ↓reduceIte, Nat.reduceEqDiff])
      refine hK44 _ _ ?_
      refine wp_cond_false rfl ?_
      refine wp_skip ?_
      (try simp only [Exit.then, Exit.inBlock, ↓reduceIte, Nat.reduceEqDiff])
      refine hK43 _ _ ?_
      refine wp_seq_k (fun K95 hK95 => ?_)
      refine region_wl ?_
      refine do_ rfl (.slice a12 (pairsN l0 30).length c13) (ex_move _) ?_
      simp only [Act.put, List.setIfInBounds_toArray, List.set_cons_succ, List.set_cons_zero]
      refine do_ rfl (.slice xa23 (keyL l1).length xc24) (ex_move _) ?_
      simp only [Act.put, List.setIfInBounds_toArray, List.set_cons_succ, List.set_cons_zero]
      refine do_ rfl (.slice xa32 (keyL l3).length xc33) (ex_move _) ?_
      simp only [Act.put, List.setIfInBounds_toArray, List.set_cons_succ, List.set_cons_zero]
      refine stGives S36 rfl (ex_fn (vs := #[(.slice a12 (pairsN l0 30).length c13), (.slice xa23 (keyL l1).length xc24), (.slice xa32 (keyL l3).length xc33)]) (map3 rfl rfl rfl) rfl (ent_49 _ _)) (rangeOk_spec _ _ _ _ _ (pairsN l0 30) (keyL l1) (keyL l3) (S36).sat (hv11.mono ((le20.trans le29).trans le38)) (R21.mono (le29.trans le38)) (R30.mono le38) (TreeOk.mono (show TreeOk 30 (pairsN l0 30) from pairsN_ok l0 30) (by omega)) (keyL_len l1) (keyL_len l3)) ?_
      intro v101 w96 F98 S97 le99 R100
      obtain ⟨_, rfl, r104⟩ := R100
      obtain ⟨a102, c103, rfl, h105, h106⟩ := Sl.shape r104
      unfold maxLen at h106
      have h105 : (rangeT (pairsN l0 30) (keyL l1) (keyL l3)).length ≤ c103 := h105
      have r104 : Prs _ (.slice a102 (rangeT (pairsN l0 30) (keyL l1) (keyL l3)).length c103) (rangeT (pairsN l0 30) (keyL l1) (keyL l3)) := r104
      simp only [Act.put, List.setIfInBounds_toArray, List.set_cons_succ, List.set_cons_zero]
      have S97 : St W (whole W) w96 F98 [] [] := S97
      refine do_ rfl (.tuple #[(.slice a102 (rangeT (pairsN l0 30) (keyL l1) (keyL l3)).length c103), (.int .i64 0)]) (ex_move _) ?_
      simp only [Act.put, List.setIfInBounds_toArray, List.set_cons_succ, List.set_cons_zero]
      refine do_ rfl (.slice a102 (rangeT (pairsN l0 30) (keyL l1) (keyL l3)).length c103) (ex_extract rfl rfl) ?_
      simp only [Act.put, List.setIfInBounds_toArray, List.set_cons_succ, List.set_cons_zero]
      refine do_ rfl (.int .i64 0) (ex_extract rfl rfl) ?_
      simp only [Act.put, List.setIfInBounds_toArray, List.set_cons_succ, List.set_cons_zero]
      refine do_ rfl (.slice a102 (rangeT (pairsN l0 30) (keyL l1) (keyL l3)).length c103) (ex_assign _) ?_
      simp only [Act.put, List.setIfInBounds_toArray, List.set_cons_succ, List.set_cons_zero]
      refine do_ rfl (.int .i64 0) (ex_assign _) ?_
      simp only [Act.put, List.setIfInBounds_toArray, List.set_cons_succ, List.set_cons_zero]
      refine wl_nil ?_
      (try simp only [Exit.then, Exit.inBlock, ↓reduceIte, Nat.reduceEqDiff])
      refine hK95 _ _ ?_
      refine wp_seq_k (fun K107 hK107 => ?_)
      refine region_wl ?_
      refine do_ rfl (.slice a12 (pairsN l0 30).length c13) (ex_move _) ?_
      simp only [Act.put, List.setIfInBounds_toArray, List.set_cons_succ, List.set_cons_zero]
      refine do_ rfl (.slice xa32 (keyL l3).length xc33) (ex_move _) ?_
      simp only [Act.put, List.setIfInBounds_toArray, List.set_cons_succ, List.set_cons_zero]
      refine do_ rfl (.slice xa41 (keyL l2).length xc42) (ex_move _) ?_
      simp only [Act.put, List.setIfInBounds_toArray, List.set_cons_succ, List.set_cons_zero]
      refine stGives S97 rfl (ex_fn (vs := #[(.slice a12 (pairsN l0 30).length c13), (.slice xa32 (keyL l3).length xc33), (.slice xa41 (keyL l2).length xc42)]) (map3 rfl rfl rfl) rfl (ent_49 _ _)) (rangeOk_spec _ _ _ _ _ (pairsN l0 30) (keyL l3) (keyL l2) (S97).sat (hv11.mono (((le20.trans le29).trans le38).trans le99)) (R30.mono (le38.trans le99)) (R39.mono le99) (TreeOk.mono (show TreeOk 30 (pairsN l0 30) from pairsN_ok l0 30) (by omega)) (keyL_len l3) (keyL_len l2)) ?_
      intro v113 w108 F110 S109 le111 R112
      obtain ⟨_, rfl, r116⟩ := R112
      obtain ⟨a114, c115, rfl, h117, h118⟩ := Sl.shape r116
      unfold maxLen at h118
      have h117 : (rangeT (pairsN l0 30) (keyL l3) (keyL l2)).length ≤ c115 := h117
      have r116 : Prs _ (.slice a114 (rangeT (pairsN l0 30) (keyL l3) (keyL l2)).length c115) (rangeT (pairsN l0 30) (keyL l3) (keyL l2)) := r116
      simp only [Act.put, List.setIfInBounds_toArray, List.set_cons_succ, List.set_cons_zero]
      have S109 : St W (whole W) w108 F110 [] [] := S109
      refine do_ rfl (.tuple #[(.slice a114 (rangeT (pairsN l0 30) (keyL l3) (keyL l2)).length c115), (.int .i64 0)]) (ex_move _) ?_
      simp only [Act.put, List.setIfInBounds_toArray, List.set_cons_succ, List.set_cons_zero]
      refine do_ rfl (.slice a114 (rangeT (pairsN l0 30) (keyL l3) (keyL l2)).length c115) (ex_extract rfl rfl) ?_
      simp only [Act.put, List.setIfInBounds_toArray, List.set_cons_succ, List.set_cons_zero]
      refine do_ rfl (.int .i64 0) (ex_extract rfl rfl) ?_
      simp only [Act.put, List.setIfInBounds_toArray, List.set_cons_succ, List.set_cons_zero]
      refine do_ rfl (.slice a114 (rangeT (pairsN l0 30) (keyL l3) (keyL l2)).length c115) (ex_assign _) ?_
      simp only [Act.put, List.setIfInBounds_toArray, List.set_cons_succ, List.set_cons_zero]
      refine do_ rfl (.int .i64 0) (ex_assign _) ?_
      simp only [Act.put, List.setIfInBounds_toArray, List.set_cons_succ, List.set_cons_zero]
      refine wl_nil ?_
      (try simp only [Exit.then, Exit.inBlock, ↓reduceIte, Nat.reduceEqDiff])
      refine hK107 _ _ ?_
      refine wp_seq_k (fun K119 hK119 => ?_)
      refine region_wl ?_
      refine do_ rfl (.slice a12 (pairsN l0 30).length c13) (ex_move _) ?_
      simp only [Act.put, List.setIfInBounds_toArray, List.set_cons_succ, List.set_cons_zero]
      refine do_ rfl (.slice xa23 (keyL l1).length xc24) (ex_move _) ?_
      simp only [Act.put, List.setIfInBounds_toArray, List.set_cons_succ, List.set_cons_zero]
      refine do_ rfl (.slice xa41 (keyL l2).length xc42) (ex_move _) ?_
      simp only [Act.put, List.setIfInBounds_toArray, List.set_cons_succ, List.set_cons_zero]
      refine stGives S109 rfl (ex_fn (vs := #[(.slice a12 (pairsN l0 30).length c13), (.slice xa23 (keyL l1).length xc24), (.slice xa41 (keyL l2).length xc42)]) (map3 rfl rfl rfl) rfl (ent_49 _ _)) (rangeOk_spec _ _ _ _ _ (pairsN l0 30) (keyL l1) (keyL l2) (S109).sat (hv11.mono ((((le20.trans le29).trans le38).trans le99).trans le111)) (R21.mono (((le29.trans le38).trans le99).trans le111)) (R39.mono (le99.trans le111)) (TreeOk.mono (show TreeOk 30 (pairsN l0 30) from pairsN_ok l0 30) (by omega)) (keyL_len l1) (keyL_len l2)) ?_
      intro v125 w120 F122 S121 le123 R124
      obtain ⟨_, rfl, r128⟩ := R124
      obtain ⟨a126, c127, rfl, h129, h130⟩ := Sl.shape r128
      unfold maxLen at h130
      have h129 : (rangeT (pairsN l0 30) (keyL l1) (keyL l2)).length ≤ c127 := h129
      have r128 : Prs _ (.slice a126 (rangeT (pairsN l0 30) (keyL l1) (keyL l2)).length c127) (rangeT (pairsN l0 30) (keyL l1) (keyL l2)) := r128
      simp only [Act.put, List.setIfInBounds_toArray, List.set_cons_succ, List.set_cons_zero]
      have S121 : St W (whole W) w120 F122 [] [] := S121
      refine do_ rfl (.tuple #[(.slice a126 (rangeT (pairsN l0 30) (keyL l1) (keyL l2)).length c127), (.int .i64 0)]) (ex_move _) ?_
      simp only [Act.put, List.setIfInBounds_toArray, List.set_cons_succ, List.set_cons_zero]
      refine do_ rfl (.slice a126 (rangeT (pairsN l0 30) (keyL l1) (keyL l2)).length c127) (ex_extract rfl rfl) ?_
      simp only [Act.put, List.setIfInBounds_toArray, List.set_cons_succ, List.set_cons_zero]
      refine do_ rfl (.int .i64 0) (ex_extract rfl rfl) ?_
      simp only [Act.put, List.setIfInBounds_toArray, List.set_cons_succ, List.set_cons_zero]
      refine do_ rfl (.slice a126 (rangeT (pairsN l0 30) (keyL l1) (keyL l2)).length c127) (ex_assign _) ?_
      simp only [Act.put, List.setIfInBounds_toArray, List.set_cons_succ, List.set_cons_zero]
      refine do_ rfl (.int .i64 0) (ex_assign _) ?_
      simp only [Act.put, List.setIfInBounds_toArray, List.set_cons_succ, List.set_cons_zero]
      refine wl_nil ?_
      (try simp only [Exit.then, Exit.inBlock, ↓reduceIte, Nat.reduceEqDiff])
      refine hK119 _ _ ?_
      refine wp_seq_k (fun K131 hK131 => ?_)
      obtain ⟨wv, hg⟩ | hg : (∃ wv, getT (pairsN l0 30) (keyL l3) = some wv) ∨ getT (pairsN l0 30) (keyL l3) = none := by
        cases getT (pairsN l0 30) (keyL l3) with
        | none => exact .inr rfl
        | some x => exact .inl ⟨x, rfl⟩
      · refine region_wl ?_
        refine do_ rfl (.slice a12 (pairsN l0 30).length c13) (ex_move _) ?_
        simp only [Act.put, List.setIfInBounds_toArray, List.set_cons_succ, List.set_cons_zero]
        refine do_ rfl (.slice xa32 (keyL l3).length xc33) (ex_move _) ?_
        simp only [Act.put, List.setIfInBounds_toArray, List.set_cons_succ, List.set_cons_zero]
        refine stGives S121 rfl (ex_fn (vs := #[(.slice a12 (pairsN l0 30).length c13), (.slice xa32 (keyL l3).length xc33)]) (map2 rfl rfl) rfl (ent_51 _ _)) (getIs_spec _ _ _ _ (pairsN l0 30) (keyL l3) (S121).sat (hv11.mono (((((le20.trans le29).trans le38).trans le99).trans le111).trans le123)) (R30.mono (((le38.trans le99).trans le111).trans le123)) (TreeOk.mono (show TreeOk 30 (pairsN l0 30) from pairsN_ok l0 30) (by omega)) (keyL_len l3) (hg)) ?_
        intro v137 w132 F134 S133 le135 R136
        obtain ⟨_, rfl, a138, c139, rfl, r140⟩ := R136
        have r140 : Bs _ (.slice a138 wv.length c139) wv := r140
        simp only [Act.put, List.setIfInBounds_toArray, List.set_cons_succ, List.set_cons_zero]
        have S133 : St W (whole W) w132 F134 [] [] := S133
        refine do_ rfl (.tuple #[(.agg #[(.bool true), (.slice a138 wv.length c139)]), (.int .i64 0)]) (ex_move _) ?_
        simp only [Act.put, List.setIfInBounds_toArray, List.set_cons_succ, List.set_cons_zero]
        refine do_ rfl (.agg #[(.bool true), (.slice a138 wv.length c139)]) (ex_extract rfl rfl) ?_
        simp only [Act.put, List.setIfInBounds_toArray, List.set_cons_succ, List.set_cons_zero]
        refine do_ rfl (.int .i64 0) (ex_extract rfl rfl) ?_
        simp only [Act.put, List.setIfInBounds_toArray, List.set_cons_succ, List.set_cons_zero]
        refine stNew S133 (v := fun n => .pointer (some ⟨n, 0, none⟩)) rfl (ex_alloc (zero_53 _)) (fun n141 w142 S143 => ?_)
        simp only [Act.put, List.setIfInBounds_toArray, List.set_cons_succ, List.set_cons_zero]
        have S143 : St W (whole W) w142 F134 [⟨n141, [(.bool false), (.slice none 0 0)], 53⟩] [] := S143
        refine stStore (i := 0) (v := (.agg #[(.bool true), (.slice a138 wv.length c139)])) S143 rfl rfl rfl rfl (size_53) (allc2 rfl rfl) (Nat.le_of_ble_eq_true rfl) (fun w144 S145 => ?_)
        simp only [Act.put, List.setIfInBounds_toArray, List.set_cons_succ, List.set_cons_zero]
        have S145 : St W (whole W) w144 F134 [⟨n141, [(.bool true), (.slice a138 wv.length c139)], 53⟩] [] := S145
        refine do_ rfl (.int .i64 0) (ex_assign _) ?_
        simp only [Act.put, List.setIfInBounds_toArray, List.set_cons_succ, List.set_cons_zero]
        refine wl_nil ?_
        (try simp only [Exit.then, Exit.inBlock, ↓reduceIte, Nat.reduceEqDiff])
        refine hK131 _ _ ?_
        refine wp_seq_k (fun K146 hK146 => ?_)
        refine wp_seq_k (fun K147 hK147 => ?_)
        refine region_wl ?_
        refine do_ rfl (.pointer (some ⟨n141, 0, none⟩)) (ex_field (q := ⟨n141, 0, none⟩) rfl (fa_53_0 _ _)) ?_
        simp only [Act.put, List.setIfInBounds_toArray, List.set_cons_succ, List.set_cons_zero]
        refine do_ rfl (.bool true) (ex_load rfl (load1 (nagg_4 _) (St.cell S145 (i := 0) rfl rfl))) ?_
        simp only [Act.put, List.setIfInBounds_toArray, List.set_cons_succ, List.set_cons_zero]
        refine do_ rfl (.bool true) (ex_move _) ?_
        simp only [Act.put, List.setIfInBounds_toArray, List.set_cons_succ, List.set_cons_zero]
        refine do_ rfl (.slice a102 (rangeT (pairsN l0 30) (keyL l1) (keyL l3)).length c103) (ex_move _) ?_
        simp only [Act.put, List.setIfInBounds_toArray, List.set_cons_succ, List.set_cons_zero]
        refine do_ rfl (.int .i64 (((rangeT (pairsN l0 30) (keyL l1) (keyL l3)).length : Nat) : Int)) (ex_len Try.underlying44 rfl) ?_
        simp only [Act.put, List.setIfInBounds_toArray, List.set_cons_succ, List.set_cons_zero]
        by_cases hc105 : 0 < (rangeT (pairsN l0 30) (keyL l1) (keyL l3)).length
        · refine do_ rfl (.bool true) (ex_gtr (m := (((rangeT (pairsN l0 30) (keyL l1) (keyL l3)).length : Nat) : Int)) (n := (0 : Int)) (b := true) rfl rfl (decide_eq_true (by omega))) ?_
          simp only [Act.put, List.setIfInBounds_toArray, List.set_cons_succ, List.set_cons_zero]
          refine do_ rfl (.bool true) (ex_pick (b := true) rfl) ?_
          simp only [Act.put, List.setIfInBounds_toArray, List.set_cons_succ, List.set_cons_zero]
          refine wl_nil ?_
          (try simp only [Exit.then, Exit.inBlock, ↓reduceIte, Nat.reduceEqDiff])
          refine hK147 _ _ ?_
          refine wp_cond_true rfl ?_
          refine region_wl ?_
          refine do_ rfl (.slice a102 (rangeT (pairsN l0 30) (keyL l1) (keyL l3)).length c103) (ex_move _) ?_
          simp only [Act.put, List.setIfInBounds_toArray, List.set_cons_succ, List.set_cons_zero]
          refine do_ rfl (.slice a102 (rangeT (pairsN l0 30) (keyL l1) (keyL l3)).length c103) (ex_move _) ?_
          simp only [Act.put, List.setIfInBounds_toArray, List.set_cons_succ, List.set_cons_zero]
          refine do_ rfl (.int .i64 (((rangeT (pairsN l0 30) (keyL l1) (keyL l3)).length : Nat) : Int)) (ex_len Try.underlying44 rfl) ?_
          simp only [Act.put, List.setIfInBounds_toArray, List.set_cons_succ, List.set_cons_zero]
          refine do_ rfl (.int .i64 ((((rangeT (pairsN l0 30) (keyL l1) (keyL l3)).length - 1) : Nat) : Int)) (ex_sub (m := (((rangeT (pairsN l0 30) (keyL l1) (keyL l3)).length : Nat) : Int)) (n := (1 : Int)) (r := ((((rangeT (pairsN l0 30) (keyL l1) (keyL l3)).length - 1) : Nat) : Int)) rfl rfl (by omega) (by omega) (by omega)) ?_
          simp only [Act.put, List.setIfInBounds_toArray, List.set_cons_succ, List.set_cons_zero]
          have r148 : Prs _ (.slice a102 ((rangeT (pairsN l0 30) (keyL l1) (keyL l3)).length - 1) c103) ((rangeT (pairsN l0 30) (keyL l1) (keyL l3)).take ((rangeT (pairsN l0 30) (keyL l1) (keyL l3)).length - 1)) := Sl.takeN (m := ((rangeT (pairsN l0 30) (keyL l1) (keyL l3)).length - 1)) (r104.mono ((le111.trans le123).trans le135)) (by omega)
          refine do_ rfl (.slice a102 ((rangeT (pairsN l0 30) (keyL l1) (keyL l3)).length - 1) c103) (ex_slice (l := 0) (h := ((rangeT (pairsN l0 30) (keyL l1) (keyL l3)).length - 1)) (sz := 2) Try.underlying44 rfl (sizeof_49 _) (.inl ⟨rfl, rfl⟩) (.inr ⟨_, rfl, rfl⟩) (by omega) (by omega) (slice_zero)) ?_
          simp only [Act.put, List.setIfInBounds_toArray, List.set_cons_succ, List.set_cons_zero]
          refine do_ rfl (.slice a102 ((rangeT (pairsN l0 30) (keyL l1) (keyL l3)).length - 1) c103) (ex_assign _) ?_
          simp only [Act.put, List.setIfInBounds_toArray, List.set_cons_succ, List.set_cons_zero]
          refine wl_nil ?_
          (try simp only [Exit.then, Exit.inBlock, ↓reduceIte, Nat.reduceEqDiff])
          refine hK146 _ _ ?_
          refine wp_seq_k (fun K149 hK149 => ?_)
          have hhas : hasT (pairsN l0 30) (keyL l3) = true := by rw [hasT_getT, hg]; rfl
          have hparts : ([] ++ ((rangeT (pairsN l0 30) (keyL l1) (keyL l3)).take ((rangeT (pairsN l0 30) (keyL l1) (keyL l3)).length - 1))) ++ (rangeT (pairsN l0 30) (keyL l3) (keyL l2)) = (rangeT (pairsN l0 30) (keyL l1) (keyL l2)) := by have h := range_parts (pairsN_rise l0 30) hba hcb; rw [if_pos ⟨hhas, hc105⟩] at h; simpa using h
          refine region_wl ?_
          refine do_ rfl (.slice a12 (pairsN l0 30).length c13) (ex_move _) ?_
          simp only [Act.put, List.setIfInBounds_toArray, List.set_cons_succ, List.set_cons_zero]
          refine do_ rfl (.slice xa41 (keyL l2).length xc42) (ex_move _) ?_
          simp only [Act.put, List.setIfInBounds_toArray, List.set_cons_succ, List.set_cons_zero]
          refine stGives S145 rfl (ex_fn (vs := #[(.slice a12 (pairsN l0 30).length c13), (.slice none 0 0), (.slice xa41 (keyL l2).length xc42)]) (map3 rfl rfl rfl) rfl (ent_49 _ _)) (rangeBad_spec _ _ _ _ _ (pairsN l0 30) [] (keyL l2) (S145).sat (hv11.mono ((((((le20.trans le29).trans le38).trans le99).trans le111).trans le123).trans le135)) (Bs.nil _) (R39.mono (((le99.trans le111).trans le123).trans le135)) (TreeOk.mono (show TreeOk 30 (pairsN l0 30) from pairsN_ok l0 30) (by omega)) (by unfold rangeE; rw [if_pos (by decide)]; rfl)) ?_
          intro v155 w150 F152 S151 le153 R154
          obtain ⟨_, rfl, r158⟩ := R154
          obtain ⟨a156, c157, rfl, h159, h160⟩ := Sl.shape r158
          unfold maxLen at h160
          simp only [Act.put, List.setIfInBounds_toArray, List.set_cons_succ, List.set_cons_zero]
          have S151 : St W (whole W) w150 F152 [⟨n141, [(.bool true), (.slice a138 wv.length c139)], 53⟩] [] := S151
          refine do_ rfl (.tuple #[(.slice a156 ([] : List Pr).length c157), (.int .i64 1)]) (ex_move _) ?_
          simp only [Act.put, List.setIfInBounds_toArray, List.set_cons_succ, List.set_cons_zero]
          refine do_ rfl (.slice a156 ([] : List Pr).length c157) (ex_extract rfl rfl) ?_
          simp only [Act.put, List.setIfInBounds_toArray, List.set_cons_succ, List.set_cons_zero]
          refine do_ rfl (.int .i64 1) (ex_extract rfl rfl) ?_
          simp only [Act.put, List.setIfInBounds_toArray, List.set_cons_succ, List.set_cons_zero]
          refine do_ rfl (.slice a156 ([] : List Pr).length c157) (ex_assign _) ?_
          simp only [Act.put, List.setIfInBounds_toArray, List.set_cons_succ, List.set_cons_zero]
          refine do_ rfl (.int .i64 1) (ex_assign _) ?_
          simp only [Act.put, List.setIfInBounds_toArray, List.set_cons_succ, List.set_cons_zero]
          refine wl_nil ?_
          (try simp only [Exit.then, Exit.inBlock, ↓reduceIte, Nat.reduceEqDiff])
          refine hK149 _ _ ?_
          refine wp_seq_k (fun K161 hK161 => ?_)
          have S162 := St.addNil S151 2 PrC PrC.mono 49 W.heap.size
          refine region_wl ?_
          refine do_ rfl (.int .i64 0) (ex_move _) ?_
          simp only [Act.put, List.setIfInBounds_toArray, List.set_cons_succ, List.set_cons_zero]
          refine do_ rfl (.bool true) (ex_eql (b := true) rfl rfl (by decide)) ?_
          simp only [Act.put, List.setIfInBounds_toArray, List.set_cons_succ, List.set_cons_zero]
          refine do_ rfl (.bool true) (ex_move _) ?_
          simp only [Act.put, List.setIfInBounds_toArray, List.set_cons_succ, List.set_cons_zero]
          refine do_ rfl (.int .i64 0) (ex_move _) ?_
          simp only [Act.put, List.setIfInBounds_toArray, List.set_cons_succ, List.set_cons_zero]
          refine do_ rfl (.bool true) (ex_eql (b := true) rfl rfl (by decide)) ?_
          simp only [Act.put, List.setIfInBounds_toArray, List.set_cons_succ, List.set_cons_zero]
          refine do_ rfl (.bool true) (ex_pick (b := true) rfl) ?_
          simp only [Act.put, List.setIfInBounds_toArray, List.set_cons_succ, List.set_cons_zero]
          refine do_ rfl (.bool true) (ex_move _) ?_
          simp only [Act.put, List.setIfInBounds_toArray, List.set_cons_succ, List.set_cons_zero]
          refine do_ rfl (.int .i64 0) (ex_move _) ?_
          simp only [Act.put, List.setIfInBounds_toArray, List.set_cons_succ, List.set_cons_zero]
          refine do_ rfl (.bool true) (ex_eql (b := true) rfl rfl (by decide)) ?_
          simp only [Act.put, List.setIfInBounds_toArray, List.set_cons_succ, List.set_cons_zero]
          refine do_ rfl (.bool true) (ex_pick (b := true) rfl) ?_
          simp only [Act.put, List.setIfInBounds_toArray, List.set_cons_succ, List.set_cons_zero]
          refine do_ rfl (.bool true) (ex_move _) ?_
          simp only [Act.put, List.setIfInBounds_toArray, List.set_cons_succ, List.set_cons_zero]
          refine do_ rfl (.int .i64 0) (ex_move _) ?_
          simp only [Act.put, List.setIfInBounds_toArray, List.set_cons_succ, List.set_cons_zero]
          refine do_ rfl (.bool true) (ex_eql (b := true) rfl rfl (by decide)) ?_
          simp only [Act.put, List.setIfInBounds_toArray, List.set_cons_succ, List.set_cons_zero]
          refine do_ rfl (.bool true) (ex_pick (b := true) rfl) ?_
          simp only [Act.put, List.setIfInBounds_toArray, List.set_cons_succ, List.set_cons_zero]
          refine do_ rfl (.bool true) (ex_move _) ?_
          simp only [Act.put, List.setIfInBounds_toArray, List.set_cons_succ, List.set_cons_zero]
          refine do_ rfl (.int .i64 1) (ex_move _) ?_
          simp only [Act.put, List.setIfInBounds_toArray, List.set_cons_succ, List.set_cons_zero]
          refine do_ rfl (.bool true) (ex_eql (b := true) rfl rfl (by decide)) ?_
          simp only [Act.put, List.setIfInBounds_toArray, List.set_cons_succ, List.set_cons_zero]
          refine do_ rfl (.bool true) (ex_pick (b := true) rfl) ?_
          simp only [Act.put, List.setIfInBounds_toArray, List.set_cons_succ, List.set_cons_zero]
          refine do_ rfl (.bool true) (ex_move _) ?_
          simp only [Act.put, List.setIfInBounds_toArray, List.set_cons_succ, List.set_cons_zero]
          refine do_ rfl (.slice a102 ((rangeT (pairsN l0 30) (keyL l1) (keyL l3)).length - 1) c103) (ex_move _) ?_
          simp only [Act.put, List.setIfInBounds_toArray, List.set_cons_succ, List.set_cons_zero]
          refine stAppendS (r := 0) (u := (.slice a102 ((rangeT (pairsN l0 30) (keyL l1) (keyL l3)).length - 1) c103)) S162 rfl i49 (.agg #[(.slice none 0 0), (.slice none 0 0)]) 48 Try.underlying44 hi49 hz49 hs49 hb49 rfl (by decide) rfl rfl rfl (Sl.toW (r148.mono le153) (S162).sat) (fun F cs p h => PrC.one F cs p h) (Nat.le_refl _) S162.gr.below.size (by unfold maxLen; simp only [List.length_append, List.length_nil]; have := rangeT_sub (pairsN l0 30) (keyL l1) (keyL l3); have := rangeT_sub (pairsN l0 30) (keyL l3) (keyL l2); have := pairsN_len l0 30; (try simp only [List.length_take]); omega) (by simp only [List.length_append, List.length_nil]; have := rangeT_sub (pairsN l0 30) (keyL l1) (keyL l3); have := rangeT_sub (pairsN l0 30) (keyL l3) (keyL l2); have := pairsN_len l0 30; (try simp only [List.length_take]); omega) ?_
          intro v163 w164 S165 hn166
          simp only [Act.put, List.setIfInBounds_toArray, List.set_cons_succ, List.set_cons_zero]
          have S165 : St W (whole W) w164 F152 [⟨n141, [(.bool true), (.slice a138 wv.length c139)], 53⟩] [ownP 2 PrC PrC.mono 49 W.heap.size v163 ([] ++ ((rangeT (pairsN l0 30) (keyL l1) (keyL l3)).take ((rangeT (pairsN l0 30) (keyL l1) (keyL l3)).length - 1)))] := S165
          refine do_ rfl (.slice a114 (rangeT (pairsN l0 30) (keyL l3) (keyL l2)).length c115) (ex_move _) ?_
          simp only [Act.put, List.setIfInBounds_toArray, List.set_cons_succ, List.set_cons_zero]
          refine stAppendS (r := 0) (u := (.slice a114 (rangeT (pairsN l0 30) (keyL l3) (keyL l2)).length c115)) S165 rfl i49 (.agg #[(.slice none 0 0), (.slice none 0 0)]) 48 Try.underlying44 hi49 hz49 hs49 hb49 rfl (by decide) rfl rfl rfl (Sl.toW (r116.mono ((le123.trans le135).trans le153)) (S165).sat) (fun F cs p h => PrC.one F cs p h) (Nat.le_refl _) S165.gr.below.size (by unfold maxLen; simp only [List.length_append, List.length_nil]; have := rangeT_sub (pairsN l0 30) (keyL l1) (keyL l3); have := rangeT_sub (pairsN l0 30) (keyL l3) (keyL l2); have := pairsN_len l0 30; (try simp only [List.length_take]); omega) (by simp only [List.length_append, List.length_nil]; have := rangeT_sub (pairsN l0 30) (keyL l1) (keyL l3); have := rangeT_sub (pairsN l0 30) (keyL l3) (keyL l2); have := pairsN_len l0 30; (try simp only [List.length_take]); omega) ?_
          intro v167 w168 S169 hn170
          simp only [Act.put, List.setIfInBounds_toArray, List.set_cons_succ, List.set_cons_zero]
          have S169 : St W (whole W) w168 F152 [⟨n141, [(.bool true), (.slice a138 wv.length c139)], 53⟩] [ownP 2 PrC PrC.mono 49 W.heap.size v167 (([] ++ ((rangeT (pairsN l0 30) (keyL l1) (keyL l3)).take ((rangeT (pairsN l0 30) (keyL l1) (keyL l3)).length - 1))) ++ (rangeT (pairsN l0 30) (keyL l3) (keyL l2)))] := S169
          refine do_ rfl (.slice a126 (rangeT (pairsN l0 30) (keyL l1) (keyL l2)).length c127) (ex_move _) ?_
          simp only [Act.put, List.setIfInBounds_toArray, List.set_cons_succ, List.set_cons_zero]
          obtain ⟨F171, S172, le173, hv174⟩ := St.freeze S169 (i := 0) rfl (Nat.le_refl _)
          have S172 : St W (whole W) w168 F171 [⟨n141, [(.bool true), (.slice a138 wv.length c139)], 53⟩] [] := S172
          have hv174 : Prs _ v167 (([] ++ ((rangeT (pairsN l0 30) (keyL l1) (keyL l3)).take ((rangeT (pairsN l0 30) (keyL l1) (keyL l3)).length - 1))) ++ (rangeT (pairsN l0 30) (keyL l3) (keyL l2))) := hv174
          obtain ⟨a175, c176, rfl, h177, h178⟩ := Sl.shape hv174
          unfold maxLen at h178
          refine stTells (v := (.bool true)) S172 rfl (ex_fn (vs := #[(.slice a175 (([] ++ ((rangeT (pairsN l0 30) (keyL l1) (keyL l3)).take ((rangeT (pairsN l0 30) (keyL l1) (keyL l3)).length - 1))) ++ (rangeT (pairsN l0 30) (keyL l3) (keyL l2))).length c176), (.slice a126 (rangeT (pairsN l0 30) (keyL l1) (keyL l2)).length c127)]) (map2 rfl rfl) rfl (ent_50 _ _)) (tells_bool (samePairs_spec _ _ _ _ (([] ++ ((rangeT (pairsN l0 30) (keyL l1) (keyL l3)).take ((rangeT (pairsN l0 30) (keyL l1) (keyL l3)).length - 1))) ++ (rangeT (pairsN l0 30) (keyL l3) (keyL l2))) (rangeT (pairsN l0 30) (keyL l1) (keyL l2)) (S172).sat hv174 (r128.mono ((le135.trans le153).trans le173)) (by rw [hparts]; have := rangeT_sub (pairsN l0 30) (keyL l1) (keyL l2); have := pairsN_len l0 30; omega)) (decide_eq_true hparts)) (fun w179 S180 => ?_)
          simp only [Act.put, List.setIfInBounds_toArray, List.set_cons_succ, List.set_cons_zero]
          have S180 : St W (whole W) w179 F171 [⟨n141, [(.bool true), (.slice a138 wv.length c139)], 53⟩] [] := S180
          refine do_ rfl (.bool true) (ex_pick (b := true) rfl) ?_
          simp only [Act.put, List.setIfInBounds_toArray, List.set_cons_succ, List.set_cons_zero]
          refine do_ rfl (.bool true) (ex_assign _) ?_
          simp only [Act.put, List.setIfInBounds_toArray, List.set_cons_succ, List.set_cons_zero]
          refine wl_nil ?_
          (try simp only [Exit.then, Exit.inBlock, ↓reduceIte, Nat.reduceEqDiff])
          refine hK161 _ _ ?_
          refine wp_ret ?_
          (try simp only [Exit.then, Exit.inBlock, ↓reduceIte, Nat.reduceEqDiff])
          refine bodyPost_ret (v := (.bool true)) ?_ rfl ?_
          · exact res_t rfl rfl
          · exact ⟨rfl, S180.gr.below⟩
        · refine do_ rfl (.bool false) (ex_gtr (m := (((rangeT (pairsN l0 30) (keyL l1) (keyL l3)).length : Nat) : Int)) (n := (0 : Int)) (b := false) rfl rfl (decide_eq_false (by omega))) ?_
          simp only [Act.put, List.setIfInBounds_toArray, List.set_cons_succ, List.set_cons_zero]
          refine do_ rfl (.bool false) (ex_pick (b := true) rfl) ?_
          simp only [Act.put, List.setIfInBounds_toArray, List.set_cons_succ, List.set_cons_zero]
          refine wl_nil ?_
          (try simp only [Exit.then, Exit.inBlock, ↓reduceIte, Nat.reduceEqDiff])
          refine hK147 _ _ ?_
          refine wp_cond_false rfl ?_
          refine wp_skip ?_
          (try simp only [Exit.then, Exit.inBlock, ↓reduceIte, Nat.reduceEqDiff])
          refine hK146 _ _ ?_
          refine wp_seq_k (fun K181 hK181 => ?_)
          have hhas : hasT (pairsN l0 30) (keyL l3) = true := by rw [hasT_getT, hg]; rfl
          have hparts : ([] ++ (rangeT (pairsN l0 30) (keyL l1) (keyL l3))) ++ (rangeT (pairsN l0 30) (keyL l3) (keyL l2)) = (rangeT (pairsN l0 30) (keyL l1) (keyL l2)) := by have h := range_parts (pairsN_rise l0 30) hba hcb; rw [if_neg (fun h => hc105 h.2)] at h; simpa using h
          refine region_wl ?_
          refine do_ rfl (.slice a12 (pairsN l0 30).length c13) (ex_move _) ?_
          simp only [Act.put, List.setIfInBounds_toArray, List.set_cons_succ, List.set_cons_zero]
          refine do_ rfl (.slice xa41 (keyL l2).length xc42) (ex_move _) ?_
          simp only [Act.put, List.setIfInBounds_toArray, List.set_cons_succ, List.set_cons_zero]
          refine stGives S145 rfl (ex_fn (vs := #[(.slice a12 (pairsN l0 30).length c13), (.slice none 0 0), (.slice xa41 (keyL l2).length xc42)]) (map3 rfl rfl rfl) rfl (ent_49 _ _)) (rangeBad_spec _ _ _ _ _ (pairsN l0 30) [] (keyL l2) (S145).sat (hv11.mono ((((((le20.trans le29).trans le38).trans le99).trans le111).trans le123).trans le135)) (Bs.nil _) (R39.mono (((le99.trans le111).trans le123).trans le135)) (TreeOk.mono (show TreeOk 30 (pairsN l0 30) from pairsN_ok l0 30) (by omega)) (by unfold rangeE; rw [if_pos (by decide)]; rfl)) ?_
          intro v187 w182 F184 S183 le185 R186
          obtain ⟨_, rfl, r190⟩ := R186
          obtain ⟨a188, c189, rfl, h191, h192⟩ := Sl.shape r190
          unfold maxLen at h192
          simp only [Act.put, List.setIfInBounds_toArray, List.set_cons_succ, List.set_cons_zero]
          have S183 : St W (whole W) w182 F184 [⟨n141, [(.bool true), (.slice a138 wv.length c139)], 53⟩] [] := S183
          refine do_ rfl (.tuple #[(.slice a188 ([] : List Pr).length c189), (.int .i64 1)]) (ex_move _) ?_
          simp only [Act.put, List.setIfInBounds_toArray, List.set_cons_succ, List.set_cons_zero]
          refine do_ rfl (.slice a188 ([] : List Pr).length c189) (ex_extract rfl rfl) ?_
          simp only [Act.put, List.setIfInBounds_toArray, List.set_cons_succ, List.set_cons_zero]
          refine do_ rfl (.int .i64 1) (ex_extract rfl rfl) ?_
          simp only [Act.put, List.setIfInBounds_toArray, List.set_cons_succ, List.set_cons_zero]
          refine do_ rfl (.slice a188 ([] : List Pr).length c189) (ex_assign _) ?_
          simp only [Act.put, List.setIfInBounds_toArray, List.set_cons_succ, List.set_cons_zero]
          refine do_ rfl (.int .i64 1) (ex_assign _) ?_
          simp only [Act.put, List.setIfInBounds_toArray, List.set_cons_succ, List.set_cons_zero]
          refine wl_nil ?_
          (try simp only [Exit.then, Exit.inBlock, ↓reduceIte, Nat.reduceEqDiff])
          refine hK181 _ _ ?_
          refine wp_seq_k (fun K193 hK193 => ?_)
          have S194 := St.addNil S183 2 PrC PrC.mono 49 W.heap.size
          refine region_wl ?_
          refine do_ rfl (.int .i64 0) (ex_move _) ?_
          simp only [Act.put, List.setIfInBounds_toArray, List.set_cons_succ, List.set_cons_zero]
          refine do_ rfl (.bool true) (ex_eql (b := true) rfl rfl (by decide)) ?_
          simp only [Act.put, List.setIfInBounds_toArray, List.set_cons_succ, List.set_cons_zero]
          refine do_ rfl (.bool true) (ex_move _) ?_
          simp only [Act.put, List.setIfInBounds_toArray, List.set_cons_succ, List.set_cons_zero]
          refine do_ rfl (.int .i64 0) (ex_move _) ?_
          simp only [Act.put, List.setIfInBounds_toArray, List.set_cons_succ, List.set_cons_zero]
          refine do_ rfl (.bool true) (ex_eql (b := true) rfl rfl (by decide)) ?_
          simp only [Act.put, List.setIfInBounds_toArray, List.set_cons_succ, List.set_cons_zero]
          refine do_ rfl (.bool true) (ex_pick (b := true) rfl) ?_
          simp only [Act.put, List.setIfInBounds_toArray, List.set_cons_succ, List.set_cons_zero]
          refine do_ rfl (.bool true) (ex_move _) ?_
          simp only [Act.put, List.setIfInBounds_toArray, List.set_cons_succ, List.set_cons_zero]
          refine do_ rfl (.int .i64 0) (ex_move _) ?_
          simp only [Act.put, List.setIfInBounds_toArray, List.set_cons_succ, List.set_cons_zero]
          refine do_ rfl (.bool true) (ex_eql (b := true) rfl rfl (by decide)) ?_
          simp only [Act.put, List.setIfInBounds_toArray, List.set_cons_succ, List.set_cons_zero]
          refine do_ rfl (.bool true) (ex_pick (b := true) rfl) ?_
          simp only [Act.put, List.setIfInBounds_toArray, List.set_cons_succ, List.set_cons_zero]
          refine do_ rfl (.bool true) (ex_move _) ?_
          simp only [Act.put, List.setIfInBounds_toArray, List.set_cons_succ, List.set_cons_zero]
          refine do_ rfl (.int .i64 0) (ex_move _) ?_
          simp only [Act.put, List.setIfInBounds_toArray, List.set_cons_succ, List.set_cons_zero]
          refine do_ rfl (.bool true) (ex_eql (b := true) rfl rfl (by decide)) ?_
          simp only [Act.put, List.setIfInBounds_toArray, List.set_cons_succ, List.set_cons_zero]
          refine do_ rfl (.bool true) (ex_pick (b := true) rfl) ?_
          simp only [Act.put, List.setIfInBounds_toArray, List.set_cons_succ, List.set_cons_zero]
          refine do_ rfl (.bool true) (ex_move _) ?_
          simp only [Act.put, List.setIfInBounds_toArray, List.set_cons_succ, List.set_cons_zero]
          refine do_ rfl (.int .i64 1) (ex_move _) ?_
          simp only [Act.put, List.setIfInBounds_toArray, List.set_cons_succ, List.set_cons_zero]
          refine do_ rfl (.bool true) (ex_eql (b := true) rfl rfl (by decide)) ?_
          simp only [Act.put, List.setIfInBounds_toArray, List.set_cons_succ, List.set_cons_zero]
          refine do_ rfl (.bool true) (ex_pick (b := true) rfl) ?_
          simp only [Act.put, List.setIfInBounds_toArray, List.set_cons_succ, List.set_cons_zero]
          refine do_ rfl (.bool true) (ex_move _) ?_
          simp only [Act.put, List.setIfInBounds_toArray, List.set_cons_succ, List.set_cons_zero]
          refine do_ rfl (.slice a102 (rangeT (pairsN l0 30) (keyL l1) (keyL l3)).length c103) (ex_move _) ?_
          simp only [Act.put, List.setIfInBounds_toArray, List.set_cons_succ, List.set_cons_zero]
          refine stAppendS (r := 0) (u := (.slice a102 (rangeT (pairsN l0 30) (keyL l1) (keyL l3)).length c103)) S194 rfl i49 (.agg #[(.slice none 0 0), (.slice none 0 0)]) 48 Try.underlying44 hi49 hz49 hs49 hb49 rfl (by decide) rfl rfl rfl (Sl.toW (r104.mono (((le111.trans le123).trans le135).trans le185)) (S194).sat) (fun F cs p h => PrC.one F cs p h) (Nat.le_refl _) S194.gr.below.size (by unfold maxLen; simp only [List.length_append, List.length_nil]; have := rangeT_sub (pairsN l0 30) (keyL l1) (keyL l3); have := rangeT_sub (pairsN l0 30) (keyL l3) (keyL l2); have := pairsN_len l0 30; (try simp only [List.length_take]); omega) (by simp only [List.length_append, List.length_nil]; have := rangeT_sub (pairsN l0 30) (keyL l1) (keyL l3); have := rangeT_sub (pairsN l0 30) (keyL l3) (keyL l2); have := pairsN_len l0 30; (try simp only [List.length_take]); omega) ?_
          intro v195 w196 S197 hn198
          simp only [Act.put, List.setIfInBounds_toArray, List.set_cons_succ, List.set_cons_zero]
          have S197 : St W (whole W) w196 F184 [⟨n141, [(.bool true), (.slice a138 wv.length c139)], 53⟩] [ownP 2 PrC PrC.mono 49 W.heap.size v195 ([] ++ (rangeT (pairsN l0 30) (keyL l1) (keyL l3)))] := S197
          refine do_ rfl (.slice a114 (rangeT (pairsN l0 30) (keyL l3) (keyL l2)).length c115) (ex_move _) ?_
          simp only [Act.put, List.setIfInBounds_toArray, List.set_cons_succ, List.set_cons_zero]
          refine stAppendS (r := 0) (u := (.slice a114 (rangeT (pairsN l0 30) (keyL l3) (keyL l2)).length c115)) S197 rfl i49 (.agg #[(.slice none 0 0), (.slice none 0 0)]) 48 Try.underlying44 hi49 hz49 hs49 hb49 rfl (by decide) rfl rfl rfl (Sl.toW (r116.mono ((le123.trans le135).trans le185)) (S197).sat) (fun F cs p h => PrC.one F cs p h) (Nat.le_refl _) S197.gr.below.size (by unfold maxLen; simp only [List.length_append, List.length_nil]; have := rangeT_sub (pairsN l0 30) (keyL l1) (keyL l3); have := rangeT_sub (pairsN l0 30) (keyL l3) (keyL l2); have := pairsN_len l0 30; (try simp only [List.length_take]); omega) (by simp only [List.length_append, List.length_nil]; have := rangeT_sub (pairsN l0 30) (keyL l1) (keyL l3); have := rangeT_sub (pairsN l0 30) (keyL l3) (keyL l2); have := pairsN_len l0 30; (try simp only [List.length_take]); omega) ?_
          intro v199 w200 S201 hn202
          simp only [Act.put, List.setIfInBounds_toArray, List.set_cons_succ, List.set_cons_zero]
          have S201 : St W (whole W) w200 F184 [⟨n141, [(.bool true), (.slice a138 wv.length c139)], 53⟩] [ownP 2 PrC PrC.mono 49 W.heap.size v199 (([] ++ (rangeT (pairsN l0 30) (keyL l1) (keyL l3))) ++ (rangeT (pairsN l0 30) (keyL l3) (keyL l2)))] := S201
          refine do_ rfl (.slice a126 (rangeT (pairsN l0 30) (keyL l1) (keyL l2)).length c127) (ex_move _) ?_
          simp only [Act.put, List.setIfInBounds_toArray, List.set_cons_succ, List.set_cons_zero]
          obtain ⟨F203, S204, le205, hv206⟩ := St.freeze S201 (i := 0) rfl (Nat.le_refl _)
          have S204 : St W (whole W) w200 F203 [⟨n141, [(.bool true), (.slice a138 wv.length c139)], 53⟩] [] := S204
          have hv206 : Prs _ v199 (([] ++ (rangeT (pairsN l0 30) (keyL l1) (keyL l3))) ++ (rangeT (pairsN l0 30) (keyL l3) (keyL l2))) := hv206
          obtain ⟨a207, c208, rfl, h209, h210⟩ := Sl.shape hv206
          unfold maxLen at h210
          refine stTells (v := (.bool true)) S204 rfl (ex_fn (vs := #[(.slice a207 (([] ++ (rangeT (pairsN l0 30) (keyL l1) (keyL l3))) ++ (rangeT (pairsN l0 30) (keyL l3) (keyL l2))).length c208), (.slice a126 (rangeT (pairsN l0 30) (keyL l1) (keyL l2)).length c127)]) (map2 rfl rfl) rfl (ent_50 _ _)) (tells_bool (samePairs_spec _ _ _ _ (([] ++ (rangeT (pairsN l0 30) (keyL l1) (keyL l3))) ++ (rangeT (pairsN l0 30) (keyL l3) (keyL l2))) (rangeT (pairsN l0 30) (keyL l1) (keyL l2)) (S204).sat hv206 (r128.mono ((le135.trans le185).trans le205)) (by rw [hparts]; have := rangeT_sub (pairsN l0 30) (keyL l1) (keyL l2); have := pairsN_len l0 30; omega)) (decide_eq_true hparts)) (fun w211 S212 => ?_)
          simp only [Act.put, List.setIfInBounds_toArray, List.set_cons_succ, List.set_cons_zero]
          have S212 : St W (whole W) w211 F203 [⟨n141, [(.bool true), (.slice a138 wv.length c139)], 53⟩] [] := S212
          refine do_ rfl (.bool true) (ex_pick (b := true) rfl) ?_
          simp only [Act.put, List.setIfInBounds_toArray, List.set_cons_succ, List.set_cons_zero]
          refine do_ rfl (.bool true) (ex_assign _) ?_
          simp only [Act.put, List.setIfInBounds_toArray, List.set_cons_succ, List.set_cons_zero]
          refine wl_nil ?_
          (try simp only [Exit.then, Exit.inBlock, ↓reduceIte, Nat.reduceEqDiff])
          refine hK193 _ _ ?_
          refine wp_ret ?_
          (try simp only [Exit.then, Exit.inBlock, ↓reduceIte, Nat.reduceEqDiff])
          refine bodyPost_ret (v := (.bool true)) ?_ rfl ?_
          · exact res_t rfl rfl
          · exact ⟨rfl, S212.gr.below⟩
      · refine region_wl ?_
        refine do_ rfl (.slice a12 (pairsN l0 30).length c13) (ex_move _) ?_
        simp only [Act.put, List.setIfInBounds_toArray, List.set_cons_succ, List.set_cons_zero]
        refine do_ rfl (.slice xa32 (keyL l3).length xc33) (ex_move _) ?_
        simp only [Act.put, List.setIfInBounds_toArray, List.set_cons_succ, List.set_cons_zero]
        refine stGives S121 rfl (ex_fn (vs := #[(.slice a12 (pairsN l0 30).length c13), (.slice xa32 (keyL l3).length xc33)]) (map2 rfl rfl) rfl (ent_51 _ _)) (getIs_spec _ _ _ _ (pairsN l0 30) (keyL l3) (S121).sat (hv11.mono (((((le20.trans le29).trans le38).trans le99).trans le111).trans le123)) (R30.mono (((le38.trans le99).trans le111).trans le123)) (TreeOk.mono (show TreeOk 30 (pairsN l0 30) from pairsN_ok l0 30) (by omega)) (keyL_len l3) (hg)) ?_
        intro v218 w213 F215 S214 le216 R217
        obtain ⟨_, rfl, a219, c220, rfl, r221⟩ := R217
        have r221 : Bs _ (.slice a219 ([] : By).length c220) [] := r221
        simp only [Act.put, List.setIfInBounds_toArray, List.set_cons_succ, List.set_cons_zero]
        have S214 : St W (whole W) w213 F215 [] [] := S214
        refine do_ rfl (.tuple #[(.agg #[(.bool false), (.slice a219 ([] : By).length c220)]), (.int .i64 0)]) (ex_move _) ?_
        simp only [Act.put, List.setIfInBounds_toArray, List.set_cons_succ, List.set_cons_zero]
        refine do_ rfl (.agg #[(.bool false), (.slice a219 ([] : By).length c220)]) (ex_extract rfl rfl) ?_
        simp only [Act.put, List.setIfInBounds_toArray, List.set_cons_succ, List.set_cons_zero]
        refine do_ rfl (.int .i64 0) (ex_extract rfl rfl) ?_
        simp only [Act.put, List.setIfInBounds_toArray, List.set_cons_succ, List.set_cons_zero]
        refine stNew S214 (v := fun n => .pointer (some ⟨n, 0, none⟩)) rfl (ex_alloc (zero_53 _)) (fun n222 w223 S224 => ?_)
        simp only [Act.put, List.setIfInBounds_toArray, List.set_cons_succ, List.set_cons_zero]
        have S224 : St W (whole W) w223 F215 [⟨n222, [(.bool false), (.slice none 0 0)], 53⟩] [] := S224
        refine stStore (i := 0) (v := (.agg #[(.bool false), (.slice a219 ([] : By).length c220)])) S224 rfl rfl rfl rfl (size_53) (allc2 rfl rfl) (Nat.le_of_ble_eq_true rfl) (fun w225 S226 => ?_)
        simp only [Act.put, List.setIfInBounds_toArray, List.set_cons_succ, List.set_cons_zero]
        have S226 : St W (whole W) w225 F215 [⟨n222, [(.bool false), (.slice a219 ([] : By).length c220)], 53⟩] [] := S226
        refine do_ rfl (.int .i64 0) (ex_assign _) ?_
        simp only [Act.put, List.setIfInBounds_toArray, List.set_cons_succ, List.set_cons_zero]
        refine wl_nil ?_
        (try simp only [Exit.then, Exit.inBlock, ↓reduceIte, Nat.reduceEqDiff])
        refine hK131 _ _ ?_
        refine wp_seq_k (fun K227 hK227 => ?_)
        refine wp_seq_k (fun K228 hK228 => ?_)
        refine region_wl ?_
        refine do_ rfl (.pointer (some ⟨n222, 0, none⟩)) (ex_field (q := ⟨n222, 0, none⟩) rfl (fa_53_0 _ _)) ?_
        simp only [Act.put, List.setIfInBounds_toArray, List.set_cons_succ, List.set_cons_zero]
        refine do_ rfl (.bool false) (ex_load rfl (load1 (nagg_4 _) (St.cell S226 (i := 0) rfl rfl))) ?_
        simp only [Act.put, List.setIfInBounds_toArray, List.set_cons_succ, List.set_cons_zero]
        refine do_ rfl (.bool false) (ex_move _) ?_
        simp only [Act.put, List.setIfInBounds_toArray, List.set_cons_succ, List.set_cons_zero]
        refine doN (wanted_no rfl rfl rfl (c := false) rfl (by decide)) ?_
        simp only [Act.put, List.setIfInBounds_toArray, List.set_cons_succ, List.set_cons_zero]
        refine doN (wanted_no rfl rfl rfl (c := false) rfl (by decide)) ?_
        simp only [Act.put, List.setIfInBounds_toArray, List.set_cons_succ, List.set_cons_zero]
        refine doN (wanted_no rfl rfl rfl (c := false) rfl (by decide)) ?_
        simp only [Act.put, List.setIfInBounds_toArray, List.set_cons_succ, List.set_cons_zero]
        refine do_ rfl (.bool false) (ex_pick (b := false) rfl) ?_
        simp only [Act.put, List.setIfInBounds_toArray, List.set_cons_succ, List.set_cons_zero]
        refine wl_nil ?_
        (try simp only [Exit.then, Exit.inBlock, ↓reduceIte, Nat.reduceEqDiff])
        refine hK228 _ _ ?_
        refine wp_cond_false rfl ?_
        refine wp_skip ?_
        (try simp only [Exit.then, Exit.inBlock, ↓reduceIte, Nat.reduceEqDiff])
        refine hK227 _ _ ?_
        refine wp_seq_k (fun K229 hK229 => ?_)
        have hhas : hasT (pairsN l0 30) (keyL l3) = false := by rw [hasT_getT, hg]; rfl
        have hparts : ([] ++ (rangeT (pairsN l0 30) (keyL l1) (keyL l3))) ++ (rangeT (pairsN l0 30) (keyL l3) (keyL l2)) = (rangeT (pairsN l0 30) (keyL l1) (keyL l2)) := by have h := range_parts (pairsN_rise l0 30) hba hcb; rw [if_neg (fun h => by rw [hhas] at h; simp at h)] at h; simpa using h
        refine region_wl ?_
        refine do_ rfl (.slice a12 (pairsN l0 30).length c13) (ex_move _) ?_
        simp only [Act.put, List.setIfInBounds_toArray, List.set_cons_succ, List.set_cons_zero]
        refine do_ rfl (.slice xa41 (keyL l2).length xc42) (ex_move _) ?_
        simp only [Act.put, List.setIfInBounds_toArray, List.set_cons_succ, List.set_cons_zero]
        refine stGives S226 rfl (ex_fn (vs := #[(.slice a12 (pairsN l0 30).length c13), (.slice none 0 0), (.slice xa41 (keyL l2).length xc42)]) (map3 rfl rfl rfl) rfl (ent_49 _ _)) (rangeBad_spec _ _ _ _ _ (pairsN l0 30) [] (keyL l2) (S226).sat (hv11.mono ((((((le20.trans le29).trans le38).trans le99).trans le111).trans le123).trans le216)) (Bs.nil _) (R39.mono (((le99.trans le111).trans le123).trans le216)) (TreeOk.mono (show TreeOk 30 (pairsN l0 30) from pairsN_ok l0 30) (by omega)) (by unfold rangeE; rw [if_pos (by decide)]; rfl)) ?_
        intro v235 w230 F232 S231 le233 R234
        obtain ⟨_, rfl, r238⟩ := R234
        obtain ⟨a236, c237, rfl, h239, h240⟩ := Sl.shape r238
        unfold maxLen at h240
        simp only [Act.put, List.setIfInBounds_toArray, List.set_cons_succ, List.set_cons_zero]
        have S231 : St W (whole W) w230 F232 [⟨n222, [(.bool false), (.slice a219 ([] : By).length c220)], 53⟩] [] := S231
        refine do_ rfl (.tuple #[(.slice a236 ([] : List Pr).length c237), (.int .i64 1)]) (ex_move _) ?_
        simp only [Act.put, List.setIfInBounds_toArray, List.set_cons_succ, List.set_cons_zero]
        refine do_ rfl (.slice a236 ([] : List Pr).length c237) (ex_extract rfl rfl) ?_
        simp only [Act.put, List.setIfInBounds_toArray, List.set_cons_succ, List.set_cons_zero]
        refine do_ rfl (.int .i64 1) (ex_extract rfl rfl) ?_
        simp only [Act.put, List.setIfInBounds_toArray, List.set_cons_succ, List.set_cons_zero]
        refine do_ rfl (.slice a236 ([] : List Pr).length c237) (ex_assign _) ?_
        simp only [Act.put, List.setIfInBounds_toArray, List.set_cons_succ, List.set_cons_zero]
        refine do_ rfl (.int .i64 1) (ex_assign _) ?_
        simp only [Act.put, List.setIfInBounds_toArray, List.set_cons_succ, List.set_cons_zero]
        refine wl_nil ?_
        (try simp only [Exit.then, Exit.inBlock, ↓reduceIte, Nat.reduceEqDiff])
        refine hK229 _ _ ?_
        refine wp_seq_k (fun K241 hK241 => ?_)
        have S242 := St.addNil S231 2 PrC PrC.mono 49 W.heap.size
        refine region_wl ?_
        refine do_ rfl (.int .i64 0) (ex_move _) ?_
        simp only [Act.put, List.setIfInBounds_toArray, List.set_cons_succ, List.set_cons_zero]
        refine do_ rfl (.bool true) (ex_eql (b := true) rfl rfl (by decide)) ?_
        simp only [Act.put, List.setIfInBounds_toArray, List.set_cons_succ, List.set_cons_zero]
        refine do_ rfl (.bool true) (ex_move _) ?_
        simp only [Act.put, List.setIfInBounds_toArray, List.set_cons_succ, List.set_cons_zero]
        refine do_ rfl (.int .i64 0) (ex_move _) ?_
        simp only [Act.put, List.setIfInBounds_toArray, List.set_cons_succ, List.set_cons_zero]
        refine do_ rfl (.bool true) (ex_eql (b := true) rfl rfl (by decide)) ?_
        simp only [Act.put, List.setIfInBounds_toArray, List.set_cons_succ, List.set_cons_zero]
        refine do_ rfl (.bool true) (ex_pick (b := true) rfl) ?_
        simp only [Act.put, List.setIfInBounds_toArray, List.set_cons_succ, List.set_cons_zero]
        refine do_ rfl (.bool true) (ex_move _) ?_
        simp only [Act.put, List.setIfInBounds_toArray, List.set_cons_succ, List.set_cons_zero]
        refine do_ rfl (.int .i64 0) (ex_move _) ?_
        simp only [Act.put, List.setIfInBounds_toArray, List.set_cons_succ, List.set_cons_zero]
        refine do_ rfl (.bool true) (ex_eql (b := true) rfl rfl (by decide)) ?_
        simp only [Act.put, List.setIfInBounds_toArray, List.set_cons_succ, List.set_cons_zero]
        refine do_ rfl (.bool true) (ex_pick (b := true) rfl) ?_
        simp only [Act.put, List.setIfInBounds_toArray, List.set_cons_succ, List.set_cons_zero]
        refine do_ rfl (.bool true) (ex_move _) ?_
        simp only [Act.put, List.setIfInBounds_toArray, List.set_cons_succ, List.set_cons_zero]
        refine do_ rfl (.int .i64 0) (ex_move _) ?_
        simp only [Act.put, List.setIfInBounds_toArray, List.set_cons_succ, List.set_cons_zero]
        refine do_ rfl (.bool true) (ex_eql (b := true) rfl rfl (by decide)) ?_
        simp only [Act.put, List.setIfInBounds_toArray, List.set_cons_succ, List.set_cons_zero]
        refine do_ rfl (.bool true) (ex_pick (b := true) rfl) ?_
        simp only [Act.put, List.setIfInBounds_toArray, List.set_cons_succ, List.set_cons_zero]
        refine do_ rfl (.bool true) (ex_move _) ?_
        simp only [Act.put, List.setIfInBounds_toArray, List.set_cons_succ, List.set_cons_zero]
        refine do_ rfl (.int .i64 1) (ex_move _) ?_
        simp only [Act.put, List.setIfInBounds_toArray, List.set_cons_succ, List.set_cons_zero]
        refine do_ rfl (.bool true) (ex_eql (b := true) rfl rfl (by decide)) ?_
        simp only [Act.put, List.setIfInBounds_toArray, List.set_cons_succ, List.set_cons_zero]
        refine do_ rfl (.bool true) (ex_pick (b := true) rfl) ?_
        simp only [Act.put, List.setIfInBounds_toArray, List.set_cons_succ, List.set_cons_zero]
        refine do_ rfl (.bool true) (ex_move _) ?_
        simp only [Act.put, List.setIfInBounds_toArray, List.set_cons_succ, List.set_cons_zero]
        refine do_ rfl (.slice a102 (rangeT (pairsN l0 30) (keyL l1) (keyL l3)).length c103) (ex_move _) ?_
        simp only [Act.put, List.setIfInBounds_toArray, List.set_cons_succ, List.set_cons_zero]
        refine stAppendS (r := 0) (u := (.slice a102 (rangeT (pairsN l0 30) (keyL l1) (keyL l3)).length c103)) S242 rfl i49 (.agg #[(.slice none 0 0), (.slice none 0 0)]) 48 Try.underlying44 hi49 hz49 hs49 hb49 rfl (by decide) rfl rfl rfl (Sl.toW (r104.mono (((le111.trans le123).trans le216).trans le233)) (S242).sat) (fun F cs p h => PrC.one F cs p h) (Nat.le_refl _) S242.gr.below.size (by unfold maxLen; simp only [List.length_append, List.length_nil]; have := rangeT_sub (pairsN l0 30) (keyL l1) (keyL l3); have := rangeT_sub (pairsN l0 30) (keyL l3) (keyL l2); have := pairsN_len l0 30; (try simp only [List.length_take]); omega) (by simp only [List.length_append, List.length_nil]; have := rangeT_sub (pairsN l0 30) (keyL l1) (keyL l3); have := rangeT_sub (pairsN l0 30) (keyL l3) (keyL l2); have := pairsN_len l0 30; (try simp only [List.length_take]); omega) ?_
        intro v243 w244 S245 hn246
        simp only [Act.put, List.setIfInBounds_toArray, List.set_cons_succ, List.set_cons_zero]
        have S245 : St W (whole W) w244 F232 [⟨n222, [(.bool false), (.slice a219 ([] : By).length c220)], 53⟩] [ownP 2 PrC PrC.mono 49 W.heap.size v243 ([] ++ (rangeT (pairsN l0 30) (keyL l1) (keyL l3)))] := S245
        refine do_ rfl (.slice a114 (rangeT (pairsN l0 30) (keyL l3) (keyL l2)).length c115) (ex_move _) ?_
        simp only [Act.put, List.setIfInBounds_toArray, List.set_cons_succ, List.set_cons_zero]
        refine stAppendS (r := 0) (u := (.slice a114 (rangeT (pairsN l0 30) (keyL l3) (keyL l2)).length c115)) S245 rfl i49 (.agg #[(.slice none 0 0), (.slice none 0 0)]) 48 Try.underlying44 hi49 hz49 hs49 hb49 rfl (by decide) rfl rfl rfl (Sl.toW (r116.mono ((le123.trans le216).trans le233)) (S245).sat) (fun F cs p h => PrC.one F cs p h) (Nat.le_refl _) S245.gr.below.size (by unfold maxLen; simp only [List.length_append, List.length_nil]; have := rangeT_sub (pairsN l0 30) (keyL l1) (keyL l3); have := rangeT_sub (pairsN l0 30) (keyL l3) (keyL l2); have := pairsN_len l0 30; (try simp only [List.length_take]); omega) (by simp only [List.length_append, List.length_nil]; have := rangeT_sub (pairsN l0 30) (keyL l1) (keyL l3); have := rangeT_sub (pairsN l0 30) (keyL l3) (keyL l2); have := pairsN_len l0 30; (try simp only [List.length_take]); omega) ?_
        intro v247 w248 S249 hn250
        simp only [Act.put, List.setIfInBounds_toArray, List.set_cons_succ, List.set_cons_zero]
        have S249 : St W (whole W) w248 F232 [⟨n222, [(.bool false), (.slice a219 ([] : By).length c220)], 53⟩] [ownP 2 PrC PrC.mono 49 W.heap.size v247 (([] ++ (rangeT (pairsN l0 30) (keyL l1) (keyL l3))) ++ (rangeT (pairsN l0 30) (keyL l3) (keyL l2)))] := S249
        refine do_ rfl (.slice a126 (rangeT (pairsN l0 30) (keyL l1) (keyL l2)).length c127) (ex_move _) ?_
        simp only [Act.put, List.setIfInBounds_toArray, List.set_cons_succ, List.set_cons_zero]
        obtain ⟨F251, S252, le253, hv254⟩ := St.freeze S249 (i := 0) rfl (Nat.le_refl _)
        have S252 : St W (whole W) w248 F251 [⟨n222, [(.bool false), (.slice a219 ([] : By).length c220)], 53⟩] [] := S252
        have hv254 : Prs _ v247 (([] ++ (rangeT (pairsN l0 30) (keyL l1) (keyL l3))) ++ (rangeT (pairsN l0 30) (keyL l3) (keyL l2))) := hv254
        obtain ⟨a255, c256, rfl, h257, h258⟩ := Sl.shape hv254
        unfold maxLen at h258
        refine stTells (v := (.bool true)) S252 rfl (ex_fn (vs := #[(.slice a255 (([] ++ (rangeT (pairsN l0 30) (keyL l1) (keyL l3))) ++ (rangeT (pairsN l0 30) (keyL l3) (keyL l2))).length c256), (.slice a126 (rangeT (pairsN l0 30) (keyL l1) (keyL l2)).length c127)]) (map2 rfl rfl) rfl (ent_50 _ _)) (tells_bool (samePairs_spec _ _ _ _ (([] ++ (rangeT (pairsN l0 30) (keyL l1) (keyL l3))) ++ (rangeT (pairsN l0 30) (keyL l3) (keyL l2))) (rangeT (pairsN l0 30) (keyL l1) (keyL l2)) (S252).sat hv254 (r128.mono ((le216.trans le233).trans le253)) (by rw [hparts]; have := rangeT_sub (pairsN l0 30) (keyL l1) (keyL l2); have := pairsN_len l0 30; omega)) (decide_eq_true hparts)) (fun w259 S260 => ?_)
        simp only [Act.put, List.setIfInBounds_toArray, List.set_cons_succ, List.set_cons_zero]
        have S260 : St W (whole W) w259 F251 [⟨n222, [(.bool false), (.slice a219 ([] : By).length c220)], 53⟩] [] := S260
        refine do_ rfl (.bool true) (ex_pick (b := true) rfl) ?_
        simp only [Act.put, List.setIfInBounds_toArray, List.set_cons_succ, List.set_cons_zero]
        refine do_ rfl (.bool true) (ex_assign _) ?_
        simp only [Act.put, List.setIfInBounds_toArray, List.set_cons_succ, List.set_cons_zero]
        refine wl_nil ?_
        (try simp only [Exit.then, Exit.inBlock, ↓reduceIte, Nat.reduceEqDiff])
        refine hK241 _ _ ?_
        refine wp_ret ?_
        (try simp only [Exit.then, Exit.inBlock, ↓reduceIte, Nat.reduceEqDiff])
        refine bodyPost_ret (v := (.bool true)) ?_ rfl ?_
        · exact res_t rfl rfl
        · exact ⟨rfl, S260.gr.below⟩
end Go.Proofs.Yteefnnnbbmbmcaa
