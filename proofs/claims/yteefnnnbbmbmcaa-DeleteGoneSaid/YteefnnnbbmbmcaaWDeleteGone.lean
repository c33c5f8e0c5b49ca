/- Walk of DeleteGone -/
import Derived.Test.YteefnnnbbmbmcaaK3
namespace Go.Proofs.Yteefnnnbbmbmcaa
open Go.RowKit
set_option maxRecDepth 100000
set_option linter.unusedVariables false
set_option linter.unusedSimpArgs false
set_option maxHeartbeats 8000000 in
theorem deleteGone_walk (W : World) (v0 : Value) (l0 : List Pr) (z0 : Prs (whole W) v0 l0) (v1 : Value) (l1 : By) (z1 : Bs (whole W) v1 l1) (v2 : Value) (l2 : By) (z2 : Bs (whole W) v2 l2) :
    Calls Try.prog 15 #[v0, v1, v2] W (Tells W (.bool true)) := by
  obtain ⟨a0, c0, rfl, q0, q0'⟩ := Sl.shape z0
  obtain ⟨a1, c1, rfl, _⟩ := z1.shape
  obtain ⟨a2, c2, rfl, _⟩ := z2.shape
  have S := St.start (Sat.whole W)
  go_enter Try.func15, Try.ntmps15
  refine wp_seq_k (fun K1 hK1 => ?_)
  refine region_wl ?_
  refine do_ rfl (.bool false) (ex_assign _) ?_
  simp only [Act.put, List.setIfInBounds_toArray, List.set_cons_succ, List.set_cons_zero]
  refine wl_nil ?_
  (try simp only [Exit.then, Exit.inBlock, ↓reduceIte, Nat.reduceEqDiff])
  refine hK1 _ _ ?_
  refine wp_seq_k (fun K2 hK2 => ?_)
  refine region_wl ?_
  refine do_ rfl (.slice a0 l0.length c0) (ex_move _) ?_
  simp only [Act.put, List.setIfInBounds_toArray, List.set_cons_succ, List.set_cons_zero]
  refine stGivesO PrC.mono S rfl (ex_fn (vs := #[(.slice a0 l0.length c0), (.int .i64 30)]) (map2 rfl rfl) rfl (ent_48 _ _)) (pairs_spec _ _ _ l0 30 (S).sat z0 (by omega)) ?_
  intro v7 w3 F5 S4 le6
  simp only [Act.put, List.setIfInBounds_toArray, List.set_cons_succ, List.set_cons_zero]
  have S4 : St W (whole W) w3 F5 [] [ownP 2 PrC PrC.mono 49 W.heap.size v7 (pairsN l0 30)] := S4
  obtain ⟨F8, S9, le10, hv11⟩ := St.freeze S4 (i := 0) rfl (Nat.le_refl _)
  have S9 : St W (whole W) w3 F8 [] [] := S9
  have hv11 : Prs _ v7 (pairsN l0 30) := hv11
  obtain ⟨a12, c13, rfl, h14, h15⟩ := Sl.shape hv11
  unfold maxLen at h15
  refine do_ rfl (.slice a12 (pairsN l0 30).length c13) (ex_assign _) ?_
  simp only [Act.put, List.setIfInBounds_toArray, List.set_cons_succ, List.set_cons_zero]
  refine wl_nil ?_
  (try simp only [Exit.then, Exit.inBlock, ↓reduceIte, Nat.reduceEqDiff])
  refine hK2 _ _ ?_
  refine wp_seq_k (fun K16 hK16 => ?_)
  refine region_wl ?_
  refine do_ rfl (.slice a1 l1.length c1) (ex_move _) ?_
  simp only [Act.put, List.setIfInBounds_toArray, List.set_cons_succ, List.set_cons_zero]
  refine stGives S9 rfl (ex_fn (vs := #[(.slice a1 l1.length c1)]) (map1 rfl) rfl (ent_44 _ _)) (key_spec _ _ _ l1 (S9).sat (z1.mono (le6.trans le10))) ?_
  intro v22 w17 F19 S18 le20 R21
  obtain ⟨xa23, xc24, rfl, _⟩ := R21.shape
  simp only [Act.put, List.setIfInBounds_toArray, List.set_cons_succ, List.set_cons_zero]
  have S18 : St W (whole W) w17 F19 [] [] := S18
  refine do_ rfl (.slice xa23 (keyL l1).length xc24) (ex_assign _) ?_
  simp only [Act.put, List.setIfInBounds_toArray, List.set_cons_succ, List.set_cons_zero]
  refine wl_nil ?_
  (try simp only [Exit.then, Exit.inBlock, ↓reduceIte, Nat.reduceEqDiff])
  refine hK16 _ _ ?_
  refine wp_seq_k (fun K25 hK25 => ?_)
  refine region_wl ?_
  refine do_ rfl (.slice a12 (pairsN l0 30).length c13) (ex_move _) ?_
  simp only [Act.put, List.setIfInBounds_toArray, List.set_cons_succ, List.set_cons_zero]
  refine do_ rfl (.slice xa23 (keyL l1).length xc24) (ex_move _) ?_
  simp only [Act.put, List.setIfInBounds_toArray, List.set_cons_succ, List.set_cons_zero]
  refine stGives S18 rfl (ex_fn (vs := #[(.slice a12 (pairsN l0 30).length c13), (.slice xa23 (keyL l1).length xc24)]) (map2 rfl rfl) rfl (ent_55 _ _)) (delOk_spec _ _ _ _ (pairsN l0 30) (keyL l1) (S18).sat (hv11.mono le20) R21 (TreeOk.mono (show TreeOk 30 (pairsN l0 30) from pairsN_ok l0 30) (by omega)) (keyL_len l1)) ?_
  intro v31 w26 F28 S27 le29 R30
  obtain ⟨_, rfl, r34⟩ := R30
  obtain ⟨a32, c33, rfl, h35, h36⟩ := Sl.shape r34
  unfold maxLen at h36
  have h35 : (delT (pairsN l0 30) (keyL l1)).length ≤ c33 := h35
  have r34 : Prs _ (.slice a32 (delT (pairsN l0 30) (keyL l1)).length c33) (delT (pairsN l0 30) (keyL l1)) := r34
  simp only [Act.put, List.setIfInBounds_toArray, List.set_cons_succ, List.set_cons_zero]
  have S27 : St W (whole W) w26 F28 [] [] := S27
  refine do_ rfl (.tuple #[(.slice a32 (delT (pairsN l0 30) (keyL l1)).length c33), (.int .i64 0)]) (ex_move _) ?_
  simp only [Act.put, List.setIfInBounds_toArray, List.set_cons_succ, List.set_cons_zero]
  refine do_ rfl (.slice a32 (delT (pairsN l0 30) (keyL l1)).length c33) (ex_extract rfl rfl) ?_
  simp only [Act.put, List.setIfInBounds_toArray, List.set_cons_succ, List.set_cons_zero]
  refine do_ rfl (.int .i64 0) (ex_extract rfl rfl) ?_
  simp only [Act.put, List.setIfInBounds_toArray, List.set_cons_succ, List.set_cons_zero]
  refine do_ rfl (.slice a32 (delT (pairsN l0 30) (keyL l1)).length c33) (ex_assign _) ?_
  simp only [Act.put, List.setIfInBounds_toArray, List.set_cons_succ, List.set_cons_zero]
  refine do_ rfl (.int .i64 0) (ex_assign _) ?_
  simp only [Act.put, List.setIfInBounds_toArray, List.set_cons_succ, List.set_cons_zero]
  refine wl_nil ?_
  (try simp only [Exit.then, Exit.inBlock, ↓reduceIte, Nat.reduceEqDiff])
  refine hK25 _ _ ?_
  refine wp_seq_k (fun K37 hK37 => ?_)
  refine region_wl ?_
  refine do_ rfl (.slice a32 (delT (pairsN l0 30) (keyL l1)).length c33) (ex_move _) ?_
  simp only [Act.put, List.setIfInBounds_toArray, List.set_cons_succ, List.set_cons_zero]
  refine do_ rfl (.slice xa23 (keyL l1).length xc24) (ex_move _) ?_
  simp only [Act.put, List.setIfInBounds_toArray, List.set_cons_succ, List.set_cons_zero]
  refine stGives S27 rfl (ex_fn (vs := #[(.slice a32 (delT (pairsN l0 30) (keyL l1)).length c33), (.slice xa23 (keyL l1).length xc24)]) (map2 rfl rfl) rfl (ent_51 _ _)) (getIs_spec _ _ _ _ (delT (pairsN l0 30) (keyL l1)) (keyL l1) (S27).sat r34 (R21.mono le29) (TreeOk.mono (show TreeOk 30 (delT (pairsN l0 30) (keyL l1)) from (show TreeOk 30 (pairsN l0 30) from pairsN_ok l0 30).del) (by omega)) (keyL_len l1) (by rw [getT_delT (pairsN_rise l0 30), if_pos rfl])) ?_
  intro v43 w38 F40 S39 le41 R42
  obtain ⟨_, rfl, a44, c45, rfl, r46⟩ := R42
  have r46 : Bs _ (.slice a44 ([] : By).length c45) [] := r46
  simp only [Act.put, List.setIfInBounds_toArray, List.set_cons_succ, List.set_cons_zero]
  have S39 : St W (whole W) w38 F40 [] [] := S39
  refine do_ rfl (.tuple #[(.agg #[(.bool false), (.slice a44 ([] : By).length c45)]), (.int .i64 0)]) (ex_move _) ?_
  simp only [Act.put, List.setIfInBounds_toArray, List.set_cons_succ, List.set_cons_zero]
  refine do_ rfl (.agg #[(.bool false), (.slice a44 ([] : By).length c45)]) (ex_extract rfl rfl) ?_
  simp only [Act.put, List.setIfInBounds_toArray, List.set_cons_succ, List.set_cons_zero]
  refine do_ rfl (.int .i64 0) (ex_extract rfl rfl) ?_
  simp only [Act.put, List.setIfInBounds_toArray, List.set_cons_succ, List.set_cons_zero]
  refine stNew S39 (v := fun n => .pointer (some ⟨n, 0, none⟩)) rfl (ex_alloc (zero_53 _)) (fun n47 w48 S49 => ?_)
  simp only [Act.put, List.setIfInBounds_toArray, List.set_cons_succ, List.set_cons_zero]
  have S49 : St W (whole W) w48 F40 [⟨n47, [(.bool false), (.slice none 0 0)], 53⟩] [] := S49
  refine stStore (i := 0) (v := (.agg #[(.bool false), (.slice a44 ([] : By).length c45)])) S49 rfl rfl rfl rfl (size_53) (allc2 rfl rfl) (Nat.le_of_ble_eq_true rfl) (fun w50 S51 => ?_)
  simp only [Act.put, List.setIfInBounds_toArray, List.set_cons_succ, List.set_cons_zero]
  have S51 : St W (whole W) w50 F40 [⟨n47, [(.bool false), (.slice a44 ([] : By).length c45)], 53⟩] [] := S51
  refine do_ rfl (.int .i64 0) (ex_assign _) ?_
  simp only [Act.put, List.setIfInBounds_toArray, List.set_cons_succ, List.set_cons_zero]
  refine wl_nil ?_
  (try simp only [Exit.then, Exit.inBlock, ↓reduceIte, Nat.reduceEqDiff])
  refine hK37 _ _ ?_
  refine wp_seq_k (fun K52 hK52 => ?_)
  refine region_wl ?_
  refine do_ rfl (.slice a32 (delT (pairsN l0 30) (keyL l1)).length c33) (ex_move _) ?_
  simp only [Act.put, List.setIfInBounds_toArray, List.set_cons_succ, List.set_cons_zero]
  refine do_ rfl (.slice xa23 (keyL l1).length xc24) (ex_move _) ?_
  simp only [Act.put, List.setIfInBounds_toArray, List.set_cons_succ, List.set_cons_zero]
  refine do_ rfl (.slice a2 l2.length c2) (ex_move _) ?_
  simp only [Act.put, List.setIfInBounds_toArray, List.set_cons_succ, List.set_cons_zero]
  refine stGives S51 rfl (ex_fn (vs := #[(.slice a2 l2.length c2), (.int .i64 32)]) (map2 rfl rfl) rfl (ent_52 _ _)) (some_spec _ _ _ l2 32 (S51).sat (z2.mono ((((le6.trans le10).trans le20).trans le29).trans le41)) (by omega) (by omega)) ?_
  intro v58 w53 F55 S54 le56 R57
  obtain ⟨xa59, xc60, rfl, _⟩ := R57.shape
  simp only [Act.put, List.setIfInBounds_toArray, List.set_cons_succ, List.set_cons_zero]
  have S54 : St W (whole W) w53 F55 [⟨n47, [(.bool false), (.slice a44 ([] : By).length c45)], 53⟩] [] := S54
  refine do_ rfl (.agg #[(.slice xa23 (keyL l1).length xc24), (.slice xa59 (l2.take 32).length xc60)]) (ex_build (ps := #[(0, (.slice xa23 (keyL l1).length xc24)), (1, (.slice xa59 (l2.take 32).length xc60))]) (bmap2 rfl rfl) (by kernel_rfl)) ?_
  simp only [Act.put, List.setIfInBounds_toArray, List.set_cons_succ, List.set_cons_zero]
  refine stGives S54 rfl (ex_fn (vs := #[(.slice a32 (delT (pairsN l0 30) (keyL l1)).length c33), (.agg #[(.slice xa23 (keyL l1).length xc24), (.slice xa59 (l2.take 32).length xc60)])]) (map2 rfl rfl) rfl (ent_53 _ _)) (putOk_spec _ _ _ _ (delT (pairsN l0 30) (keyL l1)) ((keyL l1), (l2.take 32)) (S54).sat (r34.mono (le41.trans le56)) ⟨_, _, _, _, rfl, (R21.mono ((le29.trans le41).trans le56)), R57⟩ (show TreeOk 30 (delT (pairsN l0 30) (keyL l1)) from (show TreeOk 30 (pairsN l0 30) from pairsN_ok l0 30).del) (by omega) ⟨(keyL_len l1).1, (keyL_len l1).2, by simp; omega⟩) ?_
  intro v66 w61 F63 S62 le64 R65
  obtain ⟨_, rfl, r69⟩ := R65
  obtain ⟨a67, c68, rfl, h70, h71⟩ := Sl.shape r69
  unfold maxLen at h71
  have h70 : (putT (delT (pairsN l0 30) (keyL l1)) (keyL l1) (l2.take 32)).length ≤ c68 := h70
  have r69 : Prs _ (.slice a67 (putT (delT (pairsN l0 30) (keyL l1)) (keyL l1) (l2.take 32)).length c68) (putT (delT (pairsN l0 30) (keyL l1)) (keyL l1) (l2.take 32)) := r69
  simp only [Act.put, List.setIfInBounds_toArray, List.set_cons_succ, List.set_cons_zero]
  have S62 : St W (whole W) w61 F63 [⟨n47, [(.bool false), (.slice a44 ([] : By).length c45)], 53⟩] [] := S62
  refine do_ rfl (.tuple #[(.slice a67 (putT (delT (pairsN l0 30) (keyL l1)) (keyL l1) (l2.take 32)).length c68), (.int .i64 0)]) (ex_move _) ?_
  simp only [Act.put, List.setIfInBounds_toArray, List.set_cons_succ, List.set_cons_zero]
  refine do_ rfl (.slice a67 (putT (delT (pairsN l0 30) (keyL l1)) (keyL l1) (l2.take 32)).length c68) (ex_extract rfl rfl) ?_
  simp only [Act.put, List.setIfInBounds_toArray, List.set_cons_succ, List.set_cons_zero]
  refine do_ rfl (.int .i64 0) (ex_extract rfl rfl) ?_
  simp only [Act.put, List.setIfInBounds_toArray, List.set_cons_succ, List.set_cons_zero]
  refine do_ rfl (.slice a67 (putT (delT (pairsN l0 30) (keyL l1)) (keyL l1) (l2.take 32)).length c68) (ex_assign _) ?_
  simp only [Act.put, List.setIfInBounds_toArray, List.set_cons_succ, List.set_cons_zero]
  refine do_ rfl (.int .i64 0) (ex_assign _) ?_
  simp only [Act.put, List.setIfInBounds_toArray, List.set_cons_succ, List.set_cons_zero]
  refine wl_nil ?_
  (try simp only [Exit.then, Exit.inBlock, ↓reduceIte, Nat.reduceEqDiff])
  refine hK52 _ _ ?_
  refine wp_seq_k (fun K72 hK72 => ?_)
  refine region_wl ?_
  refine do_ rfl (.slice a67 (putT (delT (pairsN l0 30) (keyL l1)) (keyL l1) (l2.take 32)).length c68) (ex_move _) ?_
  simp only [Act.put, List.setIfInBounds_toArray, List.set_cons_succ, List.set_cons_zero]
  refine do_ rfl (.slice xa23 (keyL l1).length xc24) (ex_move _) ?_
  simp only [Act.put, List.setIfInBounds_toArray, List.set_cons_succ, List.set_cons_zero]
  refine stGives S62 rfl (ex_fn (vs := #[(.slice a67 (putT (delT (pairsN l0 30) (keyL l1)) (keyL l1) (l2.take 32)).length c68), (.slice xa23 (keyL l1).length xc24)]) (map2 rfl rfl) rfl (ent_55 _ _)) (delOk_spec _ _ _ _ (putT (delT (pairsN l0 30) (keyL l1)) (keyL l1) (l2.take 32)) (keyL l1) (S62).sat r69 (R21.mono (((le29.trans le41).trans le56).trans le64)) (TreeOk.mono (show TreeOk 31 (putT (delT (pairsN l0 30) (keyL l1)) (keyL l1) (l2.take 32)) from (put_ok (show TreeOk 30 (delT (pairsN l0 30) (keyL l1)) from (show TreeOk 30 (pairsN l0 30) from pairsN_ok l0 30).del) (by omega) (p := ((keyL l1), (l2.take 32))) ⟨(keyL_len l1).1, (keyL_len l1).2, by simp; omega⟩).2.2) (by omega)) (keyL_len l1)) ?_
  intro v78 w73 F75 S74 le76 R77
  obtain ⟨_, rfl, r81⟩ := R77
  obtain ⟨a79, c80, rfl, h82, h83⟩ := Sl.shape r81
  unfold maxLen at h83
  have h82 : (delT (putT (delT (pairsN l0 30) (keyL l1)) (keyL l1) (l2.take 32)) (keyL l1)).length ≤ c80 := h82
  have r81 : Prs _ (.slice a79 (delT (putT (delT (pairsN l0 30) (keyL l1)) (keyL l1) (l2.take 32)) (keyL l1)).length c80) (delT (putT (delT (pairsN l0 30) (keyL l1)) (keyL l1) (l2.take 32)) (keyL l1)) := r81
  simp only [Act.put, List.setIfInBounds_toArray, List.set_cons_succ, List.set_cons_zero]
  have S74 : St W (whole W) w73 F75 [⟨n47, [(.bool false), (.slice a44 ([] : By).length c45)], 53⟩] [] := S74
  refine do_ rfl (.tuple #[(.slice a79 (delT (putT (delT (pairsN l0 30) (keyL l1)) (keyL l1) (l2.take 32)) (keyL l1)).length c80), (.int .i64 0)]) (ex_move _) ?_
  simp only [Act.put, List.setIfInBounds_toArray, List.set_cons_succ, List.set_cons_zero]
  refine do_ rfl (.slice a79 (delT (putT (delT (pairsN l0 30) (keyL l1)) (keyL l1) (l2.take 32)) (keyL l1)).length c80) (ex_extract rfl rfl) ?_
  simp only [Act.put, List.setIfInBounds_toArray, List.set_cons_succ, List.set_cons_zero]
  refine do_ rfl (.int .i64 0) (ex_extract rfl rfl) ?_
  simp only [Act.put, List.setIfInBounds_toArray, List.set_cons_succ, List.set_cons_zero]
  refine do_ rfl (.slice a79 (delT (putT (delT (pairsN l0 30) (keyL l1)) (keyL l1) (l2.take 32)) (keyL l1)).length c80) (ex_assign _) ?_
  simp only [Act.put, List.setIfInBounds_toArray, List.set_cons_succ, List.set_cons_zero]
  refine do_ rfl (.int .i64 0) (ex_assign _) ?_
  simp only [Act.put, List.setIfInBounds_toArray, List.set_cons_succ, List.set_cons_zero]
  refine wl_nil ?_
  (try simp only [Exit.then, Exit.inBlock, ↓reduceIte, Nat.reduceEqDiff])
  refine hK72 _ _ ?_
  refine wp_seq_k (fun K84 hK84 => ?_)
  refine region_wl ?_
  refine do_ rfl (.slice a12 (pairsN l0 30).length c13) (ex_move _) ?_
  simp only [Act.put, List.setIfInBounds_toArray, List.set_cons_succ, List.set_cons_zero]
  refine do_ rfl (.slice xa23 (keyL l1).length xc24) (ex_move _) ?_
  simp only [Act.put, List.setIfInBounds_toArray, List.set_cons_succ, List.set_cons_zero]
  refine stGives S74 rfl (ex_fn (vs := #[(.slice a12 (pairsN l0 30).length c13), (.slice xa23 (keyL l1).length xc24)]) (map2 rfl rfl) rfl (ent_51 _ _)) (getIs_spec _ _ _ _ (pairsN l0 30) (keyL l1) (S74).sat (hv11.mono (((((le20.trans le29).trans le41).trans le56).trans le64).trans le76)) (R21.mono ((((le29.trans le41).trans le56).trans le64).trans le76)) (TreeOk.mono (show TreeOk 30 (pairsN l0 30) from pairsN_ok l0 30) (by omega)) (keyL_len l1) (rfl)) ?_
  intro v90 w85 F87 S86 le88 R89
  obtain ⟨_, rfl, a91, c92, rfl, r93⟩ := R89
  have r93 : Bs _ (.slice a91 ((getT (pairsN l0 30) (keyL l1)).getD []).length c92) ((getT (pairsN l0 30) (keyL l1)).getD []) := r93
  simp only [Act.put, List.setIfInBounds_toArray, List.set_cons_succ, List.set_cons_zero]
  have S86 : St W (whole W) w85 F87 [⟨n47, [(.bool false), (.slice a44 ([] : By).length c45)], 53⟩] [] := S86
  refine do_ rfl (.tuple #[(.agg #[(.bool (getT (pairsN l0 30) (keyL l1)).isSome), (.slice a91 ((getT (pairsN l0 30) (keyL l1)).getD []).length c92)]), (.int .i64 0)]) (ex_move _) ?_
  simp only [Act.put, List.setIfInBounds_toArray, List.set_cons_succ, List.set_cons_zero]
  refine do_ rfl (.agg #[(.bool (getT (pairsN l0 30) (keyL l1)).isSome), (.slice a91 ((getT (pairsN l0 30) (keyL l1)).getD []).length c92)]) (ex_extract rfl rfl) ?_
  simp only [Act.put, List.setIfInBounds_toArray, List.set_cons_succ, List.set_cons_zero]
  refine do_ rfl (.int .i64 0) (ex_extract rfl rfl) ?_
  simp only [Act.put, List.setIfInBounds_toArray, List.set_cons_succ, List.set_cons_zero]
  refine stNew S86 (v := fun n => .pointer (some ⟨n, 0, none⟩)) rfl (ex_alloc (zero_53 _)) (fun n94 w95 S96 => ?_)
  simp only [Act.put, List.setIfInBounds_toArray, List.set_cons_succ, List.set_cons_zero]
  have S96 : St W (whole W) w95 F87 [⟨n94, [(.bool false), (.slice none 0 0)], 53⟩, ⟨n47, [(.bool false), (.slice a44 ([] : By).length c45)], 53⟩] [] := S96
  refine stStore (i := 0) (v := (.agg #[(.bool (getT (pairsN l0 30) (keyL l1)).isSome), (.slice a91 ((getT (pairsN l0 30) (keyL l1)).getD []).length c92)])) S96 rfl rfl rfl rfl (size_53) (allc2 rfl rfl) (Nat.le_of_ble_eq_true rfl) (fun w97 S98 => ?_)
  simp only [Act.put, List.setIfInBounds_toArray, List.set_cons_succ, List.set_cons_zero]
  have S98 : St W (whole W) w97 F87 [⟨n94, [(.bool (getT (pairsN l0 30) (keyL l1)).isSome), (.slice a91 ((getT (pairsN l0 30) (keyL l1)).getD []).length c92)], 53⟩, ⟨n47, [(.bool false), (.slice a44 ([] : By).length c45)], 53⟩] [] := S98
  refine do_ rfl (.int .i64 0) (ex_assign _) ?_
  simp only [Act.put, List.setIfInBounds_toArray, List.set_cons_succ, List.set_cons_zero]
  refine wl_nil ?_
  (try simp only [Exit.then, Exit.inBlock, ↓reduceIte, Nat.reduceEqDiff])
  refine hK84 _ _ ?_
  refine wp_seq_k (fun K99 hK99 => ?_)
  refine region_wl ?_
  refine do_ rfl (.slice a12 (pairsN l0 30).length c13) (ex_move _) ?_
  simp only [Act.put, List.setIfInBounds_toArray, List.set_cons_succ, List.set_cons_zero]
  refine do_ rfl (.int .i64 (((pairsN l0 30).length : Nat) : Int)) (ex_len Try.underlying44 rfl) ?_
  simp only [Act.put, List.setIfInBounds_toArray, List.set_cons_succ, List.set_cons_zero]
  refine do_ rfl (.int .i64 (((pairsN l0 30).length : Nat) : Int)) (ex_assign _) ?_
  simp only [Act.put, List.setIfInBounds_toArray, List.set_cons_succ, List.set_cons_zero]
  refine wl_nil ?_
  (try simp only [Exit.then, Exit.inBlock, ↓reduceIte, Nat.reduceEqDiff])
  refine hK99 _ _ ?_
  refine wp_seq_k (fun K100 hK100 => ?_)
  refine wp_seq_k (fun K101 hK101 => ?_)
  refine region_wl ?_
  refine do_ rfl (.pointer (some ⟨n94, 0, none⟩)) (ex_field (q := ⟨n94, 0, none⟩) rfl (fa_53_0 _ _)) ?_
  simp only [Act.put, List.setIfInBounds_toArray, List.set_cons_succ, List.set_cons_zero]
  refine do_ rfl (.bool (getT (pairsN l0 30) (keyL l1)).isSome) (ex_load rfl (load1 (nagg_4 _) (St.cell S98 (i := 0) rfl rfl))) ?_
  simp only [Act.put, List.setIfInBounds_toArray, List.set_cons_succ, List.set_cons_zero]
  refine wl_nil ?_
  (try simp only [Exit.then, Exit.inBlock, ↓reduceIte, Nat.reduceEqDiff])
  refine hK101 _ _ ?_
  refine wp_cond_split rfl (fun hc102 => ?_) (fun hc102 => ?_)
  · have hh : hasT (pairsN l0 30) (keyL l1) = true := by rw [hasT_getT]; exact hc102
    have hpos := hasT_pos hh
    refine region_wl ?_
    refine do_ rfl (.int .i64 (((pairsN l0 30).length : Nat) : Int)) (ex_move _) ?_
    simp only [Act.put, List.setIfInBounds_toArray, List.set_cons_succ, List.set_cons_zero]
    refine do_ rfl (.int .i64 ((((pairsN l0 30).length - 1) : Nat) : Int)) (ex_sub (m := (((pairsN l0 30).length : Nat) : Int)) (n := (1 : Int)) (r := ((((pairsN l0 30).length - 1) : Nat) : Int)) rfl rfl (by omega) (by omega) (by omega)) ?_
    simp only [Act.put, List.setIfInBounds_toArray, List.set_cons_succ, List.set_cons_zero]
    refine do_ rfl (.int .i64 ((((pairsN l0 30).length - 1) : Nat) : Int)) (ex_assign _) ?_
    simp only [Act.put, List.setIfInBounds_toArray, List.set_cons_succ, List.set_cons_zero]
    refine wl_nil ?_
    (try simp only [Exit.then, Exit.inBlock, ↓reduceIte, Nat.reduceEqDiff])
    refine hK100 _ _ ?_
    refine wp_seq_k (fun K103 hK103 => ?_)
    have hl1 : (delT (pairsN l0 30) (keyL l1)).length = ((pairsN l0 30).length - 1) := by rw [len_delT (pairsN_rise l0 30), hh]; simp
    have hl2 : (putT (delT (pairsN l0 30) (keyL l1)) (keyL l1) (l2.take 32)).length = ((pairsN l0 30).length - 1) + 1 := by rw [len_putT, hasT_getT, getT_delT (pairsN_rise l0 30), if_pos rfl, hl1]; simp
    refine region_wl ?_
    refine do_ rfl (.int .i64 0) (ex_move _) ?_
    simp only [Act.put, List.setIfInBounds_toArray, List.set_cons_succ, List.set_cons_zero]
    refine do_ rfl (.bool true) (ex_eql (b := true) rfl rfl (by decide)) ?_
    simp only [Act.put, List.setIfInBounds_toArray, List.set_cons_succ, List.set_cons_zero]
    refine do_ rfl (.bool true) (ex_move _) ?_
    simp only [Act.put, List.setIfInBounds_toArray, List.set_cons_succ, List.set_cons_zero]
    refine do_ rfl (.int .i64 0) (ex_move _) ?_
    simp only [Act.put, List.setIfInBounds_toArray, List.set_cons_succ, List.set_cons_zero]
    refine do_ rfl (.bool true) (ex_eql (b := true) rfl rfl (by decide)) ?_
    simp only [Act.put, List.setIfInBounds_toArray, List.set_cons_succ, List.set_cons_zero]
    refine do_ rfl (.bool true) (ex_pick (b := true) rfl) ?_
    simp only [Act.put, List.setIfInBounds_toArray, List.set_cons_succ, List.set_cons_zero]
    refine do_ rfl (.bool true) (ex_move _) ?_
    simp only [Act.put, List.setIfInBounds_toArray, List.set_cons_succ, List.set_cons_zero]
    refine do_ rfl (.int .i64 0) (ex_move _) ?_
    simp only [Act.put, List.setIfInBounds_toArray, List.set_cons_succ, List.set_cons_zero]
    refine do_ rfl (.bool true) (ex_eql (b := true) rfl rfl (by decide)) ?_
    simp only [Act.put, List.setIfInBounds_toArray, List.set_cons_succ, List.set_cons_zero]
    refine do_ rfl (.bool true) (ex_pick (b := true) rfl) ?_
    simp only [Act.put, List.setIfInBounds_toArray, List.set_cons_succ, List.set_cons_zero]
    refine do_ rfl (.bool true) (ex_move _) ?_
    simp only [Act.put, List.setIfInBounds_toArray, List.set_cons_succ, List.set_cons_zero]
    refine do_ rfl (.int .i64 0) (ex_move _) ?_
    simp only [Act.put, List.setIfInBounds_toArray, List.set_cons_succ, List.set_cons_zero]
    refine do_ rfl (.bool true) (ex_eql (b := true) rfl rfl (by decide)) ?_
    simp only [Act.put, List.setIfInBounds_toArray, List.set_cons_succ, List.set_cons_zero]
    refine do_ rfl (.bool true) (ex_pick (b := true) rfl) ?_
    simp only [Act.put, List.setIfInBounds_toArray, List.set_cons_succ, List.set_cons_zero]
    refine do_ rfl (.bool true) (ex_move _) ?_
    simp only [Act.put, List.setIfInBounds_toArray, List.set_cons_succ, List.set_cons_zero]
    refine do_ rfl (.int .i64 0) (ex_move _) ?_
    simp only [Act.put, List.setIfInBounds_toArray, List.set_cons_succ, List.set_cons_zero]
    refine do_ rfl (.bool true) (ex_eql (b := true) rfl rfl (by decide)) ?_
    simp only [Act.put, List.setIfInBounds_toArray, List.set_cons_succ, List.set_cons_zero]
    refine do_ rfl (.bool true) (ex_pick (b := true) rfl) ?_
    simp only [Act.put, List.setIfInBounds_toArray, List.set_cons_succ, List.set_cons_zero]
    refine do_ rfl (.bool true) (ex_move _) ?_
    simp only [Act.put, List.setIfInBounds_toArray, List.set_cons_succ, List.set_cons_zero]
    refine do_ rfl (.pointer (some ⟨n47, 0, none⟩)) (ex_field (q := ⟨n47, 0, none⟩) rfl (fa_53_0 _ _)) ?_
    simp only [Act.put, List.setIfInBounds_toArray, List.set_cons_succ, List.set_cons_zero]
    refine do_ rfl (.bool false) (ex_load rfl (load1 (nagg_4 _) (St.cell S98 (i := 1) rfl rfl))) ?_
    simp only [Act.put, List.setIfInBounds_toArray, List.set_cons_succ, List.set_cons_zero]
    refine do_ rfl (.bool true) (ex_not (b := false) rfl rfl) ?_
    simp only [Act.put, List.setIfInBounds_toArray, List.set_cons_succ, List.set_cons_zero]
    refine do_ rfl (.bool true) (ex_pick (b := true) rfl) ?_
    simp only [Act.put, List.setIfInBounds_toArray, List.set_cons_succ, List.set_cons_zero]
    refine do_ rfl (.bool true) (ex_move _) ?_
    simp only [Act.put, List.setIfInBounds_toArray, List.set_cons_succ, List.set_cons_zero]
    refine do_ rfl (.slice a79 (delT (putT (delT (pairsN l0 30) (keyL l1)) (keyL l1) (l2.take 32)) (keyL l1)).length c80) (ex_move _) ?_
    simp only [Act.put, List.setIfInBounds_toArray, List.set_cons_succ, List.set_cons_zero]
    refine do_ rfl (.slice a32 (delT (pairsN l0 30) (keyL l1)).length c33) (ex_move _) ?_
    simp only [Act.put, List.setIfInBounds_toArray, List.set_cons_succ, List.set_cons_zero]
    refine stTells (v := (.bool true)) S98 rfl (ex_fn (vs := #[(.slice a79 (delT (putT (delT (pairsN l0 30) (keyL l1)) (keyL l1) (l2.take 32)) (keyL l1)).length c80), (.slice a32 (delT (pairsN l0 30) (keyL l1)).length c33)]) (map2 rfl rfl) rfl (ent_50 _ _)) (tells_bool (samePairs_spec _ _ _ _ (delT (putT (delT (pairsN l0 30) (keyL l1)) (keyL l1) (l2.take 32)) (keyL l1)) (delT (pairsN l0 30) (keyL l1)) (S98).sat (r81.mono le88) (r34.mono ((((le41.trans le56).trans le64).trans le76).trans le88)) (by have := TreeOk.len (show TreeOk 31 (delT (putT (delT (pairsN l0 30) (keyL l1)) (keyL l1) (l2.take 32)) (keyL l1)) from (show TreeOk 31 (putT (delT (pairsN l0 30) (keyL l1)) (keyL l1) (l2.take 32)) from (put_ok (show TreeOk 30 (delT (pairsN l0 30) (keyL l1)) from (show TreeOk 30 (pairsN l0 30) from pairsN_ok l0 30).del) (by omega) (p := ((keyL l1), (l2.take 32))) ⟨(keyL_len l1).1, (keyL_len l1).2, by simp; omega⟩).2.2).del); omega)) (decide_eq_true (by rw [delT_putT (rise_delT (pairsN_rise l0 30) _)]; exact delT_none (rise_delT (pairsN_rise l0 30) _) (by rw [getT_delT (pairsN_rise l0 30), if_pos rfl])))) (fun w104 S105 => ?_)
    simp only [Act.put, List.setIfInBounds_toArray, List.set_cons_succ, List.set_cons_zero]
    have S105 : St W (whole W) w104 F87 [⟨n94, [(.bool (getT (pairsN l0 30) (keyL l1)).isSome), (.slice a91 ((getT (pairsN l0 30) (keyL l1)).getD []).length c92)], 53⟩, ⟨n47, [(.bool false), (.slice a44 ([] : By).length c45)], 53⟩] [] := S105
    refine do_ rfl (.bool true) (ex_pick (b := true) rfl) ?_
    simp only [Act.put, List.setIfInBounds_toArray, List.set_cons_succ, List.set_cons_zero]
    refine do_ rfl (.bool true) (ex_move _) ?_
    simp only [Act.put, List.setIfInBounds_toArray, List.set_cons_succ, List.set_cons_zero]
    refine do_ rfl (.slice a32 (delT (pairsN l0 30) (keyL l1)).length c33) (ex_move _) ?_
    simp only [Act.put, List.setIfInBounds_toArray, List.set_cons_succ, List.set_cons_zero]
    refine do_ rfl (.int .i64 (((delT (pairsN l0 30) (keyL l1)).length : Nat) : Int)) (ex_len Try.underlying44 rfl) ?_
    simp only [Act.put, List.setIfInBounds_toArray, List.set_cons_succ, List.set_cons_zero]
    refine do_ rfl (.int .i64 ((((pairsN l0 30).length - 1) : Nat) : Int)) (ex_move _) ?_
    simp only [Act.put, List.setIfInBounds_toArray, List.set_cons_succ, List.set_cons_zero]
    refine do_ rfl (.bool true) (ex_eql (m := (((delT (pairsN l0 30) (keyL l1)).length : Nat) : Int)) (n := ((((pairsN l0 30).length - 1) : Nat) : Int)) (b := true) rfl rfl (beq_iff_eq.2 (by omega))) ?_
    simp only [Act.put, List.setIfInBounds_toArray, List.set_cons_succ, List.set_cons_zero]
    refine do_ rfl (.bool true) (ex_pick (b := true) rfl) ?_
    simp only [Act.put, List.setIfInBounds_toArray, List.set_cons_succ, List.set_cons_zero]
    refine do_ rfl (.bool true) (ex_move _) ?_
    simp only [Act.put, List.setIfInBounds_toArray, List.set_cons_succ, List.set_cons_zero]
    refine do_ rfl (.slice a67 (putT (delT (pairsN l0 30) (keyL l1)) (keyL l1) (l2.take 32)).length c68) (ex_move _) ?_
    simp only [Act.put, List.setIfInBounds_toArray, List.set_cons_succ, List.set_cons_zero]
    refine do_ rfl (.int .i64 (((putT (delT (pairsN l0 30) (keyL l1)) (keyL l1) (l2.take 32)).length : Nat) : Int)) (ex_len Try.underlying44 rfl) ?_
    simp only [Act.put, List.setIfInBounds_toArray, List.set_cons_succ, List.set_cons_zero]
    refine do_ rfl (.int .i64 ((((pairsN l0 30).length - 1) : Nat) : Int)) (ex_move _) ?_
    simp only [Act.put, List.setIfInBounds_toArray, List.set_cons_succ, List.set_cons_zero]
    refine do_ rfl (.int .i64 (((((pairsN l0 30).length - 1) + 1) : Nat) : Int)) (ex_add (m := ((((pairsN l0 30).length - 1) : Nat) : Int)) (n := (1 : Int)) (r := (((((pairsN l0 30).length - 1) + 1) : Nat) : Int)) rfl rfl (by omega) (by omega) (by omega)) ?_
    simp only [Act.put, List.setIfInBounds_toArray, List.set_cons_succ, List.set_cons_zero]
    refine do_ rfl (.bool true) (ex_eql (m := (((putT (delT (pairsN l0 30) (keyL l1)) (keyL l1) (l2.take 32)).length : Nat) : Int)) (n := (((((pairsN l0 30).length - 1) + 1) : Nat) : Int)) (b := true) rfl rfl (beq_iff_eq.2 (by omega))) ?_
    simp only [Act.put, List.setIfInBounds_toArray, List.set_cons_succ, List.set_cons_zero]
    refine do_ rfl (.bool true) (ex_pick (b := true) rfl) ?_
    simp only [Act.put, List.setIfInBounds_toArray, List.set_cons_succ, List.set_cons_zero]
    refine do_ rfl (.bool true) (ex_assign _) ?_
    simp only [Act.put, List.setIfInBounds_toArray, List.set_cons_succ, List.set_cons_zero]
    refine wl_nil ?_
    (try simp only [Exit.then, Exit.inBlock, ↓reduceIte, Nat.reduceEqDiff])
    refine hK103 _ _ ?_
    refine wp_ret ?_
    (try simp only [Exit.then, Exit.inBlock, ↓reduceIte, Nat.reduceEqDiff])
    refine bodyPost_ret (v := (.bool true)) ?_ rfl ?_
    · exact res_t rfl rfl
    · exact ⟨rfl, S105.gr.below⟩
  · refine wp_skip ?_
    (try simp only [Exit.then, Exit.inBlock, ↓reduceIte, Nat.reduceEqDiff])
    refine hK100 _ _ ?_
    refine wp_seq_k (fun K106 hK106 => ?_)
    have hh : hasT (pairsN l0 30) (keyL l1) = false := by rw [hasT_getT]; exact hc102
    have hl1 : (delT (pairsN l0 30) (keyL l1)).length = (pairsN l0 30).length := by rw [len_delT (pairsN_rise l0 30), hh]; simp
    have hl2 : (putT (delT (pairsN l0 30) (keyL l1)) (keyL l1) (l2.take 32)).length = (pairsN l0 30).length + 1 := by rw [len_putT, hasT_getT, getT_delT (pairsN_rise l0 30), if_pos rfl, hl1]; simp
    refine region_wl ?_
    refine do_ rfl (.int .i64 0) (ex_move _) ?_
    simp only [Act.put, List.setIfInBounds_toArray, List.set_cons_succ, List.set_cons_zero]
    refine do_ rfl (.bool true) (ex_eql (b := true) rfl rfl (by decide)) ?_
    simp only [Act.put, List.setIfInBounds_toArray, List.set_cons_succ, List.set_cons_zero]
    refine do_ rfl (.bool true) (ex_move _) ?_
    simp only [Act.put, List.setIfInBounds_toArray, List.set_cons_succ, List.set_cons_zero]
    refine do_ rfl (.int .i64 0) (ex_move _) ?_
    simp only [Act.put, List.setIfInBounds_toArray, List.set_cons_succ, List.set_cons_zero]
    refine do_ rfl (.bool true) (ex_eql (b := true) rfl rfl (by decide)) ?_
    simp only [Act.put, List.setIfInBounds_toArray, List.set_cons_succ, List.set_cons_zero]
    refine do_ rfl (.bool true) (ex_pick (b := true) rfl) ?_
    simp only [Act.put, List.setIfInBounds_toArray, List.set_cons_succ, List.set_cons_zero]
    refine do_ rfl (.bool true) (ex_move _) ?_
    simp only [Act.put, List.setIfInBounds_toArray, List.set_cons_succ, List.set_cons_zero]
    refine do_ rfl (.int .i64 0) (ex_move _) ?_
    simp only [Act.put, List.setIfInBounds_toArray, List.set_cons_succ, List.set_cons_zero]
    refine do_ rfl (.bool true) (ex_eql (b := true) rfl rfl (by decide)) ?_
    simp only [Act.put, List.setIfInBounds_toArray, List.set_cons_succ, List.set_cons_zero]
    refine do_ rfl (.bool true) (ex_pick (b := true) rfl) ?_
    simp only [Act.put, List.setIfInBounds_toArray, List.set_cons_succ, List.set_cons_zero]
    refine do_ rfl (.bool true) (ex_move _) ?_
    simp only [Act.put, List.setIfInBounds_toArray, List.set_cons_succ, List.set_cons_zero]
    refine do_ rfl (.int .i64 0) (ex_move _) ?_
    simp only [Act.put, List.setIfInBounds_toArray, List.set_cons_succ, List.set_cons_zero]
    refine do_ rfl (.bool true) (ex_eql (b := true) rfl rfl (by decide)) ?_
    simp only [Act.put, List.setIfInBounds_toArray, List.set_cons_succ, List.set_cons_zero]
    refine do_ rfl (.bool true) (ex_pick (b := true) rfl) ?_
    simp only [Act.put, List.setIfInBounds_toArray, List.set_cons_succ, List.set_cons_zero]
    refine do_ rfl (.bool true) (ex_move _) ?_
    simp only [Act.put, List.setIfInBounds_toArray, List.set_cons_succ, List.set_cons_zero]
    refine do_ rfl (.int .i64 0) (ex_move _) ?_
    simp only [Act.put, List.setIfInBounds_toArray, List.set_cons_succ, List.set_cons_zero]
    refine do_ rfl (.bool true) (ex_eql (b := true) rfl rfl (by decide)) ?_
    simp only [Act.put, List.setIfInBounds_toArray, List.set_cons_succ, List.set_cons_zero]
    refine do_ rfl (.bool true) (ex_pick (b := true) rfl) ?_
    simp only [Act.put, List.setIfInBounds_toArray, List.set_cons_succ, List.set_cons_zero]
    refine do_ rfl (.bool true) (ex_move _) ?_
    simp only [Act.put, List.setIfInBounds_toArray, List.set_cons_succ, List.set_cons_zero]
    refine do_ rfl (.pointer (some ⟨n47, 0, none⟩)) (ex_field (q := ⟨n47, 0, none⟩) rfl (fa_53_0 _ _)) ?_
    simp only [Act.put, List.setIfInBounds_toArray, List.set_cons_succ, List.set_cons_zero]
    refine do_ rfl (.bool false) (ex_load rfl (load1 (nagg_4 _) (St.cell S98 (i := 1) rfl rfl))) ?_
    simp only [Act.put, List.setIfInBounds_toArray, List.set_cons_succ, List.set_cons_zero]
    refine do_ rfl (.bool true) (ex_not (b := false) rfl rfl) ?_
    simp only [Act.put, List.setIfInBounds_toArray, List.set_cons_succ, List.set_cons_zero]
    refine do_ rfl (.bool true) (ex_pick (b := true) rfl) ?_
    simp only [Act.put, List.setIfInBounds_toArray, List.set_cons_succ, List.set_cons_zero]
    refine do_ rfl (.bool true) (ex_move _) ?_
    simp only [Act.put, List.setIfInBounds_toArray, List.set_cons_succ, List.set_cons_zero]
    refine do_ rfl (.slice a79 (delT (putT (delT (pairsN l0 30) (keyL l1)) (keyL l1) (l2.take 32)) (keyL l1)).length c80) (ex_move _) ?_
    simp only [Act.put, List.setIfInBounds_toArray, List.set_cons_succ, List.set_cons_zero]
    refine do_ rfl (.slice a32 (delT (pairsN l0 30) (keyL l1)).length c33) (ex_move _) ?_
    simp only [Act.put, List.setIfInBounds_toArray, List.set_cons_succ, List.set_cons_zero]
    refine stTells (v := (.bool true)) S98 rfl (ex_fn (vs := #[(.slice a79 (delT (putT (delT (pairsN l0 30) (keyL l1)) (keyL l1) (l2.take 32)) (keyL l1)).length c80), (.slice a32 (delT (pairsN l0 30) (keyL l1)).length c33)]) (map2 rfl rfl) rfl (ent_50 _ _)) (tells_bool (samePairs_spec _ _ _ _ (delT (putT (delT (pairsN l0 30) (keyL l1)) (keyL l1) (l2.take 32)) (keyL l1)) (delT (pairsN l0 30) (keyL l1)) (S98).sat (r81.mono le88) (r34.mono ((((le41.trans le56).trans le64).trans le76).trans le88)) (by have := TreeOk.len (show TreeOk 31 (delT (putT (delT (pairsN l0 30) (keyL l1)) (keyL l1) (l2.take 32)) (keyL l1)) from (show TreeOk 31 (putT (delT (pairsN l0 30) (keyL l1)) (keyL l1) (l2.take 32)) from (put_ok (show TreeOk 30 (delT (pairsN l0 30) (keyL l1)) from (show TreeOk 30 (pairsN l0 30) from pairsN_ok l0 30).del) (by omega) (p := ((keyL l1), (l2.take 32))) ⟨(keyL_len l1).1, (keyL_len l1).2, by simp; omega⟩).2.2).del); omega)) (decide_eq_true (by rw [delT_putT (rise_delT (pairsN_rise l0 30) _)]; exact delT_none (rise_delT (pairsN_rise l0 30) _) (by rw [getT_delT (pairsN_rise l0 30), if_pos rfl])))) (fun w107 S108 => ?_)
    simp only [Act.put, List.setIfInBounds_toArray, List.set_cons_succ, List.set_cons_zero]
    have S108 : St W (whole W) w107 F87 [⟨n94, [(.bool (getT (pairsN l0 30) (keyL l1)).isSome), (.slice a91 ((getT (pairsN l0 30) (keyL l1)).getD []).length c92)], 53⟩, ⟨n47, [(.bool false), (.slice a44 ([] : By).length c45)], 53⟩] [] := S108
    refine do_ rfl (.bool true) (ex_pick (b := true) rfl) ?_
    simp only [Act.put, List.setIfInBounds_toArray, List.set_cons_succ, List.set_cons_zero]
    refine do_ rfl (.bool true) (ex_move _) ?_
    simp only [Act.put, List.setIfInBounds_toArray, List.set_cons_succ, List.set_cons_zero]
    refine do_ rfl (.slice a32 (delT (pairsN l0 30) (keyL l1)).length c33) (ex_move _) ?_
    simp only [Act.put, List.setIfInBounds_toArray, List.set_cons_succ, List.set_cons_zero]
    refine do_ rfl (.int .i64 (((delT (pairsN l0 30) (keyL l1)).length : Nat) : Int)) (ex_len Try.underlying44 rfl) ?_
    simp only [Act.put, List.setIfInBounds_toArray, List.set_cons_succ, List.set_cons_zero]
    refine do_ rfl (.int .i64 (((pairsN l0 30).length : Nat) : Int)) (ex_move _) ?_
    simp only [Act.put, List.setIfInBounds_toArray, List.set_cons_succ, List.set_cons_zero]
    refine do_ rfl (.bool true) (ex_eql (m := (((delT (pairsN l0 30) (keyL l1)).length : Nat) : Int)) (n := (((pairsN l0 30).length : Nat) : Int)) (b := true) rfl rfl (beq_iff_eq.2 (by omega))) ?_
    simp only [Act.put, List.setIfInBounds_toArray, List.set_cons_succ, List.set_cons_zero]
    refine do_ rfl (.bool true) (ex_pick (b := true) rfl) ?_
    simp only [Act.put, List.setIfInBounds_toArray, List.set_cons_succ, List.set_cons_zero]
    refine do_ rfl (.bool true) (ex_move _) ?_
    simp only [Act.put, List.setIfInBounds_toArray, List.set_cons_succ, List.set_cons_zero]
    refine do_ rfl (.slice a67 (putT (delT (pairsN l0 30) (keyL l1)) (keyL l1) (l2.take 32)).length c68) (ex_move _) ?_
    simp only [Act.put, List.setIfInBounds_toArray, List.set_cons_succ, List.set_cons_zero]
    refine do_ rfl (.int .i64 (((putT (delT (pairsN l0 30) (keyL l1)) (keyL l1) (l2.take 32)).length : Nat) : Int)) (ex_len Try.underlying44 rfl) ?_
    simp only [Act.put, List.setIfInBounds_toArray, List.set_cons_succ, List.set_cons_zero]
    refine do_ rfl (.int .i64 (((pairsN l0 30).length : Nat) : Int)) (ex_move _) ?_
    simp only [Act.put, List.setIfInBounds_toArray, List.set_cons_succ, List.set_cons_zero]
    refine do_ rfl (.int .i64 ((((pairsN l0 30).length + 1) : Nat) : Int)) (ex_add (m := (((pairsN l0 30).length : Nat) : Int)) (n := (1 : Int)) (r := ((((pairsN l0 30).length + 1) : Nat) : Int)) rfl rfl (by omega) (by omega) (by omega)) ?_
    simp only [Act.put, List.setIfInBounds_toArray, List.set_cons_succ, List.set_cons_zero]
    refine do_ rfl (.bool true) (ex_eql (m := (((putT (delT (pairsN l0 30) (keyL l1)) (keyL l1) (l2.take 32)).length : Nat) : Int)) (n := ((((pairsN l0 30).length + 1) : Nat) : Int)) (b := true) rfl rfl (beq_iff_eq.2 (by omega))) ?_
    simp only [Act.put, List.setIfInBounds_toArray, List.set_cons_succ, List.set_cons_zero]
    refine do_ rfl (.bool true) (ex_pick (b := true) rfl) ?_
    simp only [Act.put, List.setIfInBounds_toArray, List.set_cons_succ, List.set_cons_zero]
    refine do_ rfl (.bool true) (ex_assign _) ?_
    simp only [Act.put, List.setIfInBounds_toArray, List.set_cons_succ, List.set_cons_zero]
    refine wl_nil ?_
    (try simp only [Exit.then, Exit.inBlock, ↓reduceIte, Nat.reduceEqDiff])
    refine hK106 _ _ ?_
    refine wp_ret ?_
    (try simp only [Exit.then, Exit.inBlock, ↓reduceIte, Nat.reduceEqDiff])
    refine bodyPost_ret (v := (.bool true)) ?_ rfl ?_
    · exact res_t rfl rfl
    · exact ⟨rfl, S108.gr.below⟩
end Go.Proofs.Yteefnnnbbmbmcaa
