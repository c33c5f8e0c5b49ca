/- Walk of PutGet -/
import Derived.Test.YteefnnnbbmbmcaaK3
namespace Go.Proofs.Yteefnnnbbmbmcaa
open Go.RowKit
set_option maxRecDepth 100000
set_option linter.unusedVariables false
set_option linter.unusedSimpArgs false
set_option maxHeartbeats 8000000 in
theorem putGet_walk (W : World) (v0 : Value) (l0 : List Pr) (z0 : Prs (whole W) v0 l0) (v1 : Value) (l1 : By) (z1 : Bs (whole W) v1 l1) (v2 : Value) (l2 : By) (z2 : Bs (whole W) v2 l2) (v3 : Value) (l3 : By) (z3 : Bs (whole W) v3 l3) :
    Calls Try.prog 14 #[v0, v1, v2, v3] W (Tells W (.bool true)) := by
  obtain ⟨a0, c0, rfl, q0, q0'⟩ := Sl.shape z0
  obtain ⟨a1, c1, rfl, _⟩ := z1.shape
  obtain ⟨a2, c2, rfl, _⟩ := z2.shape
  obtain ⟨a3, c3, rfl, _⟩ := z3.shape
  have S := St.start (Sat.whole W)
  go_enter Try.func14, Try.ntmps14
  refine wp_seq_k (fun K1 hK1 => ?_)
  refine region_wl ?_
  refine do_ rfl (.bool false) (ex_assign _) ?_
  simp only [Act.put, List.setIfInBounds_toArray, List.set_cons_succ, List.set_cons_zero]
  refine wl_nil ?_
  (try simp only [Exit.then, Exit.inBlock, ↓reduceIte, Nat.reduceEqDiff])
  refine hK1 _ _ ?_
  refine wp_seq_k (fun K2 hK2 => ?_)
  refine region_wl ?_
  refine do_ rfl (.slice a0 l0.length c0) (ex_move _) ?_
  simp only [Act.put, List.setIfInBounds_toArray, List.set_cons_succ, List.set_cons_zero]
  refine stGivesO PrC.mono S rfl (ex_fn (vs := #[(.slice a0 l0.length c0), (.int .i64 30)]) (map2 rfl rfl) rfl (ent_48 _ _)) (pairs_spec _ _ _ l0 30 (S).sat z0 (by omega)) ?_
  intro v7 w3 F5 S4 le6
  simp only [Act.put, List.setIfInBounds_toArray, List.set_cons_succ, List.set_cons_zero]
  have S4 : St W (whole W) w3 F5 [] [ownP 2 PrC PrC.mono 49 W.heap.size v7 (pairsN l0 30)] := S4
  obtain ⟨F8, S9, le10, hv11⟩ := St.freeze S4 (i := 0) rfl (Nat.le_refl _)
  have S9 : St W (whole W) w3 F8 [] [] := S9
  have hv11 : Prs _ v7 (pairsN l0 30) := hv11
  obtain ⟨a12, c13, rfl, h14, h15⟩ := Sl.shape hv11
  unfold maxLen at h15
  refine do_ rfl (.slice a12 (pairsN l0 30).length c13) (ex_assign _) ?_
  simp only [Act.put, List.setIfInBounds_toArray, List.set_cons_succ, List.set_cons_zero]
  refine wl_nil ?_
  (try simp only [Exit.then, Exit.inBlock, ↓reduceIte, Nat.reduceEqDiff])
  refine hK2 _ _ ?_
  refine wp_seq_k (fun K16 hK16 => ?_)
  refine region_wl ?_
  refine do_ rfl (.slice a1 l1.length c1) (ex_move _) ?_
  simp only [Act.put, List.setIfInBounds_toArray, List.set_cons_succ, List.set_cons_zero]
  refine stGives S9 rfl (ex_fn (vs := #[(.slice a1 l1.length c1)]) (map1 rfl) rfl (ent_44 _ _)) (key_spec _ _ _ l1 (S9).sat (z1.mono (le6.trans le10))) ?_
  intro v22 w17 F19 S18 le20 R21
  obtain ⟨xa23, xc24, rfl, _⟩ := R21.shape
  simp only [Act.put, List.setIfInBounds_toArray, List.set_cons_succ, List.set_cons_zero]
  have S18 : St W (whole W) w17 F19 [] [] := S18
  refine do_ rfl (.slice xa23 (keyL l1).length xc24) (ex_assign _) ?_
  simp only [Act.put, List.setIfInBounds_toArray, List.set_cons_succ, List.set_cons_zero]
  refine wl_nil ?_
  (try simp only [Exit.then, Exit.inBlock, ↓reduceIte, Nat.reduceEqDiff])
  refine hK16 _ _ ?_
  refine wp_seq_k (fun K25 hK25 => ?_)
  refine region_wl ?_
  refine do_ rfl (.slice a3 l3.length c3) (ex_move _) ?_
  simp only [Act.put, List.setIfInBounds_toArray, List.set_cons_succ, List.set_cons_zero]
  refine stGives S18 rfl (ex_fn (vs := #[(.slice a3 l3.length c3)]) (map1 rfl) rfl (ent_44 _ _)) (key_spec _ _ _ l3 (S18).sat (z3.mono ((le6.trans le10).trans le20))) ?_
  intro v31 w26 F28 S27 le29 R30
  obtain ⟨xa32, xc33, rfl, _⟩ := R30.shape
  simp only [Act.put, List.setIfInBounds_toArray, List.set_cons_succ, List.set_cons_zero]
  have S27 : St W (whole W) w26 F28 [] [] := S27
  refine do_ rfl (.slice xa32 (keyL l3).length xc33) (ex_assign _) ?_
  simp only [Act.put, List.setIfInBounds_toArray, List.set_cons_succ, List.set_cons_zero]
  refine wl_nil ?_
  (try simp only [Exit.then, Exit.inBlock, ↓reduceIte, Nat.reduceEqDiff])
  refine hK25 _ _ ?_
  refine wp_seq_k (fun K34 hK34 => ?_)
  refine region_wl ?_
  refine do_ rfl (.slice a12 (pairsN l0 30).length c13) (ex_move _) ?_
  simp only [Act.put, List.setIfInBounds_toArray, List.set_cons_succ, List.set_cons_zero]
  refine do_ rfl (.slice xa23 (keyL l1).length xc24) (ex_move _) ?_
  simp only [Act.put, List.setIfInBounds_toArray, List.set_cons_succ, List.set_cons_zero]
  refine do_ rfl (.slice a2 l2.length c2) (ex_move _) ?_
  simp only [Act.put, List.setIfInBounds_toArray, List.set_cons_succ, List.set_cons_zero]
  refine stGives S27 rfl (ex_fn (vs := #[(.slice a2 l2.length c2), (.int .i64 32)]) (map2 rfl rfl) rfl (ent_52 _ _)) (some_spec _ _ _ l2 32 (S27).sat (z2.mono (((le6.trans le10).trans le20).trans le29)) (by omega) (by omega)) ?_
  intro v40 w35 F37 S36 le38 R39
  obtain ⟨xa41, xc42, rfl, _⟩ := R39.shape
  simp only [Act.put, List.setIfInBounds_toArray, List.set_cons_succ, List.set_cons_zero]
  have S36 : St W (whole W) w35 F37 [] [] := S36
  refine do_ rfl (.agg #[(.slice xa23 (keyL l1).length xc24), (.slice xa41 (l2.take 32).length xc42)]) (ex_build (ps := #[(0, (.slice xa23 (keyL l1).length xc24)), (1, (.slice xa41 (l2.take 32).length xc42))]) (bmap2 rfl rfl) (by kernel_rfl)) ?_
  simp only [Act.put, List.setIfInBounds_toArray, List.set_cons_succ, List.set_cons_zero]
  refine stGives S36 rfl (ex_fn (vs := #[(.slice a12 (pairsN l0 30).length c13), (.agg #[(.slice xa23 (keyL l1).length xc24), (.slice xa41 (l2.take 32).length xc42)])]) (map2 rfl rfl) rfl (ent_53 _ _)) (putOk_spec _ _ _ _ (pairsN l0 30) ((keyL l1), (l2.take 32)) (S36).sat (hv11.mono ((le20.trans le29).trans le38)) ⟨_, _, _, _, rfl, (R21.mono (le29.trans le38)), R39⟩ (pairsN_ok l0 30) (by omega) ⟨(keyL_len l1).1, (keyL_len l1).2, by simp; omega⟩) ?_
  intro v48 w43 F45 S44 le46 R47
  obtain ⟨_, rfl, r51⟩ := R47
  obtain ⟨a49, c50, rfl, h52, h53⟩ := Sl.shape r51
  unfold maxLen at h53
  simp only [Act.put, List.setIfInBounds_toArray, List.set_cons_succ, List.set_cons_zero]
  have S44 : St W (whole W) w43 F45 [] [] := S44
  refine do_ rfl (.tuple #[(.slice a49 (putT (pairsN l0 30) (keyL l1) (l2.take 32)).length c50), (.int .i64 0)]) (ex_move _) ?_
  simp only [Act.put, List.setIfInBounds_toArray, List.set_cons_succ, List.set_cons_zero]
  refine do_ rfl (.slice a49 (putT (pairsN l0 30) (keyL l1) (l2.take 32)).length c50) (ex_extract rfl rfl) ?_
  simp only [Act.put, List.setIfInBounds_toArray, List.set_cons_succ, List.set_cons_zero]
  refine do_ rfl (.int .i64 0) (ex_extract rfl rfl) ?_
  simp only [Act.put, List.setIfInBounds_toArray, List.set_cons_succ, List.set_cons_zero]
  refine do_ rfl (.slice a49 (putT (pairsN l0 30) (keyL l1) (l2.take 32)).length c50) (ex_assign _) ?_
  simp only [Act.put, List.setIfInBounds_toArray, List.set_cons_succ, List.set_cons_zero]
  refine do_ rfl (.int .i64 0) (ex_assign _) ?_
  simp only [Act.put, List.setIfInBounds_toArray, List.set_cons_succ, List.set_cons_zero]
  refine wl_nil ?_
  (try simp only [Exit.then, Exit.inBlock, ↓reduceIte, Nat.reduceEqDiff])
  refine hK34 _ _ ?_
  refine wp_seq_k (fun K54 hK54 => ?_)
  refine region_wl ?_
  refine do_ rfl (.slice a49 (putT (pairsN l0 30) (keyL l1) (l2.take 32)).length c50) (ex_move _) ?_
  simp only [Act.put, List.setIfInBounds_toArray, List.set_cons_succ, List.set_cons_zero]
  refine do_ rfl (.slice xa23 (keyL l1).length xc24) (ex_move _) ?_
  simp only [Act.put, List.setIfInBounds_toArray, List.set_cons_succ, List.set_cons_zero]
  refine stGives S44 rfl (ex_fn (vs := #[(.slice a49 (putT (pairsN l0 30) (keyL l1) (l2.take 32)).length c50), (.slice xa23 (keyL l1).length xc24)]) (map2 rfl rfl) rfl (ent_51 _ _)) (getIs_spec _ _ _ _ (putT (pairsN l0 30) (keyL l1) (l2.take 32)) (keyL l1) (S44).sat r51 (R21.mono ((le29.trans le38).trans le46)) (TreeOk.mono ((put_ok (pairsN_ok l0 30) (by omega) (p := ((keyL l1), (l2.take 32))) ⟨(keyL_len l1).1, (keyL_len l1).2, by simp; omega⟩).2.2) (by omega)) (keyL_len l1) (by rw [getT_putT (pairsN_rise l0 30) (keyL l1) (l2.take 32), if_pos rfl])) ?_
  intro v60 w55 F57 S56 le58 R59
  obtain ⟨_, rfl, a61, c62, rfl, r63⟩ := R59
  have r63 : Bs _ (.slice a61 (l2.take 32).length c62) (l2.take 32) := r63
  simp only [Act.put, List.setIfInBounds_toArray, List.set_cons_succ, List.set_cons_zero]
  have S56 : St W (whole W) w55 F57 [] [] := S56
  refine do_ rfl (.tuple #[(.agg #[(.bool true), (.slice a61 (l2.take 32).length c62)]), (.int .i64 0)]) (ex_move _) ?_
  simp only [Act.put, List.setIfInBounds_toArray, List.set_cons_succ, List.set_cons_zero]
  refine do_ rfl (.agg #[(.bool true), (.slice a61 (l2.take 32).length c62)]) (ex_extract rfl rfl) ?_
  simp only [Act.put, List.setIfInBounds_toArray, List.set_cons_succ, List.set_cons_zero]
  refine do_ rfl (.int .i64 0) (ex_extract rfl rfl) ?_
  simp only [Act.put, List.setIfInBounds_toArray, List.set_cons_succ, List.set_cons_zero]
  refine stNew S56 (v := fun n => .pointer (some ⟨n, 0, none⟩)) rfl (ex_alloc (zero_53 _)) (fun n64 w65 S66 => ?_)
  simp only [Act.put, List.setIfInBounds_toArray, List.set_cons_succ, List.set_cons_zero]
  have S66 : St W (whole W) w65 F57 [⟨n64, [(.bool false), (.slice none 0 0)], 53⟩] [] := S66
  refine stStore (i := 0) (v := (.agg #[(.bool true), (.slice a61 (l2.take 32).length c62)])) S66 rfl rfl rfl rfl (size_53) (allc2 rfl rfl) (Nat.le_of_ble_eq_true rfl) (fun w67 S68 => ?_)
  simp only [Act.put, List.setIfInBounds_toArray, List.set_cons_succ, List.set_cons_zero]
  have S68 : St W (whole W) w67 F57 [⟨n64, [(.bool true), (.slice a61 (l2.take 32).length c62)], 53⟩] [] := S68
  refine do_ rfl (.int .i64 0) (ex_assign _) ?_
  simp only [Act.put, List.setIfInBounds_toArray, List.set_cons_succ, List.set_cons_zero]
  refine wl_nil ?_
  (try simp only [Exit.then, Exit.inBlock, ↓reduceIte, Nat.reduceEqDiff])
  refine hK54 _ _ ?_
  refine wp_seq_k (fun K69 hK69 => ?_)
  refine region_wl ?_
  refine do_ rfl (.slice a49 (putT (pairsN l0 30) (keyL l1) (l2.take 32)).length c50) (ex_move _) ?_
  simp only [Act.put, List.setIfInBounds_toArray, List.set_cons_succ, List.set_cons_zero]
  refine do_ rfl (.slice xa32 (keyL l3).length xc33) (ex_move _) ?_
  simp only [Act.put, List.setIfInBounds_toArray, List.set_cons_succ, List.set_cons_zero]
  refine stGives S68 rfl (ex_fn (vs := #[(.slice a49 (putT (pairsN l0 30) (keyL l1) (l2.take 32)).length c50), (.slice xa32 (keyL l3).length xc33)]) (map2 rfl rfl) rfl (ent_51 _ _)) (getIs_spec _ _ _ _ (putT (pairsN l0 30) (keyL l1) (l2.take 32)) (keyL l3) (S68).sat (r51.mono le58) (R30.mono ((le38.trans le46).trans le58)) (TreeOk.mono ((put_ok (pairsN_ok l0 30) (by omega) (p := ((keyL l1), (l2.take 32))) ⟨(keyL_len l1).1, (keyL_len l1).2, by simp; omega⟩).2.2) (by omega)) (keyL_len l3) (rfl)) ?_
  intro v75 w70 F72 S71 le73 R74
  obtain ⟨_, rfl, a76, c77, rfl, r78⟩ := R74
  have r78 : Bs _ (.slice a76 ((getT (putT (pairsN l0 30) (keyL l1) (l2.take 32)) (keyL l3)).getD []).length c77) ((getT (putT (pairsN l0 30) (keyL l1) (l2.take 32)) (keyL l3)).getD []) := r78
  simp only [Act.put, List.setIfInBounds_toArray, List.set_cons_succ, List.set_cons_zero]
  have S71 : St W (whole W) w70 F72 [⟨n64, [(.bool true), (.slice a61 (l2.take 32).length c62)], 53⟩] [] := S71
  refine do_ rfl (.tuple #[(.agg #[(.bool (getT (putT (pairsN l0 30) (keyL l1) (l2.take 32)) (keyL l3)).isSome), (.slice a76 ((getT (putT (pairsN l0 30) (keyL l1) (l2.take 32)) (keyL l3)).getD []).length c77)]), (.int .i64 0)]) (ex_move _) ?_
  simp only [Act.put, List.setIfInBounds_toArray, List.set_cons_succ, List.set_cons_zero]
  refine do_ rfl (.agg #[(.bool (getT (putT (pairsN l0 30) (keyL l1) (l2.take 32)) (keyL l3)).isSome), (.slice a76 ((getT (putT (pairsN l0 30) (keyL l1) (l2.take 32)) (keyL l3)).getD []).length c77)]) (ex_extract rfl rfl) ?_
  simp only [Act.put, List.setIfInBounds_toArray, List.set_cons_succ, List.set_cons_zero]
  refine do_ rfl (.int .i64 0) (ex_extract rfl rfl) ?_
  simp only [Act.put, List.setIfInBounds_toArray, List.set_cons_succ, List.set_cons_zero]
  refine stNew S71 (v := fun n => .pointer (some ⟨n, 0, none⟩)) rfl (ex_alloc (zero_53 _)) (fun n79 w80 S81 => ?_)
  simp only [Act.put, List.setIfInBounds_toArray, List.set_cons_succ, List.set_cons_zero]
  have S81 : St W (whole W) w80 F72 [⟨n79, [(.bool false), (.slice none 0 0)], 53⟩, ⟨n64, [(.bool true), (.slice a61 (l2.take 32).length c62)], 53⟩] [] := S81
  refine stStore (i := 0) (v := (.agg #[(.bool (getT (putT (pairsN l0 30) (keyL l1) (l2.take 32)) (keyL l3)).isSome), (.slice a76 ((getT (putT (pairsN l0 30) (keyL l1) (l2.take 32)) (keyL l3)).getD []).length c77)])) S81 rfl rfl rfl rfl (size_53) (allc2 rfl rfl) (Nat.le_of_ble_eq_true rfl) (fun w82 S83 => ?_)
  simp only [Act.put, List.setIfInBounds_toArray, List.set_cons_succ, List.set_cons_zero]
  have S83 : St W (whole W) w82 F72 [⟨n79, [(.bool (getT (putT (pairsN l0 30) (keyL l1) (l2.take 32)) (keyL l3)).isSome), (.slice a76 ((getT (putT (pairsN l0 30) (keyL l1) (l2.take 32)) (keyL l3)).getD []).length c77)], 53⟩, ⟨n64, [(.bool true), (.slice a61 (l2.take 32).length c62)], 53⟩] [] := S83
  refine do_ rfl (.int .i64 0) (ex_assign _) ?_
  simp only [Act.put, List.setIfInBounds_toArray, List.set_cons_succ, List.set_cons_zero]
  refine wl_nil ?_
  (try simp only [Exit.then, Exit.inBlock, ↓reduceIte, Nat.reduceEqDiff])
  refine hK69 _ _ ?_
  refine wp_seq_k (fun K84 hK84 => ?_)
  refine region_wl ?_
  refine do_ rfl (.slice a12 (pairsN l0 30).length c13) (ex_move _) ?_
  simp only [Act.put, List.setIfInBounds_toArray, List.set_cons_succ, List.set_cons_zero]
  refine do_ rfl (.slice xa32 (keyL l3).length xc33) (ex_move _) ?_
  simp only [Act.put, List.setIfInBounds_toArray, List.set_cons_succ, List.set_cons_zero]
  refine stGives S83 rfl (ex_fn (vs := #[(.slice a12 (pairsN l0 30).length c13), (.slice xa32 (keyL l3).length xc33)]) (map2 rfl rfl) rfl (ent_51 _ _)) (getIs_spec _ _ _ _ (pairsN l0 30) (keyL l3) (S83).sat (hv11.mono (((((le20.trans le29).trans le38).trans le46).trans le58).trans le73)) (R30.mono (((le38.trans le46).trans le58).trans le73)) (TreeOk.mono (pairsN_ok l0 30) (by omega)) (keyL_len l3) (rfl)) ?_
  intro v90 w85 F87 S86 le88 R89
  obtain ⟨_, rfl, a91, c92, rfl, r93⟩ := R89
  have r93 : Bs _ (.slice a91 ((getT (pairsN l0 30) (keyL l3)).getD []).length c92) ((getT (pairsN l0 30) (keyL l3)).getD []) := r93
  simp only [Act.put, List.setIfInBounds_toArray, List.set_cons_succ, List.set_cons_zero]
  have S86 : St W (whole W) w85 F87 [⟨n79, [(.bool (getT (putT (pairsN l0 30) (keyL l1) (l2.take 32)) (keyL l3)).isSome), (.slice a76 ((getT (putT (pairsN l0 30) (keyL l1) (l2.take 32)) (keyL l3)).getD []).length c77)], 53⟩, ⟨n64, [(.bool true), (.slice a61 (l2.take 32).length c62)], 53⟩] [] := S86
  refine do_ rfl (.tuple #[(.agg #[(.bool (getT (pairsN l0 30) (keyL l3)).isSome), (.slice a91 ((getT (pairsN l0 30) (keyL l3)).getD []).length c92)]), (.int .i64 0)]) (ex_move _) ?_
  simp only [Act.put, List.setIfInBounds_toArray, List.set_cons_succ, List.set_cons_zero]
  refine do_ rfl (.agg #[(.bool (getT (pairsN l0 30) (keyL l3)).isSome), (.slice a91 ((getT (pairsN l0 30) (keyL l3)).getD []).length c92)]) (ex_extract rfl rfl) ?_
  simp only [Act.put, List.setIfInBounds_toArray, List.set_cons_succ, List.set_cons_zero]
  refine do_ rfl (.int .i64 0) (ex_extract rfl rfl) ?_
  simp only [Act.put, List.setIfInBounds_toArray, List.set_cons_succ, List.set_cons_zero]
  refine stNew S86 (v := fun n => .pointer (some ⟨n, 0, none⟩)) rfl (ex_alloc (zero_53 _)) (fun n94 w95 S96 => ?_)
  simp only [Act.put, List.setIfInBounds_toArray, List.set_cons_succ, List.set_cons_zero]
  have S96 : St W (whole W) w95 F87 [⟨n94, [(.bool false), (.slice none 0 0)], 53⟩, ⟨n79, [(.bool (getT (putT (pairsN l0 30) (keyL l1) (l2.take 32)) (keyL l3)).isSome), (.slice a76 ((getT (putT (pairsN l0 30) (keyL l1) (l2.take 32)) (keyL l3)).getD []).length c77)], 53⟩, ⟨n64, [(.bool true), (.slice a61 (l2.take 32).length c62)], 53⟩] [] := S96
  refine stStore (i := 0) (v := (.agg #[(.bool (getT (pairsN l0 30) (keyL l3)).isSome), (.slice a91 ((getT (pairsN l0 30) (keyL l3)).getD []).length c92)])) S96 rfl rfl rfl rfl (size_53) (allc2 rfl rfl) (Nat.le_of_ble_eq_true rfl) (fun w97 S98 => ?_)
  simp only [Act.put, List.setIfInBounds_toArray, List.set_cons_succ, List.set_cons_zero]
  have S98 : St W (whole W) w97 F87 [⟨n94, [(.bool (getT (pairsN l0 30) (keyL l3)).isSome), (.slice a91 ((getT (pairsN l0 30) (keyL l3)).getD []).length c92)], 53⟩, ⟨n79, [(.bool (getT (putT (pairsN l0 30) (keyL l1) (l2.take 32)) (keyL l3)).isSome), (.slice a76 ((getT (putT (pairsN l0 30) (keyL l1) (l2.take 32)) (keyL l3)).getD []).length c77)], 53⟩, ⟨n64, [(.bool true), (.slice a61 (l2.take 32).length c62)], 53⟩] [] := S98
  refine do_ rfl (.int .i64 0) (ex_assign _) ?_
  simp only [Act.put, List.setIfInBounds_toArray, List.set_cons_succ, List.set_cons_zero]
  refine wl_nil ?_
  (try simp only [Exit.then, Exit.inBlock, ↓reduceIte, Nat.reduceEqDiff])
  refine hK84 _ _ ?_
  refine wp_seq_k (fun K99 hK99 => ?_)
  by_cases heq : (keyL l1) = (keyL l3)
  · refine region_gw F87 40 [(22, .made (fun F' u => Bs F' u (l2.take 32))), (23, .is (.bool true)), (28, .is (.bool true))] (by kernel_rfl) (by kernel_rfl) ?_
    simp only [List.take_succ_cons, List.take_zero]
    refine gw_pure rfl rfl (.int .i64 0) (fun w100 hCw100 => pureAt_of (ex_move _)) ?_
    simp only [Act.put, List.setIfInBounds_toArray, List.set_cons_succ, List.set_cons_zero]
    refine gw_pure rfl rfl (.bool true) (fun w100 hCw100 => pureAt_of (ex_eql (b := true) rfl rfl (by decide))) ?_
    simp only [Act.put, List.setIfInBounds_toArray, List.set_cons_succ, List.set_cons_zero]
    refine gw_pure rfl rfl (.bool true) (fun w100 hCw100 => pureAt_of (ex_move _)) ?_
    simp only [Act.put, List.setIfInBounds_toArray, List.set_cons_succ, List.set_cons_zero]
    refine gw_pure rfl rfl (.int .i64 0) (fun w100 hCw100 => pureAt_of (ex_move _)) ?_
    simp only [Act.put, List.setIfInBounds_toArray, List.set_cons_succ, List.set_cons_zero]
    refine gw_pure rfl rfl (.bool true) (fun w100 hCw100 => pureAt_of (ex_eql (b := true) rfl rfl (by decide))) ?_
    simp only [Act.put, List.setIfInBounds_toArray, List.set_cons_succ, List.set_cons_zero]
    refine gw_pure rfl rfl (.bool true) (fun w100 hCw100 => pureAt_of (ex_pick (b := true) rfl)) ?_
    simp only [Act.put, List.setIfInBounds_toArray, List.set_cons_succ, List.set_cons_zero]
    refine gw_pure rfl rfl (.bool true) (fun w100 hCw100 => pureAt_of (ex_move _)) ?_
    simp only [Act.put, List.setIfInBounds_toArray, List.set_cons_succ, List.set_cons_zero]
    refine gw_pure rfl rfl (.int .i64 0) (fun w100 hCw100 => pureAt_of (ex_move _)) ?_
    simp only [Act.put, List.setIfInBounds_toArray, List.set_cons_succ, List.set_cons_zero]
    refine gw_pure rfl rfl (.bool true) (fun w100 hCw100 => pureAt_of (ex_eql (b := true) rfl rfl (by decide))) ?_
    simp only [Act.put, List.setIfInBounds_toArray, List.set_cons_succ, List.set_cons_zero]
    refine gw_pure rfl rfl (.bool true) (fun w100 hCw100 => pureAt_of (ex_pick (b := true) rfl)) ?_
    simp only [Act.put, List.setIfInBounds_toArray, List.set_cons_succ, List.set_cons_zero]
    refine gw_pure rfl rfl (.bool true) (fun w100 hCw100 => pureAt_of (ex_move _)) ?_
    simp only [Act.put, List.setIfInBounds_toArray, List.set_cons_succ, List.set_cons_zero]
    refine gw_pure rfl rfl (.int .i64 0) (fun w100 hCw100 => pureAt_of (ex_move _)) ?_
    simp only [Act.put, List.setIfInBounds_toArray, List.set_cons_succ, List.set_cons_zero]
    refine gw_pure rfl rfl (.bool true) (fun w100 hCw100 => pureAt_of (ex_eql (b := true) rfl rfl (by decide))) ?_
    simp only [Act.put, List.setIfInBounds_toArray, List.set_cons_succ, List.set_cons_zero]
    refine gw_pure rfl rfl (.bool true) (fun w100 hCw100 => pureAt_of (ex_pick (b := true) rfl)) ?_
    simp only [Act.put, List.setIfInBounds_toArray, List.set_cons_succ, List.set_cons_zero]
    refine gw_pure rfl rfl (.bool true) (fun w100 hCw100 => pureAt_of (ex_move _)) ?_
    simp only [Act.put, List.setIfInBounds_toArray, List.set_cons_succ, List.set_cons_zero]
    refine gw_pure rfl rfl (.pointer (some ⟨n64, 0, none⟩)) (fun w100 hCw100 => pureAt_of (ex_field (q := ⟨n64, 0, none⟩) rfl (fa_53_0 _ _))) ?_
    simp only [Act.put, List.setIfInBounds_toArray, List.set_cons_succ, List.set_cons_zero]
    refine gw_pure rfl rfl (.bool true) (fun w100 hCw100 => pureAt_of (ex_load rfl (load1 (nagg_4 _) (St.cell (St.tells S98 hCw100) (i := 2) rfl rfl)))) ?_
    simp only [Act.put, List.setIfInBounds_toArray, List.set_cons_succ, List.set_cons_zero]
    refine gw_pure rfl rfl (.bool true) (fun w100 hCw100 => pureAt_of (ex_pick (b := true) rfl)) ?_
    simp only [Act.put, List.setIfInBounds_toArray, List.set_cons_succ, List.set_cons_zero]
    refine gw_pure rfl rfl (.bool true) (fun w100 hCw100 => pureAt_of (ex_move _)) ?_
    simp only [Act.put, List.setIfInBounds_toArray, List.set_cons_succ, List.set_cons_zero]
    refine gw_pure rfl rfl (.pointer (some ⟨n64, 1, none⟩)) (fun w100 hCw100 => pureAt_of (ex_field (q := ⟨n64, 1, none⟩) rfl (fa_53_1 _ _))) ?_
    simp only [Act.put, List.setIfInBounds_toArray, List.set_cons_succ, List.set_cons_zero]
    refine gw_pure rfl rfl (.slice a61 (l2.take 32).length c62) (fun w100 hCw100 => pureAt_of (ex_load rfl (load1 (nagg_27 _) (St.cell (St.tells S98 hCw100) (i := 2) rfl rfl)))) ?_
    simp only [Act.put, List.setIfInBounds_toArray, List.set_cons_succ, List.set_cons_zero]
    refine gw_pure rfl rfl (.slice a2 l2.length c2) (fun w100 hCw100 => pureAt_of (ex_move _)) ?_
    simp only [Act.put, List.setIfInBounds_toArray, List.set_cons_succ, List.set_cons_zero]
    refine gw_rel rfl rfl (fun w100 hCw100 hF => does_call (ex_fn (vs := #[(.slice a2 l2.length c2), (.int .i64 32)]) (map2 rfl rfl) rfl (ent_52 _ _)) (call_made S98.sat hCw100 (some_spec _ _ _ l2 32 ((St.tells S98 hCw100)).sat (z2.mono ((((((((le6.trans le10).trans le20).trans le29).trans le38).trans le46).trans le58).trans le73).trans le88)) (by omega) (by omega)))) (fun v101 => ?_)
    simp only [Act.put, List.setIfInBounds_toArray, List.set_cons_succ, List.set_cons_zero]
    refine gw_const rfl rfl (v := (.bool true)) (fun w100 hCw100 hF_ => ?_) ?_
    · obtain ⟨F102, g103, R104⟩ := hF_.get 22 (by kernel_rfl) rfl rfl
      obtain ⟨xa105, xc106, rfl, _⟩ := R104.shape
      exact does_call (ex_fn (vs := #[(.slice a61 (l2.take 32).length c62), (.slice xa105 (l2.take 32).length xc106)]) (map2 rfl rfl) rfl (ent_46 _ _)) (call_tells (tells_bool (tells_same (same_spec _ _ _ _ (l2.take 32) (l2.take 32) (g103).sat (r63.mono ((le73.trans le88).trans (g103.le S98.sat))) R104)) (beq_iff_eq.2 (rfl))))
    simp only [Act.put, List.setIfInBounds_toArray, List.set_cons_succ, List.set_cons_zero]
    refine gw_pure rfl rfl (.bool true) (fun w100 hCw100 => pureAt_of (ex_pick (b := true) rfl)) ?_
    simp only [Act.put, List.setIfInBounds_toArray, List.set_cons_succ, List.set_cons_zero]
    refine gw_pure rfl rfl (.bool true) (fun w100 hCw100 => pureAt_of (ex_move _)) ?_
    simp only [Act.put, List.setIfInBounds_toArray, List.set_cons_succ, List.set_cons_zero]
    refine gw_pure rfl rfl (.slice xa23 (keyL l1).length xc24) (fun w100 hCw100 => pureAt_of (ex_move _)) ?_
    simp only [Act.put, List.setIfInBounds_toArray, List.set_cons_succ, List.set_cons_zero]
    refine gw_pure rfl rfl (.slice xa32 (keyL l3).length xc33) (fun w100 hCw100 => pureAt_of (ex_move _)) ?_
    simp only [Act.put, List.setIfInBounds_toArray, List.set_cons_succ, List.set_cons_zero]
    refine gw_const rfl rfl (v := (.bool true)) (fun w100 hCw100 _ => does_call (ex_fn (vs := #[(.slice xa23 (keyL l1).length xc24), (.slice xa32 (keyL l3).length xc33)]) (map2 rfl rfl) rfl (ent_46 _ _)) (call_tells (tells_bool (tells_same (same_spec _ _ _ _ (keyL l1) (keyL l3) ((St.tells S98 hCw100)).sat (R21.mono (((((le29.trans le38).trans le46).trans le58).trans le73).trans le88)) (R30.mono ((((le38.trans le46).trans le58).trans le73).trans le88)))) (beq_iff_eq.2 (heq))))) ?_
    simp only [Act.put, List.setIfInBounds_toArray, List.set_cons_succ, List.set_cons_zero]
    refine gw_pure rfl rfl (.bool true) (fun w100 hCw100 => pureAt_of (ex_move _)) ?_
    simp only [Act.put, List.setIfInBounds_toArray, List.set_cons_succ, List.set_cons_zero]
    refine gw_skip (wanted_no rfl rfl rfl (c := true) rfl (by decide)) ?_
    simp only [Act.put, List.setIfInBounds_toArray, List.set_cons_succ, List.set_cons_zero]
    refine gw_skip (wanted_no rfl rfl rfl (c := true) rfl (by decide)) ?_
    simp only [Act.put, List.setIfInBounds_toArray, List.set_cons_succ, List.set_cons_zero]
    refine gw_skip (wanted_no rfl rfl rfl (c := true) rfl (by decide)) ?_
    simp only [Act.put, List.setIfInBounds_toArray, List.set_cons_succ, List.set_cons_zero]
    refine gw_skip (wanted_no rfl rfl rfl (c := true) rfl (by decide)) ?_
    simp only [Act.put, List.setIfInBounds_toArray, List.set_cons_succ, List.set_cons_zero]
    refine gw_skip (wanted_no rfl rfl rfl (c := true) rfl (by decide)) ?_
    simp only [Act.put, List.setIfInBounds_toArray, List.set_cons_succ, List.set_cons_zero]
    refine gw_skip (wanted_no rfl rfl rfl (c := true) rfl (by decide)) ?_
    simp only [Act.put, List.setIfInBounds_toArray, List.set_cons_succ, List.set_cons_zero]
    refine gw_skip (wanted_un rfl rfl rfl rfl) ?_
    simp only [Act.put, List.setIfInBounds_toArray, List.set_cons_succ, List.set_cons_zero]
    refine gw_skip (wanted_un rfl rfl rfl rfl) ?_
    simp only [Act.put, List.setIfInBounds_toArray, List.set_cons_succ, List.set_cons_zero]
    refine gw_skip (wanted_un rfl rfl rfl rfl) ?_
    simp only [Act.put, List.setIfInBounds_toArray, List.set_cons_succ, List.set_cons_zero]
    refine gw_skip (wanted_un rfl rfl rfl rfl) ?_
    simp only [Act.put, List.setIfInBounds_toArray, List.set_cons_succ, List.set_cons_zero]
    refine gw_nil ?_
    intro w107 hC109 hF110
    obtain ⟨F111, g112, R113⟩ := hF110.get 22 rfl rfl
    have S108 := St.gives S98 g112
    have le115 := g112.le S98.sat
    have R116 := R113
    generalize F111 = F114 at *
    obtain ⟨xa117, xc118, rfl, _⟩ := R116.shape
    clear hF110
    simp only [List.drop_succ_cons, List.drop_zero]
    have S108 : St W (whole W) w107 F114 [⟨n94, [(.bool (getT (pairsN l0 30) (keyL l3)).isSome), (.slice a91 ((getT (pairsN l0 30) (keyL l3)).getD []).length c92)], 53⟩, ⟨n79, [(.bool (getT (putT (pairsN l0 30) (keyL l1) (l2.take 32)) (keyL l3)).isSome), (.slice a76 ((getT (putT (pairsN l0 30) (keyL l1) (l2.take 32)) (keyL l3)).getD []).length c77)], 53⟩, ⟨n64, [(.bool true), (.slice a61 (l2.take 32).length c62)], 53⟩] [] := S108
    refine doN (wanted_un rfl rfl rfl rfl) ?_
    simp only [Act.put, List.setIfInBounds_toArray, List.set_cons_succ, List.set_cons_zero]
    refine doN (wanted_no rfl rfl rfl (c := true) rfl (by decide)) ?_
    simp only [Act.put, List.setIfInBounds_toArray, List.set_cons_succ, List.set_cons_zero]
    refine do_ rfl (.bool true) (ex_pick (b := true) rfl) ?_
    simp only [Act.put, List.setIfInBounds_toArray, List.set_cons_succ, List.set_cons_zero]
    refine do_ rfl (.bool true) (ex_pick (b := true) rfl) ?_
    simp only [Act.put, List.setIfInBounds_toArray, List.set_cons_succ, List.set_cons_zero]
    refine do_ rfl (.bool true) (ex_move _) ?_
    simp only [Act.put, List.setIfInBounds_toArray, List.set_cons_succ, List.set_cons_zero]
    refine do_ rfl (.slice a49 (putT (pairsN l0 30) (keyL l1) (l2.take 32)).length c50) (ex_move _) ?_
    simp only [Act.put, List.setIfInBounds_toArray, List.set_cons_succ, List.set_cons_zero]
    refine stTells (v := (.int .i64 0)) S108 rfl (ex_fn (vs := #[(.slice a49 (putT (pairsN l0 30) (keyL l1) (l2.take 32)).length c50)]) (map1 rfl) rfl (ent_54 _ _)) (treeCheckOk_spec _ _ _ (putT (pairsN l0 30) (keyL l1) (l2.take 32)) (S108).sat (r51.mono (((le58.trans le73).trans le88).trans le115)) (TreeOk.mono ((put_ok (pairsN_ok l0 30) (by omega) (p := ((keyL l1), (l2.take 32))) ⟨(keyL_len l1).1, (keyL_len l1).2, by simp; omega⟩).2.2) (by omega))) (fun w119 S120 => ?_)
    simp only [Act.put, List.setIfInBounds_toArray, List.set_cons_succ, List.set_cons_zero]
    have S120 : St W (whole W) w119 F114 [⟨n94, [(.bool (getT (pairsN l0 30) (keyL l3)).isSome), (.slice a91 ((getT (pairsN l0 30) (keyL l3)).getD []).length c92)], 53⟩, ⟨n79, [(.bool (getT (putT (pairsN l0 30) (keyL l1) (l2.take 32)) (keyL l3)).isSome), (.slice a76 ((getT (putT (pairsN l0 30) (keyL l1) (l2.take 32)) (keyL l3)).getD []).length c77)], 53⟩, ⟨n64, [(.bool true), (.slice a61 (l2.take 32).length c62)], 53⟩] [] := S120
    refine do_ rfl (.bool true) (ex_eql (b := true) rfl rfl (by decide)) ?_
    simp only [Act.put, List.setIfInBounds_toArray, List.set_cons_succ, List.set_cons_zero]
    refine do_ rfl (.bool true) (ex_pick (b := true) rfl) ?_
    simp only [Act.put, List.setIfInBounds_toArray, List.set_cons_succ, List.set_cons_zero]
    refine do_ rfl (.bool true) (ex_assign _) ?_
    simp only [Act.put, List.setIfInBounds_toArray, List.set_cons_succ, List.set_cons_zero]
    refine wl_nil ?_
    (try simp only [Exit.then, Exit.inBlock, ↓reduceIte, Nat.reduceEqDiff])
    refine hK99 _ _ ?_
    refine wp_ret ?_
    (try simp only [Exit.then, Exit.inBlock, ↓reduceIte, Nat.reduceEqDiff])
    refine bodyPost_ret (v := (.bool true)) ?_ rfl ?_
    · exact res_t rfl rfl
    · exact ⟨rfl, S120.gr.below⟩
  · refine region_gw F87 40 [(22, .made (fun F' u => Bs F' u (l2.take 32))), (23, .is (.bool true)), (28, .is (.bool false))] (by kernel_rfl) (by kernel_rfl) ?_
    simp only [List.take_succ_cons, List.take_zero]
    refine gw_pure rfl rfl (.int .i64 0) (fun w121 hCw121 => pureAt_of (ex_move _)) ?_
    simp only [Act.put, List.setIfInBounds_toArray, List.set_cons_succ, List.set_cons_zero]
    refine gw_pure rfl rfl (.bool true) (fun w121 hCw121 => pureAt_of (ex_eql (b := true) rfl rfl (by decide))) ?_
    simp only [Act.put, List.setIfInBounds_toArray, List.set_cons_succ, List.set_cons_zero]
    refine gw_pure rfl rfl (.bool true) (fun w121 hCw121 => pureAt_of (ex_move _)) ?_
    simp only [Act.put, List.setIfInBounds_toArray, List.set_cons_succ, List.set_cons_zero]
    refine gw_pure rfl rfl (.int .i64 0) (fun w121 hCw121 => pureAt_of (ex_move _)) ?_
    simp only [Act.put, List.setIfInBounds_toArray, List.set_cons_succ, List.set_cons_zero]
    refine gw_pure rfl rfl (.bool true) (fun w121 hCw121 => pureAt_of (ex_eql (b := true) rfl rfl (by decide))) ?_
    simp only [Act.put, List.setIfInBounds_toArray, List.set_cons_succ, List.set_cons_zero]
    refine gw_pure rfl rfl (.bool true) (fun w121 hCw121 => pureAt_of (ex_pick (b := true) rfl)) ?_
    simp only [Act.put, List.setIfInBounds_toArray, List.set_cons_succ, List.set_cons_zero]
    refine gw_pure rfl rfl (.bool true) (fun w121 hCw121 => pureAt_of (ex_move _)) ?_
    simp only [Act.put, List.setIfInBounds_toArray, List.set_cons_succ, List.set_cons_zero]
    refine gw_pure rfl rfl (.int .i64 0) (fun w121 hCw121 => pureAt_of (ex_move _)) ?_
    simp only [Act.put, List.setIfInBounds_toArray, List.set_cons_succ, List.set_cons_zero]
    refine gw_pure rfl rfl (.bool true) (fun w121 hCw121 => pureAt_of (ex_eql (b := true) rfl rfl (by decide))) ?_
    simp only [Act.put, List.setIfInBounds_toArray, List.set_cons_succ, List.set_cons_zero]
    refine gw_pure rfl rfl (.bool true) (fun w121 hCw121 => pureAt_of (ex_pick (b := true) rfl)) ?_
    simp only [Act.put, List.setIfInBounds_toArray, List.set_cons_succ, List.set_cons_zero]
    refine gw_pure rfl rfl (.bool true) (fun w121 hCw121 => pureAt_of (ex_move _)) ?_
    simp only [Act.put, List.setIfInBounds_toArray, List.set_cons_succ, List.set_cons_zero]
    refine gw_pure rfl rfl (.int .i64 0) (fun w121 hCw121 => pureAt_of (ex_move _)) ?_
    simp only [Act.put, List.setIfInBounds_toArray, List.set_cons_succ, List.set_cons_zero]
    refine gw_pure rfl rfl (.bool true) (fun w121 hCw121 => pureAt_of (ex_eql (b := true) rfl rfl (by decide))) ?_
    simp only [Act.put, List.setIfInBounds_toArray, List.set_cons_succ, List.set_cons_zero]
    refine gw_pure rfl rfl (.bool true) (fun w121 hCw121 => pureAt_of (ex_pick (b := true) rfl)) ?_
    simp only [Act.put, List.setIfInBounds_toArray, List.set_cons_succ, List.set_cons_zero]
    refine gw_pure rfl rfl (.bool true) (fun w121 hCw121 => pureAt_of (ex_move _)) ?_
    simp only [Act.put, List.setIfInBounds_toArray, List.set_cons_succ, List.set_cons_zero]
    refine gw_pure rfl rfl (.pointer (some ⟨n64, 0, none⟩)) (fun w121 hCw121 => pureAt_of (ex_field (q := ⟨n64, 0, none⟩) rfl (fa_53_0 _ _))) ?_
    simp only [Act.put, List.setIfInBounds_toArray, List.set_cons_succ, List.set_cons_zero]
    refine gw_pure rfl rfl (.bool true) (fun w121 hCw121 => pureAt_of (ex_load rfl (load1 (nagg_4 _) (St.cell (St.tells S98 hCw121) (i := 2) rfl rfl)))) ?_
    simp only [Act.put, List.setIfInBounds_toArray, List.set_cons_succ, List.set_cons_zero]
    refine gw_pure rfl rfl (.bool true) (fun w121 hCw121 => pureAt_of (ex_pick (b := true) rfl)) ?_
    simp only [Act.put, List.setIfInBounds_toArray, List.set_cons_succ, List.set_cons_zero]
    refine gw_pure rfl rfl (.bool true) (fun w121 hCw121 => pureAt_of (ex_move _)) ?_
    simp only [Act.put, List.setIfInBounds_toArray, List.set_cons_succ, List.set_cons_zero]
    refine gw_pure rfl rfl (.pointer (some ⟨n64, 1, none⟩)) (fun w121 hCw121 => pureAt_of (ex_field (q := ⟨n64, 1, none⟩) rfl (fa_53_1 _ _))) ?_
    simp only [Act.put, List.setIfInBounds_toArray, List.set_cons_succ, List.set_cons_zero]
    refine gw_pure rfl rfl (.slice a61 (l2.take 32).length c62) (fun w121 hCw121 => pureAt_of (ex_load rfl (load1 (nagg_27 _) (St.cell (St.tells S98 hCw121) (i := 2) rfl rfl)))) ?_
    simp only [Act.put, List.setIfInBounds_toArray, List.set_cons_succ, List.set_cons_zero]
    refine gw_pure rfl rfl (.slice a2 l2.length c2) (fun w121 hCw121 => pureAt_of (ex_move _)) ?_
    simp only [Act.put, List.setIfInBounds_toArray, List.set_cons_succ, List.set_cons_zero]
    refine gw_rel rfl rfl (fun w121 hCw121 hF => does_call (ex_fn (vs := #[(.slice a2 l2.length c2), (.int .i64 32)]) (map2 rfl rfl) rfl (ent_52 _ _)) (call_made S98.sat hCw121 (some_spec _ _ _ l2 32 ((St.tells S98 hCw121)).sat (z2.mono ((((((((le6.trans le10).trans le20).trans le29).trans le38).trans le46).trans le58).trans le73).trans le88)) (by omega) (by omega)))) (fun v122 => ?_)
    simp only [Act.put, List.setIfInBounds_toArray, List.set_cons_succ, List.set_cons_zero]
    refine gw_const rfl rfl (v := (.bool true)) (fun w121 hCw121 hF_ => ?_) ?_
    · obtain ⟨F123, g124, R125⟩ := hF_.get 22 (by kernel_rfl) rfl rfl
      obtain ⟨xa126, xc127, rfl, _⟩ := R125.shape
      exact does_call (ex_fn (vs := #[(.slice a61 (l2.take 32).length c62), (.slice xa126 (l2.take 32).length xc127)]) (map2 rfl rfl) rfl (ent_46 _ _)) (call_tells (tells_bool (tells_same (same_spec _ _ _ _ (l2.take 32) (l2.take 32) (g124).sat (r63.mono ((le73.trans le88).trans (g124.le S98.sat))) R125)) (beq_iff_eq.2 (rfl))))
    simp only [Act.put, List.setIfInBounds_toArray, List.set_cons_succ, List.set_cons_zero]
    refine gw_pure rfl rfl (.bool true) (fun w121 hCw121 => pureAt_of (ex_pick (b := true) rfl)) ?_
    simp only [Act.put, List.setIfInBounds_toArray, List.set_cons_succ, List.set_cons_zero]
    refine gw_pure rfl rfl (.bool true) (fun w121 hCw121 => pureAt_of (ex_move _)) ?_
    simp only [Act.put, List.setIfInBounds_toArray, List.set_cons_succ, List.set_cons_zero]
    refine gw_pure rfl rfl (.slice xa23 (keyL l1).length xc24) (fun w121 hCw121 => pureAt_of (ex_move _)) ?_
    simp only [Act.put, List.setIfInBounds_toArray, List.set_cons_succ, List.set_cons_zero]
    refine gw_pure rfl rfl (.slice xa32 (keyL l3).length xc33) (fun w121 hCw121 => pureAt_of (ex_move _)) ?_
    simp only [Act.put, List.setIfInBounds_toArray, List.set_cons_succ, List.set_cons_zero]
    refine gw_const rfl rfl (v := (.bool false)) (fun w121 hCw121 _ => does_call (ex_fn (vs := #[(.slice xa23 (keyL l1).length xc24), (.slice xa32 (keyL l3).length xc33)]) (map2 rfl rfl) rfl (ent_46 _ _)) (call_tells (tells_bool (tells_same (same_spec _ _ _ _ (keyL l1) (keyL l3) ((St.tells S98 hCw121)).sat (R21.mono (((((le29.trans le38).trans le46).trans le58).trans le73).trans le88)) (R30.mono ((((le38.trans le46).trans le58).trans le73).trans le88)))) (beq_eq_false_iff_ne.2 (heq))))) ?_
    simp only [Act.put, List.setIfInBounds_toArray, List.set_cons_succ, List.set_cons_zero]
    refine gw_pure rfl rfl (.bool false) (fun w121 hCw121 => pureAt_of (ex_move _)) ?_
    simp only [Act.put, List.setIfInBounds_toArray, List.set_cons_succ, List.set_cons_zero]
    refine gw_pure rfl rfl (.pointer (some ⟨n79, 0, none⟩)) (fun w121 hCw121 => pureAt_of (ex_field (q := ⟨n79, 0, none⟩) rfl (fa_53_0 _ _))) ?_
    simp only [Act.put, List.setIfInBounds_toArray, List.set_cons_succ, List.set_cons_zero]
    refine gw_pure rfl rfl (.bool (getT (putT (pairsN l0 30) (keyL l1) (l2.take 32)) (keyL l3)).isSome) (fun w121 hCw121 => pureAt_of (ex_load rfl (load1 (nagg_4 _) (St.cell (St.tells S98 hCw121) (i := 1) rfl rfl)))) ?_
    simp only [Act.put, List.setIfInBounds_toArray, List.set_cons_succ, List.set_cons_zero]
    refine gw_pure rfl rfl (.pointer (some ⟨n94, 0, none⟩)) (fun w121 hCw121 => pureAt_of (ex_field (q := ⟨n94, 0, none⟩) rfl (fa_53_0 _ _))) ?_
    simp only [Act.put, List.setIfInBounds_toArray, List.set_cons_succ, List.set_cons_zero]
    refine gw_pure rfl rfl (.bool (getT (pairsN l0 30) (keyL l3)).isSome) (fun w121 hCw121 => pureAt_of (ex_load rfl (load1 (nagg_4 _) (St.cell (St.tells S98 hCw121) (i := 0) rfl rfl)))) ?_
    simp only [Act.put, List.setIfInBounds_toArray, List.set_cons_succ, List.set_cons_zero]
    refine gw_pure rfl rfl (.bool true) (fun w121 hCw121 => pureAt_of (ex_eqlB Try.underlying4 rfl rfl (by rw [getT_putT (pairsN_rise l0 30) (keyL l1) (l2.take 32) (keyL l3), if_neg heq]; simp))) ?_
    simp only [Act.put, List.setIfInBounds_toArray, List.set_cons_succ, List.set_cons_zero]
    refine gw_pure rfl rfl (.bool true) (fun w121 hCw121 => pureAt_of (ex_move _)) ?_
    simp only [Act.put, List.setIfInBounds_toArray, List.set_cons_succ, List.set_cons_zero]
    refine gw_pure rfl rfl (.pointer (some ⟨n79, 1, none⟩)) (fun w121 hCw121 => pureAt_of (ex_field (q := ⟨n79, 1, none⟩) rfl (fa_53_1 _ _))) ?_
    simp only [Act.put, List.setIfInBounds_toArray, List.set_cons_succ, List.set_cons_zero]
    refine gw_pure rfl rfl (.slice a76 ((getT (putT (pairsN l0 30) (keyL l1) (l2.take 32)) (keyL l3)).getD []).length c77) (fun w121 hCw121 => pureAt_of (ex_load rfl (load1 (nagg_27 _) (St.cell (St.tells S98 hCw121) (i := 1) rfl rfl)))) ?_
    simp only [Act.put, List.setIfInBounds_toArray, List.set_cons_succ, List.set_cons_zero]
    refine gw_pure rfl rfl (.pointer (some ⟨n94, 1, none⟩)) (fun w121 hCw121 => pureAt_of (ex_field (q := ⟨n94, 1, none⟩) rfl (fa_53_1 _ _))) ?_
    simp only [Act.put, List.setIfInBounds_toArray, List.set_cons_succ, List.set_cons_zero]
    refine gw_pure rfl rfl (.slice a91 ((getT (pairsN l0 30) (keyL l3)).getD []).length c92) (fun w121 hCw121 => pureAt_of (ex_load rfl (load1 (nagg_27 _) (St.cell (St.tells S98 hCw121) (i := 0) rfl rfl)))) ?_
    simp only [Act.put, List.setIfInBounds_toArray, List.set_cons_succ, List.set_cons_zero]
    refine gw_nil ?_
    intro w128 hC130 hF131
    obtain ⟨F132, g133, R134⟩ := hF131.get 22 rfl rfl
    have S129 := St.gives S98 g133
    have le136 := g133.le S98.sat
    have R137 := R134
    generalize F132 = F135 at *
    obtain ⟨xa138, xc139, rfl, _⟩ := R137.shape
    clear hF131
    simp only [List.drop_succ_cons, List.drop_zero]
    have S129 : St W (whole W) w128 F135 [⟨n94, [(.bool (getT (pairsN l0 30) (keyL l3)).isSome), (.slice a91 ((getT (pairsN l0 30) (keyL l3)).getD []).length c92)], 53⟩, ⟨n79, [(.bool (getT (putT (pairsN l0 30) (keyL l1) (l2.take 32)) (keyL l3)).isSome), (.slice a76 ((getT (putT (pairsN l0 30) (keyL l1) (l2.take 32)) (keyL l3)).getD []).length c77)], 53⟩, ⟨n64, [(.bool true), (.slice a61 (l2.take 32).length c62)], 53⟩] [] := S129
    refine stTells (v := (.bool true)) S129 rfl (ex_fn (vs := #[(.slice a76 ((getT (putT (pairsN l0 30) (keyL l1) (l2.take 32)) (keyL l3)).getD []).length c77), (.slice a91 ((getT (pairsN l0 30) (keyL l3)).getD []).length c92)]) (map2 rfl rfl) rfl (ent_46 _ _)) (tells_bool (tells_same (same_spec _ _ _ _ ((getT (putT (pairsN l0 30) (keyL l1) (l2.take 32)) (keyL l3)).getD []) ((getT (pairsN l0 30) (keyL l3)).getD []) (S129).sat (r78.mono (le88.trans le136)) (r93.mono le136))) (beq_iff_eq.2 (by rw [getT_putT (pairsN_rise l0 30) (keyL l1) (l2.take 32) (keyL l3), if_neg heq]))) (fun w140 S141 => ?_)
    simp only [Act.put, List.setIfInBounds_toArray, List.set_cons_succ, List.set_cons_zero]
    have S141 : St W (whole W) w140 F135 [⟨n94, [(.bool (getT (pairsN l0 30) (keyL l3)).isSome), (.slice a91 ((getT (pairsN l0 30) (keyL l3)).getD []).length c92)], 53⟩, ⟨n79, [(.bool (getT (putT (pairsN l0 30) (keyL l1) (l2.take 32)) (keyL l3)).isSome), (.slice a76 ((getT (putT (pairsN l0 30) (keyL l1) (l2.take 32)) (keyL l3)).getD []).length c77)], 53⟩, ⟨n64, [(.bool true), (.slice a61 (l2.take 32).length c62)], 53⟩] [] := S141
    refine do_ rfl (.bool true) (ex_pick (b := true) rfl) ?_
    simp only [Act.put, List.setIfInBounds_toArray, List.set_cons_succ, List.set_cons_zero]
    refine do_ rfl (.bool true) (ex_pick (b := false) rfl) ?_
    simp only [Act.put, List.setIfInBounds_toArray, List.set_cons_succ, List.set_cons_zero]
    refine do_ rfl (.bool true) (ex_pick (b := true) rfl) ?_
    simp only [Act.put, List.setIfInBounds_toArray, List.set_cons_succ, List.set_cons_zero]
    refine do_ rfl (.bool true) (ex_move _) ?_
    simp only [Act.put, List.setIfInBounds_toArray, List.set_cons_succ, List.set_cons_zero]
    refine do_ rfl (.slice a49 (putT (pairsN l0 30) (keyL l1) (l2.take 32)).length c50) (ex_move _) ?_
    simp only [Act.put, List.setIfInBounds_toArray, List.set_cons_succ, List.set_cons_zero]
    refine stTells (v := (.int .i64 0)) S141 rfl (ex_fn (vs := #[(.slice a49 (putT (pairsN l0 30) (keyL l1) (l2.take 32)).length c50)]) (map1 rfl) rfl (ent_54 _ _)) (treeCheckOk_spec _ _ _ (putT (pairsN l0 30) (keyL l1) (l2.take 32)) (S141).sat (r51.mono (((le58.trans le73).trans le88).trans le136)) (TreeOk.mono ((put_ok (pairsN_ok l0 30) (by omega) (p := ((keyL l1), (l2.take 32))) ⟨(keyL_len l1).1, (keyL_len l1).2, by simp; omega⟩).2.2) (by omega))) (fun w142 S143 => ?_)
    simp only [Act.put, List.setIfInBounds_toArray, List.set_cons_succ, List.set_cons_zero]
    have S143 : St W (whole W) w142 F135 [⟨n94, [(.bool (getT (pairsN l0 30) (keyL l3)).isSome), (.slice a91 ((getT (pairsN l0 30) (keyL l3)).getD []).length c92)], 53⟩, ⟨n79, [(.bool (getT (putT (pairsN l0 30) (keyL l1) (l2.take 32)) (keyL l3)).isSome), (.slice a76 ((getT (putT (pairsN l0 30) (keyL l1) (l2.take 32)) (keyL l3)).getD []).length c77)], 53⟩, ⟨n64, [(.bool true), (.slice a61 (l2.take 32).length c62)], 53⟩] [] := S143
    refine do_ rfl (.bool true) (ex_eql (b := true) rfl rfl (by decide)) ?_
    simp only [Act.put, List.setIfInBounds_toArray, List.set_cons_succ, List.set_cons_zero]
    refine do_ rfl (.bool true) (ex_pick (b := true) rfl) ?_
    simp only [Act.put, List.setIfInBounds_toArray, List.set_cons_succ, List.set_cons_zero]
    refine do_ rfl (.bool true) (ex_assign _) ?_
    simp only [Act.put, List.setIfInBounds_toArray, List.set_cons_succ, List.set_cons_zero]
    refine wl_nil ?_
    (try simp only [Exit.then, Exit.inBlock, ↓reduceIte, Nat.reduceEqDiff])
    refine hK99 _ _ ?_
    refine wp_ret ?_
    (try simp only [Exit.then, Exit.inBlock, ↓reduceIte, Nat.reduceEqDiff])
    refine bodyPost_ret (v := (.bool true)) ?_ rfl ?_
    · exact res_t rfl rfl
    · exact ⟨rfl, S143.gr.below⟩
end Go.Proofs.Yteefnnnbbmbmcaa
