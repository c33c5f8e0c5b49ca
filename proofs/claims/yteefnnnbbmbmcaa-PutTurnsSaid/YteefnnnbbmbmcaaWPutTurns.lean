/- Walk of PutTurns -/
import Derived.Test.YteefnnnbbmbmcaaK3
namespace Go.Proofs.Yteefnnnbbmbmcaa
open Go.RowKit
set_option maxRecDepth 100000
set_option linter.unusedVariables false
set_option linter.unusedSimpArgs false
theorem putT_pos {l : List Pr} {k v : By} : 0 < (putT l k v).length := by
  rw [len_putT]
  split
  · rename_i h; exact Nat.lt_of_le_of_lt (Nat.zero_le _) (hasT_pos h)
  · omega
set_option maxHeartbeats 8000000 in
theorem putTurns_walk (W : World) (v0 : Value) (l0 : List Pr) (z0 : Prs (whole W) v0 l0) (v10 : Value) (l10 : By) (z10 : Bs (whole W) v10 l10) (v11 : Value) (l11 : By) (z11 : Bs (whole W) v11 l11) (v20 : Value) (l20 : By) (z20 : Bs (whole W) v20 l20) (v21 : Value) (l21 : By) (z21 : Bs (whole W) v21 l21) :
    Calls Try.prog 12 #[v0, .agg #[v10, v11], .agg #[v20, v21]] W (Tells W (.bool true)) := by
  obtain ⟨a0, c0, rfl, q0, q0'⟩ := Sl.shape z0
  obtain ⟨a10, c10, rfl, _⟩ := z10.shape
  obtain ⟨a11, c11, rfl, _⟩ := z11.shape
  obtain ⟨a20, c20, rfl, _⟩ := z20.shape
  obtain ⟨a21, c21, rfl, _⟩ := z21.shape
  have S := St.start (Sat.whole W)
  go_enter Try.func12, Try.ntmps12
  refine wp_seq_k (fun K1 hK1 => ?_)
  refine region_wl ?_
  refine stNew S (v := fun n => .pointer (some ⟨n, 0, none⟩)) rfl (ex_box (v := (.agg #[(.slice a10 l10.length c10), (.slice a11 l11.length c11)])) rfl) (fun n2 w3 S4 => ?_)
  simp only [Act.put, List.setIfInBounds_toArray, List.set_cons_succ, List.set_cons_zero]
  have S4 : St W (whole W) w3 (whole W) [⟨n2, [(.slice a10 l10.length c10), (.slice a11 l11.length c11)], 57⟩] [] := S4
  refine stNew S4 (v := fun n => .pointer (some ⟨n, 0, none⟩)) rfl (ex_box (v := (.agg #[(.slice a20 l20.length c20), (.slice a21 l21.length c21)])) rfl) (fun n5 w6 S7 => ?_)
  simp only [Act.put, List.setIfInBounds_toArray, List.set_cons_succ, List.set_cons_zero]
  have S7 : St W (whole W) w6 (whole W) [⟨n5, [(.slice a20 l20.length c20), (.slice a21 l21.length c21)], 57⟩, ⟨n2, [(.slice a10 l10.length c10), (.slice a11 l11.length c11)], 57⟩] [] := S7
  refine do_ rfl (.bool false) (ex_assign _) ?_
  simp only [Act.put, List.setIfInBounds_toArray, List.set_cons_succ, List.set_cons_zero]
  refine wl_nil ?_
  (try simp only [Exit.then, Exit.inBlock, ↓reduceIte, Nat.reduceEqDiff])
  refine hK1 _ _ ?_
  refine wp_seq_k (fun K8 hK8 => ?_)
  refine region_wl ?_
  refine do_ rfl (.slice a0 l0.length c0) (ex_move _) ?_
  simp only [Act.put, List.setIfInBounds_toArray, List.set_cons_succ, List.set_cons_zero]
  refine stGivesO PrC.mono S7 rfl (ex_fn (vs := #[(.slice a0 l0.length c0), (.int .i64 30)]) (map2 rfl rfl) rfl (ent_48 _ _)) (pairs_spec _ _ _ l0 30 (S7).sat z0 (by omega)) ?_
  intro v13 w9 F11 S10 le12
  simp only [Act.put, List.setIfInBounds_toArray, List.set_cons_succ, List.set_cons_zero]
  have S10 : St W (whole W) w9 F11 [⟨n5, [(.slice a20 l20.length c20), (.slice a21 l21.length c21)], 57⟩, ⟨n2, [(.slice a10 l10.length c10), (.slice a11 l11.length c11)], 57⟩] [ownP 2 PrC PrC.mono 49 W.heap.size v13 (pairsN l0 30)] := S10
  obtain ⟨F14, S15, le16, hv17⟩ := St.freeze S10 (i := 0) rfl (Nat.le_refl _)
  have S15 : St W (whole W) w9 F14 [⟨n5, [(.slice a20 l20.length c20), (.slice a21 l21.length c21)], 57⟩, ⟨n2, [(.slice a10 l10.length c10), (.slice a11 l11.length c11)], 57⟩] [] := S15
  have hv17 : Prs _ v13 (pairsN l0 30) := hv17
  obtain ⟨a18, c19, rfl, h20, h21⟩ := Sl.shape hv17
  unfold maxLen at h21
  refine do_ rfl (.slice a18 (pairsN l0 30).length c19) (ex_assign _) ?_
  simp only [Act.put, List.setIfInBounds_toArray, List.set_cons_succ, List.set_cons_zero]
  refine wl_nil ?_
  (try simp only [Exit.then, Exit.inBlock, ↓reduceIte, Nat.reduceEqDiff])
  refine hK8 _ _ ?_
  refine wp_seq_k (fun K22 hK22 => ?_)
  refine region_gw F14 8 [(2, .made (fun F' u => Bs F' u (keyL l10))), (5, .made (fun F' u => Bs F' u (l11.take 32))), (6, .made (fun F' u => Pr2V F' u ((keyL l10), (l11.take 32)))), (7, .rel (NewAt w9 [(.slice none 0 0), (.slice none 0 0)] 49) (NewAt.stable _ _ _))] (by kernel_rfl) (by kernel_rfl) ?_
  simp only [List.take_succ_cons, List.take_zero]
  refine gw_pure rfl rfl (.pointer (some ⟨n2, 0, none⟩)) (fun w23 hCw23 => pureAt_of (ex_field (q := ⟨n2, 0, none⟩) rfl (fa_57_0 _ _))) ?_
  simp only [Act.put, List.setIfInBounds_toArray, List.set_cons_succ, List.set_cons_zero]
  refine gw_pure rfl rfl (.slice a10 l10.length c10) (fun w23 hCw23 => pureAt_of (ex_load rfl (load1 (nagg_27 _) (St.cell (St.tells S15 hCw23) (i := 1) rfl rfl)))) ?_
  simp only [Act.put, List.setIfInBounds_toArray, List.set_cons_succ, List.set_cons_zero]
  refine gw_rel rfl rfl (fun w23 hCw23 hF => does_call (ex_fn (vs := #[(.slice a10 l10.length c10)]) (map1 rfl) rfl (ent_44 _ _)) (call_made S15.sat hCw23 (key_spec _ _ _ l10 ((St.tells S15 hCw23)).sat (z10.mono (le12.trans le16))))) (fun v24 => ?_)
  simp only [Act.put, List.setIfInBounds_toArray, List.set_cons_succ, List.set_cons_zero]
  refine gw_pure rfl rfl (.pointer (some ⟨n2, 1, none⟩)) (fun w23 hCw23 => pureAt_of (ex_field (q := ⟨n2, 1, none⟩) rfl (fa_57_1 _ _))) ?_
  simp only [Act.put, List.setIfInBounds_toArray, List.set_cons_succ, List.set_cons_zero]
  refine gw_pure rfl rfl (.slice a11 l11.length c11) (fun w23 hCw23 => pureAt_of (ex_load rfl (load1 (nagg_27 _) (St.cell (St.tells S15 hCw23) (i := 1) rfl rfl)))) ?_
  simp only [Act.put, List.setIfInBounds_toArray, List.set_cons_succ, List.set_cons_zero]
  refine gw_rel rfl rfl (fun w23 hCw23 hF => does_call (ex_fn (vs := #[(.slice a11 l11.length c11), (.int .i64 32)]) (map2 rfl rfl) rfl (ent_52 _ _)) (call_made S15.sat hCw23 (some_spec _ _ _ l11 32 ((St.tells S15 hCw23)).sat (z11.mono (le12.trans le16)) (by omega) (by omega)))) (fun v25 => ?_)
  simp only [Act.put, List.setIfInBounds_toArray, List.set_cons_succ, List.set_cons_zero]
  refine gw_rel rfl rfl (fun w23 hCw23 hF_ => ?_) (fun v26 => ?_)
  · obtain ⟨F27, g28, R29⟩ := hF_.get 2 (by kernel_rfl) rfl rfl
    obtain ⟨F32, g33, R34⟩ := hF_.get 5 (by kernel_rfl) rfl rfl
    have hR0 := (R29.mono (both_left F27 F32))
    obtain ⟨xa37, xc38, rfl, _⟩ := hR0.shape
    have hR1 := (R34.mono (both_right g28.sat g33.sat))
    obtain ⟨xa39, xc40, rfl, _⟩ := hR1.shape
    exact does_val (ex_build (bmap2 rfl rfl) (by kernel_rfl)) ⟨(both F27 F32), (g28.both g33), ⟨_, _, _, _, rfl, hR0, hR1⟩⟩ (Below.refl _ _)
  simp only [Act.put, List.setIfInBounds_toArray, List.set_cons_succ, List.set_cons_zero]
  refine gw_rel rfl rfl (fun w23 hCw23 _ => does_alloc (cs := [(.slice none 0 0), (.slice none 0 0)]) (zero_49 _) rfl hCw23) (fun v41 => ?_)
  simp only [Act.put, List.setIfInBounds_toArray, List.set_cons_succ, List.set_cons_zero]
  refine gw_nil ?_
  intro w42 hC44 hF45
  obtain ⟨n46, rfl, hn47, hb48⟩ := hF45.getR 7 rfl rfl
  have hnbn46 : ∀ u ∈ [(.slice none 0 0), (.slice none 0 0)], ∀ x, u ≠ bv x := by intro u hu x; simp only [List.mem_cons, List.not_mem_nil, or_false] at hu; rcases hu with rfl | rfl <;> (unfold bv; simp)
  obtain ⟨F49, g50, R51⟩ := hF45.get 6 rfl rfl
  have g52 := g50.dropF S15.sat hn47
  have R53 := Pr2V.dropF g50.sat hb48 hnbn46 R51
  have S43 := St.addBlk (cs := [(.slice none 0 0), (.slice none 0 0)]) S15 g52 hn47 (dropF_at _ _) hb48
  have le55 : Le _ _ := g52.le S15.sat
  have R56 := R53
  generalize (dropF F49 n46) = F54 at *
  obtain ⟨xa57, xc58, xa60, xc61, rfl, r59, r62⟩ := R56
  have r59 : Bs _ (.slice xa57 (keyL l10).length xc58) (keyL l10) := r59
  have r62 : Bs _ (.slice xa60 (l11.take 32).length xc61) (l11.take 32) := r62
  clear hF45
  simp only [List.drop_succ_cons, List.drop_zero]
  have S43 : St W (whole W) w42 F54 [⟨n46, [(.slice none 0 0), (.slice none 0 0)], 49⟩, ⟨n5, [(.slice a20 l20.length c20), (.slice a21 l21.length c21)], 57⟩, ⟨n2, [(.slice a10 l10.length c10), (.slice a11 l11.length c11)], 57⟩] [] := S43
  refine stStore (i := 0) (v := (.agg #[(.slice xa57 (keyL l10).length xc58), (.slice xa60 (l11.take 32).length xc61)])) S43 rfl rfl rfl rfl (size_49) (allc2 rfl rfl) (Nat.le_of_ble_eq_true rfl) (fun w63 S64 => ?_)
  simp only [Act.put, List.setIfInBounds_toArray, List.set_cons_succ, List.set_cons_zero]
  have S64 : St W (whole W) w63 F54 [⟨n46, [(.slice xa57 (keyL l10).length xc58), (.slice xa60 (l11.take 32).length xc61)], 49⟩, ⟨n5, [(.slice a20 l20.length c20), (.slice a21 l21.length c21)], 57⟩, ⟨n2, [(.slice a10 l10.length c10), (.slice a11 l11.length c11)], 57⟩] [] := S64
  refine wl_nil ?_
  (try simp only [Exit.then, Exit.inBlock, ↓reduceIte, Nat.reduceEqDiff])
  refine hK22 _ _ ?_
  refine wp_seq_k (fun K65 hK65 => ?_)
  refine region_gw F54 8 [(2, .made (fun F' u => Bs F' u (keyL l20))), (5, .made (fun F' u => Bs F' u (l21.take 32))), (6, .made (fun F' u => Pr2V F' u ((keyL l20), (l21.take 32)))), (7, .rel (NewAt w63 [(.slice none 0 0), (.slice none 0 0)] 49) (NewAt.stable _ _ _))] (by kernel_rfl) (by kernel_rfl) ?_
  simp only [List.take_succ_cons, List.take_zero]
  refine gw_pure rfl rfl (.pointer (some ⟨n5, 0, none⟩)) (fun w66 hCw66 => pureAt_of (ex_field (q := ⟨n5, 0, none⟩) rfl (fa_57_0 _ _))) ?_
  simp only [Act.put, List.setIfInBounds_toArray, List.set_cons_succ, List.set_cons_zero]
  refine gw_pure rfl rfl (.slice a20 l20.length c20) (fun w66 hCw66 => pureAt_of (ex_load rfl (load1 (nagg_27 _) (St.cell (St.tells S64 hCw66) (i := 1) rfl rfl)))) ?_
  simp only [Act.put, List.setIfInBounds_toArray, List.set_cons_succ, List.set_cons_zero]
  refine gw_rel rfl rfl (fun w66 hCw66 hF => does_call (ex_fn (vs := #[(.slice a20 l20.length c20)]) (map1 rfl) rfl (ent_44 _ _)) (call_made S64.sat hCw66 (key_spec _ _ _ l20 ((St.tells S64 hCw66)).sat (z20.mono ((le12.trans le16).trans le55))))) (fun v67 => ?_)
  simp only [Act.put, List.setIfInBounds_toArray, List.set_cons_succ, List.set_cons_zero]
  refine gw_pure rfl rfl (.pointer (some ⟨n5, 1, none⟩)) (fun w66 hCw66 => pureAt_of (ex_field (q := ⟨n5, 1, none⟩) rfl (fa_57_1 _ _))) ?_
  simp only [Act.put, List.setIfInBounds_toArray, List.set_cons_succ, List.set_cons_zero]
  refine gw_pure rfl rfl (.slice a21 l21.length c21) (fun w66 hCw66 => pureAt_of (ex_load rfl (load1 (nagg_27 _) (St.cell (St.tells S64 hCw66) (i := 1) rfl rfl)))) ?_
  simp only [Act.put, List.setIfInBounds_toArray, List.set_cons_succ, List.set_cons_zero]
  refine gw_rel rfl rfl (fun w66 hCw66 hF => does_call (ex_fn (vs := #[(.slice a21 l21.length c21), (.int .i64 32)]) (map2 rfl rfl) rfl (ent_52 _ _)) (call_made S64.sat hCw66 (some_spec _ _ _ l21 32 ((St.tells S64 hCw66)).sat (z21.mono ((le12.trans le16).trans le55)) (by omega) (by omega)))) (fun v68 => ?_)
  simp only [Act.put, List.setIfInBounds_toArray, List.set_cons_succ, List.set_cons_zero]
  refine gw_rel rfl rfl (fun w66 hCw66 hF_ => ?_) (fun v69 => ?_)
  · obtain ⟨F70, g71, R72⟩ := hF_.get 2 (by kernel_rfl) rfl rfl
    obtain ⟨F75, g76, R77⟩ := hF_.get 5 (by kernel_rfl) rfl rfl
    have hR0 := (R72.mono (both_left F70 F75))
    obtain ⟨xa80, xc81, rfl, _⟩ := hR0.shape
    have hR1 := (R77.mono (both_right g71.sat g76.sat))
    obtain ⟨xa82, xc83, rfl, _⟩ := hR1.shape
    exact does_val (ex_build (bmap2 rfl rfl) (by kernel_rfl)) ⟨(both F70 F75), (g71.both g76), ⟨_, _, _, _, rfl, hR0, hR1⟩⟩ (Below.refl _ _)
  simp only [Act.put, List.setIfInBounds_toArray, List.set_cons_succ, List.set_cons_zero]
  refine gw_rel rfl rfl (fun w66 hCw66 _ => does_alloc (cs := [(.slice none 0 0), (.slice none 0 0)]) (zero_49 _) rfl hCw66) (fun v84 => ?_)
  simp only [Act.put, List.setIfInBounds_toArray, List.set_cons_succ, List.set_cons_zero]
  refine gw_nil ?_
  intro w85 hC87 hF88
  obtain ⟨n89, rfl, hn90, hb91⟩ := hF88.getR 7 rfl rfl
  have hnbn89 : ∀ u ∈ [(.slice none 0 0), (.slice none 0 0)], ∀ x, u ≠ bv x := by intro u hu x; simp only [List.mem_cons, List.not_mem_nil, or_false] at hu; rcases hu with rfl | rfl <;> (unfold bv; simp)
  obtain ⟨F92, g93, R94⟩ := hF88.get 6 rfl rfl
  have g95 := g93.dropF S64.sat hn90
  have R96 := Pr2V.dropF g93.sat hb91 hnbn89 R94
  have S86 := St.addBlk (cs := [(.slice none 0 0), (.slice none 0 0)]) S64 g95 hn90 (dropF_at _ _) hb91
  have le98 : Le _ _ := g95.le S64.sat
  have R99 := R96
  generalize (dropF F92 n89) = F97 at *
  obtain ⟨xa100, xc101, xa103, xc104, rfl, r102, r105⟩ := R99
  have r102 : Bs _ (.slice xa100 (keyL l20).length xc101) (keyL l20) := r102
  have r105 : Bs _ (.slice xa103 (l21.take 32).length xc104) (l21.take 32) := r105
  clear hF88
  simp only [List.drop_succ_cons, List.drop_zero]
  have S86 : St W (whole W) w85 F97 [⟨n89, [(.slice none 0 0), (.slice none 0 0)], 49⟩, ⟨n46, [(.slice xa57 (keyL l10).length xc58), (.slice xa60 (l11.take 32).length xc61)], 49⟩, ⟨n5, [(.slice a20 l20.length c20), (.slice a21 l21.length c21)], 57⟩, ⟨n2, [(.slice a10 l10.length c10), (.slice a11 l11.length c11)], 57⟩] [] := S86
  refine stStore (i := 0) (v := (.agg #[(.slice xa100 (keyL l20).length xc101), (.slice xa103 (l21.take 32).length xc104)])) S86 rfl rfl rfl rfl (size_49) (allc2 rfl rfl) (Nat.le_of_ble_eq_true rfl) (fun w106 S107 => ?_)
  simp only [Act.put, List.setIfInBounds_toArray, List.set_cons_succ, List.set_cons_zero]
  have S107 : St W (whole W) w106 F97 [⟨n89, [(.slice xa100 (keyL l20).length xc101), (.slice xa103 (l21.take 32).length xc104)], 49⟩, ⟨n46, [(.slice xa57 (keyL l10).length xc58), (.slice xa60 (l11.take 32).length xc61)], 49⟩, ⟨n5, [(.slice a20 l20.length c20), (.slice a21 l21.length c21)], 57⟩, ⟨n2, [(.slice a10 l10.length c10), (.slice a11 l11.length c11)], 57⟩] [] := S107
  refine wl_nil ?_
  (try simp only [Exit.then, Exit.inBlock, ↓reduceIte, Nat.reduceEqDiff])
  refine hK65 _ _ ?_
  refine wp_seq_k (fun K108 hK108 => ?_)
  refine region_wl ?_
  refine do_ rfl (.slice a18 (pairsN l0 30).length c19) (ex_move _) ?_
  simp only [Act.put, List.setIfInBounds_toArray, List.set_cons_succ, List.set_cons_zero]
  refine do_ rfl (.agg #[(.slice xa57 (keyL l10).length xc58), (.slice xa60 (l11.take 32).length xc61)]) (ex_load rfl (loadN (cs := [(.slice xa57 (keyL l10).length xc58), (.slice xa60 (l11.take 32).length xc61)]) Try.underlying49 rfl (size_49) (St.range S107 (i := 1) rfl 0 [(.slice xa57 (keyL l10).length xc58), (.slice xa60 (l11.take 32).length xc61)] (sub_range 0 rfl)))) ?_
  simp only [Act.put, List.setIfInBounds_toArray, List.set_cons_succ, List.set_cons_zero]
  refine stGives S107 rfl (ex_fn (vs := #[(.slice a18 (pairsN l0 30).length c19), (.agg #[(.slice xa57 (keyL l10).length xc58), (.slice xa60 (l11.take 32).length xc61)])]) (map2 rfl rfl) rfl (ent_53 _ _)) (putOk_spec _ _ _ _ (pairsN l0 30) ((keyL l10), (l11.take 32)) (S107).sat (hv17.mono (le55.trans le98)) ⟨_, _, _, _, rfl, (r59.mono le98), (r62.mono le98)⟩ (show TreeOk 30 (pairsN l0 30) from pairsN_ok l0 30) (by omega) ⟨(keyL_len l10).1, (keyL_len l10).2, by simp; omega⟩) ?_
  intro v114 w109 F111 S110 le112 R113
  obtain ⟨_, rfl, r117⟩ := R113
  obtain ⟨a115, c116, rfl, h118, h119⟩ := Sl.shape r117
  unfold maxLen at h119
  have h118 : (putT (pairsN l0 30) (keyL l10) (l11.take 32)).length ≤ c116 := h118
  have r117 : Prs _ (.slice a115 (putT (pairsN l0 30) (keyL l10) (l11.take 32)).length c116) (putT (pairsN l0 30) (keyL l10) (l11.take 32)) := r117
  simp only [Act.put, List.setIfInBounds_toArray, List.set_cons_succ, List.set_cons_zero]
  have S110 : St W (whole W) w109 F111 [⟨n89, [(.slice xa100 (keyL l20).length xc101), (.slice xa103 (l21.take 32).length xc104)], 49⟩, ⟨n46, [(.slice xa57 (keyL l10).length xc58), (.slice xa60 (l11.take 32).length xc61)], 49⟩, ⟨n5, [(.slice a20 l20.length c20), (.slice a21 l21.length c21)], 57⟩, ⟨n2, [(.slice a10 l10.length c10), (.slice a11 l11.length c11)], 57⟩] [] := S110
  refine do_ rfl (.tuple #[(.slice a115 (putT (pairsN l0 30) (keyL l10) (l11.take 32)).length c116), (.int .i64 0)]) (ex_move _) ?_
  simp only [Act.put, List.setIfInBounds_toArray, List.set_cons_succ, List.set_cons_zero]
  refine do_ rfl (.slice a115 (putT (pairsN l0 30) (keyL l10) (l11.take 32)).length c116) (ex_extract rfl rfl) ?_
  simp only [Act.put, List.setIfInBounds_toArray, List.set_cons_succ, List.set_cons_zero]
  refine do_ rfl (.int .i64 0) (ex_extract rfl rfl) ?_
  simp only [Act.put, List.setIfInBounds_toArray, List.set_cons_succ, List.set_cons_zero]
  refine do_ rfl (.slice a115 (putT (pairsN l0 30) (keyL l10) (l11.take 32)).length c116) (ex_assign _) ?_
  simp only [Act.put, List.setIfInBounds_toArray, List.set_cons_succ, List.set_cons_zero]
  refine do_ rfl (.int .i64 0) (ex_assign _) ?_
  simp only [Act.put, List.setIfInBounds_toArray, List.set_cons_succ, List.set_cons_zero]
  refine wl_nil ?_
  (try simp only [Exit.then, Exit.inBlock, ↓reduceIte, Nat.reduceEqDiff])
  refine hK108 _ _ ?_
  refine wp_seq_k (fun K120 hK120 => ?_)
  refine region_wl ?_
  refine do_ rfl (.slice a115 (putT (pairsN l0 30) (keyL l10) (l11.take 32)).length c116) (ex_move _) ?_
  simp only [Act.put, List.setIfInBounds_toArray, List.set_cons_succ, List.set_cons_zero]
  refine do_ rfl (.agg #[(.slice xa100 (keyL l20).length xc101), (.slice xa103 (l21.take 32).length xc104)]) (ex_load rfl (loadN (cs := [(.slice xa100 (keyL l20).length xc101), (.slice xa103 (l21.take 32).length xc104)]) Try.underlying49 rfl (size_49) (St.range S110 (i := 0) rfl 0 [(.slice xa100 (keyL l20).length xc101), (.slice xa103 (l21.take 32).length xc104)] (sub_range 0 rfl)))) ?_
  simp only [Act.put, List.setIfInBounds_toArray, List.set_cons_succ, List.set_cons_zero]
  refine stGives S110 rfl (ex_fn (vs := #[(.slice a115 (putT (pairsN l0 30) (keyL l10) (l11.take 32)).length c116), (.agg #[(.slice xa100 (keyL l20).length xc101), (.slice xa103 (l21.take 32).length xc104)])]) (map2 rfl rfl) rfl (ent_53 _ _)) (putOk_spec _ _ _ _ (putT (pairsN l0 30) (keyL l10) (l11.take 32)) ((keyL l20), (l21.take 32)) (S110).sat r117 ⟨_, _, _, _, rfl, (r102.mono le112), (r105.mono le112)⟩ (show TreeOk 31 (putT (pairsN l0 30) (keyL l10) (l11.take 32)) from (put_ok (show TreeOk 30 (pairsN l0 30) from pairsN_ok l0 30) (by omega) (p := ((keyL l10), (l11.take 32))) ⟨(keyL_len l10).1, (keyL_len l10).2, by simp; omega⟩).2.2) (by omega) ⟨(keyL_len l20).1, (keyL_len l20).2, by simp; omega⟩) ?_
  intro v126 w121 F123 S122 le124 R125
  obtain ⟨_, rfl, r129⟩ := R125
  obtain ⟨a127, c128, rfl, h130, h131⟩ := Sl.shape r129
  unfold maxLen at h131
  have h130 : (putT (putT (pairsN l0 30) (keyL l10) (l11.take 32)) (keyL l20) (l21.take 32)).length ≤ c128 := h130
  have r129 : Prs _ (.slice a127 (putT (putT (pairsN l0 30) (keyL l10) (l11.take 32)) (keyL l20) (l21.take 32)).length c128) (putT (putT (pairsN l0 30) (keyL l10) (l11.take 32)) (keyL l20) (l21.take 32)) := r129
  simp only [Act.put, List.setIfInBounds_toArray, List.set_cons_succ, List.set_cons_zero]
  have S122 : St W (whole W) w121 F123 [⟨n89, [(.slice xa100 (keyL l20).length xc101), (.slice xa103 (l21.take 32).length xc104)], 49⟩, ⟨n46, [(.slice xa57 (keyL l10).length xc58), (.slice xa60 (l11.take 32).length xc61)], 49⟩, ⟨n5, [(.slice a20 l20.length c20), (.slice a21 l21.length c21)], 57⟩, ⟨n2, [(.slice a10 l10.length c10), (.slice a11 l11.length c11)], 57⟩] [] := S122
  refine do_ rfl (.tuple #[(.slice a127 (putT (putT (pairsN l0 30) (keyL l10) (l11.take 32)) (keyL l20) (l21.take 32)).length c128), (.int .i64 0)]) (ex_move _) ?_
  simp only [Act.put, List.setIfInBounds_toArray, List.set_cons_succ, List.set_cons_zero]
  refine do_ rfl (.slice a127 (putT (putT (pairsN l0 30) (keyL l10) (l11.take 32)) (keyL l20) (l21.take 32)).length c128) (ex_extract rfl rfl) ?_
  simp only [Act.put, List.setIfInBounds_toArray, List.set_cons_succ, List.set_cons_zero]
  refine do_ rfl (.int .i64 0) (ex_extract rfl rfl) ?_
  simp only [Act.put, List.setIfInBounds_toArray, List.set_cons_succ, List.set_cons_zero]
  refine do_ rfl (.slice a127 (putT (putT (pairsN l0 30) (keyL l10) (l11.take 32)) (keyL l20) (l21.take 32)).length c128) (ex_assign _) ?_
  simp only [Act.put, List.setIfInBounds_toArray, List.set_cons_succ, List.set_cons_zero]
  refine do_ rfl (.int .i64 0) (ex_assign _) ?_
  simp only [Act.put, List.setIfInBounds_toArray, List.set_cons_succ, List.set_cons_zero]
  refine wl_nil ?_
  (try simp only [Exit.then, Exit.inBlock, ↓reduceIte, Nat.reduceEqDiff])
  refine hK120 _ _ ?_
  refine wp_seq_k (fun K132 hK132 => ?_)
  refine region_wl ?_
  refine do_ rfl (.slice a18 (pairsN l0 30).length c19) (ex_move _) ?_
  simp only [Act.put, List.setIfInBounds_toArray, List.set_cons_succ, List.set_cons_zero]
  refine do_ rfl (.agg #[(.slice xa100 (keyL l20).length xc101), (.slice xa103 (l21.take 32).length xc104)]) (ex_load rfl (loadN (cs := [(.slice xa100 (keyL l20).length xc101), (.slice xa103 (l21.take 32).length xc104)]) Try.underlying49 rfl (size_49) (St.range S122 (i := 0) rfl 0 [(.slice xa100 (keyL l20).length xc101), (.slice xa103 (l21.take 32).length xc104)] (sub_range 0 rfl)))) ?_
  simp only [Act.put, List.setIfInBounds_toArray, List.set_cons_succ, List.set_cons_zero]
  refine stGives S122 rfl (ex_fn (vs := #[(.slice a18 (pairsN l0 30).length c19), (.agg #[(.slice xa100 (keyL l20).length xc101), (.slice xa103 (l21.take 32).length xc104)])]) (map2 rfl rfl) rfl (ent_53 _ _)) (putOk_spec _ _ _ _ (pairsN l0 30) ((keyL l20), (l21.take 32)) (S122).sat (hv17.mono (((le55.trans le98).trans le112).trans le124)) ⟨_, _, _, _, rfl, (r102.mono (le112.trans le124)), (r105.mono (le112.trans le124))⟩ (show TreeOk 30 (pairsN l0 30) from pairsN_ok l0 30) (by omega) ⟨(keyL_len l20).1, (keyL_len l20).2, by simp; omega⟩) ?_
  intro v138 w133 F135 S134 le136 R137
  obtain ⟨_, rfl, r141⟩ := R137
  obtain ⟨a139, c140, rfl, h142, h143⟩ := Sl.shape r141
  unfold maxLen at h143
  have h142 : (putT (pairsN l0 30) (keyL l20) (l21.take 32)).length ≤ c140 := h142
  have r141 : Prs _ (.slice a139 (putT (pairsN l0 30) (keyL l20) (l21.take 32)).length c140) (putT (pairsN l0 30) (keyL l20) (l21.take 32)) := r141
  simp only [Act.put, List.setIfInBounds_toArray, List.set_cons_succ, List.set_cons_zero]
  have S134 : St W (whole W) w133 F135 [⟨n89, [(.slice xa100 (keyL l20).length xc101), (.slice xa103 (l21.take 32).length xc104)], 49⟩, ⟨n46, [(.slice xa57 (keyL l10).length xc58), (.slice xa60 (l11.take 32).length xc61)], 49⟩, ⟨n5, [(.slice a20 l20.length c20), (.slice a21 l21.length c21)], 57⟩, ⟨n2, [(.slice a10 l10.length c10), (.slice a11 l11.length c11)], 57⟩] [] := S134
  refine do_ rfl (.tuple #[(.slice a139 (putT (pairsN l0 30) (keyL l20) (l21.take 32)).length c140), (.int .i64 0)]) (ex_move _) ?_
  simp only [Act.put, List.setIfInBounds_toArray, List.set_cons_succ, List.set_cons_zero]
  refine do_ rfl (.slice a139 (putT (pairsN l0 30) (keyL l20) (l21.take 32)).length c140) (ex_extract rfl rfl) ?_
  simp only [Act.put, List.setIfInBounds_toArray, List.set_cons_succ, List.set_cons_zero]
  refine do_ rfl (.int .i64 0) (ex_extract rfl rfl) ?_
  simp only [Act.put, List.setIfInBounds_toArray, List.set_cons_succ, List.set_cons_zero]
  refine do_ rfl (.slice a139 (putT (pairsN l0 30) (keyL l20) (l21.take 32)).length c140) (ex_assign _) ?_
  simp only [Act.put, List.setIfInBounds_toArray, List.set_cons_succ, List.set_cons_zero]
  refine do_ rfl (.int .i64 0) (ex_assign _) ?_
  simp only [Act.put, List.setIfInBounds_toArray, List.set_cons_succ, List.set_cons_zero]
  refine wl_nil ?_
  (try simp only [Exit.then, Exit.inBlock, ↓reduceIte, Nat.reduceEqDiff])
  refine hK132 _ _ ?_
  refine wp_seq_k (fun K144 hK144 => ?_)
  refine region_wl ?_
  refine do_ rfl (.slice a139 (putT (pairsN l0 30) (keyL l20) (l21.take 32)).length c140) (ex_move _) ?_
  simp only [Act.put, List.setIfInBounds_toArray, List.set_cons_succ, List.set_cons_zero]
  refine do_ rfl (.agg #[(.slice xa57 (keyL l10).length xc58), (.slice xa60 (l11.take 32).length xc61)]) (ex_load rfl (loadN (cs := [(.slice xa57 (keyL l10).length xc58), (.slice xa60 (l11.take 32).length xc61)]) Try.underlying49 rfl (size_49) (St.range S134 (i := 1) rfl 0 [(.slice xa57 (keyL l10).length xc58), (.slice xa60 (l11.take 32).length xc61)] (sub_range 0 rfl)))) ?_
  simp only [Act.put, List.setIfInBounds_toArray, List.set_cons_succ, List.set_cons_zero]
  refine stGives S134 rfl (ex_fn (vs := #[(.slice a139 (putT (pairsN l0 30) (keyL l20) (l21.take 32)).length c140), (.agg #[(.slice xa57 (keyL l10).length xc58), (.slice xa60 (l11.take 32).length xc61)])]) (map2 rfl rfl) rfl (ent_53 _ _)) (putOk_spec _ _ _ _ (putT (pairsN l0 30) (keyL l20) (l21.take 32)) ((keyL l10), (l11.take 32)) (S134).sat r141 ⟨_, _, _, _, rfl, (r59.mono (((le98.trans le112).trans le124).trans le136)), (r62.mono (((le98.trans le112).trans le124).trans le136))⟩ (show TreeOk 31 (putT (pairsN l0 30) (keyL l20) (l21.take 32)) from (put_ok (show TreeOk 30 (pairsN l0 30) from pairsN_ok l0 30) (by omega) (p := ((keyL l20), (l21.take 32))) ⟨(keyL_len l20).1, (keyL_len l20).2, by simp; omega⟩).2.2) (by omega) ⟨(keyL_len l10).1, (keyL_len l10).2, by simp; omega⟩) ?_
  intro v150 w145 F147 S146 le148 R149
  obtain ⟨_, rfl, r153⟩ := R149
  obtain ⟨a151, c152, rfl, h154, h155⟩ := Sl.shape r153
  unfold maxLen at h155
  have h154 : (putT (putT (pairsN l0 30) (keyL l20) (l21.take 32)) (keyL l10) (l11.take 32)).length ≤ c152 := h154
  have r153 : Prs _ (.slice a151 (putT (putT (pairsN l0 30) (keyL l20) (l21.take 32)) (keyL l10) (l11.take 32)).length c152) (putT (putT (pairsN l0 30) (keyL l20) (l21.take 32)) (keyL l10) (l11.take 32)) := r153
  simp only [Act.put, List.setIfInBounds_toArray, List.set_cons_succ, List.set_cons_zero]
  have S146 : St W (whole W) w145 F147 [⟨n89, [(.slice xa100 (keyL l20).length xc101), (.slice xa103 (l21.take 32).length xc104)], 49⟩, ⟨n46, [(.slice xa57 (keyL l10).length xc58), (.slice xa60 (l11.take 32).length xc61)], 49⟩, ⟨n5, [(.slice a20 l20.length c20), (.slice a21 l21.length c21)], 57⟩, ⟨n2, [(.slice a10 l10.length c10), (.slice a11 l11.length c11)], 57⟩] [] := S146
  refine do_ rfl (.tuple #[(.slice a151 (putT (putT (pairsN l0 30) (keyL l20) (l21.take 32)) (keyL l10) (l11.take 32)).length c152), (.int .i64 0)]) (ex_move _) ?_
  simp only [Act.put, List.setIfInBounds_toArray, List.set_cons_succ, List.set_cons_zero]
  refine do_ rfl (.slice a151 (putT (putT (pairsN l0 30) (keyL l20) (l21.take 32)) (keyL l10) (l11.take 32)).length c152) (ex_extract rfl rfl) ?_
  simp only [Act.put, List.setIfInBounds_toArray, List.set_cons_succ, List.set_cons_zero]
  refine do_ rfl (.int .i64 0) (ex_extract rfl rfl) ?_
  simp only [Act.put, List.setIfInBounds_toArray, List.set_cons_succ, List.set_cons_zero]
  refine do_ rfl (.slice a151 (putT (putT (pairsN l0 30) (keyL l20) (l21.take 32)) (keyL l10) (l11.take 32)).length c152) (ex_assign _) ?_
  simp only [Act.put, List.setIfInBounds_toArray, List.set_cons_succ, List.set_cons_zero]
  refine do_ rfl (.int .i64 0) (ex_assign _) ?_
  simp only [Act.put, List.setIfInBounds_toArray, List.set_cons_succ, List.set_cons_zero]
  refine wl_nil ?_
  (try simp only [Exit.then, Exit.inBlock, ↓reduceIte, Nat.reduceEqDiff])
  refine hK144 _ _ ?_
  refine wp_seq_k (fun K156 hK156 => ?_)
  refine wp_seq_k (fun K157 hK157 => ?_)
  refine region_wl ?_
  refine do_ rfl (.int .i64 0) (ex_move _) ?_
  simp only [Act.put, List.setIfInBounds_toArray, List.set_cons_succ, List.set_cons_zero]
  refine do_ rfl (.bool false) (ex_neq (b := false) rfl rfl (by decide)) ?_
  simp only [Act.put, List.setIfInBounds_toArray, List.set_cons_succ, List.set_cons_zero]
  refine do_ rfl (.bool false) (ex_move _) ?_
  simp only [Act.put, List.setIfInBounds_toArray, List.set_cons_succ, List.set_cons_zero]
  refine do_ rfl (.int .i64 0) (ex_move _) ?_
  simp only [Act.put, List.setIfInBounds_toArray, List.set_cons_succ, List.set_cons_zero]
  refine do_ rfl (.bool false) (ex_neq (b := false) rfl rfl (by decide)) ?_
  simp only [Act.put, List.setIfInBounds_toArray, List.set_cons_succ, List.set_cons_zero]
  refine do_ rfl (.bool false) (ex_pick (b := false) rfl) ?_
  simp only [Act.put, List.setIfInBounds_toArray, List.set_cons_succ, List.set_cons_zero]
  refine do_ rfl (.bool false) (ex_move _) ?_
  simp only [Act.put, List.setIfInBounds_toArray, List.set_cons_succ, List.set_cons_zero]
  refine do_ rfl (.int .i64 0) (ex_move _) ?_
  simp only [Act.put, List.setIfInBounds_toArray, List.set_cons_succ, List.set_cons_zero]
  refine do_ rfl (.bool false) (ex_neq (b := false) rfl rfl (by decide)) ?_
  simp only [Act.put, List.setIfInBounds_toArray, List.set_cons_succ, List.set_cons_zero]
  refine do_ rfl (.bool false) (ex_pick (b := false) rfl) ?_
  simp only [Act.put, List.setIfInBounds_toArray, List.set_cons_succ, List.set_cons_zero]
  refine do_ rfl (.bool false) (ex_move _) ?_
  simp only [Act.put, List.setIfInBounds_toArray, List.set_cons_succ, List.set_cons_zero]
  refine do_ rfl (.int .i64 0) (ex_move _) ?_
  simp only [Act.put, List.setIfInBounds_toArray, List.set_cons_succ, List.set_cons_zero]
  refine do_ rfl (.bool false) (ex_neq (b := false) rfl rfl (by decide)) ?_
  simp only [Act.put, List.setIfInBounds_toArray, List.set_cons_succ, List.set_cons_zero]
  refine do_ rfl (.bool false) (ex_pick (b := false) rfl) ?_
  simp only [Act.put, List.setIfInBounds_toArray, List.set_cons_succ, List.set_cons_zero]
  refine do_ rfl (.bool false) (ex_move _) ?_
  simp only [Act.put, List.setIfInBounds_toArray, List.set_cons_succ, List.set_cons_zero]
  refine do_ rfl (.slice a127 (putT (putT (pairsN l0 30) (keyL l10) (l11.take 32)) (keyL l20) (l21.take 32)).length c128) (ex_move _) ?_
  simp only [Act.put, List.setIfInBounds_toArray, List.set_cons_succ, List.set_cons_zero]
  refine do_ rfl (.int .i64 (((putT (putT (pairsN l0 30) (keyL l10) (l11.take 32)) (keyL l20) (l21.take 32)).length : Nat) : Int)) (ex_len Try.underlying44 rfl) ?_
  simp only [Act.put, List.setIfInBounds_toArray, List.set_cons_succ, List.set_cons_zero]
  refine do_ rfl (.bool false) (ex_eql (m := (((putT (putT (pairsN l0 30) (keyL l10) (l11.take 32)) (keyL l20) (l21.take 32)).length : Nat) : Int)) (n := (0 : Int)) (b := false) rfl rfl (beq_eq_false_iff_ne.2 (by have := @putT_pos (putT (pairsN l0 30) (keyL l10) (l11.take 32)) (keyL l20) (l21.take 32); omega))) ?_
  simp only [Act.put, List.setIfInBounds_toArray, List.set_cons_succ, List.set_cons_zero]
  refine do_ rfl (.bool false) (ex_pick (b := false) rfl) ?_
  simp only [Act.put, List.setIfInBounds_toArray, List.set_cons_succ, List.set_cons_zero]
  refine wl_nil ?_
  (try simp only [Exit.then, Exit.inBlock, ↓reduceIte, Nat.reduceEqDiff])
  refine hK157 _ _ ?_
  refine wp_cond_false rfl ?_
  refine wp_skip ?_
  (try simp only [Exit.then, Exit.inBlock, ↓reduceIte, Nat.reduceEqDiff])
  refine hK156 _ _ ?_
  refine wp_seq_k (fun K158 hK158 => ?_)
  refine wp_seq_k (fun K159 hK159 => ?_)
  by_cases heq : (keyL l10) = (keyL l20)
  · refine region_wl ?_
    refine do_ rfl (.pointer (some ⟨n46, 0, none⟩)) (ex_field (q := ⟨n46, 0, none⟩) rfl (fa_49_0 _ _)) ?_
    simp only [Act.put, List.setIfInBounds_toArray, List.set_cons_succ, List.set_cons_zero]
    refine do_ rfl (.slice xa57 (keyL l10).length xc58) (ex_load rfl (load1 (nagg_27 _) (St.cell S146 (i := 1) rfl rfl))) ?_
    simp only [Act.put, List.setIfInBounds_toArray, List.set_cons_succ, List.set_cons_zero]
    refine do_ rfl (.pointer (some ⟨n89, 0, none⟩)) (ex_field (q := ⟨n89, 0, none⟩) rfl (fa_49_0 _ _)) ?_
    simp only [Act.put, List.setIfInBounds_toArray, List.set_cons_succ, List.set_cons_zero]
    refine do_ rfl (.slice xa100 (keyL l20).length xc101) (ex_load rfl (load1 (nagg_27 _) (St.cell S146 (i := 0) rfl rfl))) ?_
    simp only [Act.put, List.setIfInBounds_toArray, List.set_cons_succ, List.set_cons_zero]
    refine stTells (v := (.bool true)) S146 rfl (ex_fn (vs := #[(.slice xa57 (keyL l10).length xc58), (.slice xa100 (keyL l20).length xc101)]) (map2 rfl rfl) rfl (ent_46 _ _)) (tells_bool (tells_same (same_spec _ _ _ _ (keyL l10) (keyL l20) (S146).sat (r59.mono ((((le98.trans le112).trans le124).trans le136).trans le148)) (r102.mono (((le112.trans le124).trans le136).trans le148)))) (beq_iff_eq.2 (heq))) (fun w160 S161 => ?_)
    simp only [Act.put, List.setIfInBounds_toArray, List.set_cons_succ, List.set_cons_zero]
    have S161 : St W (whole W) w160 F147 [⟨n89, [(.slice xa100 (keyL l20).length xc101), (.slice xa103 (l21.take 32).length xc104)], 49⟩, ⟨n46, [(.slice xa57 (keyL l10).length xc58), (.slice xa60 (l11.take 32).length xc61)], 49⟩, ⟨n5, [(.slice a20 l20.length c20), (.slice a21 l21.length c21)], 57⟩, ⟨n2, [(.slice a10 l10.length c10), (.slice a11 l11.length c11)], 57⟩] [] := S161
    refine wl_nil ?_
    (try simp only [Exit.then, Exit.inBlock, ↓reduceIte, Nat.reduceEqDiff])
    refine hK159 _ _ ?_
    refine wp_cond_true rfl ?_
    refine wp_seq_k (fun K162 hK162 => ?_)
    refine region_wl ?_
    refine do_ rfl (.slice a127 (putT (putT (pairsN l0 30) (keyL l10) (l11.take 32)) (keyL l20) (l21.take 32)).length c128) (ex_move _) ?_
    simp only [Act.put, List.setIfInBounds_toArray, List.set_cons_succ, List.set_cons_zero]
    refine do_ rfl (.slice a139 (putT (pairsN l0 30) (keyL l20) (l21.take 32)).length c140) (ex_move _) ?_
    simp only [Act.put, List.setIfInBounds_toArray, List.set_cons_succ, List.set_cons_zero]
    refine stTells (v := (.bool true)) S161 rfl (ex_fn (vs := #[(.slice a127 (putT (putT (pairsN l0 30) (keyL l10) (l11.take 32)) (keyL l20) (l21.take 32)).length c128), (.slice a139 (putT (pairsN l0 30) (keyL l20) (l21.take 32)).length c140)]) (map2 rfl rfl) rfl (ent_50 _ _)) (tells_bool (samePairs_spec _ _ _ _ (putT (putT (pairsN l0 30) (keyL l10) (l11.take 32)) (keyL l20) (l21.take 32)) (putT (pairsN l0 30) (keyL l20) (l21.take 32)) (S161).sat (r129.mono (le136.trans le148)) (r141.mono le148) (by have := TreeOk.len (show TreeOk 32 (putT (putT (pairsN l0 30) (keyL l10) (l11.take 32)) (keyL l20) (l21.take 32)) from (put_ok (show TreeOk 31 (putT (pairsN l0 30) (keyL l10) (l11.take 32)) from (put_ok (show TreeOk 30 (pairsN l0 30) from pairsN_ok l0 30) (by omega) (p := ((keyL l10), (l11.take 32))) ⟨(keyL_len l10).1, (keyL_len l10).2, by simp; omega⟩).2.2) (by omega) (p := ((keyL l20), (l21.take 32))) ⟨(keyL_len l20).1, (keyL_len l20).2, by simp; omega⟩).2.2); omega)) (decide_eq_true (by rw [heq]; exact putT_again (pairsN_rise l0 30) _ _ _))) (fun w163 S164 => ?_)
    simp only [Act.put, List.setIfInBounds_toArray, List.set_cons_succ, List.set_cons_zero]
    have S164 : St W (whole W) w163 F147 [⟨n89, [(.slice xa100 (keyL l20).length xc101), (.slice xa103 (l21.take 32).length xc104)], 49⟩, ⟨n46, [(.slice xa57 (keyL l10).length xc58), (.slice xa60 (l11.take 32).length xc61)], 49⟩, ⟨n5, [(.slice a20 l20.length c20), (.slice a21 l21.length c21)], 57⟩, ⟨n2, [(.slice a10 l10.length c10), (.slice a11 l11.length c11)], 57⟩] [] := S164
    refine do_ rfl (.bool true) (ex_assign _) ?_
    simp only [Act.put, List.setIfInBounds_toArray, List.set_cons_succ, List.set_cons_zero]
    refine wl_nil ?_
    (try simp only [Exit.then, Exit.inBlock, ↓reduceIte, Nat.reduceEqDiff])
    refine hK162 _ _ ?_
    refine wp_ret ?_
    (try simp only [Exit.then, Exit.inBlock, ↓reduceIte, Nat.reduceEqDiff])
    refine bodyPost_ret (v := (.bool true)) ?_ rfl ?_
    · exact res_t rfl rfl
    · exact ⟨rfl, S164.gr.below⟩
  · refine region_wl ?_
    refine do_ rfl (.pointer (some ⟨n46, 0, none⟩)) (ex_field (q := ⟨n46, 0, none⟩) rfl (fa_49_0 _ _)) ?_
    simp only [Act.put, List.setIfInBounds_toArray, List.set_cons_succ, List.set_cons_zero]
    refine do_ rfl (.slice xa57 (keyL l10).length xc58) (ex_load rfl (load1 (nagg_27 _) (St.cell S146 (i := 1) rfl rfl))) ?_
    simp only [Act.put, List.setIfInBounds_toArray, List.set_cons_succ, List.set_cons_zero]
    refine do_ rfl (.pointer (some ⟨n89, 0, none⟩)) (ex_field (q := ⟨n89, 0, none⟩) rfl (fa_49_0 _ _)) ?_
    simp only [Act.put, List.setIfInBounds_toArray, List.set_cons_succ, List.set_cons_zero]
    refine do_ rfl (.slice xa100 (keyL l20).length xc101) (ex_load rfl (load1 (nagg_27 _) (St.cell S146 (i := 0) rfl rfl))) ?_
    simp only [Act.put, List.setIfInBounds_toArray, List.set_cons_succ, List.set_cons_zero]
    refine stTells (v := (.bool false)) S146 rfl (ex_fn (vs := #[(.slice xa57 (keyL l10).length xc58), (.slice xa100 (keyL l20).length xc101)]) (map2 rfl rfl) rfl (ent_46 _ _)) (tells_bool (tells_same (same_spec _ _ _ _ (keyL l10) (keyL l20) (S146).sat (r59.mono ((((le98.trans le112).trans le124).trans le136).trans le148)) (r102.mono (((le112.trans le124).trans le136).trans le148)))) (beq_eq_false_iff_ne.2 (heq))) (fun w165 S166 => ?_)
    simp only [Act.put, List.setIfInBounds_toArray, List.set_cons_succ, List.set_cons_zero]
    have S166 : St W (whole W) w165 F147 [⟨n89, [(.slice xa100 (keyL l20).length xc101), (.slice xa103 (l21.take 32).length xc104)], 49⟩, ⟨n46, [(.slice xa57 (keyL l10).length xc58), (.slice xa60 (l11.take 32).length xc61)], 49⟩, ⟨n5, [(.slice a20 l20.length c20), (.slice a21 l21.length c21)], 57⟩, ⟨n2, [(.slice a10 l10.length c10), (.slice a11 l11.length c11)], 57⟩] [] := S166
    refine wl_nil ?_
    (try simp only [Exit.then, Exit.inBlock, ↓reduceIte, Nat.reduceEqDiff])
    refine hK159 _ _ ?_
    refine wp_cond_false rfl ?_
    refine wp_skip ?_
    (try simp only [Exit.then, Exit.inBlock, ↓reduceIte, Nat.reduceEqDiff])
    refine hK158 _ _ ?_
    refine wp_seq_k (fun K167 hK167 => ?_)
    refine region_wl ?_
    refine do_ rfl (.slice a127 (putT (putT (pairsN l0 30) (keyL l10) (l11.take 32)) (keyL l20) (l21.take 32)).length c128) (ex_move _) ?_
    simp only [Act.put, List.setIfInBounds_toArray, List.set_cons_succ, List.set_cons_zero]
    refine do_ rfl (.slice a151 (putT (putT (pairsN l0 30) (keyL l20) (l21.take 32)) (keyL l10) (l11.take 32)).length c152) (ex_move _) ?_
    simp only [Act.put, List.setIfInBounds_toArray, List.set_cons_succ, List.set_cons_zero]
    refine stTells (v := (.bool true)) S166 rfl (ex_fn (vs := #[(.slice a127 (putT (putT (pairsN l0 30) (keyL l10) (l11.take 32)) (keyL l20) (l21.take 32)).length c128), (.slice a151 (putT (putT (pairsN l0 30) (keyL l20) (l21.take 32)) (keyL l10) (l11.take 32)).length c152)]) (map2 rfl rfl) rfl (ent_50 _ _)) (tells_bool (samePairs_spec _ _ _ _ (putT (putT (pairsN l0 30) (keyL l10) (l11.take 32)) (keyL l20) (l21.take 32)) (putT (putT (pairsN l0 30) (keyL l20) (l21.take 32)) (keyL l10) (l11.take 32)) (S166).sat (r129.mono (le136.trans le148)) r153 (by have := TreeOk.len (show TreeOk 32 (putT (putT (pairsN l0 30) (keyL l10) (l11.take 32)) (keyL l20) (l21.take 32)) from (put_ok (show TreeOk 31 (putT (pairsN l0 30) (keyL l10) (l11.take 32)) from (put_ok (show TreeOk 30 (pairsN l0 30) from pairsN_ok l0 30) (by omega) (p := ((keyL l10), (l11.take 32))) ⟨(keyL_len l10).1, (keyL_len l10).2, by simp; omega⟩).2.2) (by omega) (p := ((keyL l20), (l21.take 32))) ⟨(keyL_len l20).1, (keyL_len l20).2, by simp; omega⟩).2.2); omega)) (decide_eq_true (putT_comm (pairsN_rise l0 30) heq))) (fun w168 S169 => ?_)
    simp only [Act.put, List.setIfInBounds_toArray, List.set_cons_succ, List.set_cons_zero]
    have S169 : St W (whole W) w168 F147 [⟨n89, [(.slice xa100 (keyL l20).length xc101), (.slice xa103 (l21.take 32).length xc104)], 49⟩, ⟨n46, [(.slice xa57 (keyL l10).length xc58), (.slice xa60 (l11.take 32).length xc61)], 49⟩, ⟨n5, [(.slice a20 l20.length c20), (.slice a21 l21.length c21)], 57⟩, ⟨n2, [(.slice a10 l10.length c10), (.slice a11 l11.length c11)], 57⟩] [] := S169
    refine do_ rfl (.bool true) (ex_assign _) ?_
    simp only [Act.put, List.setIfInBounds_toArray, List.set_cons_succ, List.set_cons_zero]
    refine wl_nil ?_
    (try simp only [Exit.then, Exit.inBlock, ↓reduceIte, Nat.reduceEqDiff])
    refine hK167 _ _ ?_
    refine wp_ret ?_
    (try simp only [Exit.then, Exit.inBlock, ↓reduceIte, Nat.reduceEqDiff])
    refine bodyPost_ret (v := (.bool true)) ?_ rfl ?_
    · exact res_t rfl rfl
    · exact ⟨rfl, S169.gr.below⟩
end Go.Proofs.Yteefnnnbbmbmcaa
