/- Walks: canopykeep.Write, Writes, Forest, sameForest -/
import Derived.Test.YteefnnnbbmbmcaaF4
import Derived.Test.YteefnnnbbmbmcaaP12
namespace Go.Proofs.Yteefnnnbbmbmcaa
open Go.RowKit
set_option maxRecDepth 100000
set_option linter.unusedVariables false
set_option linter.unusedSimpArgs false
set_option maxHeartbeats 8000000 in
theorem keepWrite_spec (F : Fz) (w : World) (v : Value) (p : Pl) (hs : Sat w F) (hv : PlV F v p) :
    Calls Try.prog 56 #[v] w (Gives w F fun F' u => WrV F' u (writeP p)) := by
  obtain ⟨x0, y0, x1, y1, x2, y2, rfl, h0, h1, h2⟩ := hv
  have S := St.start hs
  go_enter Try.func56, Try.ntmps56
  refine wp_seq_k (fun K1 hK1 => ?_)
  refine region_wl ?_
  refine stNew S (v := fun n => .pointer (some ⟨n, 0, none⟩)) rfl (ex_box (v := (.agg #[(.slice x0 p.name.length y0), (.slice x1 p.key.length y1), (.slice x2 p.value.length y2), (.bool p.gone)])) rfl) (fun n2 w3 S4 => ?_)
  simp only [Act.put, List.setIfInBounds_toArray, List.set_cons_succ, List.set_cons_zero]
  have S4 : St w F w3 F [⟨n2, [(.slice x0 p.name.length y0), (.slice x1 p.key.length y1), (.slice x2 p.value.length y2), (.bool p.gone)], 70⟩] [] := S4
  refine stNew S4 (v := fun n => .pointer (some ⟨n, 0, none⟩)) rfl (ex_alloc (zero_67 _)) (fun n5 w6 S7 => ?_)
  simp only [Act.put, List.setIfInBounds_toArray, List.set_cons_succ, List.set_cons_zero]
  have S7 : St w F w6 F [⟨n5, [(.slice none 0 0), (.slice none 0 0), (.bool false), (.slice none 0 0)], 67⟩, ⟨n2, [(.slice x0 p.name.length y0), (.slice x1 p.key.length y1), (.slice x2 p.value.length y2), (.bool p.gone)], 70⟩] [] := S7
  refine wl_nil ?_
  (try simp only [Exit.then, Exit.inBlock, ↓reduceIte, Nat.reduceEqDiff])
  refine hK1 _ _ ?_
  refine wp_seq_k (fun K8 hK8 => ?_)
  refine region_gw F 10 [(2, .made (fun F' u => Bs F' u (nameL p.name))), (5, .made (fun F' u => Bs F' u (keyL p.key))), (8, .made (fun F' u => WrV F' u (⟨(nameL p.name), (keyL p.key), p.gone, ([] : By)⟩ : Wr))), (9, .rel (NewAt w6 [(.slice none 0 0), (.slice none 0 0), (.bool false), (.slice none 0 0)] 67) (NewAt.stable _ _ _))] (by kernel_rfl) (by kernel_rfl) ?_
  simp only [List.take_succ_cons, List.take_zero]
  refine gw_pure rfl rfl (.pointer (some ⟨n2, 0, none⟩)) (fun w9 hCw9 => pureAt_of (ex_field (q := ⟨n2, 0, none⟩) rfl (fa_70_0 _ _))) ?_
  simp only [Act.put, List.setIfInBounds_toArray, List.set_cons_succ, List.set_cons_zero]
  refine gw_pure rfl rfl (.slice x0 p.name.length y0) (fun w9 hCw9 => pureAt_of (ex_load rfl (load1 (nagg_27 _) (St.cell (St.tells S7 hCw9) (i := 1) rfl rfl)))) ?_
  simp only [Act.put, List.setIfInBounds_toArray, List.set_cons_succ, List.set_cons_zero]
  refine gw_rel rfl rfl (fun w9 hCw9 hF => does_call (ex_fn (vs := #[(.slice x0 p.name.length y0)]) (map1 rfl) rfl (ent_91 _ _)) (call_made S7.sat hCw9 (name_spec _ _ _ p.name ((St.tells S7 hCw9)).sat h0))) (fun v10 => ?_)
  simp only [Act.put, List.setIfInBounds_toArray, List.set_cons_succ, List.set_cons_zero]
  refine gw_pure rfl rfl (.pointer (some ⟨n2, 1, none⟩)) (fun w9 hCw9 => pureAt_of (ex_field (q := ⟨n2, 1, none⟩) rfl (fa_70_1 _ _))) ?_
  simp only [Act.put, List.setIfInBounds_toArray, List.set_cons_succ, List.set_cons_zero]
  refine gw_pure rfl rfl (.slice x1 p.key.length y1) (fun w9 hCw9 => pureAt_of (ex_load rfl (load1 (nagg_27 _) (St.cell (St.tells S7 hCw9) (i := 1) rfl rfl)))) ?_
  simp only [Act.put, List.setIfInBounds_toArray, List.set_cons_succ, List.set_cons_zero]
  refine gw_rel rfl rfl (fun w9 hCw9 hF => does_call (ex_fn (vs := #[(.slice x1 p.key.length y1)]) (map1 rfl) rfl (ent_44 _ _)) (call_made S7.sat hCw9 (key_spec _ _ _ p.key ((St.tells S7 hCw9)).sat h1))) (fun v11 => ?_)
  simp only [Act.put, List.setIfInBounds_toArray, List.set_cons_succ, List.set_cons_zero]
  refine gw_pure rfl rfl (.pointer (some ⟨n2, 3, none⟩)) (fun w9 hCw9 => pureAt_of (ex_field (q := ⟨n2, 3, none⟩) rfl (fa_70_3 _ _))) ?_
  simp only [Act.put, List.setIfInBounds_toArray, List.set_cons_succ, List.set_cons_zero]
  refine gw_pure rfl rfl (.bool p.gone) (fun w9 hCw9 => pureAt_of (ex_load rfl (load1 (nagg_4 _) (St.cell (St.tells S7 hCw9) (i := 1) rfl rfl)))) ?_
  simp only [Act.put, List.setIfInBounds_toArray, List.set_cons_succ, List.set_cons_zero]
  refine gw_rel rfl rfl (fun w9 hCw9 hF_ => ?_) (fun v12 => ?_)
  · obtain ⟨F13, g14, R15⟩ := hF_.get 2 (by kernel_rfl) rfl rfl
    obtain ⟨F18, g19, R20⟩ := hF_.get 5 (by kernel_rfl) rfl rfl
    have hR0 := (R15.mono (both_left F13 F18))
    obtain ⟨xa23, xc24, rfl, _⟩ := hR0.shape
    have hR1 := (R20.mono (both_right g14.sat g19.sat))
    obtain ⟨xa25, xc26, rfl, _⟩ := hR1.shape
    have hR3 := Bs.nil (both F13 F18)
    exact does_val (ex_build (bmap3 rfl rfl rfl) (by kernel_rfl)) ⟨(both F13 F18), (g14.both g19), ⟨_, _, _, _, _, _, rfl, hR0, hR1, hR3⟩⟩ (Below.refl _ _)
  simp only [Act.put, List.setIfInBounds_toArray, List.set_cons_succ, List.set_cons_zero]
  refine gw_rel rfl rfl (fun w9 hCw9 _ => does_alloc (cs := [(.slice none 0 0), (.slice none 0 0), (.bool false), (.slice none 0 0)]) (zero_67 _) rfl hCw9) (fun v27 => ?_)
  simp only [Act.put, List.setIfInBounds_toArray, List.set_cons_succ, List.set_cons_zero]
  refine gw_nil ?_
  intro w28 hC30 hF31
  obtain ⟨n32, rfl, hn33, hb34⟩ := hF31.getR 9 rfl rfl
  have hnbn32 : ∀ u ∈ [(.slice none 0 0), (.slice none 0 0), (.bool false), (.slice none 0 0)], ∀ x, u ≠ bv x := by intro u hu x; simp only [List.mem_cons, List.not_mem_nil, or_false] at hu; rcases hu with rfl | rfl | rfl | rfl <;> (unfold bv; simp)
  obtain ⟨F35, g36, R37⟩ := hF31.get 8 rfl rfl
  have g38 := g36.dropF S7.sat hn33
  have R39 := WrV.dropF g36.sat hb34 hnbn32 R37
  have S29 := St.addBlk (cs := [(.slice none 0 0), (.slice none 0 0), (.bool false), (.slice none 0 0)]) S7 g38 hn33 (dropF_at _ _) hb34
  have le41 : Le _ _ := g38.le S7.sat
  have R42 := R39
  generalize (dropF F35 n32) = F40 at *
  obtain ⟨xa43, xc44, xa46, xc47, xa49, xc50, rfl, r45, r48, r51⟩ := R42
  have r45 : Bs _ (.slice xa43 (nameL p.name).length xc44) (nameL p.name) := r45
  have r48 : Bs _ (.slice xa46 (keyL p.key).length xc47) (keyL p.key) := r48
  have r51 : Bs _ (.slice xa49 ([] : By).length xc50) ([] : By) := r51
  clear hF31
  simp only [List.drop_succ_cons, List.drop_zero]
  have S29 : St w F w28 F40 [⟨n32, [(.slice none 0 0), (.slice none 0 0), (.bool false), (.slice none 0 0)], 67⟩, ⟨n5, [(.slice none 0 0), (.slice none 0 0), (.bool false), (.slice none 0 0)], 67⟩, ⟨n2, [(.slice x0 p.name.length y0), (.slice x1 p.key.length y1), (.slice x2 p.value.length y2), (.bool p.gone)], 70⟩] [] := S29
  refine stStore (i := 0) (v := (.agg #[(.slice xa43 (nameL p.name).length xc44), (.slice xa46 (keyL p.key).length xc47), (.bool p.gone), (.slice xa49 ([] : By).length xc50)])) S29 rfl rfl rfl rfl (size_67) (allc4 rfl rfl rfl rfl) (Nat.le_of_ble_eq_true rfl) (fun w52 S53 => ?_)
  simp only [Act.put, List.setIfInBounds_toArray, List.set_cons_succ, List.set_cons_zero]
  have S53 : St w F w52 F40 [⟨n32, [(.slice xa43 (nameL p.name).length xc44), (.slice xa46 (keyL p.key).length xc47), (.bool p.gone), (.slice xa49 ([] : By).length xc50)], 67⟩, ⟨n5, [(.slice none 0 0), (.slice none 0 0), (.bool false), (.slice none 0 0)], 67⟩, ⟨n2, [(.slice x0 p.name.length y0), (.slice x1 p.key.length y1), (.slice x2 p.value.length y2), (.bool p.gone)], 70⟩] [] := S53
  refine wl_nil ?_
  (try simp only [Exit.then, Exit.inBlock, ↓reduceIte, Nat.reduceEqDiff])
  refine hK8 _ _ ?_
  refine wp_seq_k (fun K54 hK54 => ?_)
  refine wp_seq_k (fun K55 hK55 => ?_)
  refine region_wl ?_
  refine do_ rfl (.pointer (some ⟨n2, 3, none⟩)) (ex_field (q := ⟨n2, 3, none⟩) rfl (fa_70_3 _ _)) ?_
  simp only [Act.put, List.setIfInBounds_toArray, List.set_cons_succ, List.set_cons_zero]
  refine do_ rfl (.bool p.gone) (ex_load rfl (load1 (nagg_4 _) (St.cell S53 (i := 2) rfl rfl))) ?_
  simp only [Act.put, List.setIfInBounds_toArray, List.set_cons_succ, List.set_cons_zero]
  refine do_ rfl (.bool (!p.gone)) (ex_not rfl rfl) ?_
  simp only [Act.put, List.setIfInBounds_toArray, List.set_cons_succ, List.set_cons_zero]
  refine wl_nil ?_
  (try simp only [Exit.then, Exit.inBlock, ↓reduceIte, Nat.reduceEqDiff])
  refine hK55 _ _ ?_
  refine wp_cond_split rfl (fun hc56 => ?_) (fun hc56 => ?_)
  · refine region_wl ?_
    refine do_ rfl (.pointer (some ⟨n2, 2, none⟩)) (ex_field (q := ⟨n2, 2, none⟩) rfl (fa_70_2 _ _)) ?_
    simp only [Act.put, List.setIfInBounds_toArray, List.set_cons_succ, List.set_cons_zero]
    refine do_ rfl (.slice x2 p.value.length y2) (ex_load rfl (load1 (nagg_27 _) (St.cell S53 (i := 2) rfl rfl))) ?_
    simp only [Act.put, List.setIfInBounds_toArray, List.set_cons_succ, List.set_cons_zero]
    refine stGives S53 rfl (ex_fn (vs := #[(.slice x2 p.value.length y2), (.int .i64 32)]) (map2 rfl rfl) rfl (ent_52 _ _)) (some_spec _ _ _ p.value 32 (S53).sat (h2.mono le41) (by omega) (by omega)) ?_
    intro v62 w57 F59 S58 le60 R61
    obtain ⟨xa63, xc64, rfl, _⟩ := R61.shape
    simp only [Act.put, List.setIfInBounds_toArray, List.set_cons_succ, List.set_cons_zero]
    have S58 : St w F w57 F59 [⟨n32, [(.slice xa43 (nameL p.name).length xc44), (.slice xa46 (keyL p.key).length xc47), (.bool p.gone), (.slice xa49 ([] : By).length xc50)], 67⟩, ⟨n5, [(.slice none 0 0), (.slice none 0 0), (.bool false), (.slice none 0 0)], 67⟩, ⟨n2, [(.slice x0 p.name.length y0), (.slice x1 p.key.length y1), (.slice x2 p.value.length y2), (.bool p.gone)], 70⟩] [] := S58
    refine do_ rfl (.pointer (some ⟨n32, 3, none⟩)) (ex_field (q := ⟨n32, 3, none⟩) rfl (fa_67_3 _ _)) ?_
    simp only [Act.put, List.setIfInBounds_toArray, List.set_cons_succ, List.set_cons_zero]
    refine stStore (i := 0) (v := (.slice xa63 (p.value.take 32).length xc64)) S58 rfl rfl rfl rfl (size_27) (allc1 rfl) (Nat.le_of_ble_eq_true rfl) (fun w65 S66 => ?_)
    simp only [Act.put, List.setIfInBounds_toArray, List.set_cons_succ, List.set_cons_zero]
    have S66 : St w F w65 F59 [⟨n32, [(.slice xa43 (nameL p.name).length xc44), (.slice xa46 (keyL p.key).length xc47), (.bool p.gone), (.slice xa63 (p.value.take 32).length xc64)], 67⟩, ⟨n5, [(.slice none 0 0), (.slice none 0 0), (.bool false), (.slice none 0 0)], 67⟩, ⟨n2, [(.slice x0 p.name.length y0), (.slice x1 p.key.length y1), (.slice x2 p.value.length y2), (.bool p.gone)], 70⟩] [] := S66
    refine wl_nil ?_
    (try simp only [Exit.then, Exit.inBlock, ↓reduceIte, Nat.reduceEqDiff])
    refine hK54 _ _ ?_
    refine wp_seq_k (fun K67 hK67 => ?_)
    refine region_wl ?_
    refine do_ rfl (.agg #[(.slice xa43 (nameL p.name).length xc44), (.slice xa46 (keyL p.key).length xc47), (.bool p.gone), (.slice xa63 (p.value.take 32).length xc64)]) (ex_load rfl (loadN (cs := [(.slice xa43 (nameL p.name).length xc44), (.slice xa46 (keyL p.key).length xc47), (.bool p.gone), (.slice xa63 (p.value.take 32).length xc64)]) Try.underlying67 rfl (size_67) (St.range S66 (i := 0) rfl 0 [(.slice xa43 (nameL p.name).length xc44), (.slice xa46 (keyL p.key).length xc47), (.bool p.gone), (.slice xa63 (p.value.take 32).length xc64)] (sub_range 0 rfl)))) ?_
    simp only [Act.put, List.setIfInBounds_toArray, List.set_cons_succ, List.set_cons_zero]
    refine stStore (i := 1) (v := (.agg #[(.slice xa43 (nameL p.name).length xc44), (.slice xa46 (keyL p.key).length xc47), (.bool p.gone), (.slice xa63 (p.value.take 32).length xc64)])) S66 rfl rfl rfl rfl (size_67) (allc4 rfl rfl rfl rfl) (Nat.le_of_ble_eq_true rfl) (fun w68 S69 => ?_)
    simp only [Act.put, List.setIfInBounds_toArray, List.set_cons_succ, List.set_cons_zero]
    have S69 : St w F w68 F59 [⟨n32, [(.slice xa43 (nameL p.name).length xc44), (.slice xa46 (keyL p.key).length xc47), (.bool p.gone), (.slice xa63 (p.value.take 32).length xc64)], 67⟩, ⟨n5, [(.slice xa43 (nameL p.name).length xc44), (.slice xa46 (keyL p.key).length xc47), (.bool p.gone), (.slice xa63 (p.value.take 32).length xc64)], 67⟩, ⟨n2, [(.slice x0 p.name.length y0), (.slice x1 p.key.length y1), (.slice x2 p.value.length y2), (.bool p.gone)], 70⟩] [] := S69
    refine wl_nil ?_
    (try simp only [Exit.then, Exit.inBlock, ↓reduceIte, Nat.reduceEqDiff])
    refine hK67 _ _ ?_
    refine wp_ret ?_
    (try simp only [Exit.then, Exit.inBlock, ↓reduceIte, Nat.reduceEqDiff])
    refine bodyPost_ret (v := (.agg #[(.slice xa43 (nameL p.name).length xc44), (.slice xa46 (keyL p.key).length xc47), (.bool p.gone), (.slice xa63 (p.value.take 32).length xc64)])) ?_ rfl ?_
    · exact res_c rfl ⟨_, rfl, loadN (cs := [(.slice xa43 (nameL p.name).length xc44), (.slice xa46 (keyL p.key).length xc47), (.bool p.gone), (.slice xa63 (p.value.take 32).length xc64)]) Try.underlying67 rfl (size_67) (St.range S69 (i := 1) rfl 0 [(.slice xa43 (nameL p.name).length xc44), (.slice xa46 (keyL p.key).length xc47), (.bool p.gone), (.slice xa63 (p.value.take 32).length xc64)] (sub_range 0 rfl))⟩
    · have hw : writeP p = ⟨nameL p.name, keyL p.key, p.gone, (p.value.take 32)⟩ := by unfold writeP; rw [show p.gone = false from by simpa using hc56]; rfl
      rw [hw]
      exact ⟨_, _, rfl, S69.gr, _, _, _, _, _, _, rfl, (r45.mono le60), (r48.mono le60), R61⟩
  · refine wp_skip ?_
    (try simp only [Exit.then, Exit.inBlock, ↓reduceIte, Nat.reduceEqDiff])
    refine hK54 _ _ ?_
    refine wp_seq_k (fun K70 hK70 => ?_)
    refine region_wl ?_
    refine do_ rfl (.agg #[(.slice xa43 (nameL p.name).length xc44), (.slice xa46 (keyL p.key).length xc47), (.bool p.gone), (.slice xa49 ([] : By).length xc50)]) (ex_load rfl (loadN (cs := [(.slice xa43 (nameL p.name).length xc44), (.slice xa46 (keyL p.key).length xc47), (.bool p.gone), (.slice xa49 ([] : By).length xc50)]) Try.underlying67 rfl (size_67) (St.range S53 (i := 0) rfl 0 [(.slice xa43 (nameL p.name).length xc44), (.slice xa46 (keyL p.key).length xc47), (.bool p.gone), (.slice xa49 ([] : By).length xc50)] (sub_range 0 rfl)))) ?_
    simp only [Act.put, List.setIfInBounds_toArray, List.set_cons_succ, List.set_cons_zero]
    refine stStore (i := 1) (v := (.agg #[(.slice xa43 (nameL p.name).length xc44), (.slice xa46 (keyL p.key).length xc47), (.bool p.gone), (.slice xa49 ([] : By).length xc50)])) S53 rfl rfl rfl rfl (size_67) (allc4 rfl rfl rfl rfl) (Nat.le_of_ble_eq_true rfl) (fun w71 S72 => ?_)
    simp only [Act.put, List.setIfInBounds_toArray, List.set_cons_succ, List.set_cons_zero]
    have S72 : St w F w71 F40 [⟨n32, [(.slice xa43 (nameL p.name).length xc44), (.slice xa46 (keyL p.key).length xc47), (.bool p.gone), (.slice xa49 ([] : By).length xc50)], 67⟩, ⟨n5, [(.slice xa43 (nameL p.name).length xc44), (.slice xa46 (keyL p.key).length xc47), (.bool p.gone), (.slice xa49 ([] : By).length xc50)], 67⟩, ⟨n2, [(.slice x0 p.name.length y0), (.slice x1 p.key.length y1), (.slice x2 p.value.length y2), (.bool p.gone)], 70⟩] [] := S72
    refine wl_nil ?_
    (try simp only [Exit.then, Exit.inBlock, ↓reduceIte, Nat.reduceEqDiff])
    refine hK70 _ _ ?_
    refine wp_ret ?_
    (try simp only [Exit.then, Exit.inBlock, ↓reduceIte, Nat.reduceEqDiff])
    refine bodyPost_ret (v := (.agg #[(.slice xa43 (nameL p.name).length xc44), (.slice xa46 (keyL p.key).length xc47), (.bool p.gone), (.slice xa49 ([] : By).length xc50)])) ?_ rfl ?_
    · exact res_c rfl ⟨_, rfl, loadN (cs := [(.slice xa43 (nameL p.name).length xc44), (.slice xa46 (keyL p.key).length xc47), (.bool p.gone), (.slice xa49 ([] : By).length xc50)]) Try.underlying67 rfl (size_67) (St.range S72 (i := 1) rfl 0 [(.slice xa43 (nameL p.name).length xc44), (.slice xa46 (keyL p.key).length xc47), (.bool p.gone), (.slice xa49 ([] : By).length xc50)] (sub_range 0 rfl))⟩
    · have hw : writeP p = ⟨nameL p.name, keyL p.key, p.gone, ([] : By)⟩ := by unfold writeP; rw [show p.gone = true from by simpa using hc56]; rfl
      rw [hw]
      exact ⟨_, _, rfl, S72.gr, _, _, _, _, _, _, rfl, r45, r48, r51⟩
set_option maxHeartbeats 8000000 in
theorem writes_spec (F : Fz) (w : World) (v : Value) (l : List Pl) (m : Nat) (hs : Sat w F) (hv : Pls F v l) (hm : m ≤ 100000) :
    Calls Try.prog 58 #[v, .int .i64 (m : Nat)] w (Gives w F fun F' u => Wrs F' u (writesN l m)) := by
  obtain ⟨a, c, rfl, hc1, hc2⟩ := Sl.shape hv
  unfold maxLen at hc2
  obtain ⟨i67, hi67, hz67, hs67, hb67⟩ := info_parts info_67
  have S := St.start hs
  go_enter Try.func58, Try.ntmps58
  refine wp_seq_k (fun K1 hK1 => ?_)
  refine region_wl ?_
  refine do_ rfl (.slice none 0 0) (ex_assign _) ?_
  simp only [Act.put, List.setIfInBounds_toArray, List.set_cons_succ, List.set_cons_zero]
  refine wl_nil ?_
  (try simp only [Exit.then, Exit.inBlock, ↓reduceIte, Nat.reduceEqDiff])
  refine hK1 _ _ ?_
  refine wp_seq_k (fun K2 hK2 => ?_)
  refine region_wl ?_
  refine do_ rfl (.slice none 0 0) (ex_assign _) ?_
  simp only [Act.put, List.setIfInBounds_toArray, List.set_cons_succ, List.set_cons_zero]
  refine wl_nil ?_
  (try simp only [Exit.then, Exit.inBlock, ↓reduceIte, Nat.reduceEqDiff])
  refine hK2 _ _ ?_
  refine wp_seq_k (fun K3 hK3 => ?_)
  refine wp_seq_k (fun K4 hK4 => ?_)
  refine region_wl ?_
  refine do_ rfl (.int .i64 0) (ex_assign _) ?_
  simp only [Act.put, List.setIfInBounds_toArray, List.set_cons_succ, List.set_cons_zero]
  refine wl_nil ?_
  (try simp only [Exit.then, Exit.inBlock, ↓reduceIte, Nat.reduceEqDiff])
  refine hK4 _ _ ?_
  refine wp_block ?_
  have S5 := St.addNil S 4 WrC WrC.mono 67 w.heap.size
  refine wp_loop_g (fun mm aa w8 => ∃ (i : Nat) (v : Value) (F6 : Fz) (u7 : Nat → Value), mm = l.length - i ∧ aa = ⟨#[(.slice a l.length c), (.int .i64 ((m : Nat) : Int)), undef, undef, (.slice none 0 0), v, (.int .i64 ((i : Nat) : Int)), (u7 7), (u7 8), (u7 9), (u7 10), (u7 11), (u7 12), (u7 13), (u7 14), (u7 15), (u7 16), (u7 17), (u7 18), (u7 19), (u7 20), (u7 21), (u7 22), (u7 23), (u7 24), (u7 25), (u7 26), (u7 27), undef], []⟩ ∧ St w F w8 F6 [] [ownP 4 WrC WrC.mono 67 w.heap.size v (writesN l i)] ∧ Le F F6 ∧ (i ≤ l.length) ∧ (i ≤ m)) _ ⟨0, (.slice none 0 0), F, (slotF [(.slice a l.length c), (.int .i64 ((m : Nat) : Int)), undef, undef, (.slice none 0 0), (.slice none 0 0), (.int .i64 0), undef, undef, undef, undef, undef, undef, undef, undef, undef, undef, undef, undef, undef, undef, undef, undef, undef, undef, undef, undef, undef, undef]), rfl, rfl, S5, Le.refl _, (by omega), (by omega)⟩ ?_
  rintro m9 a10 w11 ⟨i, v, F6, u7, rfl, rfl, S12, le13, hi, him⟩ K14 hK14
  refine wp_seq_k (fun K15 hK15 => ?_)
  refine wp_seq_k (fun K16 hK16 => ?_)
  refine region_wl ?_
  refine do_ rfl (.int .i64 ((i : Nat) : Int)) (ex_move _) ?_
  simp only [Act.put, List.setIfInBounds_toArray, List.set_cons_succ, List.set_cons_zero]
  refine do_ rfl (.slice a l.length c) (ex_move _) ?_
  simp only [Act.put, List.setIfInBounds_toArray, List.set_cons_succ, List.set_cons_zero]
  refine do_ rfl (.int .i64 ((l.length : Nat) : Int)) (ex_len Try.underlying64 rfl) ?_
  simp only [Act.put, List.setIfInBounds_toArray, List.set_cons_succ, List.set_cons_zero]
  by_cases hc11 : i < l.length
  · refine do_ rfl (.bool true) (ex_lss (m := ((i : Nat) : Int)) (n := ((l.length : Nat) : Int)) (b := true) rfl rfl (decide_eq_true (by omega))) ?_
    simp only [Act.put, List.setIfInBounds_toArray, List.set_cons_succ, List.set_cons_zero]
    refine do_ rfl (.bool true) (ex_move _) ?_
    simp only [Act.put, List.setIfInBounds_toArray, List.set_cons_succ, List.set_cons_zero]
    refine do_ rfl (.int .i64 ((i : Nat) : Int)) (ex_move _) ?_
    simp only [Act.put, List.setIfInBounds_toArray, List.set_cons_succ, List.set_cons_zero]
    refine do_ rfl (.int .i64 ((m : Nat) : Int)) (ex_move _) ?_
    simp only [Act.put, List.setIfInBounds_toArray, List.set_cons_succ, List.set_cons_zero]
    by_cases hc15 : i < m
    · refine do_ rfl (.bool true) (ex_lss (m := ((i : Nat) : Int)) (n := ((m : Nat) : Int)) (b := true) rfl rfl (decide_eq_true (by omega))) ?_
      simp only [Act.put, List.setIfInBounds_toArray, List.set_cons_succ, List.set_cons_zero]
      refine do_ rfl (.bool true) (ex_pick (b := true) rfl) ?_
      simp only [Act.put, List.setIfInBounds_toArray, List.set_cons_succ, List.set_cons_zero]
      refine wl_nil ?_
      (try simp only [Exit.then, Exit.inBlock, ↓reduceIte, Nat.reduceEqDiff])
      refine hK16 _ _ ?_
      refine wp_cond_true rfl ?_
      refine wp_skip ?_
      (try simp only [Exit.then, Exit.inBlock, ↓reduceIte, Nat.reduceEqDiff])
      refine hK15 _ _ ?_
      refine wp_seq_k (fun K17 hK17 => ?_)
      refine wp_block ?_
      refine wp_seq_k (fun K18 hK18 => ?_)
      obtain ⟨p, hp⟩ : ∃ p, l[i]? = some p := ⟨l[i]'(by omega), List.getElem?_eq_getElem (by omega)⟩
      have hlw := writesN_len l i
      obtain ⟨b19, o20, ha21, xa23, xc24, xa27, xc28, xa31, xc32, c22, c26, c30, c34, r25, r29, r33⟩ := Pls.get (hv.mono le13) hp
      refine region_wl ?_
      refine do_ rfl (.slice a l.length c) (ex_move _) ?_
      simp only [Act.put, List.setIfInBounds_toArray, List.set_cons_succ, List.set_cons_zero]
      refine do_ rfl (.int .i64 ((i : Nat) : Int)) (ex_move _) ?_
      simp only [Act.put, List.setIfInBounds_toArray, List.set_cons_succ, List.set_cons_zero]
      refine do_ rfl (.pointer (some ⟨b19, o20 + i * 4, none⟩)) (ex_at (i := i) (sz := 4) Try.underlying64 (sizeof_70 _) rfl ha21 rfl (by omega) rfl) ?_
      simp only [Act.put, List.setIfInBounds_toArray, List.set_cons_succ, List.set_cons_zero]
      refine do_ rfl (.agg #[(.slice xa23 p.name.length xc24), (.slice xa27 p.key.length xc28), (.slice xa31 p.value.length xc32), (.bool p.gone)]) (ex_load rfl (loadN (cs := [(.slice xa23 p.name.length xc24), (.slice xa27 p.key.length xc28), (.slice xa31 p.value.length xc32), (.bool p.gone)]) Try.underlying70 rfl (size_70) (range4 (St.fz S12 c22) (St.fz S12 c26) (St.fz S12 c30) (St.fz S12 c34)))) ?_
      simp only [Act.put, List.setIfInBounds_toArray, List.set_cons_succ, List.set_cons_zero]
      refine stGives S12 rfl (ex_fn (vs := #[(.agg #[(.slice xa23 p.name.length xc24), (.slice xa27 p.key.length xc28), (.slice xa31 p.value.length xc32), (.bool p.gone)])]) (map1 rfl) rfl (ent_56 _ _)) (keepWrite_spec _ _ _ p (S12).sat ⟨_, _, _, _, _, _, rfl, r25, r29, r33⟩) ?_
      intro v40 w35 F37 S36 le38 R39
      obtain ⟨xa41, xc42, xa43, xc44, xa45, xc46, rfl, r47, r48, r49⟩ := R39
      simp only [Act.put, List.setIfInBounds_toArray, List.set_cons_succ, List.set_cons_zero]
      have S36 : St w F w35 F37 [] [ownP 4 WrC WrC.mono 67 w.heap.size v (writesN l i)] := S36
      refine stNew S36 (v := fun n => .pointer (some ⟨n, 0, none⟩)) rfl (ex_alloc (zero_67 _)) (fun n50 w51 S52 => ?_)
      simp only [Act.put, List.setIfInBounds_toArray, List.set_cons_succ, List.set_cons_zero]
      have S52 : St w F w51 F37 [⟨n50, [(.slice none 0 0), (.slice none 0 0), (.bool false), (.slice none 0 0)], 67⟩] [ownP 4 WrC WrC.mono 67 w.heap.size v (writesN l i)] := S52
      refine stStore (i := 0) (v := (.agg #[(.slice xa41 (writeP p).name.length xc42), (.slice xa43 (writeP p).key.length xc44), (.bool (writeP p).gone), (.slice xa45 (writeP p).value.length xc46)])) S52 rfl rfl rfl rfl (size_67) (allc4 rfl rfl rfl rfl) (Nat.le_of_ble_eq_true rfl) (fun w53 S54 => ?_)
      simp only [Act.put, List.setIfInBounds_toArray, List.set_cons_succ, List.set_cons_zero]
      have S54 : St w F w53 F37 [⟨n50, [(.slice xa41 (writeP p).name.length xc42), (.slice xa43 (writeP p).key.length xc44), (.bool (writeP p).gone), (.slice xa45 (writeP p).value.length xc46)], 67⟩] [ownP 4 WrC WrC.mono 67 w.heap.size v (writesN l i)] := S54
      refine wl_nil ?_
      (try simp only [Exit.then, Exit.inBlock, ↓reduceIte, Nat.reduceEqDiff])
      refine hK18 _ _ ?_
      refine region_wl ?_
      refine do_ rfl v (ex_move _) ?_
      simp only [Act.put, List.setIfInBounds_toArray, List.set_cons_succ, List.set_cons_zero]
      refine do_ rfl (.agg #[(.slice xa41 (writeP p).name.length xc42), (.slice xa43 (writeP p).key.length xc44), (.bool (writeP p).gone), (.slice xa45 (writeP p).value.length xc46)]) (ex_load rfl (loadN (cs := [(.slice xa41 (writeP p).name.length xc42), (.slice xa43 (writeP p).key.length xc44), (.bool (writeP p).gone), (.slice xa45 (writeP p).value.length xc46)]) Try.underlying67 rfl (size_67) (St.range S54 (i := 0) rfl 0 [(.slice xa41 (writeP p).name.length xc42), (.slice xa43 (writeP p).key.length xc44), (.bool (writeP p).gone), (.slice xa45 (writeP p).value.length xc46)] (sub_range 0 rfl)))) ?_
      simp only [Act.put, List.setIfInBounds_toArray, List.set_cons_succ, List.set_cons_zero]
      refine stNew S54 (v := fun n => .slice (some ⟨n, 0, none⟩) 1 1) rfl (ex_lit (ps := #[(0, (.agg #[(.slice xa41 (writeP p).name.length xc42), (.slice xa43 (writeP p).key.length xc44), (.bool (writeP p).gone), (.slice xa45 (writeP p).value.length xc46)]))]) (cells := #[(.slice xa41 (writeP p).name.length xc42), (.slice xa43 (writeP p).key.length xc44), (.bool (writeP p).gone), (.slice xa45 (writeP p).value.length xc46)]) (E := 67) (bmap1 rfl) (fun w => by kernel_rfl)) (fun n55 w56 S57 => ?_)
      simp only [Act.put, List.setIfInBounds_toArray, List.set_cons_succ, List.set_cons_zero]
      have S57 : St w F w56 F37 [⟨n55, [(.slice xa41 (writeP p).name.length xc42), (.slice xa43 (writeP p).key.length xc44), (.bool (writeP p).gone), (.slice xa45 (writeP p).value.length xc46)], 67⟩, ⟨n50, [(.slice xa41 (writeP p).name.length xc42), (.slice xa43 (writeP p).key.length xc44), (.bool (writeP p).gone), (.slice xa45 (writeP p).value.length xc46)], 67⟩] [ownP 4 WrC WrC.mono 67 w.heap.size v (writesN l i)] := S57
      refine stPush (i := 0) (r := 0) (p := (writeP p)) (cs := [(.slice xa41 (writeP p).name.length xc42), (.slice xa43 (writeP p).key.length xc44), (.bool (writeP p).gone), (.slice xa45 (writeP p).value.length xc46)]) S57 rfl i67 (.agg #[(.slice none 0 0), (.slice none 0 0), (.bool false), (.slice none 0 0)]) 80 Try.underlying75 hi67 hz67 hs67 hb67 rfl (by decide) rfl rfl rfl rfl rfl (WrC.oneCell (p := writeP p) ⟨_, _, _, _, rfl, r47, r48, rfl, r49⟩) (⟨_, _, _, _, rfl, r47, r48, rfl, r49⟩) (Nat.le_refl _) S57.gr.below.size (by unfold maxLen; omega) (by omega) ?_
      intro v58 w59 S60 hn61
      simp only [Act.put, List.setIfInBounds_toArray, List.set_cons_succ, List.set_cons_zero]
      have S60 := St.drop S60 (L' := [⟨n50, [(.slice xa41 (writeP p).name.length xc42), (.slice xa43 (writeP p).key.length xc44), (.bool (writeP p).gone), (.slice xa45 (writeP p).value.length xc46)], 67⟩]) (.cons _ (List.Sublist.refl _))
      have S60 : St w F w59 F37 [⟨n50, [(.slice xa41 (writeP p).name.length xc42), (.slice xa43 (writeP p).key.length xc44), (.bool (writeP p).gone), (.slice xa45 (writeP p).value.length xc46)], 67⟩] [ownP 4 WrC WrC.mono 67 w.heap.size v58 ((writesN l i) ++ [(writeP p)])] := S60
      refine do_ rfl v58 (ex_assign _) ?_
      simp only [Act.put, List.setIfInBounds_toArray, List.set_cons_succ, List.set_cons_zero]
      refine wl_nil ?_
      (try simp only [Exit.then, Exit.inBlock, ↓reduceIte, Nat.reduceEqDiff])
      refine hK17 _ _ ?_
      refine region_wl ?_
      refine do_ rfl (.int .i64 ((i : Nat) : Int)) (ex_move _) ?_
      simp only [Act.put, List.setIfInBounds_toArray, List.set_cons_succ, List.set_cons_zero]
      refine do_ rfl (.int .i64 (((i + 1) : Nat) : Int)) (ex_add (m := ((i : Nat) : Int)) (n := (1 : Int)) (r := (((i + 1) : Nat) : Int)) rfl rfl (by omega) (by omega) (by omega)) ?_
      simp only [Act.put, List.setIfInBounds_toArray, List.set_cons_succ, List.set_cons_zero]
      refine do_ rfl (.int .i64 (((i + 1) : Nat) : Int)) (ex_assign _) ?_
      simp only [Act.put, List.setIfInBounds_toArray, List.set_cons_succ, List.set_cons_zero]
      refine wl_nil ?_
      (try simp only [Exit.then, Exit.inBlock, ↓reduceIte, Nat.reduceEqDiff])
      have S60 := St.drop S60 (L' := []) (.cons _ (List.Sublist.refl _))
      rw [← writesN_succ hp] at S60
      exact hK14 _ _ _ (by omega) ⟨(i + 1), v58, F37, (slotF [(.slice a l.length c), (.int .i64 ((m : Nat) : Int)), undef, undef, (.slice none 0 0), v58, (.int .i64 (((i + 1) : Nat) : Int)), (.pointer (some ⟨n50, 0, none⟩)), (.int .i64 ((i : Nat) : Int)), (.slice a l.length c), (.int .i64 ((l.length : Nat) : Int)), (.bool true), (.bool true), (.int .i64 ((i : Nat) : Int)), (.int .i64 ((m : Nat) : Int)), (.bool true), (.bool true), (.int .i64 ((i : Nat) : Int)), (.int .i64 (((i + 1) : Nat) : Int)), (.slice a l.length c), (.int .i64 ((i : Nat) : Int)), (.pointer (some ⟨b19, o20 + i * 4, none⟩)), (.agg #[(.slice xa23 p.name.length xc24), (.slice xa27 p.key.length xc28), (.slice xa31 p.value.length xc32), (.bool p.gone)]), (.agg #[(.slice xa41 (writeP p).name.length xc42), (.slice xa43 (writeP p).key.length xc44), (.bool (writeP p).gone), (.slice xa45 (writeP p).value.length xc46)]), v, (.agg #[(.slice xa41 (writeP p).name.length xc42), (.slice xa43 (writeP p).key.length xc44), (.bool (writeP p).gone), (.slice xa45 (writeP p).value.length xc46)]), (.slice (some ⟨n55, 0, none⟩) 1 1), v58, undef]), rfl, rfl, S60, (le13.trans le38), (by omega), (by omega)⟩
    · refine do_ rfl (.bool false) (ex_lss (m := ((i : Nat) : Int)) (n := ((m : Nat) : Int)) (b := false) rfl rfl (decide_eq_false (by omega))) ?_
      simp only [Act.put, List.setIfInBounds_toArray, List.set_cons_succ, List.set_cons_zero]
      refine do_ rfl (.bool false) (ex_pick (b := true) rfl) ?_
      simp only [Act.put, List.setIfInBounds_toArray, List.set_cons_succ, List.set_cons_zero]
      refine wl_nil ?_
      (try simp only [Exit.then, Exit.inBlock, ↓reduceIte, Nat.reduceEqDiff])
      refine hK16 _ _ ?_
      refine wp_cond_false rfl ?_
      refine wp_exit ?_
      (try simp only [Exit.then, Exit.inBlock, ↓reduceIte, Nat.reduceEqDiff])
      refine hK3 _ _ ?_
      refine wp_seq_k (fun K62 hK62 => ?_)
      refine region_wl ?_
      refine do_ rfl v (ex_move _) ?_
      simp only [Act.put, List.setIfInBounds_toArray, List.set_cons_succ, List.set_cons_zero]
      refine do_ rfl v (ex_assign _) ?_
      simp only [Act.put, List.setIfInBounds_toArray, List.set_cons_succ, List.set_cons_zero]
      refine wl_nil ?_
      (try simp only [Exit.then, Exit.inBlock, ↓reduceIte, Nat.reduceEqDiff])
      refine hK62 _ _ ?_
      refine wp_ret ?_
      (try simp only [Exit.then, Exit.inBlock, ↓reduceIte, Nat.reduceEqDiff])
      refine bodyPost_ret (v := v) ?_ rfl ?_
      · exact res_t rfl rfl
      · have hend : writesN l i = writesN l m := by first | exact writesN_end (by omega) him | exact congrArg _ (by omega)
        obtain ⟨F63, S64, le65, hv66⟩ := St.freeze S12 (i := 0) rfl (Nat.le_refl _)
        have S64 : St w F w11 F63 [] [] := S64
        have hv66 : Wrs _ v (writesN l i) := hv66
        rw [hend] at hv66
        exact ⟨_, _, rfl, S64.gr, hv66⟩
  · refine do_ rfl (.bool false) (ex_lss (m := ((i : Nat) : Int)) (n := ((l.length : Nat) : Int)) (b := false) rfl rfl (decide_eq_false (by omega))) ?_
    simp only [Act.put, List.setIfInBounds_toArray, List.set_cons_succ, List.set_cons_zero]
    refine do_ rfl (.bool false) (ex_move _) ?_
    simp only [Act.put, List.setIfInBounds_toArray, List.set_cons_succ, List.set_cons_zero]
    refine doN (wanted_no rfl rfl rfl (c := false) rfl (by decide)) ?_
    simp only [Act.put, List.setIfInBounds_toArray, List.set_cons_succ, List.set_cons_zero]
    refine doN (wanted_no rfl rfl rfl (c := false) rfl (by decide)) ?_
    simp only [Act.put, List.setIfInBounds_toArray, List.set_cons_succ, List.set_cons_zero]
    refine doN (wanted_no rfl rfl rfl (c := false) rfl (by decide)) ?_
    simp only [Act.put, List.setIfInBounds_toArray, List.set_cons_succ, List.set_cons_zero]
    refine do_ rfl (.bool false) (ex_pick (b := false) rfl) ?_
    simp only [Act.put, List.setIfInBounds_toArray, List.set_cons_succ, List.set_cons_zero]
    refine wl_nil ?_
    (try simp only [Exit.then, Exit.inBlock, ↓reduceIte, Nat.reduceEqDiff])
    refine hK16 _ _ ?_
    refine wp_cond_false rfl ?_
    refine wp_exit ?_
    (try simp only [Exit.then, Exit.inBlock, ↓reduceIte, Nat.reduceEqDiff])
    refine hK3 _ _ ?_
    refine wp_seq_k (fun K67 hK67 => ?_)
    refine region_wl ?_
    refine do_ rfl v (ex_move _) ?_
    simp only [Act.put, List.setIfInBounds_toArray, List.set_cons_succ, List.set_cons_zero]
    refine do_ rfl v (ex_assign _) ?_
    simp only [Act.put, List.setIfInBounds_toArray, List.set_cons_succ, List.set_cons_zero]
    refine wl_nil ?_
    (try simp only [Exit.then, Exit.inBlock, ↓reduceIte, Nat.reduceEqDiff])
    refine hK67 _ _ ?_
    refine wp_ret ?_
    (try simp only [Exit.then, Exit.inBlock, ↓reduceIte, Nat.reduceEqDiff])
    refine bodyPost_ret (v := v) ?_ rfl ?_
    · exact res_t rfl rfl
    · have hend : writesN l i = writesN l m := by first | exact writesN_end (by omega) him | exact congrArg _ (by omega)
      obtain ⟨F68, S69, le70, hv71⟩ := St.freeze S12 (i := 0) rfl (Nat.le_refl _)
      have S69 : St w F w11 F68 [] [] := S69
      have hv71 : Wrs _ v (writesN l i) := hv71
      rw [hend] at hv71
      exact ⟨_, _, rfl, S69.gr, hv71⟩
end Go.Proofs.Yteefnnnbbmbmcaa
