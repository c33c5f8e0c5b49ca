/- The walk of RootMade -/
import Derived.Test.YtcanckliggcllaaDoorBU8
import Derived.Test.YtcanckliggcllaaDoorBU6
namespace Go.Proofs.YtcanckliggcllaaDoor
open Go.RowKit
set_option maxRecDepth 100000
set_option linter.unusedVariables false
set_option linter.unusedSimpArgs false
theorem lt_of_not {a b : By} (hne : a ≠ b) (h : Op.bytesLess b a = false) : Lt a b := by
  cases e : Op.bytesLess a b with
  | true => exact e
  | false => exact absurd (less_total a b e h) hne
theorem key_ok (k : By) : 1 ≤ (keyL k).length ∧ (keyL k).length ≤ 16 := keyL_len k
theorem one_ok {k x : By} : TreeOk 60 ([(keyL k, x.take 32)] : List Pr) := ⟨by simp, fun p hp => by rw [List.mem_singleton.1 hp]; exact ⟨(key_ok k).1, (key_ok k).2, by simp; omega⟩, List.pairwise_singleton ..⟩
theorem two_ok {k x j y : By} (h : Lt (keyL k) (keyL j)) : TreeOk 60 ([(keyL k, x.take 32), (keyL j, y.take 32)] : List Pr) := by
  refine ⟨by simp, fun p hp => ?_, List.pairwise_pair.2 h⟩
  rcases List.mem_cons.1 hp with rfl | hp
  · exact ⟨(key_ok k).1, (key_ok k).2, by simp; omega⟩
  · rw [List.mem_singleton.1 hp]; exact ⟨(key_ok j).1, (key_ok j).2, by simp; omega⟩
theorem root_two {p q : Pr} (h : KeysOk [p, q]) {n : Nat} (hn : partL p.1 q.1 = n) : rootT [p, q] = forkT n (leafT p) (leafT q) := by
  have hb := bitT_spec h (by simp)
  have hs := leftN_spec h (by simp)
  have e : bitT [p, q] = n := by
    have := hb.2.1
    simp only [List.getElem_cons_zero, List.length_cons, List.length_nil, Nat.zero_add, Nat.add_one_sub_one, List.getElem_cons_succ] at this
    rw [hn] at this
    omega
  have e2 : leftN (bitT [p, q]) [p, q] = 1 := by
    have := hs.2
    simp only [List.length_cons, List.length_nil] at this
    omega
  rw [rootT_fork h (by simp), e2, e]
  rfl
theorem part_comm {a b : By} {n : Nat} (h : partL a b = n) : partL b a = n := by
  rcases partL_spec a b with ⟨h0, _⟩ | ⟨m, m1, m2, m3, m4⟩
  · omega
  · have hm : m = n := by omega
    subst hm
    rcases partL_spec b a with ⟨_, e⟩ | ⟨k, k1, k2, k3, k4⟩
    · exact absurd (e m m1).symm m3
    · rcases Nat.lt_trichotomy k m with h1 | h1 | h1
      · exact absurd (m4 k h1).symm k3
      · rw [k2, h1]
      · exact absurd (k4 m h1).symm m3
set_option maxHeartbeats 8000000 in
theorem rootMade_walk (W : World) (hT : Tabs W) (v00 : Value) (k0 : By) (z00 : Bs (whole W) v00 k0) (v01 : Value) (x0 : By) (z01 : Bs (whole W) v01 x0) (v10 : Value) (k1 : By) (z10 : Bs (whole W) v10 k1) (v11 : Value) (x1 : By) (z11 : Bs (whole W) v11 x1) :
    Calls Tryd.prog 6 #[.agg #[v00, v01], .agg #[v10, v11]] W (Tells W (.bool true)) := by
 obtain ⟨i5, hi5, hz5, hs5, hb5⟩ := info_parts infoU8
 obtain ⟨a00, c00, rfl, _⟩ := z00.shape
 obtain ⟨a01, c01, rfl, _⟩ := z01.shape
 obtain ⟨a10, c10, rfl, _⟩ := z10.shape
 obtain ⟨a11, c11, rfl, _⟩ := z11.shape
 have S := St.start (Sat.whole W)
 go_enter Tryd.func6, Tryd.ntmps6
 refine wp_seq_k (fun K101 hK101 => region_wl ?_)
 refine stNew S (v := fun n => .pointer (some ⟨n, 0, none⟩)) rfl (ex_box (v := (.agg #[(.slice a00 k0.length c00), (.slice a01 x0.length c01)])) rfl) (fun n102 w103 S104 => ?_)
 simp only [pS, pN, pA, pC, pZ]
 have S104 : St W (whole W) w103 (whole W) [⟨n102, [(.slice a00 k0.length c00), (.slice a01 x0.length c01)], 36⟩] [] := S104
 refine stNew S104 (v := fun n => .pointer (some ⟨n, 0, none⟩)) rfl (ex_box (v := (.agg #[(.slice a10 k1.length c10), (.slice a11 x1.length c11)])) rfl) (fun n105 w106 S107 => ?_)
 simp only [pS, pN, pA, pC, pZ]
 have S107 : St W (whole W) w106 (whole W) [⟨n105, [(.slice a10 k1.length c10), (.slice a11 x1.length c11)], 36⟩, ⟨n102, [(.slice a00 k0.length c00), (.slice a01 x0.length c01)], 36⟩] [] := S107
 refine do_ rfl (.bool false) (ex_assign _) ?_
 simp only [pS, pN, pA, pC, pZ]
 refine wl_nil (hK101 _ _ ?_)
 refine wp_seq_k (fun K108 hK108 => ?_)
 refine region_gw (whole W) 8 [(2, .made (fun F' u => Bs F' u (keyL k0))), (5, .made (fun F' u => Bs F' u (x0.take 32))), (6, .made (fun F' u => Pr2V F' u ((keyL k0), (x0.take 32)))), (7, .rel (NewAt w106 [(.slice none 0 0), (.slice none 0 0)] 38) (NewAt.stable _ _ _))] (by kernel_rfl) (by kernel_rfl) ?_
 simp only [List.take_succ_cons, List.take_zero]
 refine gw_pure rfl rfl (.pointer (some ⟨n102, 0, none⟩)) (fun w109 hCw109 => pureAt_of (ex_field (q := ⟨n102, 0, none⟩) rfl (fa_36_0 _ _))) ?_
 simp only [pS, pN, pA, pC, pZ]
 refine gw_pure rfl rfl (.slice a00 k0.length c00) (fun w109 hCw109 => pureAt_of (ex_load rfl (load1 (nagg_22 _) (St.cell (St.tells S107 hCw109) (i := 1) rfl rfl)))) ?_
 simp only [pS, pN, pA, pC, pZ]
 refine gw_rel rfl rfl (fun w109 hCw109 hF => does_call (ex_fn (vs := #[(.slice a00 k0.length c00)]) (map1 rfl) rfl (ent_21 _ _)) (call_made S107.sat hCw109 (key_spec _ _ _ k0 ((St.tells S107 hCw109)).sat z00))) (fun v110 => ?_)
 simp only [pS, pN, pA, pC, pZ]
 refine gw_pure rfl rfl (.pointer (some ⟨n102, 1, none⟩)) (fun w109 hCw109 => pureAt_of (ex_field (q := ⟨n102, 1, none⟩) rfl (fa_36_1 _ _))) ?_
 simp only [pS, pN, pA, pC, pZ]
 refine gw_pure rfl rfl (.slice a01 x0.length c01) (fun w109 hCw109 => pureAt_of (ex_load rfl (load1 (nagg_22 _) (St.cell (St.tells S107 hCw109) (i := 1) rfl rfl)))) ?_
 simp only [pS, pN, pA, pC, pZ]
 refine gw_rel rfl rfl (fun w109 hCw109 hF => does_call (ex_fn (vs := #[(.slice a01 x0.length c01), (.int .i64 32)]) (map2 rfl rfl) rfl (ent_18 _ _)) (call_made S107.sat hCw109 (some_spec _ _ _ x0 32 ((St.tells S107 hCw109)).sat z01 (by omega) (by omega)))) (fun v111 => ?_)
 simp only [pS, pN, pA, pC, pZ]
 refine gw_rel rfl rfl (fun w109 hCw109 hF_ => ?_) (fun v112 => ?_)
 ·obtain ⟨F113, g114, R115⟩ := hF_.get 2 (by kernel_rfl) rfl rfl
  obtain ⟨F118, g119, R120⟩ := hF_.get 5 (by kernel_rfl) rfl rfl
  have hR0 := (R115.mono (both_left F113 F118))
  obtain ⟨xa123, xc124, rfl, _⟩ := hR0.shape
  have hR1 := (R120.mono (both_right g114.sat g119.sat))
  obtain ⟨xa125, xc126, rfl, _⟩ := hR1.shape
  exact does_val (ex_build (bmap2 rfl rfl) (by kernel_rfl)) ⟨(both F113 F118), (g114.both g119), ⟨_, _, _, _, rfl, hR0, hR1⟩⟩ (Below.refl _ _)
 simp only [pS, pN, pA, pC, pZ]
 refine gw_rel rfl rfl (fun w109 hCw109 _ => does_alloc (cs := [(.slice none 0 0), (.slice none 0 0)]) (zero_38 _) rfl hCw109) (fun v127 => ?_)
 simp only [pS, pN, pA, pC, pZ]
 refine gw_nil ?_
 intro w128 hC130 hF131
 obtain ⟨n132, rfl, hn133, hb134⟩ := hF131.getR 7 rfl rfl
 have hnbn132 : ∀ u ∈ [(.slice none 0 0), (.slice none 0 0)], ∀ x, u ≠ bv x := by intro u hu x; simp only [List.mem_cons, List.not_mem_nil, or_false] at hu; rcases hu with rfl | rfl <;> (unfold bv; simp)
 obtain ⟨F135, g136, R137⟩ := hF131.get 6 rfl rfl
 have g138 := g136.dropF S107.sat hn133
 have R139 := Pr2V.dropF g136.sat hb134 hnbn132 R137
 have S129 := St.addBlk (cs := [(.slice none 0 0), (.slice none 0 0)]) S107 g138 hn133 (dropF_at _ _) hb134
 have le141 : Le _ _ := g138.le S107.sat
 have R142 := R139
 generalize (dropF F135 n132) = F140 at *
 obtain ⟨xa143, xc144, xa146, xc147, rfl, r145, r148⟩ := R142
 have r145 : Bs _ (.slice xa143 (keyL k0).length xc144) (keyL k0) := r145
 have r148 : Bs _ (.slice xa146 (x0.take 32).length xc147) (x0.take 32) := r148
 clear hF131
 simp only [List.drop_succ_cons, List.drop_zero]
 have S129 : St W (whole W) w128 F140 [⟨n132, [(.slice none 0 0), (.slice none 0 0)], 38⟩, ⟨n105, [(.slice a10 k1.length c10), (.slice a11 x1.length c11)], 36⟩, ⟨n102, [(.slice a00 k0.length c00), (.slice a01 x0.length c01)], 36⟩] [] := S129
 refine stStore (i := 0) (v := (.agg #[(.slice xa143 (keyL k0).length xc144), (.slice xa146 (x0.take 32).length xc147)])) S129 rfl rfl rfl rfl (size_38) (allc2 rfl rfl) (Nat.le_of_ble_eq_true rfl) (fun w149 S150 => ?_)
 simp only [pS, pN, pA, pC, pZ]
 have S150 : St W (whole W) w149 F140 [⟨n132, [(.slice xa143 (keyL k0).length xc144), (.slice xa146 (x0.take 32).length xc147)], 38⟩, ⟨n105, [(.slice a10 k1.length c10), (.slice a11 x1.length c11)], 36⟩, ⟨n102, [(.slice a00 k0.length c00), (.slice a01 x0.length c01)], 36⟩] [] := S150
 refine wl_nil (hK108 _ _ ?_)
 refine wp_seq_k (fun K151 hK151 => ?_)
 refine region_gw F140 8 [(2, .made (fun F' u => Bs F' u (keyL k1))), (5, .made (fun F' u => Bs F' u (x1.take 32))), (6, .made (fun F' u => Pr2V F' u ((keyL k1), (x1.take 32)))), (7, .rel (NewAt w149 [(.slice none 0 0), (.slice none 0 0)] 38) (NewAt.stable _ _ _))] (by kernel_rfl) (by kernel_rfl) ?_
 simp only [List.take_succ_cons, List.take_zero]
 refine gw_pure rfl rfl (.pointer (some ⟨n105, 0, none⟩)) (fun w152 hCw152 => pureAt_of (ex_field (q := ⟨n105, 0, none⟩) rfl (fa_36_0 _ _))) ?_
 simp only [pS, pN, pA, pC, pZ]
 refine gw_pure rfl rfl (.slice a10 k1.length c10) (fun w152 hCw152 => pureAt_of (ex_load rfl (load1 (nagg_22 _) (St.cell (St.tells S150 hCw152) (i := 1) rfl rfl)))) ?_
 simp only [pS, pN, pA, pC, pZ]
 refine gw_rel rfl rfl (fun w152 hCw152 hF => does_call (ex_fn (vs := #[(.slice a10 k1.length c10)]) (map1 rfl) rfl (ent_21 _ _)) (call_made S150.sat hCw152 (key_spec _ _ _ k1 ((St.tells S150 hCw152)).sat (z10.mono le141)))) (fun v153 => ?_)
 simp only [pS, pN, pA, pC, pZ]
 refine gw_pure rfl rfl (.pointer (some ⟨n105, 1, none⟩)) (fun w152 hCw152 => pureAt_of (ex_field (q := ⟨n105, 1, none⟩) rfl (fa_36_1 _ _))) ?_
 simp only [pS, pN, pA, pC, pZ]
 refine gw_pure rfl rfl (.slice a11 x1.length c11) (fun w152 hCw152 => pureAt_of (ex_load rfl (load1 (nagg_22 _) (St.cell (St.tells S150 hCw152) (i := 1) rfl rfl)))) ?_
 simp only [pS, pN, pA, pC, pZ]
 refine gw_rel rfl rfl (fun w152 hCw152 hF => does_call (ex_fn (vs := #[(.slice a11 x1.length c11), (.int .i64 32)]) (map2 rfl rfl) rfl (ent_18 _ _)) (call_made S150.sat hCw152 (some_spec _ _ _ x1 32 ((St.tells S150 hCw152)).sat (z11.mono le141) (by omega) (by omega)))) (fun v154 => ?_)
 simp only [pS, pN, pA, pC, pZ]
 refine gw_rel rfl rfl (fun w152 hCw152 hF_ => ?_) (fun v155 => ?_)
 ·obtain ⟨F156, g157, R158⟩ := hF_.get 2 (by kernel_rfl) rfl rfl
  obtain ⟨F161, g162, R163⟩ := hF_.get 5 (by kernel_rfl) rfl rfl
  have hR0 := (R158.mono (both_left F156 F161))
  obtain ⟨xa166, xc167, rfl, _⟩ := hR0.shape
  have hR1 := (R163.mono (both_right g157.sat g162.sat))
  obtain ⟨xa168, xc169, rfl, _⟩ := hR1.shape
  exact does_val (ex_build (bmap2 rfl rfl) (by kernel_rfl)) ⟨(both F156 F161), (g157.both g162), ⟨_, _, _, _, rfl, hR0, hR1⟩⟩ (Below.refl _ _)
 simp only [pS, pN, pA, pC, pZ]
 refine gw_rel rfl rfl (fun w152 hCw152 _ => does_alloc (cs := [(.slice none 0 0), (.slice none 0 0)]) (zero_38 _) rfl hCw152) (fun v170 => ?_)
 simp only [pS, pN, pA, pC, pZ]
 refine gw_nil ?_
 intro w171 hC173 hF174
 obtain ⟨n175, rfl, hn176, hb177⟩ := hF174.getR 7 rfl rfl
 have hnbn175 : ∀ u ∈ [(.slice none 0 0), (.slice none 0 0)], ∀ x, u ≠ bv x := by intro u hu x; simp only [List.mem_cons, List.not_mem_nil, or_false] at hu; rcases hu with rfl | rfl <;> (unfold bv; simp)
 obtain ⟨F178, g179, R180⟩ := hF174.get 6 rfl rfl
 have g181 := g179.dropF S150.sat hn176
 have R182 := Pr2V.dropF g179.sat hb177 hnbn175 R180
 have S172 := St.addBlk (cs := [(.slice none 0 0), (.slice none 0 0)]) S150 g181 hn176 (dropF_at _ _) hb177
 have le184 : Le _ _ := g181.le S150.sat
 have R185 := R182
 generalize (dropF F178 n175) = F183 at *
 obtain ⟨xa186, xc187, xa189, xc190, rfl, r188, r191⟩ := R185
 have r188 : Bs _ (.slice xa186 (keyL k1).length xc187) (keyL k1) := r188
 have r191 : Bs _ (.slice xa189 (x1.take 32).length xc190) (x1.take 32) := r191
 clear hF174
 simp only [List.drop_succ_cons, List.drop_zero]
 have S172 : St W (whole W) w171 F183 [⟨n175, [(.slice none 0 0), (.slice none 0 0)], 38⟩, ⟨n132, [(.slice xa143 (keyL k0).length xc144), (.slice xa146 (x0.take 32).length xc147)], 38⟩, ⟨n105, [(.slice a10 k1.length c10), (.slice a11 x1.length c11)], 36⟩, ⟨n102, [(.slice a00 k0.length c00), (.slice a01 x0.length c01)], 36⟩] [] := S172
 refine stStore (i := 0) (v := (.agg #[(.slice xa186 (keyL k1).length xc187), (.slice xa189 (x1.take 32).length xc190)])) S172 rfl rfl rfl rfl (size_38) (allc2 rfl rfl) (Nat.le_of_ble_eq_true rfl) (fun w192 S193 => ?_)
 simp only [pS, pN, pA, pC, pZ]
 have S193 : St W (whole W) w192 F183 [⟨n175, [(.slice xa186 (keyL k1).length xc187), (.slice xa189 (x1.take 32).length xc190)], 38⟩, ⟨n132, [(.slice xa143 (keyL k0).length xc144), (.slice xa146 (x0.take 32).length xc147)], 38⟩, ⟨n105, [(.slice a10 k1.length c10), (.slice a11 x1.length c11)], 36⟩, ⟨n102, [(.slice a00 k0.length c00), (.slice a01 x0.length c01)], 36⟩] [] := S193
 refine wl_nil (hK151 _ _ ?_)
 refine wp_seq_k (fun K194 hK194 => region_wl ?_)
 refine do_ rfl (.agg #[(.slice xa143 (keyL k0).length xc144), (.slice xa146 (x0.take 32).length xc147)]) (ex_load rfl (loadN (cs := [(.slice xa143 (keyL k0).length xc144), (.slice xa146 (x0.take 32).length xc147)]) Tryd.underlying38 rfl (size_38) (St.range S193 (i := 1) rfl 0 [(.slice xa143 (keyL k0).length xc144), (.slice xa146 (x0.take 32).length xc147)] (sub_range 0 rfl)))) ?_
 simp only [pS, pN, pA, pC, pZ]
 refine stNew S193 (v := fun n => .slice (some ⟨n, 0, none⟩) 1 1) rfl (ex_lit (ps := #[(0, (.agg #[(.slice xa143 (keyL k0).length xc144), (.slice xa146 (x0.take 32).length xc147)]))]) (cells := #[(.slice xa143 (keyL k0).length xc144), (.slice xa146 (x0.take 32).length xc147)]) (E := 38) (bmap1 rfl) (fun w => by kernel_rfl)) (fun n195 w196 S197 => ?_)
 simp only [pS, pN, pA, pC, pZ]
 have S197 : St W (whole W) w196 F183 [⟨n195, [(.slice xa143 (keyL k0).length xc144), (.slice xa146 (x0.take 32).length xc147)], 38⟩, ⟨n175, [(.slice xa186 (keyL k1).length xc187), (.slice xa189 (x1.take 32).length xc190)], 38⟩, ⟨n132, [(.slice xa143 (keyL k0).length xc144), (.slice xa146 (x0.take 32).length xc147)], 38⟩, ⟨n105, [(.slice a10 k1.length c10), (.slice a11 x1.length c11)], 36⟩, ⟨n102, [(.slice a00 k0.length c00), (.slice a01 x0.length c01)], 36⟩] [] := S197
 obtain ⟨S198, le199, hc200⟩ := St.freezeBlk S197 (i := 0) rfl
 have r202 : Prs _ (.slice (some ⟨n195, 0, none⟩) 1 1) ([((keyL k0), (x0.take 32))] : List Pr) := sl_of_block (R := PrC) (l := ([((keyL k0), (x0.take 32))] : List Pr)) (el := [[(.slice xa143 (keyL k0).length xc144), (.slice xa146 (x0.take 32).length xc147)]]) hc200 rfl ⟨⟨_, _, rfl, ((r145.mono le184).mono le199), ((r148.mono le184).mono le199)⟩, trivial⟩ (by simp) (by unfold maxLen; simp)
 generalize addF F183 w196 n195 = F201 at *
 have S198 : St W (whole W) w196 F201 [⟨n175, [(.slice xa186 (keyL k1).length xc187), (.slice xa189 (x1.take 32).length xc190)], 38⟩, ⟨n132, [(.slice xa143 (keyL k0).length xc144), (.slice xa146 (x0.take 32).length xc147)], 38⟩, ⟨n105, [(.slice a10 k1.length c10), (.slice a11 x1.length c11)], 36⟩, ⟨n102, [(.slice a00 k0.length c00), (.slice a01 x0.length c01)], 36⟩] [] := S198
 refine stGives S198 rfl (ex_fn (vs := #[(.slice (some ⟨n195, 0, none⟩) 1 1)]) (map1 rfl) rfl (ent_22 _ _)) (Root_spec _ _ _ ([((keyL k0), (x0.take 32))] : List Pr) (S198).sat (hT.at S198.gr.below) r202 one_ok) ?_
 intro v208 w203 F205 S204 le206 R207
 obtain ⟨x209, rfl, r210⟩ := R207
 obtain ⟨xa211, xc212, rfl, _⟩ := r210.shape
 have r210 : Bs _ (.slice xa211 (rootT ([((keyL k0), (x0.take 32))] : List Pr)).length xc212) (rootT ([((keyL k0), (x0.take 32))] : List Pr)) := r210
 simp only [pS, pN, pA, pC, pZ]
 refine do_ rfl (.tuple #[(.slice xa211 (rootT ([((keyL k0), (x0.take 32))] : List Pr)).length xc212), (.int .i64 0)]) (ex_move _) ?_
 simp only [pS, pN, pA, pC, pZ]
 refine do_ rfl (.slice xa211 (rootT ([((keyL k0), (x0.take 32))] : List Pr)).length xc212) (ex_extract rfl rfl) ?_
 simp only [pS, pN, pA, pC, pZ]
 refine do_ rfl (.int .i64 0) (ex_extract rfl rfl) ?_
 simp only [pS, pN, pA, pC, pZ]
 refine do_ rfl (.slice xa211 (rootT ([((keyL k0), (x0.take 32))] : List Pr)).length xc212) (ex_assign _) ?_
 simp only [pS, pN, pA, pC, pZ]
 refine do_ rfl (.int .i64 0) (ex_assign _) ?_
 simp only [pS, pN, pA, pC, pZ]
 refine wl_nil (hK194 _ _ ?_)
 refine wp_seq_k (fun K213 hK213 => region_wl ?_)
 refine do_ rfl (.agg #[(.slice xa186 (keyL k1).length xc187), (.slice xa189 (x1.take 32).length xc190)]) (ex_load rfl (loadN (cs := [(.slice xa186 (keyL k1).length xc187), (.slice xa189 (x1.take 32).length xc190)]) Tryd.underlying38 rfl (size_38) (St.range S204 (i := 0) rfl 0 [(.slice xa186 (keyL k1).length xc187), (.slice xa189 (x1.take 32).length xc190)] (sub_range 0 rfl)))) ?_
 simp only [pS, pN, pA, pC, pZ]
 refine stNew S204 (v := fun n => .slice (some ⟨n, 0, none⟩) 1 1) rfl (ex_lit (ps := #[(0, (.agg #[(.slice xa186 (keyL k1).length xc187), (.slice xa189 (x1.take 32).length xc190)]))]) (cells := #[(.slice xa186 (keyL k1).length xc187), (.slice xa189 (x1.take 32).length xc190)]) (E := 38) (bmap1 rfl) (fun w => by kernel_rfl)) (fun n214 w215 S216 => ?_)
 simp only [pS, pN, pA, pC, pZ]
 have S216 : St W (whole W) w215 F205 [⟨n214, [(.slice xa186 (keyL k1).length xc187), (.slice xa189 (x1.take 32).length xc190)], 38⟩, ⟨n175, [(.slice xa186 (keyL k1).length xc187), (.slice xa189 (x1.take 32).length xc190)], 38⟩, ⟨n132, [(.slice xa143 (keyL k0).length xc144), (.slice xa146 (x0.take 32).length xc147)], 38⟩, ⟨n105, [(.slice a10 k1.length c10), (.slice a11 x1.length c11)], 36⟩, ⟨n102, [(.slice a00 k0.length c00), (.slice a01 x0.length c01)], 36⟩] [] := S216
 obtain ⟨S217, le218, hc219⟩ := St.freezeBlk S216 (i := 0) rfl
 have r221 : Prs _ (.slice (some ⟨n214, 0, none⟩) 1 1) ([((keyL k1), (x1.take 32))] : List Pr) := sl_of_block (R := PrC) (l := ([((keyL k1), (x1.take 32))] : List Pr)) (el := [[(.slice xa186 (keyL k1).length xc187), (.slice xa189 (x1.take 32).length xc190)]]) hc219 rfl ⟨⟨_, _, rfl, ((r188.mono (le199.trans le206)).mono le218), ((r191.mono (le199.trans le206)).mono le218)⟩, trivial⟩ (by simp) (by unfold maxLen; simp)
 generalize addF F205 w215 n214 = F220 at *
 have S217 : St W (whole W) w215 F220 [⟨n175, [(.slice xa186 (keyL k1).length xc187), (.slice xa189 (x1.take 32).length xc190)], 38⟩, ⟨n132, [(.slice xa143 (keyL k0).length xc144), (.slice xa146 (x0.take 32).length xc147)], 38⟩, ⟨n105, [(.slice a10 k1.length c10), (.slice a11 x1.length c11)], 36⟩, ⟨n102, [(.slice a00 k0.length c00), (.slice a01 x0.length c01)], 36⟩] [] := S217
 refine stGives S217 rfl (ex_fn (vs := #[(.slice (some ⟨n214, 0, none⟩) 1 1)]) (map1 rfl) rfl (ent_22 _ _)) (Root_spec _ _ _ ([((keyL k1), (x1.take 32))] : List Pr) (S217).sat (hT.at S217.gr.below) r221 one_ok) ?_
 intro v227 w222 F224 S223 le225 R226
 obtain ⟨x228, rfl, r229⟩ := R226
 obtain ⟨xa230, xc231, rfl, _⟩ := r229.shape
 have r229 : Bs _ (.slice xa230 (rootT ([((keyL k1), (x1.take 32))] : List Pr)).length xc231) (rootT ([((keyL k1), (x1.take 32))] : List Pr)) := r229
 simp only [pS, pN, pA, pC, pZ]
 refine do_ rfl (.tuple #[(.slice xa230 (rootT ([((keyL k1), (x1.take 32))] : List Pr)).length xc231), (.int .i64 0)]) (ex_move _) ?_
 simp only [pS, pN, pA, pC, pZ]
 refine do_ rfl (.slice xa230 (rootT ([((keyL k1), (x1.take 32))] : List Pr)).length xc231) (ex_extract rfl rfl) ?_
 simp only [pS, pN, pA, pC, pZ]
 refine do_ rfl (.int .i64 0) (ex_extract rfl rfl) ?_
 simp only [pS, pN, pA, pC, pZ]
 refine do_ rfl (.slice xa230 (rootT ([((keyL k1), (x1.take 32))] : List Pr)).length xc231) (ex_assign _) ?_
 simp only [pS, pN, pA, pC, pZ]
 refine do_ rfl (.int .i64 0) (ex_assign _) ?_
 simp only [pS, pN, pA, pC, pZ]
 refine wl_nil (hK213 _ _ ?_)
 refine wp_seq_k (fun K232 hK232 => region_wl ?_)
 refine do_ rfl (.pointer (some ⟨n132, 0, none⟩)) (ex_field (q := ⟨n132, 0, none⟩) rfl (fa_38_0 _ _)) ?_
 simp only [pS, pN, pA, pC, pZ]
 refine do_ rfl (.slice xa143 (keyL k0).length xc144) (ex_load rfl (load1 (nagg_22 _) (St.cell S223 (i := 1) rfl rfl))) ?_
 simp only [pS, pN, pA, pC, pZ]
 refine do_ rfl (.pointer (some ⟨n132, 1, none⟩)) (ex_field (q := ⟨n132, 1, none⟩) rfl (fa_38_1 _ _)) ?_
 simp only [pS, pN, pA, pC, pZ]
 refine do_ rfl (.slice xa146 (x0.take 32).length xc147) (ex_load rfl (load1 (nagg_22 _) (St.cell S223 (i := 1) rfl rfl))) ?_
 simp only [pS, pN, pA, pC, pZ]
 refine stNew S223 (v := fun n => .slice (some ⟨n, 0, none⟩) 2 2) rfl (ex_lit (ps := #[(0, (.slice xa143 (keyL k0).length xc144)), (1, (.slice xa146 (x0.take 32).length xc147))]) (cells := #[(.slice xa143 (keyL k0).length xc144), (.slice xa146 (x0.take 32).length xc147)]) (E := 22) (bmap2 rfl rfl) (fun w => by kernel_rfl)) (fun n233 w234 S235 => ?_)
 simp only [pS, pN, pA, pC, pZ]
 have S235 : St W (whole W) w234 F224 [⟨n233, [(.slice xa143 (keyL k0).length xc144), (.slice xa146 (x0.take 32).length xc147)], 22⟩, ⟨n175, [(.slice xa186 (keyL k1).length xc187), (.slice xa189 (x1.take 32).length xc190)], 38⟩, ⟨n132, [(.slice xa143 (keyL k0).length xc144), (.slice xa146 (x0.take 32).length xc147)], 38⟩, ⟨n105, [(.slice a10 k1.length c10), (.slice a11 x1.length c11)], 36⟩, ⟨n102, [(.slice a00 k0.length c00), (.slice a01 x0.length c01)], 36⟩] [] := S235
 obtain ⟨S236, le237, hc238⟩ := St.freezeBlk S235 (i := 0) rfl
 have r240 : Lss _ (.slice (some ⟨n233, 0, none⟩) 2 2) ([(keyL k0), (x0.take 32)] : List By) := sl_of_block (R := LsC) (l := ([(keyL k0), (x0.take 32)] : List By)) (el := [[(.slice xa143 (keyL k0).length xc144)], [(.slice xa146 (x0.take 32).length xc147)]]) hc238 rfl ⟨⟨_, rfl, ((r145.mono ((((le184.trans le199).trans le206).trans le218).trans le225)).mono le237)⟩, ⟨_, rfl, ((r148.mono ((((le184.trans le199).trans le206).trans le218).trans le225)).mono le237)⟩, trivial⟩ (by simp) (by unfold maxLen; simp)
 generalize addF F224 w234 n233 = F239 at *
 have S236 : St W (whole W) w234 F239 [⟨n175, [(.slice xa186 (keyL k1).length xc187), (.slice xa189 (x1.take 32).length xc190)], 38⟩, ⟨n132, [(.slice xa143 (keyL k0).length xc144), (.slice xa146 (x0.take 32).length xc147)], 38⟩, ⟨n105, [(.slice a10 k1.length c10), (.slice a11 x1.length c11)], 36⟩, ⟨n102, [(.slice a00 k0.length c00), (.slice a01 x0.length c01)], 36⟩] [] := S236
 refine stGives S236 rfl (ex_fn (vs := #[(.int .u8 1), (.slice (some ⟨n233, 0, none⟩) 2 2)]) (map2 rfl rfl) rfl (ent_20 _ _)) (Parts_spec _ _ _ 1 [(keyL k0), (x0.take 32)] (S236).sat (hT.at S236.gr.below) r240 (by have := (key_ok k0).2; have := (key_ok k1).2; simp [partB_len, rootT_len]; try omega)) ?_
 intro v246 w241 F243 S242 le244 R245
 obtain ⟨x247, rfl, r248⟩ := R245
 obtain ⟨xa249, xc250, rfl, _⟩ := r248.shape
 have r248 : Bs _ (.slice xa249 (partsL 1 [(keyL k0), (x0.take 32)]).length xc250) (partsL 1 [(keyL k0), (x0.take 32)]) := r248
 simp only [pS, pN, pA, pC, pZ]
 refine do_ rfl (.tuple #[(.slice xa249 (partsL 1 [(keyL k0), (x0.take 32)]).length xc250), (.int .i64 0)]) (ex_move _) ?_
 simp only [pS, pN, pA, pC, pZ]
 refine do_ rfl (.slice xa249 (partsL 1 [(keyL k0), (x0.take 32)]).length xc250) (ex_extract rfl rfl) ?_
 simp only [pS, pN, pA, pC, pZ]
 refine do_ rfl (.int .i64 0) (ex_extract rfl rfl) ?_
 simp only [pS, pN, pA, pC, pZ]
 refine do_ rfl (.slice xa249 (partsL 1 [(keyL k0), (x0.take 32)]).length xc250) (ex_assign _) ?_
 simp only [pS, pN, pA, pC, pZ]
 refine do_ rfl (.int .i64 0) (ex_assign _) ?_
 simp only [pS, pN, pA, pC, pZ]
 refine wl_nil (hK232 _ _ ?_)
 refine wp_seq_k (fun K251 hK251 => region_wl ?_)
 refine stGives S242 rfl (ex_fn (vs := #[(.slice none 0 0)]) (map1 rfl) rfl (ent_22 _ _)) (Root_spec _ _ _ ([] : List Pr) (S242).sat (hT.at S242.gr.below) (Sl.nil _ _ _) (TreeOk.nil 60)) ?_
 intro v257 w252 F254 S253 le255 R256
 obtain ⟨x258, rfl, r259⟩ := R256
 obtain ⟨xa260, xc261, rfl, _⟩ := r259.shape
 have r259 : Bs _ (.slice xa260 (rootT ([] : List Pr)).length xc261) (rootT ([] : List Pr)) := r259
 simp only [pS, pN, pA, pC, pZ]
 refine do_ rfl (.tuple #[(.slice xa260 (rootT ([] : List Pr)).length xc261), (.int .i64 0)]) (ex_move _) ?_
 simp only [pS, pN, pA, pC, pZ]
 refine do_ rfl (.slice xa260 (rootT ([] : List Pr)).length xc261) (ex_extract rfl rfl) ?_
 simp only [pS, pN, pA, pC, pZ]
 refine do_ rfl (.int .i64 0) (ex_extract rfl rfl) ?_
 simp only [pS, pN, pA, pC, pZ]
 refine do_ rfl (.slice xa260 (rootT ([] : List Pr)).length xc261) (ex_assign _) ?_
 simp only [pS, pN, pA, pC, pZ]
 refine do_ rfl (.int .i64 0) (ex_assign _) ?_
 simp only [pS, pN, pA, pC, pZ]
 refine wl_nil (hK251 _ _ ?_)
 refine wp_seq_k (fun K262 hK262 => region_wl ?_)
 refine stGives S253 rfl (ex_fn (vs := #[(.int .u8 0), (.slice none 0 0)]) (map2 rfl rfl) rfl (ent_20 _ _)) (Parts_spec _ _ _ 0 [] (S253).sat (hT.at S253.gr.below) (Sl.nil 1 LsC _) (by have := (key_ok k0).2; have := (key_ok k1).2; simp [partB_len, rootT_len]; try omega)) ?_
 intro v268 w263 F265 S264 le266 R267
 obtain ⟨x269, rfl, r270⟩ := R267
 obtain ⟨xa271, xc272, rfl, _⟩ := r270.shape
 have r270 : Bs _ (.slice xa271 (partsL 0 []).length xc272) (partsL 0 []) := r270
 simp only [pS, pN, pA, pC, pZ]
 refine do_ rfl (.tuple #[(.slice xa271 (partsL 0 []).length xc272), (.int .i64 0)]) (ex_move _) ?_
 simp only [pS, pN, pA, pC, pZ]
 refine do_ rfl (.slice xa271 (partsL 0 []).length xc272) (ex_extract rfl rfl) ?_
 simp only [pS, pN, pA, pC, pZ]
 refine do_ rfl (.int .i64 0) (ex_extract rfl rfl) ?_
 simp only [pS, pN, pA, pC, pZ]
 refine do_ rfl (.slice xa271 (partsL 0 []).length xc272) (ex_assign _) ?_
 simp only [pS, pN, pA, pC, pZ]
 refine do_ rfl (.int .i64 0) (ex_assign _) ?_
 simp only [pS, pN, pA, pC, pZ]
 refine wl_nil (hK262 _ _ ?_)
 refine wp_seq_k (fun K273 hK273 => ?_)
 refine wp_seq_k (fun K274 hK274 => region_wl ?_)
 refine do_ rfl (.int .i64 0) (ex_move _) ?_
 simp only [pS, pN, pA, pC, pZ]
 refine do_ rfl (.bool false) (ex_neq (b := false) rfl rfl (by decide)) ?_
 simp only [pS, pN, pA, pC, pZ]
 refine do_ rfl (.bool false) (ex_move _) ?_
 simp only [pS, pN, pA, pC, pZ]
 refine do_ rfl (.int .i64 0) (ex_move _) ?_
 simp only [pS, pN, pA, pC, pZ]
 refine do_ rfl (.bool false) (ex_neq (b := false) rfl rfl (by decide)) ?_
 simp only [pS, pN, pA, pC, pZ]
 refine do_ rfl (.bool false) (ex_pick (b := false) rfl) ?_
 simp only [pS, pN, pA, pC, pZ]
 refine do_ rfl (.bool false) (ex_move _) ?_
 simp only [pS, pN, pA, pC, pZ]
 refine do_ rfl (.int .i64 0) (ex_move _) ?_
 simp only [pS, pN, pA, pC, pZ]
 refine do_ rfl (.bool false) (ex_neq (b := false) rfl rfl (by decide)) ?_
 simp only [pS, pN, pA, pC, pZ]
 refine do_ rfl (.bool false) (ex_pick (b := false) rfl) ?_
 simp only [pS, pN, pA, pC, pZ]
 refine do_ rfl (.bool false) (ex_move _) ?_
 simp only [pS, pN, pA, pC, pZ]
 refine do_ rfl (.int .i64 0) (ex_move _) ?_
 simp only [pS, pN, pA, pC, pZ]
 refine do_ rfl (.bool false) (ex_neq (b := false) rfl rfl (by decide)) ?_
 simp only [pS, pN, pA, pC, pZ]
 refine do_ rfl (.bool false) (ex_pick (b := false) rfl) ?_
 simp only [pS, pN, pA, pC, pZ]
 refine do_ rfl (.bool false) (ex_move _) ?_
 simp only [pS, pN, pA, pC, pZ]
 refine do_ rfl (.int .i64 0) (ex_move _) ?_
 simp only [pS, pN, pA, pC, pZ]
 refine do_ rfl (.bool false) (ex_neq (b := false) rfl rfl (by decide)) ?_
 simp only [pS, pN, pA, pC, pZ]
 refine do_ rfl (.bool false) (ex_pick (b := false) rfl) ?_
 simp only [pS, pN, pA, pC, pZ]
 refine do_ rfl (.bool false) (ex_move _) ?_
 simp only [pS, pN, pA, pC, pZ]
 refine do_ rfl (.slice xa211 (rootT ([((keyL k0), (x0.take 32))] : List Pr)).length xc212) (ex_move _) ?_
 simp only [pS, pN, pA, pC, pZ]
 refine do_ rfl (.slice xa249 (partsL 1 [(keyL k0), (x0.take 32)]).length xc250) (ex_move _) ?_
 simp only [pS, pN, pA, pC, pZ]
 refine stTells (v := (.bool true)) S264 rfl (ex_fn (vs := #[(.slice xa211 (rootT ([((keyL k0), (x0.take 32))] : List Pr)).length xc212), (.slice xa249 (partsL 1 [(keyL k0), (x0.take 32)]).length xc250)]) (map2 rfl rfl) rfl (ent_16 _ _)) (tells_bool (tells_same (same_spec _ _ _ _ (rootT ([((keyL k0), (x0.take 32))] : List Pr)) (partsL 1 [(keyL k0), (x0.take 32)]) (S264).sat (r210.mono (((((le218.trans le225).trans le237).trans le244).trans le255).trans le266)) (r248.mono (le255.trans le266)))) (beq_iff_eq.2 (rfl))) (fun w275 S276 => ?_)
 simp only [pS, pN, pA, pC, pZ]
 refine do_ rfl (.bool false) (ex_not (b := true) rfl rfl) ?_
 simp only [pS, pN, pA, pC, pZ]
 refine do_ rfl (.bool false) (ex_pick (b := false) rfl) ?_
 simp only [pS, pN, pA, pC, pZ]
 refine do_ rfl (.bool false) (ex_move _) ?_
 simp only [pS, pN, pA, pC, pZ]
 refine do_ rfl (.slice xa260 (rootT ([] : List Pr)).length xc261) (ex_move _) ?_
 simp only [pS, pN, pA, pC, pZ]
 refine do_ rfl (.slice xa271 (partsL 0 []).length xc272) (ex_move _) ?_
 simp only [pS, pN, pA, pC, pZ]
 refine stTells (v := (.bool true)) S276 rfl (ex_fn (vs := #[(.slice xa260 (rootT ([] : List Pr)).length xc261), (.slice xa271 (partsL 0 []).length xc272)]) (map2 rfl rfl) rfl (ent_16 _ _)) (tells_bool (tells_same (same_spec _ _ _ _ (rootT ([] : List Pr)) (partsL 0 []) (S276).sat (r259.mono le266) r270)) (beq_iff_eq.2 (rfl))) (fun w277 S278 => ?_)
 simp only [pS, pN, pA, pC, pZ]
 refine do_ rfl (.bool false) (ex_not (b := true) rfl rfl) ?_
 simp only [pS, pN, pA, pC, pZ]
 refine do_ rfl (.bool false) (ex_pick (b := false) rfl) ?_
 simp only [pS, pN, pA, pC, pZ]
 refine do_ rfl (.bool false) (ex_move _) ?_
 simp only [pS, pN, pA, pC, pZ]
 refine do_ rfl (.slice xa211 (rootT ([((keyL k0), (x0.take 32))] : List Pr)).length xc212) (ex_move _) ?_
 simp only [pS, pN, pA, pC, pZ]
 refine do_ rfl (.int .i64 (((rootT ([((keyL k0), (x0.take 32))] : List Pr)).length : Nat) : Int)) (ex_len Tryd.underlying22 rfl) ?_
 simp only [pS, pN, pA, pC, pZ]
 refine do_ rfl (.bool false) (ex_neq (m := (((rootT ([((keyL k0), (x0.take 32))] : List Pr)).length : Nat) : Int)) (n := (32 : Int)) (b := false) rfl rfl (bne_eq_false_iff_eq.2 (by rw [rootT_len]; rfl))) ?_
 simp only [pS, pN, pA, pC, pZ]
 refine do_ rfl (.bool false) (ex_pick (b := false) rfl) ?_
 simp only [pS, pN, pA, pC, pZ]
 refine wl_nil (hK274 _ _ ?_)
 refine wp_cond_false rfl ?_
 refine wp_skip ?_
 refine hK273 _ _ ?_
 refine wp_seq_k (fun K279 hK279 => region_wl ?_)
 refine do_ rfl (.pointer (some ⟨n132, 0, none⟩)) (ex_field (q := ⟨n132, 0, none⟩) rfl (fa_38_0 _ _)) ?_
 simp only [pS, pN, pA, pC, pZ]
 refine do_ rfl (.slice xa143 (keyL k0).length xc144) (ex_load rfl (load1 (nagg_22 _) (St.cell S278 (i := 1) rfl rfl))) ?_
 simp only [pS, pN, pA, pC, pZ]
 refine do_ rfl (.pointer (some ⟨n175, 0, none⟩)) (ex_field (q := ⟨n175, 0, none⟩) rfl (fa_38_0 _ _)) ?_
 simp only [pS, pN, pA, pC, pZ]
 refine do_ rfl (.slice xa186 (keyL k1).length xc187) (ex_load rfl (load1 (nagg_22 _) (St.cell S278 (i := 0) rfl rfl))) ?_
 simp only [pS, pN, pA, pC, pZ]
 refine stTells (v := (.tuple #[(.int .i64 (partL (keyL k0) (keyL k1))), (.int .i64 0)])) S278 rfl (ex_fn (vs := #[(.slice xa143 (keyL k0).length xc144), (.slice xa186 (keyL k1).length xc187)]) (map2 rfl rfl) rfl (ent_23 _ _)) (tells_same (part_spec _ _ _ _ (keyL k0) (keyL k1) (S278).sat (r145.mono ((((((((le184.trans le199).trans le206).trans le218).trans le225).trans le237).trans le244).trans le255).trans le266)) (r188.mono (((((((le199.trans le206).trans le218).trans le225).trans le237).trans le244).trans le255).trans le266)) (key_ok k0).1 (key_ok k0).2 (key_ok k1).1 (key_ok k1).2)) (fun w280 S281 => ?_)
 simp only [pS, pN, pA, pC, pZ]
 refine do_ rfl (.tuple #[(.int .i64 (partL (keyL k0) (keyL k1))), (.int .i64 0)]) (ex_move _) ?_
 simp only [pS, pN, pA, pC, pZ]
 refine do_ rfl (.int .i64 (partL (keyL k0) (keyL k1))) (ex_extract rfl rfl) ?_
 simp only [pS, pN, pA, pC, pZ]
 refine do_ rfl (.int .i64 0) (ex_extract rfl rfl) ?_
 simp only [pS, pN, pA, pC, pZ]
 refine do_ rfl (.int .i64 (partL (keyL k0) (keyL k1))) (ex_assign _) ?_
 simp only [pS, pN, pA, pC, pZ]
 refine do_ rfl (.int .i64 0) (ex_assign _) ?_
 simp only [pS, pN, pA, pC, pZ]
 refine wl_nil (hK279 _ _ ?_)
 refine wp_seq_k (fun K282 hK282 => ?_)
 refine wp_seq_k (fun K283 hK283 => region_wl ?_)
 refine do_ rfl (.int .i64 (partL (keyL k0) (keyL k1))) (ex_move _) ?_
 simp only [pS, pN, pA, pC, pZ]
 by_cases hc111 : (partL (keyL k0) (keyL k1)) < (0 : Int)
 ·refine do_ rfl (.bool true) (ex_lss (m := (partL (keyL k0) (keyL k1))) (n := (0 : Int)) (b := true) rfl rfl (decide_eq_true (by omega))) ?_
  simp only [pS, pN, pA, pC, pZ]
  refine wl_nil (hK283 _ _ ?_)
  refine wp_cond_true rfl ?_
  refine wp_seq_k (fun K284 hK284 => region_wl ?_)
  refine do_ rfl (.int .i64 0) (ex_move _) ?_
  simp only [pS, pN, pA, pC, pZ]
  refine do_ rfl (.bool true) (ex_eql (b := true) rfl rfl (by decide)) ?_
  simp only [pS, pN, pA, pC, pZ]
  refine do_ rfl (.bool true) (ex_assign _) ?_
  simp only [pS, pN, pA, pC, pZ]
  refine wl_nil (hK284 _ _ ?_)
  refine wp_ret ?_
  (try simp only [Exit.then, Exit.inBlock, ↓reduceIte, Nat.reduceEqDiff])
  refine bodyPost_ret (v := (.bool true)) ?_ rfl ?_
  ·exact res_t rfl rfl
  ·exact ⟨rfl, S281.gr.below⟩
 ·refine do_ rfl (.bool false) (ex_lss (m := (partL (keyL k0) (keyL k1))) (n := (0 : Int)) (b := false) rfl rfl (decide_eq_false (by omega))) ?_
  simp only [pS, pN, pA, pC, pZ]
  refine wl_nil (hK283 _ _ ?_)
  refine wp_cond_false rfl ?_
  refine wp_skip ?_
  refine hK282 _ _ ?_
  refine wp_seq_k (fun K285 hK285 => ?_)
  obtain ⟨pn, hpn⟩ : ∃ n : Nat, partL (keyL k0) (keyL k1) = (n : Int) := ⟨_, (Int.toNat_of_nonneg (by omega)).symm⟩
  simp only [hpn]
  refine region_wl ?_
  refine do_ rfl (.agg #[(.slice xa143 (keyL k0).length xc144), (.slice xa146 (x0.take 32).length xc147)]) (ex_load rfl (loadN (cs := [(.slice xa143 (keyL k0).length xc144), (.slice xa146 (x0.take 32).length xc147)]) Tryd.underlying38 rfl (size_38) (St.range S281 (i := 1) rfl 0 [(.slice xa143 (keyL k0).length xc144), (.slice xa146 (x0.take 32).length xc147)] (sub_range 0 rfl)))) ?_
  simp only [pS, pN, pA, pC, pZ]
  refine do_ rfl (.agg #[(.slice xa186 (keyL k1).length xc187), (.slice xa189 (x1.take 32).length xc190)]) (ex_load rfl (loadN (cs := [(.slice xa186 (keyL k1).length xc187), (.slice xa189 (x1.take 32).length xc190)]) Tryd.underlying38 rfl (size_38) (St.range S281 (i := 0) rfl 0 [(.slice xa186 (keyL k1).length xc187), (.slice xa189 (x1.take 32).length xc190)] (sub_range 0 rfl)))) ?_
  simp only [pS, pN, pA, pC, pZ]
  refine stNew S281 (v := fun n => .slice (some ⟨n, 0, none⟩) 2 2) rfl (ex_lit (ps := #[(0, (.agg #[(.slice xa143 (keyL k0).length xc144), (.slice xa146 (x0.take 32).length xc147)])), (1, (.agg #[(.slice xa186 (keyL k1).length xc187), (.slice xa189 (x1.take 32).length xc190)]))]) (cells := #[(.slice xa143 (keyL k0).length xc144), (.slice xa146 (x0.take 32).length xc147), (.slice xa186 (keyL k1).length xc187), (.slice xa189 (x1.take 32).length xc190)]) (E := 38) (bmap2 rfl rfl) (fun w => by kernel_rfl)) (fun n286 w287 S288 => ?_)
  simp only [pS, pN, pA, pC, pZ]
  have S288 : St W (whole W) w287 F265 [⟨n286, [(.slice xa143 (keyL k0).length xc144), (.slice xa146 (x0.take 32).length xc147), (.slice xa186 (keyL k1).length xc187), (.slice xa189 (x1.take 32).length xc190)], 38⟩, ⟨n175, [(.slice xa186 (keyL k1).length xc187), (.slice xa189 (x1.take 32).length xc190)], 38⟩, ⟨n132, [(.slice xa143 (keyL k0).length xc144), (.slice xa146 (x0.take 32).length xc147)], 38⟩, ⟨n105, [(.slice a10 k1.length c10), (.slice a11 x1.length c11)], 36⟩, ⟨n102, [(.slice a00 k0.length c00), (.slice a01 x0.length c01)], 36⟩] [] := S288
  refine do_ rfl (.slice (some ⟨n286, 0, none⟩) 2 2) (ex_assign _) ?_
  simp only [pS, pN, pA, pC, pZ]
  refine wl_nil (hK285 _ _ ?_)
  refine wp_seq_k (fun K289 hK289 => ?_)
  refine wp_seq_k (fun K290 hK290 => ?_)
  have hne : keyL k0 ≠ keyL k1 := fun e => by rcases partL_spec (keyL k0) (keyL k1) with ⟨h0, _⟩ | ⟨m, m1, m2, m3, m4⟩; omega; exact m3 (by rw [e])
  refine region_wl ?_
  refine do_ rfl (.pointer (some ⟨n175, 0, none⟩)) (ex_field (q := ⟨n175, 0, none⟩) rfl (fa_38_0 _ _)) ?_
  simp only [pS, pN, pA, pC, pZ]
  refine do_ rfl (.slice xa186 (keyL k1).length xc187) (ex_load rfl (load1 (nagg_22 _) (St.cell S288 (i := 1) rfl rfl))) ?_
  simp only [pS, pN, pA, pC, pZ]
  refine do_ rfl (.string ⟨(keyL k1).toArray⟩) (ex_convert (v := (.slice xa186 (keyL k1).length xc187)) rfl (run_string Tryd.underlying22 Tryd.underlying5 Tryd.underlying9 (S288).sat (r188.mono (((((((le199.trans le206).trans le218).trans le225).trans le237).trans le244).trans le255).trans le266)))) ?_
  simp only [pS, pN, pA, pC, pZ]
  refine do_ rfl (.pointer (some ⟨n132, 0, none⟩)) (ex_field (q := ⟨n132, 0, none⟩) rfl (fa_38_0 _ _)) ?_
  simp only [pS, pN, pA, pC, pZ]
  refine do_ rfl (.slice xa143 (keyL k0).length xc144) (ex_load rfl (load1 (nagg_22 _) (St.cell S288 (i := 2) rfl rfl))) ?_
  simp only [pS, pN, pA, pC, pZ]
  refine do_ rfl (.string ⟨(keyL k0).toArray⟩) (ex_convert (v := (.slice xa143 (keyL k0).length xc144)) rfl (run_string Tryd.underlying22 Tryd.underlying5 Tryd.underlying9 (S288).sat (r145.mono ((((((((le184.trans le199).trans le206).trans le218).trans le225).trans le237).trans le244).trans le255).trans le266)))) ?_
  simp only [pS, pN, pA, pC, pZ]
  refine do_ rfl (.bool (Op.bytesLess (keyL k1) (keyL k0))) (ex_strop (op := .lss) (l := (keyL k1)) (m := (keyL k0)) (b := (Op.bytesLess (keyL k1) (keyL k0))) (by simp) rfl rfl (rfl)) ?_
  simp only [pS, pN, pA, pC, pZ]
  refine wl_nil (hK290 _ _ ?_)
  refine wp_cond_split rfl (fun hc291 => ?_) (fun hc291 => ?_)
  ·refine wp_seq_k (fun K292 hK292 => ?_)
   have hlt : Lt (keyL k1) (keyL k0) := hc291
   refine region_wl ?_
   refine do_ rfl (.agg #[(.slice xa186 (keyL k1).length xc187), (.slice xa189 (x1.take 32).length xc190)]) (ex_load rfl (loadN (cs := [(.slice xa186 (keyL k1).length xc187), (.slice xa189 (x1.take 32).length xc190)]) Tryd.underlying38 rfl (size_38) (St.range S288 (i := 1) rfl 0 [(.slice xa186 (keyL k1).length xc187), (.slice xa189 (x1.take 32).length xc190)] (sub_range 0 rfl)))) ?_
   simp only [pS, pN, pA, pC, pZ]
   refine do_ rfl (.agg #[(.slice xa143 (keyL k0).length xc144), (.slice xa146 (x0.take 32).length xc147)]) (ex_load rfl (loadN (cs := [(.slice xa143 (keyL k0).length xc144), (.slice xa146 (x0.take 32).length xc147)]) Tryd.underlying38 rfl (size_38) (St.range S288 (i := 2) rfl 0 [(.slice xa143 (keyL k0).length xc144), (.slice xa146 (x0.take 32).length xc147)] (sub_range 0 rfl)))) ?_
   simp only [pS, pN, pA, pC, pZ]
   refine stNew S288 (v := fun n => .slice (some ⟨n, 0, none⟩) 2 2) rfl (ex_lit (ps := #[(0, (.agg #[(.slice xa186 (keyL k1).length xc187), (.slice xa189 (x1.take 32).length xc190)])), (1, (.agg #[(.slice xa143 (keyL k0).length xc144), (.slice xa146 (x0.take 32).length xc147)]))]) (cells := #[(.slice xa186 (keyL k1).length xc187), (.slice xa189 (x1.take 32).length xc190), (.slice xa143 (keyL k0).length xc144), (.slice xa146 (x0.take 32).length xc147)]) (E := 38) (bmap2 rfl rfl) (fun w => by kernel_rfl)) (fun n293 w294 S295 => ?_)
   simp only [pS, pN, pA, pC, pZ]
   have S295 : St W (whole W) w294 F265 [⟨n293, [(.slice xa186 (keyL k1).length xc187), (.slice xa189 (x1.take 32).length xc190), (.slice xa143 (keyL k0).length xc144), (.slice xa146 (x0.take 32).length xc147)], 38⟩, ⟨n286, [(.slice xa143 (keyL k0).length xc144), (.slice xa146 (x0.take 32).length xc147), (.slice xa186 (keyL k1).length xc187), (.slice xa189 (x1.take 32).length xc190)], 38⟩, ⟨n175, [(.slice xa186 (keyL k1).length xc187), (.slice xa189 (x1.take 32).length xc190)], 38⟩, ⟨n132, [(.slice xa143 (keyL k0).length xc144), (.slice xa146 (x0.take 32).length xc147)], 38⟩, ⟨n105, [(.slice a10 k1.length c10), (.slice a11 x1.length c11)], 36⟩, ⟨n102, [(.slice a00 k0.length c00), (.slice a01 x0.length c01)], 36⟩] [] := S295
   refine do_ rfl (.slice (some ⟨n293, 0, none⟩) 2 2) (ex_assign _) ?_
   simp only [pS, pN, pA, pC, pZ]
   refine wl_nil (hK292 _ _ ?_)
   refine region_wl ?_
   refine do_ rfl (.slice xa230 (rootT ([((keyL k1), (x1.take 32))] : List Pr)).length xc231) (ex_move _) ?_
   simp only [pS, pN, pA, pC, pZ]
   refine do_ rfl (.slice xa211 (rootT ([((keyL k0), (x0.take 32))] : List Pr)).length xc212) (ex_move _) ?_
   simp only [pS, pN, pA, pC, pZ]
   refine do_ rfl (.slice xa230 (rootT ([((keyL k1), (x1.take 32))] : List Pr)).length xc231) (ex_assign _) ?_
   simp only [pS, pN, pA, pC, pZ]
   refine do_ rfl (.slice xa211 (rootT ([((keyL k0), (x0.take 32))] : List Pr)).length xc212) (ex_assign _) ?_
   simp only [pS, pN, pA, pC, pZ]
   refine wl_nil (hK289 _ _ ?_)
   refine wp_seq_k (fun K296 hK296 => region_wl ?_)
   refine do_ rfl (.slice (some ⟨n293, 0, none⟩) 2 2) (ex_move _) ?_
   simp only [pS, pN, pA, pC, pZ]
   obtain ⟨S297, le298, hc299⟩ := St.freezeBlk S295 (i := 0) rfl
   have r301 : Prs _ (.slice (some ⟨n293, 0, none⟩) 2 2) ([((keyL k1), (x1.take 32)), ((keyL k0), (x0.take 32))] : List Pr) := sl_of_block (R := PrC) (l := ([((keyL k1), (x1.take 32)), ((keyL k0), (x0.take 32))] : List Pr)) (el := [[(.slice xa186 (keyL k1).length xc187), (.slice xa189 (x1.take 32).length xc190)], [(.slice xa143 (keyL k0).length xc144), (.slice xa146 (x0.take 32).length xc147)]]) hc299 rfl ⟨⟨_, _, rfl, ((r188.mono (((((((le199.trans le206).trans le218).trans le225).trans le237).trans le244).trans le255).trans le266)).mono le298), ((r191.mono (((((((le199.trans le206).trans le218).trans le225).trans le237).trans le244).trans le255).trans le266)).mono le298)⟩, ⟨_, _, rfl, ((r145.mono ((((((((le184.trans le199).trans le206).trans le218).trans le225).trans le237).trans le244).trans le255).trans le266)).mono le298), ((r148.mono ((((((((le184.trans le199).trans le206).trans le218).trans le225).trans le237).trans le244).trans le255).trans le266)).mono le298)⟩, trivial⟩ (by simp) (by unfold maxLen; simp)
   generalize addF F265 w294 n293 = F300 at *
   have S297 : St W (whole W) w294 F300 [⟨n286, [(.slice xa143 (keyL k0).length xc144), (.slice xa146 (x0.take 32).length xc147), (.slice xa186 (keyL k1).length xc187), (.slice xa189 (x1.take 32).length xc190)], 38⟩, ⟨n175, [(.slice xa186 (keyL k1).length xc187), (.slice xa189 (x1.take 32).length xc190)], 38⟩, ⟨n132, [(.slice xa143 (keyL k0).length xc144), (.slice xa146 (x0.take 32).length xc147)], 38⟩, ⟨n105, [(.slice a10 k1.length c10), (.slice a11 x1.length c11)], 36⟩, ⟨n102, [(.slice a00 k0.length c00), (.slice a01 x0.length c01)], 36⟩] [] := S297
   refine stGives S297 rfl (ex_fn (vs := #[(.slice (some ⟨n293, 0, none⟩) 2 2)]) (map1 rfl) rfl (ent_22 _ _)) (Root_spec _ _ _ ([((keyL k1), (x1.take 32)), ((keyL k0), (x0.take 32))] : List Pr) (S297).sat (hT.at S297.gr.below) r301 (two_ok hlt)) ?_
   intro v307 w302 F304 S303 le305 R306
   obtain ⟨x308, rfl, r309⟩ := R306
   obtain ⟨xa310, xc311, rfl, _⟩ := r309.shape
   have r309 : Bs _ (.slice xa310 (rootT ([((keyL k1), (x1.take 32)), ((keyL k0), (x0.take 32))] : List Pr)).length xc311) (rootT ([((keyL k1), (x1.take 32)), ((keyL k0), (x0.take 32))] : List Pr)) := r309
   simp only [pS, pN, pA, pC, pZ]
   refine do_ rfl (.tuple #[(.slice xa310 (rootT ([((keyL k1), (x1.take 32)), ((keyL k0), (x0.take 32))] : List Pr)).length xc311), (.int .i64 0)]) (ex_move _) ?_
   simp only [pS, pN, pA, pC, pZ]
   refine do_ rfl (.slice xa310 (rootT ([((keyL k1), (x1.take 32)), ((keyL k0), (x0.take 32))] : List Pr)).length xc311) (ex_extract rfl rfl) ?_
   simp only [pS, pN, pA, pC, pZ]
   refine do_ rfl (.int .i64 0) (ex_extract rfl rfl) ?_
   simp only [pS, pN, pA, pC, pZ]
   refine do_ rfl (.slice xa310 (rootT ([((keyL k1), (x1.take 32)), ((keyL k0), (x0.take 32))] : List Pr)).length xc311) (ex_assign _) ?_
   simp only [pS, pN, pA, pC, pZ]
   refine do_ rfl (.int .i64 0) (ex_assign _) ?_
   simp only [pS, pN, pA, pC, pZ]
   refine wl_nil (hK296 _ _ ?_)
   refine wp_seq_k (fun K312 hK312 => region_wl ?_)
   refine do_ rfl (.int .i64 ((pn : Nat) : Int)) (ex_move _) ?_
   simp only [pS, pN, pA, pC, pZ]
   refine do_ rfl (bv (b8 pn)) (ex_convert (v := (.int .i64 ((pn : Nat) : Int))) rfl (conv_b8 pn _)) ?_
   simp only [pS, pN, pA, pC, pZ]
   refine stNew S303 (v := fun n => .slice (some ⟨n, 0, none⟩) 1 1) rfl (ex_lit (ps := #[(0, (bv (b8 pn)))]) (cells := #[(bv (b8 pn))]) (E := 5) (bmap1 rfl) (fun w => by kernel_rfl)) (fun n313 w314 S315 => ?_)
   simp only [pS, pN, pA, pC, pZ]
   have S315 : St W (whole W) w314 F304 [⟨n313, [(bv (b8 pn))], 5⟩, ⟨n286, [(.slice xa143 (keyL k0).length xc144), (.slice xa146 (x0.take 32).length xc147), (.slice xa186 (keyL k1).length xc187), (.slice xa189 (x1.take 32).length xc190)], 38⟩, ⟨n175, [(.slice xa186 (keyL k1).length xc187), (.slice xa189 (x1.take 32).length xc190)], 38⟩, ⟨n132, [(.slice xa143 (keyL k0).length xc144), (.slice xa146 (x0.take 32).length xc147)], 38⟩, ⟨n105, [(.slice a10 k1.length c10), (.slice a11 x1.length c11)], 36⟩, ⟨n102, [(.slice a00 k0.length c00), (.slice a01 x0.length c01)], 36⟩] [] := S315
   refine do_ rfl (.slice xa230 (rootT ([((keyL k1), (x1.take 32))] : List Pr)).length xc231) (ex_move _) ?_
   simp only [pS, pN, pA, pC, pZ]
   refine do_ rfl (.slice xa211 (rootT ([((keyL k0), (x0.take 32))] : List Pr)).length xc212) (ex_move _) ?_
   simp only [pS, pN, pA, pC, pZ]
   refine stNew S315 (v := fun n => .slice (some ⟨n, 0, none⟩) 3 3) rfl (ex_lit (ps := #[(0, (.slice (some ⟨n313, 0, none⟩) 1 1)), (1, (.slice xa230 (rootT ([((keyL k1), (x1.take 32))] : List Pr)).length xc231)), (2, (.slice xa211 (rootT ([((keyL k0), (x0.take 32))] : List Pr)).length xc212))]) (cells := #[(.slice (some ⟨n313, 0, none⟩) 1 1), (.slice xa230 (rootT ([((keyL k1), (x1.take 32))] : List Pr)).length xc231), (.slice xa211 (rootT ([((keyL k0), (x0.take 32))] : List Pr)).length xc212)]) (E := 22) (bmap3 rfl rfl rfl) (fun w => by kernel_rfl)) (fun n316 w317 S318 => ?_)
   simp only [pS, pN, pA, pC, pZ]
   have S318 : St W (whole W) w317 F304 [⟨n316, [(.slice (some ⟨n313, 0, none⟩) 1 1), (.slice xa230 (rootT ([((keyL k1), (x1.take 32))] : List Pr)).length xc231), (.slice xa211 (rootT ([((keyL k0), (x0.take 32))] : List Pr)).length xc212)], 22⟩, ⟨n313, [(bv (b8 pn))], 5⟩, ⟨n286, [(.slice xa143 (keyL k0).length xc144), (.slice xa146 (x0.take 32).length xc147), (.slice xa186 (keyL k1).length xc187), (.slice xa189 (x1.take 32).length xc190)], 38⟩, ⟨n175, [(.slice xa186 (keyL k1).length xc187), (.slice xa189 (x1.take 32).length xc190)], 38⟩, ⟨n132, [(.slice xa143 (keyL k0).length xc144), (.slice xa146 (x0.take 32).length xc147)], 38⟩, ⟨n105, [(.slice a10 k1.length c10), (.slice a11 x1.length c11)], 36⟩, ⟨n102, [(.slice a00 k0.length c00), (.slice a01 x0.length c01)], 36⟩] [] := S318
   obtain ⟨S319, le320, hc321⟩ := St.freezeBlk S318 (i := 1) rfl
   have r323 : Bs _ (.slice (some ⟨n313, 0, none⟩) 1 1) ([(b8 pn)] : By) := bs_of_block (l := ([(b8 pn)] : By)) hc321 rfl (by unfold maxLen; simp)
   generalize addF F304 w317 n313 = F322 at *
   have S319 : St W (whole W) w317 F322 [⟨n316, [(.slice (some ⟨n313, 0, none⟩) 1 1), (.slice xa230 (rootT ([((keyL k1), (x1.take 32))] : List Pr)).length xc231), (.slice xa211 (rootT ([((keyL k0), (x0.take 32))] : List Pr)).length xc212)], 22⟩, ⟨n286, [(.slice xa143 (keyL k0).length xc144), (.slice xa146 (x0.take 32).length xc147), (.slice xa186 (keyL k1).length xc187), (.slice xa189 (x1.take 32).length xc190)], 38⟩, ⟨n175, [(.slice xa186 (keyL k1).length xc187), (.slice xa189 (x1.take 32).length xc190)], 38⟩, ⟨n132, [(.slice xa143 (keyL k0).length xc144), (.slice xa146 (x0.take 32).length xc147)], 38⟩, ⟨n105, [(.slice a10 k1.length c10), (.slice a11 x1.length c11)], 36⟩, ⟨n102, [(.slice a00 k0.length c00), (.slice a01 x0.length c01)], 36⟩] [] := S319
   obtain ⟨S324, le325, hc326⟩ := St.freezeBlk S319 (i := 0) rfl
   have r328 : Lss _ (.slice (some ⟨n316, 0, none⟩) 3 3) ([([(b8 pn)] : By), (rootT ([((keyL k1), (x1.take 32))] : List Pr)), (rootT ([((keyL k0), (x0.take 32))] : List Pr))] : List By) := sl_of_block (R := LsC) (l := ([([(b8 pn)] : By), (rootT ([((keyL k1), (x1.take 32))] : List Pr)), (rootT ([((keyL k0), (x0.take 32))] : List Pr))] : List By)) (el := [[(.slice (some ⟨n313, 0, none⟩) 1 1)], [(.slice xa230 (rootT ([((keyL k1), (x1.take 32))] : List Pr)).length xc231)], [(.slice xa211 (rootT ([((keyL k0), (x0.take 32))] : List Pr)).length xc212)]]) hc326 rfl ⟨⟨_, rfl, (r323.mono le325)⟩, ⟨_, rfl, ((r229.mono ((((((le237.trans le244).trans le255).trans le266).trans le298).trans le305).trans le320)).mono le325)⟩, ⟨_, rfl, ((r210.mono ((((((((le218.trans le225).trans le237).trans le244).trans le255).trans le266).trans le298).trans le305).trans le320)).mono le325)⟩, trivial⟩ (by simp) (by unfold maxLen; simp)
   generalize addF F322 w317 n316 = F327 at *
   have S324 : St W (whole W) w317 F327 [⟨n286, [(.slice xa143 (keyL k0).length xc144), (.slice xa146 (x0.take 32).length xc147), (.slice xa186 (keyL k1).length xc187), (.slice xa189 (x1.take 32).length xc190)], 38⟩, ⟨n175, [(.slice xa186 (keyL k1).length xc187), (.slice xa189 (x1.take 32).length xc190)], 38⟩, ⟨n132, [(.slice xa143 (keyL k0).length xc144), (.slice xa146 (x0.take 32).length xc147)], 38⟩, ⟨n105, [(.slice a10 k1.length c10), (.slice a11 x1.length c11)], 36⟩, ⟨n102, [(.slice a00 k0.length c00), (.slice a01 x0.length c01)], 36⟩] [] := S324
   refine stGives S324 rfl (ex_fn (vs := #[(.int .u8 2), (.slice (some ⟨n316, 0, none⟩) 3 3)]) (map2 rfl rfl) rfl (ent_20 _ _)) (Parts_spec _ _ _ 2 [([(b8 pn)] : By), (rootT ([((keyL k1), (x1.take 32))] : List Pr)), (rootT ([((keyL k0), (x0.take 32))] : List Pr))] (S324).sat (hT.at S324.gr.below) r328 (by have := (key_ok k0).2; have := (key_ok k1).2; simp [partB_len, rootT_len]; try omega)) ?_
   intro v334 w329 F331 S330 le332 R333
   obtain ⟨x335, rfl, r336⟩ := R333
   obtain ⟨xa337, xc338, rfl, _⟩ := r336.shape
   have r336 : Bs _ (.slice xa337 (partsL 2 [([(b8 pn)] : By), (rootT ([((keyL k1), (x1.take 32))] : List Pr)), (rootT ([((keyL k0), (x0.take 32))] : List Pr))]).length xc338) (partsL 2 [([(b8 pn)] : By), (rootT ([((keyL k1), (x1.take 32))] : List Pr)), (rootT ([((keyL k0), (x0.take 32))] : List Pr))]) := r336
   simp only [pS, pN, pA, pC, pZ]
   refine do_ rfl (.tuple #[(.slice xa337 (partsL 2 [([(b8 pn)] : By), (rootT ([((keyL k1), (x1.take 32))] : List Pr)), (rootT ([((keyL k0), (x0.take 32))] : List Pr))]).length xc338), (.int .i64 0)]) (ex_move _) ?_
   simp only [pS, pN, pA, pC, pZ]
   refine do_ rfl (.slice xa337 (partsL 2 [([(b8 pn)] : By), (rootT ([((keyL k1), (x1.take 32))] : List Pr)), (rootT ([((keyL k0), (x0.take 32))] : List Pr))]).length xc338) (ex_extract rfl rfl) ?_
   simp only [pS, pN, pA, pC, pZ]
   refine do_ rfl (.int .i64 0) (ex_extract rfl rfl) ?_
   simp only [pS, pN, pA, pC, pZ]
   refine do_ rfl (.slice xa337 (partsL 2 [([(b8 pn)] : By), (rootT ([((keyL k1), (x1.take 32))] : List Pr)), (rootT ([((keyL k0), (x0.take 32))] : List Pr))]).length xc338) (ex_assign _) ?_
   simp only [pS, pN, pA, pC, pZ]
   refine do_ rfl (.int .i64 0) (ex_assign _) ?_
   simp only [pS, pN, pA, pC, pZ]
   refine wl_nil (hK312 _ _ ?_)
   refine wp_seq_k (fun K339 hK339 => region_wl ?_)
   refine do_ rfl (.int .i64 0) (ex_move _) ?_
   simp only [pS, pN, pA, pC, pZ]
   refine do_ rfl (.bool true) (ex_eql (b := true) rfl rfl (by decide)) ?_
   simp only [pS, pN, pA, pC, pZ]
   refine do_ rfl (.bool true) (ex_move _) ?_
   simp only [pS, pN, pA, pC, pZ]
   refine do_ rfl (.int .i64 0) (ex_move _) ?_
   simp only [pS, pN, pA, pC, pZ]
   refine do_ rfl (.bool true) (ex_eql (b := true) rfl rfl (by decide)) ?_
   simp only [pS, pN, pA, pC, pZ]
   refine do_ rfl (.bool true) (ex_pick (b := true) rfl) ?_
   simp only [pS, pN, pA, pC, pZ]
   refine do_ rfl (.bool true) (ex_move _) ?_
   simp only [pS, pN, pA, pC, pZ]
   refine do_ rfl (.int .i64 0) (ex_move _) ?_
   simp only [pS, pN, pA, pC, pZ]
   refine do_ rfl (.bool true) (ex_eql (b := true) rfl rfl (by decide)) ?_
   simp only [pS, pN, pA, pC, pZ]
   refine do_ rfl (.bool true) (ex_pick (b := true) rfl) ?_
   simp only [pS, pN, pA, pC, pZ]
   refine do_ rfl (.bool true) (ex_move _) ?_
   simp only [pS, pN, pA, pC, pZ]
   refine do_ rfl (.slice xa310 (rootT ([((keyL k1), (x1.take 32)), ((keyL k0), (x0.take 32))] : List Pr)).length xc311) (ex_move _) ?_
   simp only [pS, pN, pA, pC, pZ]
   refine do_ rfl (.slice xa337 (partsL 2 [([(b8 pn)] : By), (rootT ([((keyL k1), (x1.take 32))] : List Pr)), (rootT ([((keyL k0), (x0.take 32))] : List Pr))]).length xc338) (ex_move _) ?_
   simp only [pS, pN, pA, pC, pZ]
   refine stTells (v := (.bool true)) S330 rfl (ex_fn (vs := #[(.slice xa310 (rootT ([((keyL k1), (x1.take 32)), ((keyL k0), (x0.take 32))] : List Pr)).length xc311), (.slice xa337 (partsL 2 [([(b8 pn)] : By), (rootT ([((keyL k1), (x1.take 32))] : List Pr)), (rootT ([((keyL k0), (x0.take 32))] : List Pr))]).length xc338)]) (map2 rfl rfl) rfl (ent_16 _ _)) (tells_bool (tells_same (same_spec _ _ _ _ (rootT ([((keyL k1), (x1.take 32)), ((keyL k0), (x0.take 32))] : List Pr)) (partsL 2 [([(b8 pn)] : By), (rootT ([((keyL k1), (x1.take 32))] : List Pr)), (rootT ([((keyL k0), (x0.take 32))] : List Pr))]) (S330).sat (r309.mono ((le320.trans le325).trans le332)) r336)) (beq_iff_eq.2 ((root_two (two_ok hlt).keys (part_comm hpn))))) (fun w340 S341 => ?_)
   simp only [pS, pN, pA, pC, pZ]
   refine do_ rfl (.bool true) (ex_pick (b := true) rfl) ?_
   simp only [pS, pN, pA, pC, pZ]
   refine do_ rfl (.bool true) (ex_assign _) ?_
   simp only [pS, pN, pA, pC, pZ]
   refine wl_nil (hK339 _ _ ?_)
   refine wp_ret ?_
   (try simp only [Exit.then, Exit.inBlock, ↓reduceIte, Nat.reduceEqDiff])
   refine bodyPost_ret (v := (.bool true)) ?_ rfl ?_
   ·exact res_t rfl rfl
   ·exact ⟨rfl, S341.gr.below⟩
  ·refine wp_skip ?_
   refine hK289 _ _ ?_
   refine wp_seq_k (fun K342 hK342 => ?_)
   have hlt : Lt (keyL k0) (keyL k1) := lt_of_not hne hc291
   refine region_wl ?_
   refine do_ rfl (.slice (some ⟨n286, 0, none⟩) 2 2) (ex_move _) ?_
   simp only [pS, pN, pA, pC, pZ]
   obtain ⟨S343, le344, hc345⟩ := St.freezeBlk S288 (i := 0) rfl
   have r347 : Prs _ (.slice (some ⟨n286, 0, none⟩) 2 2) ([((keyL k0), (x0.take 32)), ((keyL k1), (x1.take 32))] : List Pr) := sl_of_block (R := PrC) (l := ([((keyL k0), (x0.take 32)), ((keyL k1), (x1.take 32))] : List Pr)) (el := [[(.slice xa143 (keyL k0).length xc144), (.slice xa146 (x0.take 32).length xc147)], [(.slice xa186 (keyL k1).length xc187), (.slice xa189 (x1.take 32).length xc190)]]) hc345 rfl ⟨⟨_, _, rfl, ((r145.mono ((((((((le184.trans le199).trans le206).trans le218).trans le225).trans le237).trans le244).trans le255).trans le266)).mono le344), ((r148.mono ((((((((le184.trans le199).trans le206).trans le218).trans le225).trans le237).trans le244).trans le255).trans le266)).mono le344)⟩, ⟨_, _, rfl, ((r188.mono (((((((le199.trans le206).trans le218).trans le225).trans le237).trans le244).trans le255).trans le266)).mono le344), ((r191.mono (((((((le199.trans le206).trans le218).trans le225).trans le237).trans le244).trans le255).trans le266)).mono le344)⟩, trivial⟩ (by simp) (by unfold maxLen; simp)
   generalize addF F265 w287 n286 = F346 at *
   have S343 : St W (whole W) w287 F346 [⟨n175, [(.slice xa186 (keyL k1).length xc187), (.slice xa189 (x1.take 32).length xc190)], 38⟩, ⟨n132, [(.slice xa143 (keyL k0).length xc144), (.slice xa146 (x0.take 32).length xc147)], 38⟩, ⟨n105, [(.slice a10 k1.length c10), (.slice a11 x1.length c11)], 36⟩, ⟨n102, [(.slice a00 k0.length c00), (.slice a01 x0.length c01)], 36⟩] [] := S343
   refine stGives S343 rfl (ex_fn (vs := #[(.slice (some ⟨n286, 0, none⟩) 2 2)]) (map1 rfl) rfl (ent_22 _ _)) (Root_spec _ _ _ ([((keyL k0), (x0.take 32)), ((keyL k1), (x1.take 32))] : List Pr) (S343).sat (hT.at S343.gr.below) r347 (two_ok hlt)) ?_
   intro v353 w348 F350 S349 le351 R352
   obtain ⟨x354, rfl, r355⟩ := R352
   obtain ⟨xa356, xc357, rfl, _⟩ := r355.shape
   have r355 : Bs _ (.slice xa356 (rootT ([((keyL k0), (x0.take 32)), ((keyL k1), (x1.take 32))] : List Pr)).length xc357) (rootT ([((keyL k0), (x0.take 32)), ((keyL k1), (x1.take 32))] : List Pr)) := r355
   simp only [pS, pN, pA, pC, pZ]
   refine do_ rfl (.tuple #[(.slice xa356 (rootT ([((keyL k0), (x0.take 32)), ((keyL k1), (x1.take 32))] : List Pr)).length xc357), (.int .i64 0)]) (ex_move _) ?_
   simp only [pS, pN, pA, pC, pZ]
   refine do_ rfl (.slice xa356 (rootT ([((keyL k0), (x0.take 32)), ((keyL k1), (x1.take 32))] : List Pr)).length xc357) (ex_extract rfl rfl) ?_
   simp only [pS, pN, pA, pC, pZ]
   refine do_ rfl (.int .i64 0) (ex_extract rfl rfl) ?_
   simp only [pS, pN, pA, pC, pZ]
   refine do_ rfl (.slice xa356 (rootT ([((keyL k0), (x0.take 32)), ((keyL k1), (x1.take 32))] : List Pr)).length xc357) (ex_assign _) ?_
   simp only [pS, pN, pA, pC, pZ]
   refine do_ rfl (.int .i64 0) (ex_assign _) ?_
   simp only [pS, pN, pA, pC, pZ]
   refine wl_nil (hK342 _ _ ?_)
   refine wp_seq_k (fun K358 hK358 => region_wl ?_)
   refine do_ rfl (.int .i64 ((pn : Nat) : Int)) (ex_move _) ?_
   simp only [pS, pN, pA, pC, pZ]
   refine do_ rfl (bv (b8 pn)) (ex_convert (v := (.int .i64 ((pn : Nat) : Int))) rfl (conv_b8 pn _)) ?_
   simp only [pS, pN, pA, pC, pZ]
   refine stNew S349 (v := fun n => .slice (some ⟨n, 0, none⟩) 1 1) rfl (ex_lit (ps := #[(0, (bv (b8 pn)))]) (cells := #[(bv (b8 pn))]) (E := 5) (bmap1 rfl) (fun w => by kernel_rfl)) (fun n359 w360 S361 => ?_)
   simp only [pS, pN, pA, pC, pZ]
   have S361 : St W (whole W) w360 F350 [⟨n359, [(bv (b8 pn))], 5⟩, ⟨n175, [(.slice xa186 (keyL k1).length xc187), (.slice xa189 (x1.take 32).length xc190)], 38⟩, ⟨n132, [(.slice xa143 (keyL k0).length xc144), (.slice xa146 (x0.take 32).length xc147)], 38⟩, ⟨n105, [(.slice a10 k1.length c10), (.slice a11 x1.length c11)], 36⟩, ⟨n102, [(.slice a00 k0.length c00), (.slice a01 x0.length c01)], 36⟩] [] := S361
   refine do_ rfl (.slice xa211 (rootT ([((keyL k0), (x0.take 32))] : List Pr)).length xc212) (ex_move _) ?_
   simp only [pS, pN, pA, pC, pZ]
   refine do_ rfl (.slice xa230 (rootT ([((keyL k1), (x1.take 32))] : List Pr)).length xc231) (ex_move _) ?_
   simp only [pS, pN, pA, pC, pZ]
   refine stNew S361 (v := fun n => .slice (some ⟨n, 0, none⟩) 3 3) rfl (ex_lit (ps := #[(0, (.slice (some ⟨n359, 0, none⟩) 1 1)), (1, (.slice xa211 (rootT ([((keyL k0), (x0.take 32))] : List Pr)).length xc212)), (2, (.slice xa230 (rootT ([((keyL k1), (x1.take 32))] : List Pr)).length xc231))]) (cells := #[(.slice (some ⟨n359, 0, none⟩) 1 1), (.slice xa211 (rootT ([((keyL k0), (x0.take 32))] : List Pr)).length xc212), (.slice xa230 (rootT ([((keyL k1), (x1.take 32))] : List Pr)).length xc231)]) (E := 22) (bmap3 rfl rfl rfl) (fun w => by kernel_rfl)) (fun n362 w363 S364 => ?_)
   simp only [pS, pN, pA, pC, pZ]
   have S364 : St W (whole W) w363 F350 [⟨n362, [(.slice (some ⟨n359, 0, none⟩) 1 1), (.slice xa211 (rootT ([((keyL k0), (x0.take 32))] : List Pr)).length xc212), (.slice xa230 (rootT ([((keyL k1), (x1.take 32))] : List Pr)).length xc231)], 22⟩, ⟨n359, [(bv (b8 pn))], 5⟩, ⟨n175, [(.slice xa186 (keyL k1).length xc187), (.slice xa189 (x1.take 32).length xc190)], 38⟩, ⟨n132, [(.slice xa143 (keyL k0).length xc144), (.slice xa146 (x0.take 32).length xc147)], 38⟩, ⟨n105, [(.slice a10 k1.length c10), (.slice a11 x1.length c11)], 36⟩, ⟨n102, [(.slice a00 k0.length c00), (.slice a01 x0.length c01)], 36⟩] [] := S364
   obtain ⟨S365, le366, hc367⟩ := St.freezeBlk S364 (i := 1) rfl
   have r369 : Bs _ (.slice (some ⟨n359, 0, none⟩) 1 1) ([(b8 pn)] : By) := bs_of_block (l := ([(b8 pn)] : By)) hc367 rfl (by unfold maxLen; simp)
   generalize addF F350 w363 n359 = F368 at *
   have S365 : St W (whole W) w363 F368 [⟨n362, [(.slice (some ⟨n359, 0, none⟩) 1 1), (.slice xa211 (rootT ([((keyL k0), (x0.take 32))] : List Pr)).length xc212), (.slice xa230 (rootT ([((keyL k1), (x1.take 32))] : List Pr)).length xc231)], 22⟩, ⟨n175, [(.slice xa186 (keyL k1).length xc187), (.slice xa189 (x1.take 32).length xc190)], 38⟩, ⟨n132, [(.slice xa143 (keyL k0).length xc144), (.slice xa146 (x0.take 32).length xc147)], 38⟩, ⟨n105, [(.slice a10 k1.length c10), (.slice a11 x1.length c11)], 36⟩, ⟨n102, [(.slice a00 k0.length c00), (.slice a01 x0.length c01)], 36⟩] [] := S365
   obtain ⟨S370, le371, hc372⟩ := St.freezeBlk S365 (i := 0) rfl
   have r374 : Lss _ (.slice (some ⟨n362, 0, none⟩) 3 3) ([([(b8 pn)] : By), (rootT ([((keyL k0), (x0.take 32))] : List Pr)), (rootT ([((keyL k1), (x1.take 32))] : List Pr))] : List By) := sl_of_block (R := LsC) (l := ([([(b8 pn)] : By), (rootT ([((keyL k0), (x0.take 32))] : List Pr)), (rootT ([((keyL k1), (x1.take 32))] : List Pr))] : List By)) (el := [[(.slice (some ⟨n359, 0, none⟩) 1 1)], [(.slice xa211 (rootT ([((keyL k0), (x0.take 32))] : List Pr)).length xc212)], [(.slice xa230 (rootT ([((keyL k1), (x1.take 32))] : List Pr)).length xc231)]]) hc372 rfl ⟨⟨_, rfl, (r369.mono le371)⟩, ⟨_, rfl, ((r210.mono ((((((((le218.trans le225).trans le237).trans le244).trans le255).trans le266).trans le344).trans le351).trans le366)).mono le371)⟩, ⟨_, rfl, ((r229.mono ((((((le237.trans le244).trans le255).trans le266).trans le344).trans le351).trans le366)).mono le371)⟩, trivial⟩ (by simp) (by unfold maxLen; simp)
   generalize addF F368 w363 n362 = F373 at *
   have S370 : St W (whole W) w363 F373 [⟨n175, [(.slice xa186 (keyL k1).length xc187), (.slice xa189 (x1.take 32).length xc190)], 38⟩, ⟨n132, [(.slice xa143 (keyL k0).length xc144), (.slice xa146 (x0.take 32).length xc147)], 38⟩, ⟨n105, [(.slice a10 k1.length c10), (.slice a11 x1.length c11)], 36⟩, ⟨n102, [(.slice a00 k0.length c00), (.slice a01 x0.length c01)], 36⟩] [] := S370
   refine stGives S370 rfl (ex_fn (vs := #[(.int .u8 2), (.slice (some ⟨n362, 0, none⟩) 3 3)]) (map2 rfl rfl) rfl (ent_20 _ _)) (Parts_spec _ _ _ 2 [([(b8 pn)] : By), (rootT ([((keyL k0), (x0.take 32))] : List Pr)), (rootT ([((keyL k1), (x1.take 32))] : List Pr))] (S370).sat (hT.at S370.gr.below) r374 (by have := (key_ok k0).2; have := (key_ok k1).2; simp [partB_len, rootT_len]; try omega)) ?_
   intro v380 w375 F377 S376 le378 R379
   obtain ⟨x381, rfl, r382⟩ := R379
   obtain ⟨xa383, xc384, rfl, _⟩ := r382.shape
   have r382 : Bs _ (.slice xa383 (partsL 2 [([(b8 pn)] : By), (rootT ([((keyL k0), (x0.take 32))] : List Pr)), (rootT ([((keyL k1), (x1.take 32))] : List Pr))]).length xc384) (partsL 2 [([(b8 pn)] : By), (rootT ([((keyL k0), (x0.take 32))] : List Pr)), (rootT ([((keyL k1), (x1.take 32))] : List Pr))]) := r382
   simp only [pS, pN, pA, pC, pZ]
   refine do_ rfl (.tuple #[(.slice xa383 (partsL 2 [([(b8 pn)] : By), (rootT ([((keyL k0), (x0.take 32))] : List Pr)), (rootT ([((keyL k1), (x1.take 32))] : List Pr))]).length xc384), (.int .i64 0)]) (ex_move _) ?_
   simp only [pS, pN, pA, pC, pZ]
   refine do_ rfl (.slice xa383 (partsL 2 [([(b8 pn)] : By), (rootT ([((keyL k0), (x0.take 32))] : List Pr)), (rootT ([((keyL k1), (x1.take 32))] : List Pr))]).length xc384) (ex_extract rfl rfl) ?_
   simp only [pS, pN, pA, pC, pZ]
   refine do_ rfl (.int .i64 0) (ex_extract rfl rfl) ?_
   simp only [pS, pN, pA, pC, pZ]
   refine do_ rfl (.slice xa383 (partsL 2 [([(b8 pn)] : By), (rootT ([((keyL k0), (x0.take 32))] : List Pr)), (rootT ([((keyL k1), (x1.take 32))] : List Pr))]).length xc384) (ex_assign _) ?_
   simp only [pS, pN, pA, pC, pZ]
   refine do_ rfl (.int .i64 0) (ex_assign _) ?_
   simp only [pS, pN, pA, pC, pZ]
   refine wl_nil (hK358 _ _ ?_)
   refine wp_seq_k (fun K385 hK385 => region_wl ?_)
   refine do_ rfl (.int .i64 0) (ex_move _) ?_
   simp only [pS, pN, pA, pC, pZ]
   refine do_ rfl (.bool true) (ex_eql (b := true) rfl rfl (by decide)) ?_
   simp only [pS, pN, pA, pC, pZ]
   refine do_ rfl (.bool true) (ex_move _) ?_
   simp only [pS, pN, pA, pC, pZ]
   refine do_ rfl (.int .i64 0) (ex_move _) ?_
   simp only [pS, pN, pA, pC, pZ]
   refine do_ rfl (.bool true) (ex_eql (b := true) rfl rfl (by decide)) ?_
   simp only [pS, pN, pA, pC, pZ]
   refine do_ rfl (.bool true) (ex_pick (b := true) rfl) ?_
   simp only [pS, pN, pA, pC, pZ]
   refine do_ rfl (.bool true) (ex_move _) ?_
   simp only [pS, pN, pA, pC, pZ]
   refine do_ rfl (.int .i64 0) (ex_move _) ?_
   simp only [pS, pN, pA, pC, pZ]
   refine do_ rfl (.bool true) (ex_eql (b := true) rfl rfl (by decide)) ?_
   simp only [pS, pN, pA, pC, pZ]
   refine do_ rfl (.bool true) (ex_pick (b := true) rfl) ?_
   simp only [pS, pN, pA, pC, pZ]
   refine do_ rfl (.bool true) (ex_move _) ?_
   simp only [pS, pN, pA, pC, pZ]
   refine do_ rfl (.slice xa356 (rootT ([((keyL k0), (x0.take 32)), ((keyL k1), (x1.take 32))] : List Pr)).length xc357) (ex_move _) ?_
   simp only [pS, pN, pA, pC, pZ]
   refine do_ rfl (.slice xa383 (partsL 2 [([(b8 pn)] : By), (rootT ([((keyL k0), (x0.take 32))] : List Pr)), (rootT ([((keyL k1), (x1.take 32))] : List Pr))]).length xc384) (ex_move _) ?_
   simp only [pS, pN, pA, pC, pZ]
   refine stTells (v := (.bool true)) S376 rfl (ex_fn (vs := #[(.slice xa356 (rootT ([((keyL k0), (x0.take 32)), ((keyL k1), (x1.take 32))] : List Pr)).length xc357), (.slice xa383 (partsL 2 [([(b8 pn)] : By), (rootT ([((keyL k0), (x0.take 32))] : List Pr)), (rootT ([((keyL k1), (x1.take 32))] : List Pr))]).length xc384)]) (map2 rfl rfl) rfl (ent_16 _ _)) (tells_bool (tells_same (same_spec _ _ _ _ (rootT ([((keyL k0), (x0.take 32)), ((keyL k1), (x1.take 32))] : List Pr)) (partsL 2 [([(b8 pn)] : By), (rootT ([((keyL k0), (x0.take 32))] : List Pr)), (rootT ([((keyL k1), (x1.take 32))] : List Pr))]) (S376).sat (r355.mono ((le366.trans le371).trans le378)) r382)) (beq_iff_eq.2 ((root_two (two_ok hlt).keys hpn)))) (fun w386 S387 => ?_)
   simp only [pS, pN, pA, pC, pZ]
   refine do_ rfl (.bool true) (ex_pick (b := true) rfl) ?_
   simp only [pS, pN, pA, pC, pZ]
   refine do_ rfl (.bool true) (ex_assign _) ?_
   simp only [pS, pN, pA, pC, pZ]
   refine wl_nil (hK385 _ _ ?_)
   refine wp_ret ?_
   (try simp only [Exit.then, Exit.inBlock, ↓reduceIte, Nat.reduceEqDiff])
   refine bodyPost_ret (v := (.bool true)) ?_ rfl ?_
   ·exact res_t rfl rfl
   ·exact ⟨rfl, S387.gr.below⟩
end Go.Proofs.YtcanckliggcllaaDoor
