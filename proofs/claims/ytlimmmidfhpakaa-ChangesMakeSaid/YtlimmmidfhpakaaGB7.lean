/- Rules, plain laws and walks: K4 K5 K6 S8 S9 H1 S10 P29 P31 -/
import Derived.Test.YtlimmmidfhpakaaGB6
import Derived.Test.YtlimmmidfhpakaaGB4
import Derived.Test.YtlimmmidfhpakaaGB3
import Derived.Test.YtlimmmidfhpakaaGB1
import Derived.OrdersHeld
namespace Go.Proofs.Ytlimmmidfhpakaa
open Go.RowKit
set_option maxRecDepth 100000
set_option linter.unusedVariables false
set_option linter.unusedSimpArgs false
set_option maxHeartbeats 8000000 in
theorem keepWrite_spec (F : Fz) (w : World) (v : Value) (p : Pl) (hs : Sat w F) (hv : PlV F v p) :
    Calls Try.prog 6 #[v] w (Gives w F fun F' u => WrV F' u (writeP p)) := by
 obtain ⟨x0, y0, x1, y1, x2, y2, rfl, h0, h1, h2⟩ := hv
 have S := St.start hs
 go_enter Try.func6, Try.ntmps6
 refine wp_seq_k (fun K1 hK1 => region_wl ?_)
 refine stNew S (v := fun n => .pointer (some ⟨n, 0, none⟩)) rfl (ex_box (v := (.agg #[(.slice x0 p.name.length y0), (.slice x1 p.key.length y1), (.slice x2 p.value.length y2), (.bool p.gone)])) rfl) (fun n2 w3 S4 => ?_)
 simp only [pS, pN, pA, pC, pZ]
 have S4 : St w F w3 F [⟨n2, [(.slice x0 p.name.length y0), (.slice x1 p.key.length y1), (.slice x2 p.value.length y2), (.bool p.gone)], 30⟩] [] := S4
 refine stNew S4 (v := fun n => .pointer (some ⟨n, 0, none⟩)) rfl (ex_alloc (zero_27 _)) (fun n5 w6 S7 => ?_)
 simp only [pS, pN, pA, pC, pZ]
 have S7 : St w F w6 F [⟨n5, [(.slice none 0 0), (.slice none 0 0), (.bool false), (.slice none 0 0)], 27⟩, ⟨n2, [(.slice x0 p.name.length y0), (.slice x1 p.key.length y1), (.slice x2 p.value.length y2), (.bool p.gone)], 30⟩] [] := S7
 refine wl_nil (hK1 _ _ ?_)
 refine wp_seq_k (fun K8 hK8 => ?_)
 refine region_gw F 10 [(2, .made (fun F' u => Bs F' u (nameL p.name))), (5, .made (fun F' u => Bs F' u (keyL p.key))), (8, .made (fun F' u => WrV F' u (⟨(nameL p.name), (keyL p.key), p.gone, ([] : By)⟩ : Wr))), (9, .rel (NewAt w6 [(.slice none 0 0), (.slice none 0 0), (.bool false), (.slice none 0 0)] 27) (NewAt.stable _ _ _))] (by kernel_rfl) (by kernel_rfl) ?_
 simp only [List.take_succ_cons, List.take_zero]
 refine gw_pure rfl rfl (.pointer (some ⟨n2, 0, none⟩)) (fun w9 hCw9 => pureAt_of (ex_field (q := ⟨n2, 0, none⟩) rfl (fa_30_0 _ _))) ?_
 simp only [pS, pN, pA, pC, pZ]
 refine gw_pure rfl rfl (.slice x0 p.name.length y0) (fun w9 hCw9 => pureAt_of (ex_load rfl (load1 (nagg_25 _) (St.cell (St.tells S7 hCw9) (i := 1) rfl rfl)))) ?_
 simp only [pS, pN, pA, pC, pZ]
 refine gw_rel rfl rfl (fun w9 hCw9 hF => does_call (ex_fn (vs := #[(.slice x0 p.name.length y0)]) (map1 rfl) rfl (ent_20 _ _)) (call_made S7.sat hCw9 (name_spec _ _ _ p.name ((St.tells S7 hCw9)).sat h0))) (fun v10 => ?_)
 simp only [pS, pN, pA, pC, pZ]
 refine gw_pure rfl rfl (.pointer (some ⟨n2, 1, none⟩)) (fun w9 hCw9 => pureAt_of (ex_field (q := ⟨n2, 1, none⟩) rfl (fa_30_1 _ _))) ?_
 simp only [pS, pN, pA, pC, pZ]
 refine gw_pure rfl rfl (.slice x1 p.key.length y1) (fun w9 hCw9 => pureAt_of (ex_load rfl (load1 (nagg_25 _) (St.cell (St.tells S7 hCw9) (i := 1) rfl rfl)))) ?_
 simp only [pS, pN, pA, pC, pZ]
 refine gw_rel rfl rfl (fun w9 hCw9 hF => does_call (ex_fn (vs := #[(.slice x1 p.key.length y1)]) (map1 rfl) rfl (ent_21 _ _)) (call_made S7.sat hCw9 (key_spec _ _ _ p.key ((St.tells S7 hCw9)).sat h1))) (fun v11 => ?_)
 simp only [pS, pN, pA, pC, pZ]
 refine gw_pure rfl rfl (.pointer (some ⟨n2, 3, none⟩)) (fun w9 hCw9 => pureAt_of (ex_field (q := ⟨n2, 3, none⟩) rfl (fa_30_3 _ _))) ?_
 simp only [pS, pN, pA, pC, pZ]
 refine gw_pure rfl rfl (.bool p.gone) (fun w9 hCw9 => pureAt_of (ex_load rfl (load1 (nagg_4 _) (St.cell (St.tells S7 hCw9) (i := 1) rfl rfl)))) ?_
 simp only [pS, pN, pA, pC, pZ]
 refine gw_rel rfl rfl (fun w9 hCw9 hF_ => ?_) (fun v12 => ?_)
 ·obtain ⟨F13, g14, R15⟩ := hF_.get 2 (by kernel_rfl) rfl rfl
  obtain ⟨F18, g19, R20⟩ := hF_.get 5 (by kernel_rfl) rfl rfl
  have hR0 := (R15.mono (both_left F13 F18))
  obtain ⟨xa23, xc24, rfl, _⟩ := hR0.shape
  have hR1 := (R20.mono (both_right g14.sat g19.sat))
  obtain ⟨xa25, xc26, rfl, _⟩ := hR1.shape
  have hR3 := Bs.nil (both F13 F18)
  exact does_val (ex_build (bmap3 rfl rfl rfl) (by kernel_rfl)) ⟨(both F13 F18), (g14.both g19), ⟨_, _, _, _, _, _, rfl, hR0, hR1, hR3⟩⟩ (Below.refl _ _)
 simp only [pS, pN, pA, pC, pZ]
 refine gw_rel rfl rfl (fun w9 hCw9 _ => does_alloc (cs := [(.slice none 0 0), (.slice none 0 0), (.bool false), (.slice none 0 0)]) (zero_27 _) rfl hCw9) (fun v27 => ?_)
 simp only [pS, pN, pA, pC, pZ]
 refine gw_nil ?_
 intro w28 hC30 hF31
 obtain ⟨n32, rfl, hn33, hb34⟩ := hF31.getR 9 rfl rfl
 have hnbn32 : ∀ u ∈ [(.slice none 0 0), (.slice none 0 0), (.bool false), (.slice none 0 0)], ∀ x, u ≠ bv x := by intro u hu x; simp only [List.mem_cons, List.not_mem_nil, or_false] at hu; rcases hu with rfl | rfl | rfl | rfl <;> (unfold bv; simp)
 obtain ⟨F35, g36, R37⟩ := hF31.get 8 rfl rfl
 have g38 := g36.dropF S7.sat hn33
 have R39 := WrV.dropF g36.sat hb34 hnbn32 R37
 have S29 := St.addBlk (cs := [(.slice none 0 0), (.slice none 0 0), (.bool false), (.slice none 0 0)]) S7 g38 hn33 (dropF_at _ _) hb34
 have le41 : Le _ _ := g38.le S7.sat
 have R42 := R39
 generalize (dropF F35 n32) = F40 at *
 obtain ⟨xa43, xc44, xa46, xc47, xa49, xc50, rfl, r45, r48, r51⟩ := R42
 have r45 : Bs _ (.slice xa43 (nameL p.name).length xc44) (nameL p.name) := r45
 have r48 : Bs _ (.slice xa46 (keyL p.key).length xc47) (keyL p.key) := r48
 have r51 : Bs _ (.slice xa49 ([] : By).length xc50) ([] : By) := r51
 clear hF31
 simp only [List.drop_succ_cons, List.drop_zero]
 have S29 : St w F w28 F40 [⟨n32, [(.slice none 0 0), (.slice none 0 0), (.bool false), (.slice none 0 0)], 27⟩, ⟨n5, [(.slice none 0 0), (.slice none 0 0), (.bool false), (.slice none 0 0)], 27⟩, ⟨n2, [(.slice x0 p.name.length y0), (.slice x1 p.key.length y1), (.slice x2 p.value.length y2), (.bool p.gone)], 30⟩] [] := S29
 refine stStore (i := 0) (v := (.agg #[(.slice xa43 (nameL p.name).length xc44), (.slice xa46 (keyL p.key).length xc47), (.bool p.gone), (.slice xa49 ([] : By).length xc50)])) S29 rfl rfl rfl rfl (size_27) (allc4 rfl rfl rfl rfl) (Nat.le_of_ble_eq_true rfl) (fun w52 S53 => ?_)
 simp only [pS, pN, pA, pC, pZ]
 have S53 : St w F w52 F40 [⟨n32, [(.slice xa43 (nameL p.name).length xc44), (.slice xa46 (keyL p.key).length xc47), (.bool p.gone), (.slice xa49 ([] : By).length xc50)], 27⟩, ⟨n5, [(.slice none 0 0), (.slice none 0 0), (.bool false), (.slice none 0 0)], 27⟩, ⟨n2, [(.slice x0 p.name.length y0), (.slice x1 p.key.length y1), (.slice x2 p.value.length y2), (.bool p.gone)], 30⟩] [] := S53
 refine wl_nil (hK8 _ _ ?_)
 refine wp_seq_k (fun K54 hK54 => ?_)
 refine wp_seq_k (fun K55 hK55 => region_wl ?_)
 refine do_ rfl (.pointer (some ⟨n2, 3, none⟩)) (ex_field (q := ⟨n2, 3, none⟩) rfl (fa_30_3 _ _)) ?_
 simp only [pS, pN, pA, pC, pZ]
 refine do_ rfl (.bool p.gone) (ex_load rfl (load1 (nagg_4 _) (St.cell S53 (i := 2) rfl rfl))) ?_
 simp only [pS, pN, pA, pC, pZ]
 refine do_ rfl (.bool (!p.gone)) (ex_not rfl rfl) ?_
 simp only [pS, pN, pA, pC, pZ]
 refine wl_nil (hK55 _ _ ?_)
 refine wp_cond_split rfl (fun hc56 => ?_) (fun hc56 => ?_)
 ·refine region_wl ?_
  refine do_ rfl (.pointer (some ⟨n2, 2, none⟩)) (ex_field (q := ⟨n2, 2, none⟩) rfl (fa_30_2 _ _)) ?_
  simp only [pS, pN, pA, pC, pZ]
  refine do_ rfl (.slice x2 p.value.length y2) (ex_load rfl (load1 (nagg_25 _) (St.cell S53 (i := 2) rfl rfl))) ?_
  simp only [pS, pN, pA, pC, pZ]
  refine stGives S53 rfl (ex_fn (vs := #[(.slice x2 p.value.length y2), (.int .i64 32)]) (map2 rfl rfl) rfl (ent_22 _ _)) (some_spec _ _ _ p.value 32 (S53).sat (h2.mono le41) (by omega) (by omega)) ?_
  intro v62 w57 F59 S58 le60 R61
  obtain ⟨xa63, xc64, rfl, _⟩ := R61.shape
  simp only [pS, pN, pA, pC, pZ]
  refine do_ rfl (.pointer (some ⟨n32, 3, none⟩)) (ex_field (q := ⟨n32, 3, none⟩) rfl (fa_27_3 _ _)) ?_
  simp only [pS, pN, pA, pC, pZ]
  refine stStore (i := 0) (v := (.slice xa63 (p.value.take 32).length xc64)) S58 rfl rfl rfl rfl (size_25) (allc1 rfl) (Nat.le_of_ble_eq_true rfl) (fun w65 S66 => ?_)
  simp only [pS, pN, pA, pC, pZ]
  have S66 : St w F w65 F59 [⟨n32, [(.slice xa43 (nameL p.name).length xc44), (.slice xa46 (keyL p.key).length xc47), (.bool p.gone), (.slice xa63 (p.value.take 32).length xc64)], 27⟩, ⟨n5, [(.slice none 0 0), (.slice none 0 0), (.bool false), (.slice none 0 0)], 27⟩, ⟨n2, [(.slice x0 p.name.length y0), (.slice x1 p.key.length y1), (.slice x2 p.value.length y2), (.bool p.gone)], 30⟩] [] := S66
  refine wl_nil (hK54 _ _ ?_)
  refine wp_seq_k (fun K67 hK67 => region_wl ?_)
  refine do_ rfl (.agg #[(.slice xa43 (nameL p.name).length xc44), (.slice xa46 (keyL p.key).length xc47), (.bool p.gone), (.slice xa63 (p.value.take 32).length xc64)]) (ex_load rfl (loadN (cs := [(.slice xa43 (nameL p.name).length xc44), (.slice xa46 (keyL p.key).length xc47), (.bool p.gone), (.slice xa63 (p.value.take 32).length xc64)]) Try.underlying27 rfl (size_27) (St.range S66 (i := 0) rfl 0 [(.slice xa43 (nameL p.name).length xc44), (.slice xa46 (keyL p.key).length xc47), (.bool p.gone), (.slice xa63 (p.value.take 32).length xc64)] (sub_range 0 rfl)))) ?_
  simp only [pS, pN, pA, pC, pZ]
  refine stStore (i := 1) (v := (.agg #[(.slice xa43 (nameL p.name).length xc44), (.slice xa46 (keyL p.key).length xc47), (.bool p.gone), (.slice xa63 (p.value.take 32).length xc64)])) S66 rfl rfl rfl rfl (size_27) (allc4 rfl rfl rfl rfl) (Nat.le_of_ble_eq_true rfl) (fun w68 S69 => ?_)
  simp only [pS, pN, pA, pC, pZ]
  have S69 : St w F w68 F59 [⟨n32, [(.slice xa43 (nameL p.name).length xc44), (.slice xa46 (keyL p.key).length xc47), (.bool p.gone), (.slice xa63 (p.value.take 32).length xc64)], 27⟩, ⟨n5, [(.slice xa43 (nameL p.name).length xc44), (.slice xa46 (keyL p.key).length xc47), (.bool p.gone), (.slice xa63 (p.value.take 32).length xc64)], 27⟩, ⟨n2, [(.slice x0 p.name.length y0), (.slice x1 p.key.length y1), (.slice x2 p.value.length y2), (.bool p.gone)], 30⟩] [] := S69
  refine wl_nil (hK67 _ _ ?_)
  refine wp_ret ?_
  (try simp only [Exit.then, Exit.inBlock, ↓reduceIte, Nat.reduceEqDiff])
  refine bodyPost_ret (v := (.agg #[(.slice xa43 (nameL p.name).length xc44), (.slice xa46 (keyL p.key).length xc47), (.bool p.gone), (.slice xa63 (p.value.take 32).length xc64)])) ?_ rfl ?_
  ·exact res_c rfl ⟨_, rfl, loadN (cs := [(.slice xa43 (nameL p.name).length xc44), (.slice xa46 (keyL p.key).length xc47), (.bool p.gone), (.slice xa63 (p.value.take 32).length xc64)]) Try.underlying27 rfl (size_27) (St.range S69 (i := 1) rfl 0 [(.slice xa43 (nameL p.name).length xc44), (.slice xa46 (keyL p.key).length xc47), (.bool p.gone), (.slice xa63 (p.value.take 32).length xc64)] (sub_range 0 rfl))⟩
  ·have hw : writeP p = ⟨nameL p.name, keyL p.key, p.gone, (p.value.take 32)⟩ := by unfold writeP; rw [show p.gone = false from by simpa using hc56]; rfl
   rw [hw]
   exact ⟨_, _, rfl, S69.gr, _, _, _, _, _, _, rfl, (r45.mono le60), (r48.mono le60), R61⟩
 ·refine wp_skip ?_
  refine hK54 _ _ ?_
  refine wp_seq_k (fun K70 hK70 => region_wl ?_)
  refine do_ rfl (.agg #[(.slice xa43 (nameL p.name).length xc44), (.slice xa46 (keyL p.key).length xc47), (.bool p.gone), (.slice xa49 ([] : By).length xc50)]) (ex_load rfl (loadN (cs := [(.slice xa43 (nameL p.name).length xc44), (.slice xa46 (keyL p.key).length xc47), (.bool p.gone), (.slice xa49 ([] : By).length xc50)]) Try.underlying27 rfl (size_27) (St.range S53 (i := 0) rfl 0 [(.slice xa43 (nameL p.name).length xc44), (.slice xa46 (keyL p.key).length xc47), (.bool p.gone), (.slice xa49 ([] : By).length xc50)] (sub_range 0 rfl)))) ?_
  simp only [pS, pN, pA, pC, pZ]
  refine stStore (i := 1) (v := (.agg #[(.slice xa43 (nameL p.name).length xc44), (.slice xa46 (keyL p.key).length xc47), (.bool p.gone), (.slice xa49 ([] : By).length xc50)])) S53 rfl rfl rfl rfl (size_27) (allc4 rfl rfl rfl rfl) (Nat.le_of_ble_eq_true rfl) (fun w71 S72 => ?_)
  simp only [pS, pN, pA, pC, pZ]
  have S72 : St w F w71 F40 [⟨n32, [(.slice xa43 (nameL p.name).length xc44), (.slice xa46 (keyL p.key).length xc47), (.bool p.gone), (.slice xa49 ([] : By).length xc50)], 27⟩, ⟨n5, [(.slice xa43 (nameL p.name).length xc44), (.slice xa46 (keyL p.key).length xc47), (.bool p.gone), (.slice xa49 ([] : By).length xc50)], 27⟩, ⟨n2, [(.slice x0 p.name.length y0), (.slice x1 p.key.length y1), (.slice x2 p.value.length y2), (.bool p.gone)], 30⟩] [] := S72
  refine wl_nil (hK70 _ _ ?_)
  refine wp_ret ?_
  (try simp only [Exit.then, Exit.inBlock, ↓reduceIte, Nat.reduceEqDiff])
  refine bodyPost_ret (v := (.agg #[(.slice xa43 (nameL p.name).length xc44), (.slice xa46 (keyL p.key).length xc47), (.bool p.gone), (.slice xa49 ([] : By).length xc50)])) ?_ rfl ?_
  ·exact res_c rfl ⟨_, rfl, loadN (cs := [(.slice xa43 (nameL p.name).length xc44), (.slice xa46 (keyL p.key).length xc47), (.bool p.gone), (.slice xa49 ([] : By).length xc50)]) Try.underlying27 rfl (size_27) (St.range S72 (i := 1) rfl 0 [(.slice xa43 (nameL p.name).length xc44), (.slice xa46 (keyL p.key).length xc47), (.bool p.gone), (.slice xa49 ([] : By).length xc50)] (sub_range 0 rfl))⟩
  ·have hw : writeP p = ⟨nameL p.name, keyL p.key, p.gone, ([] : By)⟩ := by unfold writeP; rw [show p.gone = true from by simpa using hc56]; rfl
   rw [hw]
   exact ⟨_, _, rfl, S72.gr, _, _, _, _, _, _, rfl, r45, r48, r51⟩
set_option maxHeartbeats 8000000 in
theorem writes_spec (F : Fz) (w : World) (v : Value) (l : List Pl) (m : Nat) (hs : Sat w F) (hv : Pls F v l) (hm : m ≤ 100000) :
    Calls Try.prog 32 #[v, .int .i64 (m : Nat)] w (Gives w F fun F' u => Wrs F' u (writesN l m)) := by
 obtain ⟨a, c, rfl, hc1, hc2⟩ := Sl.shape hv
 unfold maxLen at hc2
 obtain ⟨i27, hi27, hz27, hs27, hb27⟩ := info_parts info_27
 have S := St.start hs
 go_enter Try.func32, Try.ntmps32
 refine wp_seq_k (fun K1 hK1 => region_wl ?_)
 refine do_ rfl (.slice none 0 0) (ex_assign _) ?_
 simp only [pS, pN, pA, pC, pZ]
 refine wl_nil (hK1 _ _ ?_)
 refine wp_seq_k (fun K2 hK2 => region_wl ?_)
 refine do_ rfl (.slice none 0 0) (ex_assign _) ?_
 simp only [pS, pN, pA, pC, pZ]
 refine wl_nil (hK2 _ _ ?_)
 refine wp_seq_k (fun K3 hK3 => ?_)
 refine wp_seq_k (fun K4 hK4 => region_wl ?_)
 refine do_ rfl (.int .i64 0) (ex_assign _) ?_
 simp only [pS, pN, pA, pC, pZ]
 refine wl_nil (hK4 _ _ ?_)
 refine wp_block ?_
 have S5 := St.addNil S 4 WrC WrC.mono 27 w.heap.size
 refine wp_loop_g (fun mm aa w8 => ∃ (i : Nat) (v : Value) (F6 : Fz) (u7 : Nat → Value), mm = l.length - i ∧ u7 = slots aa ∧ aa = ⟨#[(.slice a l.length c), (.int .i64 ((m : Nat) : Int)), undef, undef, (.slice none 0 0), v, (.int .i64 ((i : Nat) : Int)), (u7 7), (u7 8), (u7 9), (u7 10), (u7 11), (u7 12), (u7 13), (u7 14), (u7 15), (u7 16), (u7 17), (u7 18), (u7 19), (u7 20), (u7 21), (u7 22), (u7 23), (u7 24), (u7 25), (u7 26), (u7 27), undef], []⟩ ∧ St w F w8 F6 [] [ownP 4 WrC WrC.mono 27 w.heap.size v (writesN l i)] ∧ Le F F6 ∧ (i ≤ l.length) ∧ (i ≤ m)) _ ⟨0, (.slice none 0 0), F, _, rfl, rfl, rfl, S5, Le.refl _, (by omega), (by omega)⟩ ?_
 rintro m9 a10 w11 ⟨i, v, F6, u7, rfl, -, rfl, S12, le13, hi, him⟩ K14 hK14
 refine wp_seq_k (fun K15 hK15 => ?_)
 refine wp_seq_k (fun K16 hK16 => region_wl ?_)
 refine do_ rfl (.int .i64 ((i : Nat) : Int)) (ex_move _) ?_
 simp only [pS, pN, pA, pC, pZ]
 refine do_ rfl (.slice a l.length c) (ex_move _) ?_
 simp only [pS, pN, pA, pC, pZ]
 refine do_ rfl (.int .i64 ((l.length : Nat) : Int)) (ex_len Try.underlying22 rfl) ?_
 simp only [pS, pN, pA, pC, pZ]
 by_cases hc11 : i < l.length
 ·refine do_ rfl (.bool true) (ex_lss (m := ((i : Nat) : Int)) (n := ((l.length : Nat) : Int)) (b := true) rfl rfl (decide_eq_true (by omega))) ?_
  simp only [pS, pN, pA, pC, pZ]
  refine do_ rfl (.bool true) (ex_move _) ?_
  simp only [pS, pN, pA, pC, pZ]
  refine do_ rfl (.int .i64 ((i : Nat) : Int)) (ex_move _) ?_
  simp only [pS, pN, pA, pC, pZ]
  refine do_ rfl (.int .i64 ((m : Nat) : Int)) (ex_move _) ?_
  simp only [pS, pN, pA, pC, pZ]
  by_cases hc15 : i < m
  ·refine do_ rfl (.bool true) (ex_lss (m := ((i : Nat) : Int)) (n := ((m : Nat) : Int)) (b := true) rfl rfl (decide_eq_true (by omega))) ?_
   simp only [pS, pN, pA, pC, pZ]
   refine do_ rfl (.bool true) (ex_pick (b := true) rfl) ?_
   simp only [pS, pN, pA, pC, pZ]
   refine wl_nil (hK16 _ _ ?_)
   refine wp_cond_true rfl ?_
   refine wp_skip ?_
   refine hK15 _ _ ?_
   refine wp_seq_k (fun K17 hK17 => ?_)
   refine wp_block ?_
   refine wp_seq_k (fun K18 hK18 => ?_)
   obtain ⟨p, hp⟩ : ∃ p, l[i]? = some p := ⟨l[i]'(by omega), List.getElem?_eq_getElem (by omega)⟩
   have hlw := writesN_len l i
   obtain ⟨b19, o20, ha21, xa23, xc24, xa27, xc28, xa31, xc32, c22, c26, c30, c34, r25, r29, r33⟩ := Pls.get (hv.mono le13) hp
   refine region_wl ?_
   refine do_ rfl (.slice a l.length c) (ex_move _) ?_
   simp only [pS, pN, pA, pC, pZ]
   refine do_ rfl (.int .i64 ((i : Nat) : Int)) (ex_move _) ?_
   simp only [pS, pN, pA, pC, pZ]
   refine do_ rfl (.pointer (some ⟨b19, o20 + i * 4, none⟩)) (ex_at (i := i) (sz := 4) Try.underlying22 (sizeof_30 _) rfl ha21 rfl (by omega) rfl) ?_
   simp only [pS, pN, pA, pC, pZ]
   refine do_ rfl (.agg #[(.slice xa23 p.name.length xc24), (.slice xa27 p.key.length xc28), (.slice xa31 p.value.length xc32), (.bool p.gone)]) (ex_load rfl (loadN (cs := [(.slice xa23 p.name.length xc24), (.slice xa27 p.key.length xc28), (.slice xa31 p.value.length xc32), (.bool p.gone)]) Try.underlying30 rfl (size_30) (range4 (St.fz S12 c22) (St.fz S12 c26) (St.fz S12 c30) (St.fz S12 c34)))) ?_
   simp only [pS, pN, pA, pC, pZ]
   refine stGives S12 rfl (ex_fn (vs := #[(.agg #[(.slice xa23 p.name.length xc24), (.slice xa27 p.key.length xc28), (.slice xa31 p.value.length xc32), (.bool p.gone)])]) (map1 rfl) rfl (ent_6 _ _)) (keepWrite_spec _ _ _ p (S12).sat ⟨_, _, _, _, _, _, rfl, r25, r29, r33⟩) ?_
   intro v40 w35 F37 S36 le38 R39
   obtain ⟨xa41, xc42, xa43, xc44, xa45, xc46, rfl, r47, r48, r49⟩ := R39
   simp only [pS, pN, pA, pC, pZ]
   refine stNew S36 (v := fun n => .pointer (some ⟨n, 0, none⟩)) rfl (ex_alloc (zero_27 _)) (fun n50 w51 S52 => ?_)
   simp only [pS, pN, pA, pC, pZ]
   have S52 : St w F w51 F37 [⟨n50, [(.slice none 0 0), (.slice none 0 0), (.bool false), (.slice none 0 0)], 27⟩] [ownP 4 WrC WrC.mono 27 w.heap.size v (writesN l i)] := S52
   refine stStore (i := 0) (v := (.agg #[(.slice xa41 (writeP p).name.length xc42), (.slice xa43 (writeP p).key.length xc44), (.bool (writeP p).gone), (.slice xa45 (writeP p).value.length xc46)])) S52 rfl rfl rfl rfl (size_27) (allc4 rfl rfl rfl rfl) (Nat.le_of_ble_eq_true rfl) (fun w53 S54 => ?_)
   simp only [pS, pN, pA, pC, pZ]
   have S54 : St w F w53 F37 [⟨n50, [(.slice xa41 (writeP p).name.length xc42), (.slice xa43 (writeP p).key.length xc44), (.bool (writeP p).gone), (.slice xa45 (writeP p).value.length xc46)], 27⟩] [ownP 4 WrC WrC.mono 27 w.heap.size v (writesN l i)] := S54
   refine wl_nil (hK18 _ _ ?_)
   refine region_wl ?_
   refine do_ rfl v (ex_move _) ?_
   simp only [pS, pN, pA, pC, pZ]
   refine do_ rfl (.agg #[(.slice xa41 (writeP p).name.length xc42), (.slice xa43 (writeP p).key.length xc44), (.bool (writeP p).gone), (.slice xa45 (writeP p).value.length xc46)]) (ex_load rfl (loadN (cs := [(.slice xa41 (writeP p).name.length xc42), (.slice xa43 (writeP p).key.length xc44), (.bool (writeP p).gone), (.slice xa45 (writeP p).value.length xc46)]) Try.underlying27 rfl (size_27) (St.range S54 (i := 0) rfl 0 [(.slice xa41 (writeP p).name.length xc42), (.slice xa43 (writeP p).key.length xc44), (.bool (writeP p).gone), (.slice xa45 (writeP p).value.length xc46)] (sub_range 0 rfl)))) ?_
   simp only [pS, pN, pA, pC, pZ]
   refine stNew S54 (v := fun n => .slice (some ⟨n, 0, none⟩) 1 1) rfl (ex_lit (ps := #[(0, (.agg #[(.slice xa41 (writeP p).name.length xc42), (.slice xa43 (writeP p).key.length xc44), (.bool (writeP p).gone), (.slice xa45 (writeP p).value.length xc46)]))]) (cells := #[(.slice xa41 (writeP p).name.length xc42), (.slice xa43 (writeP p).key.length xc44), (.bool (writeP p).gone), (.slice xa45 (writeP p).value.length xc46)]) (E := 27) (bmap1 rfl) (fun w => by kernel_rfl)) (fun n55 w56 S57 => ?_)
   simp only [pS, pN, pA, pC, pZ]
   have S57 : St w F w56 F37 [⟨n55, [(.slice xa41 (writeP p).name.length xc42), (.slice xa43 (writeP p).key.length xc44), (.bool (writeP p).gone), (.slice xa45 (writeP p).value.length xc46)], 27⟩, ⟨n50, [(.slice xa41 (writeP p).name.length xc42), (.slice xa43 (writeP p).key.length xc44), (.bool (writeP p).gone), (.slice xa45 (writeP p).value.length xc46)], 27⟩] [ownP 4 WrC WrC.mono 27 w.heap.size v (writesN l i)] := S57
   refine stPush (i := 0) (r := 0) (p := (writeP p)) (cs := [(.slice xa41 (writeP p).name.length xc42), (.slice xa43 (writeP p).key.length xc44), (.bool (writeP p).gone), (.slice xa45 (writeP p).value.length xc46)]) S57 rfl i27 (.agg #[(.slice none 0 0), (.slice none 0 0), (.bool false), (.slice none 0 0)]) 80 Try.underlying47 hi27 hz27 hs27 hb27 rfl (by decide) rfl rfl rfl rfl rfl (WrC.oneCell (p := writeP p) ⟨_, _, _, _, rfl, r47, r48, rfl, r49⟩) (⟨_, _, _, _, rfl, r47, r48, rfl, r49⟩) (Nat.le_refl _) S57.gr.below.size (by unfold maxLen; omega) (by omega) ?_
   intro v58 w59 S60 hn61
   simp only [pS, pN, pA, pC, pZ]
   have S60 := St.drop S60 (L' := [⟨n50, [(.slice xa41 (writeP p).name.length xc42), (.slice xa43 (writeP p).key.length xc44), (.bool (writeP p).gone), (.slice xa45 (writeP p).value.length xc46)], 27⟩]) (.cons _ (List.Sublist.refl _))
   have S60 : St w F w59 F37 [⟨n50, [(.slice xa41 (writeP p).name.length xc42), (.slice xa43 (writeP p).key.length xc44), (.bool (writeP p).gone), (.slice xa45 (writeP p).value.length xc46)], 27⟩] [ownP 4 WrC WrC.mono 27 w.heap.size v58 ((writesN l i) ++ [(writeP p)])] := S60
   refine do_ rfl v58 (ex_assign _) ?_
   simp only [pS, pN, pA, pC, pZ]
   refine wl_nil (hK17 _ _ ?_)
   refine region_wl ?_
   refine do_ rfl (.int .i64 ((i : Nat) : Int)) (ex_move _) ?_
   simp only [pS, pN, pA, pC, pZ]
   refine do_ rfl (.int .i64 (((i + 1) : Nat) : Int)) (ex_add (m := ((i : Nat) : Int)) (n := (1 : Int)) (r := (((i + 1) : Nat) : Int)) rfl rfl (by omega) (by omega) (by omega)) ?_
   simp only [pS, pN, pA, pC, pZ]
   refine do_ rfl (.int .i64 (((i + 1) : Nat) : Int)) (ex_assign _) ?_
   simp only [pS, pN, pA, pC, pZ]
   refine wl_nil ?_
   have S60 := St.drop S60 (L' := []) (.cons _ (List.Sublist.refl _))
   rw [← writesN_succ hp] at S60
   exact hK14 _ _ _ (by omega) ⟨(i + 1), v58, F37, _, rfl, rfl, rfl, S60, (le13.trans le38), (by omega), (by omega)⟩
  ·refine do_ rfl (.bool false) (ex_lss (m := ((i : Nat) : Int)) (n := ((m : Nat) : Int)) (b := false) rfl rfl (decide_eq_false (by omega))) ?_
   simp only [pS, pN, pA, pC, pZ]
   refine do_ rfl (.bool false) (ex_pick (b := true) rfl) ?_
   simp only [pS, pN, pA, pC, pZ]
   refine wl_nil (hK16 _ _ ?_)
   refine wp_cond_false rfl ?_
   refine wp_exit ?_
   refine hK3 _ _ ?_
   refine wp_seq_k (fun K62 hK62 => region_wl ?_)
   refine do_ rfl v (ex_move _) ?_
   simp only [pS, pN, pA, pC, pZ]
   refine do_ rfl v (ex_assign _) ?_
   simp only [pS, pN, pA, pC, pZ]
   refine wl_nil (hK62 _ _ ?_)
   refine wp_ret ?_
   (try simp only [Exit.then, Exit.inBlock, ↓reduceIte, Nat.reduceEqDiff])
   refine bodyPost_ret (v := v) ?_ rfl ?_
   ·exact res_t rfl rfl
   ·have hend : writesN l i = writesN l m := by first | exact writesN_end (by omega) him | exact congrArg _ (by omega)
    obtain ⟨F63, S64, le65, hv66⟩ := St.freeze S12 (i := 0) rfl (Nat.le_refl _)
    have S64 : St w F w11 F63 [] [] := S64
    have hv66 : Wrs _ v (writesN l i) := hv66
    rw [hend] at hv66
    exact ⟨_, _, rfl, S64.gr, hv66⟩
 ·refine do_ rfl (.bool false) (ex_lss (m := ((i : Nat) : Int)) (n := ((l.length : Nat) : Int)) (b := false) rfl rfl (decide_eq_false (by omega))) ?_
  simp only [pS, pN, pA, pC, pZ]
  refine do_ rfl (.bool false) (ex_move _) ?_
  simp only [pS, pN, pA, pC, pZ]
  refine doN (wanted_no rfl rfl rfl (c := false) rfl (by decide)) ?_
  simp only [pS, pN, pA, pC, pZ]
  refine doN (wanted_no rfl rfl rfl (c := false) rfl (by decide)) ?_
  simp only [pS, pN, pA, pC, pZ]
  refine doN (wanted_no rfl rfl rfl (c := false) rfl (by decide)) ?_
  simp only [pS, pN, pA, pC, pZ]
  refine do_ rfl (.bool false) (ex_pick (b := false) rfl) ?_
  simp only [pS, pN, pA, pC, pZ]
  refine wl_nil (hK16 _ _ ?_)
  refine wp_cond_false rfl ?_
  refine wp_exit ?_
  refine hK3 _ _ ?_
  refine wp_seq_k (fun K67 hK67 => region_wl ?_)
  refine do_ rfl v (ex_move _) ?_
  simp only [pS, pN, pA, pC, pZ]
  refine do_ rfl v (ex_assign _) ?_
  simp only [pS, pN, pA, pC, pZ]
  refine wl_nil (hK67 _ _ ?_)
  refine wp_ret ?_
  (try simp only [Exit.then, Exit.inBlock, ↓reduceIte, Nat.reduceEqDiff])
  refine bodyPost_ret (v := v) ?_ rfl ?_
  ·exact res_t rfl rfl
  ·have hend : writesN l i = writesN l m := by first | exact writesN_end (by omega) him | exact congrArg _ (by omega)
   obtain ⟨F68, S69, le70, hv71⟩ := St.freeze S12 (i := 0) rfl (Nat.le_refl _)
   have S69 : St w F w11 F68 [] [] := S69
   have hv71 : Wrs _ v (writesN l i) := hv71
   rw [hend] at hv71
   exact ⟨_, _, rfl, S69.gr, hv71⟩
end Go.Proofs.Ytlimmmidfhpakaa
namespace Go.Proofs.Ytlimmmidfhpakaa
open Go.RowKit
set_option maxRecDepth 100000
set_option linter.unusedVariables false
set_option linter.unusedSimpArgs false
theorem apply_is {F : Fz} {w : World} {v u : Value} {l g : Forest} {ws : List Wr} {e : Int} (hs : Sat w F) (hv : Tns F v l) (hw : Wrs F u ws) (ok1 : ForestOk 60 l) (hb : ∀ r ∈ ws, WrOk r) (h : applyE l ws = (e, g)) :
    Calls Try.prog 17 #[v, u] w (Gives w F (TnsE g e)) := by
  have := apply_spec F w v u l ws hs hv hw ok1 fun r hr => by have h := hb r hr; have := h.name.2; have := h.key2; have := h.value; omega
  rwa [h] at this
theorem applyE_one {l : Forest} {r : Wr} (h : WrOk r) : applyE l [r] = match writeF l r with | some g => (0, g) | none => (11, []) := by
  unfold applyE
  rw [if_neg (by simp), applyR_ok (by simpa using h), applyF_one]
  cases writeF l r <;> rfl
set_option maxHeartbeats 8000000 in
theorem sameForest_spec (F : Fz) (w : World) (v u : Value) (l m : Forest) (hs : Sat w F) (hv : Tns F v l) (hu : Tns F u m) (hl : l.length ≤ 1000000) (hL : ∀ t ∈ l, t.2.length ≤ 1000000) :
    Calls Try.prog 18 #[v, u] w (Tells w (.bool (decide (l = m)))) := by
 obtain ⟨a, c, rfl, hc1, hc2⟩ := Sl.shape hv
 obtain ⟨a2, c2, rfl, hc3, hc4⟩ := Sl.shape hu
 unfold maxLen at hc2 hc4
 have S := St.start hs
 go_enter Try.func18, Try.ntmps18
 refine wp_seq_k (fun K1 hK1 => region_wl ?_)
 refine do_ rfl (.bool false) (ex_assign _) ?_
 simp only [pS, pN, pA, pC, pZ]
 refine wl_nil (hK1 _ _ ?_)
 refine wp_seq_k (fun K2 hK2 => ?_)
 refine wp_seq_k (fun K3 hK3 => region_wl ?_)
 refine do_ rfl (.slice a l.length c) (ex_move _) ?_
 simp only [pS, pN, pA, pC, pZ]
 refine do_ rfl (.int .i64 ((l.length : Nat) : Int)) (ex_len Try.underlying52 rfl) ?_
 simp only [pS, pN, pA, pC, pZ]
 refine do_ rfl (.slice a2 m.length c2) (ex_move _) ?_
 simp only [pS, pN, pA, pC, pZ]
 refine do_ rfl (.int .i64 ((m.length : Nat) : Int)) (ex_len Try.underlying52 rfl) ?_
 simp only [pS, pN, pA, pC, pZ]
 by_cases hc10 : l.length = m.length
 ·refine do_ rfl (.bool false) (ex_neq (m := ((l.length : Nat) : Int)) (n := ((m.length : Nat) : Int)) (b := false) rfl rfl (bne_eq_false_iff_eq.2 (by omega))) ?_
  simp only [pS, pN, pA, pC, pZ]
  refine wl_nil (hK3 _ _ ?_)
  refine wp_cond_false rfl ?_
  refine wp_skip ?_
  refine hK2 _ _ ?_
  refine wp_seq_k (fun K4 hK4 => ?_)
  refine wp_seq_k (fun K5 hK5 => region_wl ?_)
  refine do_ rfl (.int .i64 0) (ex_assign _) ?_
  simp only [pS, pN, pA, pC, pZ]
  refine wl_nil (hK5 _ _ ?_)
  refine wp_block ?_
  refine wp_loop_g (fun mm aa w7 => ∃ (k : Nat) (u6 : Nat → Value), mm = l.length - k ∧ u6 = slots aa ∧ aa = ⟨#[(.slice a l.length c), (.slice a2 m.length c2), undef, undef, (u6 4), (.int .i64 ((k : Nat) : Int)), (.slice a l.length c), (.int .i64 ((l.length : Nat) : Int)), (.slice a2 m.length c2), (.int .i64 ((m.length : Nat) : Int)), (.bool false), (u6 11), (u6 12), (u6 13), (u6 14), (u6 15), (u6 16), (u6 17), (u6 18), (u6 19), (u6 20), (u6 21), (u6 22), (u6 23), (u6 24), (u6 25), (u6 26), (u6 27), (u6 28), (u6 29), (u6 30), (u6 31), (u6 32), (u6 33), (u6 34), (u6 35), (u6 36), (u6 37), (u6 38), (u6 39), (u6 40), (u6 41), (u6 42)], []⟩ ∧ St w F w7 F [] [] ∧ (k ≤ l.length) ∧ (∀ i, i < k → l[i]? = m[i]?)) _ ⟨0, _, rfl, rfl, rfl, S, (by omega), (fun i hi => absurd hi (by omega))⟩ ?_
  rintro m8 a9 w10 ⟨k, u6, rfl, -, rfl, S11, hk, hsm⟩ K13 hK13
  refine wp_seq_k (fun K14 hK14 => ?_)
  refine wp_seq_k (fun K15 hK15 => region_wl ?_)
  refine do_ rfl (.int .i64 ((k : Nat) : Int)) (ex_move _) ?_
  simp only [pS, pN, pA, pC, pZ]
  refine do_ rfl (.slice a l.length c) (ex_move _) ?_
  simp only [pS, pN, pA, pC, pZ]
  refine do_ rfl (.int .i64 ((l.length : Nat) : Int)) (ex_len Try.underlying52 rfl) ?_
  simp only [pS, pN, pA, pC, pZ]
  by_cases hc14 : k < l.length
  ·refine do_ rfl (.bool true) (ex_lss (m := ((k : Nat) : Int)) (n := ((l.length : Nat) : Int)) (b := true) rfl rfl (decide_eq_true (by omega))) ?_
   simp only [pS, pN, pA, pC, pZ]
   refine wl_nil (hK15 _ _ ?_)
   refine wp_cond_true rfl ?_
   refine wp_skip ?_
   refine hK14 _ _ ?_
   refine wp_seq_k (fun K16 hK16 => ?_)
   refine wp_block ?_
   refine wp_seq_k (fun K17 hK17 => ?_)
   obtain ⟨t, hp⟩ : ∃ t, l[k]? = some t := ⟨l[k], List.getElem?_eq_getElem hc14⟩
   obtain ⟨q, hq⟩ : ∃ q, m[k]? = some q := ⟨m[k]'(by omega), List.getElem?_eq_getElem (by omega)⟩
   have htl := hL t (List.mem_of_getElem? hp)
   obtain ⟨b18, o19, ha20, xa22, xc23, xa26, xc27, c21, c25, r24, r28⟩ := Tns.get hv hp
   obtain ⟨b29, o30, ha31, xa33, xc34, xa37, xc38, c32, c36, r35, r39⟩ := Tns.get hu hq
   by_cases e1 : t.1 = q.1
   ·refine region_gw F 23 [(10, .is (.bool true))] (by kernel_rfl) (by kernel_rfl) ?_
    simp only [List.take_succ_cons, List.take_zero]
    refine gw_pure rfl rfl (.slice a l.length c) (fun w40 hCw40 => pureAt_of (ex_move _)) ?_
    simp only [pS, pN, pA, pC, pZ]
    refine gw_pure rfl rfl (.int .i64 ((k : Nat) : Int)) (fun w40 hCw40 => pureAt_of (ex_move _)) ?_
    simp only [pS, pN, pA, pC, pZ]
    refine gw_pure rfl rfl (.pointer (some ⟨b18, o19 + k * 2, none⟩)) (fun w40 hCw40 => pureAt_of (ex_at (i := k) (sz := 2) Try.underlying52 (sizeof_80 _) rfl ha20 rfl (by omega) rfl)) ?_
    simp only [pS, pN, pA, pC, pZ]
    refine gw_pure rfl rfl (.pointer (some ⟨b18, o19 + k * 2, none⟩)) (fun w40 hCw40 => pureAt_of (ex_field (q := ⟨b18, o19 + k * 2, none⟩) rfl (fa_80_0 _ _))) ?_
    simp only [pS, pN, pA, pC, pZ]
    refine gw_pure rfl rfl (.slice xa22 t.1.length xc23) (fun w40 hCw40 => pureAt_of (ex_load rfl (load1 (nagg_25 _) (St.fz (St.tells S11 hCw40) c21)))) ?_
    simp only [pS, pN, pA, pC, pZ]
    refine gw_pure rfl rfl (.slice a2 m.length c2) (fun w40 hCw40 => pureAt_of (ex_move _)) ?_
    simp only [pS, pN, pA, pC, pZ]
    refine gw_pure rfl rfl (.int .i64 ((k : Nat) : Int)) (fun w40 hCw40 => pureAt_of (ex_move _)) ?_
    simp only [pS, pN, pA, pC, pZ]
    refine gw_pure rfl rfl (.pointer (some ⟨b29, o30 + k * 2, none⟩)) (fun w40 hCw40 => pureAt_of (ex_at (i := k) (sz := 2) Try.underlying52 (sizeof_80 _) rfl ha31 rfl (by omega) rfl)) ?_
    simp only [pS, pN, pA, pC, pZ]
    refine gw_pure rfl rfl (.pointer (some ⟨b29, o30 + k * 2, none⟩)) (fun w40 hCw40 => pureAt_of (ex_field (q := ⟨b29, o30 + k * 2, none⟩) rfl (fa_80_0 _ _))) ?_
    simp only [pS, pN, pA, pC, pZ]
    refine gw_pure rfl rfl (.slice xa33 q.1.length xc34) (fun w40 hCw40 => pureAt_of (ex_load rfl (load1 (nagg_25 _) (St.fz (St.tells S11 hCw40) c32)))) ?_
    simp only [pS, pN, pA, pC, pZ]
    refine gw_const rfl rfl (v := (.bool true)) (fun w40 hCw40 _ => does_call (ex_fn (vs := #[(.slice xa22 t.1.length xc23), (.slice xa33 q.1.length xc34)]) (map2 rfl rfl) rfl (ent_14 _ _)) (call_tells (tells_bool (tells_same (same_spec _ _ _ _ t.1 q.1 ((St.tells S11 hCw40)).sat r24 r35)) (beq_iff_eq.2 (e1))))) ?_
    simp only [pS, pN, pA, pC, pZ]
    refine gw_pure rfl rfl (.bool false) (fun w40 hCw40 => pureAt_of (ex_not (b := true) rfl rfl)) ?_
    simp only [pS, pN, pA, pC, pZ]
    refine gw_pure rfl rfl (.bool false) (fun w40 hCw40 => pureAt_of (ex_move _)) ?_
    simp only [pS, pN, pA, pC, pZ]
    refine gw_pure rfl rfl (.slice a l.length c) (fun w40 hCw40 => pureAt_of (ex_move _)) ?_
    simp only [pS, pN, pA, pC, pZ]
    refine gw_pure rfl rfl (.int .i64 ((k : Nat) : Int)) (fun w40 hCw40 => pureAt_of (ex_move _)) ?_
    simp only [pS, pN, pA, pC, pZ]
    refine gw_pure rfl rfl (.pointer (some ⟨b18, o19 + k * 2, none⟩)) (fun w40 hCw40 => pureAt_of (ex_at (i := k) (sz := 2) Try.underlying52 (sizeof_80 _) rfl ha20 rfl (by omega) rfl)) ?_
    simp only [pS, pN, pA, pC, pZ]
    refine gw_pure rfl rfl (.pointer (some ⟨b18, o19 + k * 2 + 1, none⟩)) (fun w40 hCw40 => pureAt_of (ex_field (q := ⟨b18, o19 + k * 2 + 1, none⟩) rfl (fa_80_1 _ _))) ?_
    simp only [pS, pN, pA, pC, pZ]
    refine gw_pure rfl rfl (.slice xa26 t.2.length xc27) (fun w40 hCw40 => pureAt_of (ex_load rfl (load1 (nagg_23 _) (St.fz (St.tells S11 hCw40) c25)))) ?_
    simp only [pS, pN, pA, pC, pZ]
    refine gw_pure rfl rfl (.slice a2 m.length c2) (fun w40 hCw40 => pureAt_of (ex_move _)) ?_
    simp only [pS, pN, pA, pC, pZ]
    refine gw_pure rfl rfl (.int .i64 ((k : Nat) : Int)) (fun w40 hCw40 => pureAt_of (ex_move _)) ?_
    simp only [pS, pN, pA, pC, pZ]
    refine gw_pure rfl rfl (.pointer (some ⟨b29, o30 + k * 2, none⟩)) (fun w40 hCw40 => pureAt_of (ex_at (i := k) (sz := 2) Try.underlying52 (sizeof_80 _) rfl ha31 rfl (by omega) rfl)) ?_
    simp only [pS, pN, pA, pC, pZ]
    refine gw_pure rfl rfl (.pointer (some ⟨b29, o30 + k * 2 + 1, none⟩)) (fun w40 hCw40 => pureAt_of (ex_field (q := ⟨b29, o30 + k * 2 + 1, none⟩) rfl (fa_80_1 _ _))) ?_
    simp only [pS, pN, pA, pC, pZ]
    refine gw_pure rfl rfl (.slice xa37 q.2.length xc38) (fun w40 hCw40 => pureAt_of (ex_load rfl (load1 (nagg_23 _) (St.fz (St.tells S11 hCw40) c36)))) ?_
    simp only [pS, pN, pA, pC, pZ]
    refine gw_nil ?_
    intro w41 hC43 hF44
    clear hF44
    have S42 := St.tells S11 hC43
    simp only [List.drop_succ_cons, List.drop_zero]
    refine stTells (v := (.bool (decide (t.2 = q.2)))) S42 rfl (ex_fn (vs := #[(.slice xa26 t.2.length xc27), (.slice xa37 q.2.length xc38)]) (map2 rfl rfl) rfl (ent_41 _ _)) (samePairs_spec _ _ _ _ t.2 q.2 (S42).sat r28 r39 (by omega)) (fun w45 S46 => ?_)
    simp only [pS, pN, pA, pC, pZ]
    refine do_ rfl (.bool (!(decide (t.2 = q.2)))) (ex_not rfl rfl) ?_
    simp only [pS, pN, pA, pC, pZ]
    refine do_ rfl (.bool (!(decide (t.2 = q.2)))) (ex_pick (b := false) rfl) ?_
    simp only [pS, pN, pA, pC, pZ]
    refine wl_nil (hK17 _ _ ?_)
    refine wp_cond_split rfl (fun hc47 => ?_) (fun hc47 => ?_)
    ·refine wp_seq_k (fun K48 hK48 => region_wl ?_)
     refine do_ rfl (.bool false) (ex_assign _) ?_
     simp only [pS, pN, pA, pC, pZ]
     refine wl_nil (hK48 _ _ ?_)
     refine wp_ret ?_
     (try simp only [Exit.then, Exit.inBlock, ↓reduceIte, Nat.reduceEqDiff])
     refine bodyPost_ret (v := (.bool false)) ?_ rfl ?_
     ·exact res_t rfl rfl
     ·exact ⟨by rw [decide_eq_false (fun e => by rw [e] at hp; rw [hp] at hq; cases hq; first | exact e1 rfl | simp at hc47)], S46.gr.below⟩
    ·refine wp_skip ?_
     refine hK16 _ _ ?_
     refine region_wl ?_
     refine do_ rfl (.int .i64 ((k : Nat) : Int)) (ex_move _) ?_
     simp only [pS, pN, pA, pC, pZ]
     refine do_ rfl (.int .i64 (((k + 1) : Nat) : Int)) (ex_add (m := ((k : Nat) : Int)) (n := (1 : Int)) (r := (((k + 1) : Nat) : Int)) rfl rfl (by omega) (by omega) (by omega)) ?_
     simp only [pS, pN, pA, pC, pZ]
     refine do_ rfl (.int .i64 (((k + 1) : Nat) : Int)) (ex_assign _) ?_
     simp only [pS, pN, pA, pC, pZ]
     refine wl_nil ?_
     exact hK13 _ _ _ (by omega) ⟨(k + 1), _, rfl, rfl, rfl, S46, (by omega), (fun i hi => by rcases Nat.lt_succ_iff_lt_or_eq.1 hi with h | rfl; exact hsm i h; rw [hp, hq, show t = q from Prod.ext e1 (by simpa using hc47)])⟩
   ·refine region_gw F 23 [(10, .is (.bool false))] (by kernel_rfl) (by kernel_rfl) ?_
    simp only [List.take_succ_cons, List.take_zero]
    refine gw_pure rfl rfl (.slice a l.length c) (fun w49 hCw49 => pureAt_of (ex_move _)) ?_
    simp only [pS, pN, pA, pC, pZ]
    refine gw_pure rfl rfl (.int .i64 ((k : Nat) : Int)) (fun w49 hCw49 => pureAt_of (ex_move _)) ?_
    simp only [pS, pN, pA, pC, pZ]
    refine gw_pure rfl rfl (.pointer (some ⟨b18, o19 + k * 2, none⟩)) (fun w49 hCw49 => pureAt_of (ex_at (i := k) (sz := 2) Try.underlying52 (sizeof_80 _) rfl ha20 rfl (by omega) rfl)) ?_
    simp only [pS, pN, pA, pC, pZ]
    refine gw_pure rfl rfl (.pointer (some ⟨b18, o19 + k * 2, none⟩)) (fun w49 hCw49 => pureAt_of (ex_field (q := ⟨b18, o19 + k * 2, none⟩) rfl (fa_80_0 _ _))) ?_
    simp only [pS, pN, pA, pC, pZ]
    refine gw_pure rfl rfl (.slice xa22 t.1.length xc23) (fun w49 hCw49 => pureAt_of (ex_load rfl (load1 (nagg_25 _) (St.fz (St.tells S11 hCw49) c21)))) ?_
    simp only [pS, pN, pA, pC, pZ]
    refine gw_pure rfl rfl (.slice a2 m.length c2) (fun w49 hCw49 => pureAt_of (ex_move _)) ?_
    simp only [pS, pN, pA, pC, pZ]
    refine gw_pure rfl rfl (.int .i64 ((k : Nat) : Int)) (fun w49 hCw49 => pureAt_of (ex_move _)) ?_
    simp only [pS, pN, pA, pC, pZ]
    refine gw_pure rfl rfl (.pointer (some ⟨b29, o30 + k * 2, none⟩)) (fun w49 hCw49 => pureAt_of (ex_at (i := k) (sz := 2) Try.underlying52 (sizeof_80 _) rfl ha31 rfl (by omega) rfl)) ?_
    simp only [pS, pN, pA, pC, pZ]
    refine gw_pure rfl rfl (.pointer (some ⟨b29, o30 + k * 2, none⟩)) (fun w49 hCw49 => pureAt_of (ex_field (q := ⟨b29, o30 + k * 2, none⟩) rfl (fa_80_0 _ _))) ?_
    simp only [pS, pN, pA, pC, pZ]
    refine gw_pure rfl rfl (.slice xa33 q.1.length xc34) (fun w49 hCw49 => pureAt_of (ex_load rfl (load1 (nagg_25 _) (St.fz (St.tells S11 hCw49) c32)))) ?_
    simp only [pS, pN, pA, pC, pZ]
    refine gw_const rfl rfl (v := (.bool false)) (fun w49 hCw49 _ => does_call (ex_fn (vs := #[(.slice xa22 t.1.length xc23), (.slice xa33 q.1.length xc34)]) (map2 rfl rfl) rfl (ent_14 _ _)) (call_tells (tells_bool (tells_same (same_spec _ _ _ _ t.1 q.1 ((St.tells S11 hCw49)).sat r24 r35)) (beq_eq_false_iff_ne.2 (e1))))) ?_
    simp only [pS, pN, pA, pC, pZ]
    refine gw_pure rfl rfl (.bool true) (fun w49 hCw49 => pureAt_of (ex_not (b := false) rfl rfl)) ?_
    simp only [pS, pN, pA, pC, pZ]
    refine gw_pure rfl rfl (.bool true) (fun w49 hCw49 => pureAt_of (ex_move _)) ?_
    simp only [pS, pN, pA, pC, pZ]
    refine gw_skip (wanted_no rfl rfl rfl (c := true) rfl (by decide)) ?_
    simp only [pS, pN, pA, pC, pZ]
    refine gw_skip (wanted_no rfl rfl rfl (c := true) rfl (by decide)) ?_
    simp only [pS, pN, pA, pC, pZ]
    refine gw_skip (wanted_no rfl rfl rfl (c := true) rfl (by decide)) ?_
    simp only [pS, pN, pA, pC, pZ]
    refine gw_skip (wanted_no rfl rfl rfl (c := true) rfl (by decide)) ?_
    simp only [pS, pN, pA, pC, pZ]
    refine gw_skip (wanted_no rfl rfl rfl (c := true) rfl (by decide)) ?_
    simp only [pS, pN, pA, pC, pZ]
    refine gw_skip (wanted_no rfl rfl rfl (c := true) rfl (by decide)) ?_
    simp only [pS, pN, pA, pC, pZ]
    refine gw_skip (wanted_no rfl rfl rfl (c := true) rfl (by decide)) ?_
    simp only [pS, pN, pA, pC, pZ]
    refine gw_skip (wanted_no rfl rfl rfl (c := true) rfl (by decide)) ?_
    simp only [pS, pN, pA, pC, pZ]
    refine gw_skip (wanted_no rfl rfl rfl (c := true) rfl (by decide)) ?_
    simp only [pS, pN, pA, pC, pZ]
    refine gw_skip (wanted_no rfl rfl rfl (c := true) rfl (by decide)) ?_
    simp only [pS, pN, pA, pC, pZ]
    refine gw_nil ?_
    intro w50 hC52 hF53
    clear hF53
    have S51 := St.tells S11 hC52
    simp only [List.drop_succ_cons, List.drop_zero]
    refine doN (wanted_no rfl rfl rfl (c := true) rfl (by decide)) ?_
    simp only [pS, pN, pA, pC, pZ]
    refine doN (wanted_no rfl rfl rfl (c := true) rfl (by decide)) ?_
    simp only [pS, pN, pA, pC, pZ]
    refine do_ rfl (.bool true) (ex_pick (b := true) rfl) ?_
    simp only [pS, pN, pA, pC, pZ]
    refine wl_nil (hK17 _ _ ?_)
    refine wp_cond_true rfl ?_
    refine wp_seq_k (fun K54 hK54 => region_wl ?_)
    refine do_ rfl (.bool false) (ex_assign _) ?_
    simp only [pS, pN, pA, pC, pZ]
    refine wl_nil (hK54 _ _ ?_)
    refine wp_ret ?_
    (try simp only [Exit.then, Exit.inBlock, ↓reduceIte, Nat.reduceEqDiff])
    refine bodyPost_ret (v := (.bool false)) ?_ rfl ?_
    ·exact res_t rfl rfl
    ·exact ⟨by rw [decide_eq_false (fun e => by rw [e] at hp; rw [hp] at hq; cases hq; first | exact e1 rfl | simp at hc47)], S51.gr.below⟩
  ·refine do_ rfl (.bool false) (ex_lss (m := ((k : Nat) : Int)) (n := ((l.length : Nat) : Int)) (b := false) rfl rfl (decide_eq_false (by omega))) ?_
   simp only [pS, pN, pA, pC, pZ]
   refine wl_nil (hK15 _ _ ?_)
   refine wp_cond_false rfl ?_
   refine wp_exit ?_
   refine hK4 _ _ ?_
   refine wp_seq_k (fun K55 hK55 => region_wl ?_)
   refine do_ rfl (.bool true) (ex_assign _) ?_
   simp only [pS, pN, pA, pC, pZ]
   refine wl_nil (hK55 _ _ ?_)
   refine wp_ret ?_
   (try simp only [Exit.then, Exit.inBlock, ↓reduceIte, Nat.reduceEqDiff])
   refine bodyPost_ret (v := (.bool true)) ?_ rfl ?_
   ·exact res_t rfl rfl
   ·exact ⟨by rw [decide_eq_true (List.ext_getElem? fun i => by rcases Nat.lt_or_ge i k with h | h; exact hsm i h; rw [List.getElem?_eq_none (by omega), List.getElem?_eq_none (by omega)])], S11.gr.below⟩
 ·refine do_ rfl (.bool true) (ex_neq (m := ((l.length : Nat) : Int)) (n := ((m.length : Nat) : Int)) (b := true) rfl rfl (bne_iff_ne.2 (by omega))) ?_
  simp only [pS, pN, pA, pC, pZ]
  refine wl_nil (hK3 _ _ ?_)
  refine wp_cond_true rfl ?_
  refine wp_seq_k (fun K56 hK56 => region_wl ?_)
  refine do_ rfl (.bool false) (ex_assign _) ?_
  simp only [pS, pN, pA, pC, pZ]
  refine wl_nil (hK56 _ _ ?_)
  refine wp_ret ?_
  (try simp only [Exit.then, Exit.inBlock, ↓reduceIte, Nat.reduceEqDiff])
  refine bodyPost_ret (v := (.bool false)) ?_ rfl ?_
  ·exact res_t rfl rfl
  ·exact ⟨by rw [decide_eq_false (fun e => hc10 (by rw [e]))], S.gr.below⟩
end Go.Proofs.Ytlimmmidfhpakaa
namespace Go.Proofs.Ytlimmmidfhpakaa
open Go.RowKit
set_option maxRecDepth 100000
set_option linter.unusedVariables false
set_option linter.unusedSimpArgs false
theorem applyE_ok {l : Forest} {ws : List Wr} (h : ∀ w ∈ ws, WrOk w) (hl : ws.length ≤ 10) : applyE l ws = match applyF l ws with | some g => (0, g) | none => (11, []) := by
  unfold applyE
  rw [if_neg (by omega), applyR_ok h]
  cases applyF l ws <;> rfl
end Go.Proofs.Ytlimmmidfhpakaa
namespace Go.Proofs.Ytlimmmidfhpakaa
open Go.RowKit
set_option linter.unusedVariables false
section
variable {α β : Type} {k k2 E E2 base base2 : Nat} {R : Fz → List Value → α → Prop} {R2 : Fz → List Value → β → Prop} {w0 W w w' : World} {F0 F F' : Fz} {L : List Blk} {M : List RowP} {v v2 : Value} {l : List α} {l2 : List β}
/-- What a call has made that is a row of its own. -/
def MadeO {α : Type} (W : World) (F : Fz) (k : Nat) (R : Fz → List Value → α → Prop) (E : Nat) (l : List α) (v : Value) (w : World) : Prop := ∃ F', Gr W F w F' ∧ Own k R E W.heap.size w F' v l
theorem MadeO.stable (hR : ∀ F F' x p, Le F F' → R F x p → R F' x p) (W : World) (F : Fz) (k E : Nat) (l : List α) : Stable (MadeO W F k R E l) :=
  fun v w w' ⟨F', g, h⟩ hb => ⟨F', g.trans (Gr.of_below g.sat hb), h.gr hR g.sat (Gr.of_below g.sat hb)⟩
/-- A block that lies beside what a call has made as a row. -/
theorem Own.dropF (h : Own k R E base w F v l) {n : Nat} (hx : ∀ cs p, R F cs p → R (Proofs.Ytlimmmidfhpakaa.dropF F n) cs p) : Own k R E base w (Proofs.Ytlimmmidfhpakaa.dropF F n) v l := by
  obtain ⟨el, h1, h2, h3⟩ := h.ex
  refine ⟨⟨el, h1, h2.imp hx, h3⟩, fun g hg => ?_⟩
  unfold Proofs.Ytlimmmidfhpakaa.dropF
  split
  · rfl
  · exact h.out g hg
end
section
variable {w : World} {F : Fz} {n : Nat} {cs : List Value} {T : TypeId}
theorem WrC.dropF (hs : Sat w F) (hb : w.heap[n]? = some (.cells cs.toArray T (0, 0))) (hc : ∀ u ∈ cs, ∀ x, u ≠ bv x) (c : List Value) (p : Wr) (h : WrC F c p) : WrC (Proofs.Ytlimmmidfhpakaa.dropF F n) c p := by
  obtain ⟨a0, a1, a2, a3, rfl, h0, h1, h2, h3⟩ := h
  exact ⟨a0, a1, a2, a3, rfl, h0.dropF hs hb hc, h1.dropF hs hb hc, h2, h3.dropF hs hb hc⟩
theorem RdC.dropF (hs : Sat w F) (hb : w.heap[n]? = some (.cells cs.toArray T (0, 0))) (hc : ∀ u ∈ cs, ∀ x, u ≠ bv x) (c : List Value) (p : Rd) (h : RdC F c p) : RdC (Proofs.Ytlimmmidfhpakaa.dropF F n) c p := by
  obtain ⟨a0, a1, a2, a3, rfl, h0, h1, h2, h3⟩ := h
  exact ⟨a0, a1, a2, a3, rfl, h0.dropF hs hb hc, h1.dropF hs hb hc, h2, h3.dropF hs hb hc⟩
end
theorem FactsAt.getR {md : Region.Mode} {ops : Array Oper} {W : World} {F : Fz} {L : List (Nat × Mark)} {Vs : Vals} {w : World} {j : Nat} (h : FactsAt md ops (specOf W F L) j Vs w) (i : Nat) {v : Value} {R : Value → World → Prop} (ha : ancB md ops ops.size j i = true) (hv : Vs i = some v) (hL : specOf W F L i = .rel R) : R v w := by
  have := h i v ha hv
  rw [hL] at this
  exact this
end Go.Proofs.Ytlimmmidfhpakaa
namespace Go.Proofs.Ytlimmmidfhpakaa
open Go.RowKit
set_option linter.unusedVariables false
section
variable {P : Program} {ops : Array Oper} {md : Region.Mode} {C : World → Prop} {Sp : Nat → OpSpec}
/-- The walk in an order of our own. -/
def wpGP (P : Program) (md : Region.Mode) (ops : Array Oper) (C : World → Prop) (Sp : Nat → OpSpec) (Lq : Act → Vals → Prop) : List (Nat × Oper) → Act → Vals → Prop
  | [], a, Vs => Lq a Vs
  | (k, o) :: l, a, Vs => if Region.wanted o (yielded ops a.tmps) = true then ∃ S, Ob P md ops C Sp k o a Vs S ∧ ∀ v, S v → wpGP P md ops C Sp Lq l (a.put o.dst v) (next (Sp k) Vs k v) else wpGP P md ops C Sp Lq l (a.put o.dst undef) Vs
end
structure GP (P : Program) (md : Region.Mode) (ops : Array Oper) (C : World → Prop) (Sp : Nat → OpSpec) (Lq : Act → Vals → Prop) (l : List (Nat × Oper)) (a : Act) (Vs : Vals) : Prop where
  out : wpGP P md ops C Sp Lq l a Vs
section
variable {P : Program} {ops : Array Oper} {md : Region.Mode} {C : World → Prop} {Sp : Nat → OpSpec} {Lq : Act → Vals → Prop} {o : Oper} {l : List (Nat × Oper)} {k : Nat} {a : Act} {Vs : Vals}
end
/-! Late. -/
/-- The store, behind which nothing of the region is left to look at the memory. -/
structure LT (P : Program) (ops : Array Oper) (Q : Exit → Act → World → Prop) (os : Oper) (rest : List Oper) (a : Act) (w : World) : Prop where
  out : ∃ w', os.guard = none ∧ os.dst = none ∧ (execOp a.eval os).run P w = .ok .skip w' ∧ wpList P ops Q rest a w'
section
variable {P : Program} {ops : Array Oper} {md : Region.Mode} {C : World → Prop} {Sp : Nat → OpSpec}
def wpAnyH (P : Program) (md : Region.Mode) (ops : Array Oper) (C : World → Prop) (Sp : Nat → OpSpec) (s : Nat) (L E : Array Bool → Act → Vals → Prop) : Nat → Array Bool → Act → Vals → Prop
  | 0, listed, a, Vs => L listed a Vs
  | f + 1, listed, a, Vs => Region.ready md ops listed ≠ [] ∧ ∀ i ∈ Region.ready md ops listed, (i ≠ s → gOp P md ops C Sp i (wpAnyH P md ops C Sp s L E f (listed.setIfInBounds i true)) a Vs) ∧ (i = s → f = 0 ∧ E listed a Vs)
end
section
variable {P : Program} {ops : Array Oper} {md : Region.Mode} {C : World → Prop} {Sp : Nat → OpSpec}
end
theorem Sl.dropF {α : Type} {k : Nat} {R : Fz → List Value → α → Prop} {w : World} {F : Fz} {n : Nat} {cs : List Value} {T : TypeId} (hs : Sat w F) (hb : w.heap[n]? = some (.cells cs.toArray T (0, 0))) (hR : ∀ c p, R F c p → R (Proofs.Ytlimmmidfhpakaa.dropF F n) c p) (hx : ∀ (c : List Value) p, R F c p → ∃ (j : Nat) (u : Value), c[j]? = some u ∧ u ∉ cs) {v : Value} {l : List α} (h : Sl k R F v l) : Sl k R (Proofs.Ytlimmmidfhpakaa.dropF F n) v l := by
  obtain ⟨xs, ⟨a, c, h1, h2, h3, h4, h5⟩, hr, hk⟩ := h
  refine ⟨xs, ⟨a, c, h1, h2, h3, h4, ?_⟩, hr.imp hR, hk⟩
  rcases h5 with h5 | ⟨b, o, e, h6⟩
  · exact .inl h5
  · by_cases hbn : b = n
    · cases xs with
      | nil => exact .inl rfl
      | cons x xs =>
        exfalso
        cases l with
        | nil => exact hr
        | cons p l =>
          obtain ⟨j, u, hj, hu⟩ := hx _ _ hr.1
          have h0 := h6 j u (by
            rw [List.flatten_cons, List.getElem?_append_left (List.getElem?_eq_some_iff.1 hj).1]
            exact hj)
          subst hbn
          unfold cellF at h0
          split at h0
          · rename_i c0 t0 fr0 hF
            have := hs _ _ hF
            rw [hb] at this
            cases this
            have hm : u ∈ cs := by
              have : cs[o + j]? = some u := by simpa using h0
              exact List.mem_of_getElem? this
            exact hu hm
          · cases h0
    · refine .inr ⟨b, o, e, fun j u hu => ?_⟩
      have h0 := h6 j u hu
      unfold cellF Proofs.Ytlimmmidfhpakaa.dropF at *
      rw [if_neg hbn]
      exact h0
section
variable {w : World} {F : Fz} {n : Nat} {cs : List Value} {T : TypeId}
theorem Rds.dropF (hs : Sat w F) (hb : w.heap[n]? = some (.cells cs.toArray T (0, 0))) (hc : ∀ u ∈ cs, ∀ x, u ≠ bv x) (hc2 : ∀ b, Value.bool b ∉ cs) {v : Value} {l : List Rd} (h : Rds F v l) : Rds (Proofs.Ytlimmmidfhpakaa.dropF F n) v l :=
  Sl.dropF hs hb (RdC.dropF hs hb hc) (fun c p ⟨a0, a1, a2, a3, e, _, _, e2, _⟩ => ⟨2, a2, by rw [e]; rfl, by rw [e2]; exact hc2 _⟩) h
theorem Wrs.dropF (hs : Sat w F) (hb : w.heap[n]? = some (.cells cs.toArray T (0, 0))) (hc : ∀ u ∈ cs, ∀ x, u ≠ bv x) (hc2 : ∀ b, Value.bool b ∉ cs) {v : Value} {l : List Wr} (h : Wrs F v l) : Wrs (Proofs.Ytlimmmidfhpakaa.dropF F n) v l :=
  Sl.dropF hs hb (WrC.dropF hs hb hc) (fun c p ⟨a0, a1, a2, a3, e, _, _, e2, _⟩ => ⟨2, a2, by rw [e]; rfl, by rw [e2]; exact hc2 _⟩) h
end
end Go.Proofs.Ytlimmmidfhpakaa
namespace Go.Proofs.Ytlimmmidfhpakaa
open Go.RowKit
set_option maxRecDepth 100000
set_option linter.unusedVariables false
set_option linter.unusedSimpArgs false
theorem applyNil {r : Wr} (h : WrOk r) : ∃ g, applyE [] [r] = (0, g) := by
  rw [applyE_one h]
  cases hw : writeF [] r with
  | some g => exact ⟨g, rfl⟩
  | none =>
    have := (writeF_none (m := 0) (ForestOk.nil 0) h (by omega) hw).1
    simp at this
theorem ex_rem {P : Program} {ρ : Operand → Value} {w : World} {d : Option Tmp} {t X Y : TypeId} {x y : Operand} {pos : String} {after : Array Edge} {guard : Option (Nat × Bool)} {m n : Nat} (hx : ρ x = .int .i64 (m : Int)) (hy : ρ y = .int .i64 (n : Int)) (hn : 0 < n) : (execOp ρ ⟨d, .binOp .rem X x y Y, t, pos, after, guard⟩).run P w = .ok (.value (.int .i64 ((m % n : Nat) : Int))) w := by
  refine ex_bin hx hy ?_
  rw [run_binInt _ (by simp)]
  show (Op.intDiv .rem .i64 m n).run P w = _
  unfold Op.intDiv
  rw [if_neg (by omega)]
  show Result.ok (Value.int .i64 (Int.tmod (m : Int) (n : Int))) w = _
  rw [Int.tmod_eq_emod_of_nonneg (by omega)]
  rfl
def stepN (kl L i : Nat) : Nat := if L - i < 1 + kl % 3 then L - i else 1 + kl % 3
theorem stepN_ok {kl L i : Nat} (h : i < L) : 1 ≤ stepN kl L i ∧ i + stepN kl L i ≤ L ∧ stepN kl L i ≤ 3 := by unfold stepN; split <;> omega
theorem Sl.cap {α : Type} {k : Nat} {R : Fz → List Value → α → Prop} {F : Fz} {a : Option Addr} {n c c' : Nat} {l : List α} (h : Sl k R F (.slice a n c) l) (h1 : n ≤ c') (h2 : c' ≤ c) : Sl k R F (.slice a n c') l := by
  have hn := Sl.len h
  obtain ⟨xs, ⟨a', c0, e1, q1, q2, q3, q4⟩, hr, hk⟩ := h
  injection e1 with e1 e2 e3
  subst e1 e3
  exact ⟨xs, ⟨a, c', by rw [hn], by omega, by omega, fun h => by have := q3 h; omega, q4⟩, hr, hk⟩
theorem Sl.cut3 {α : Type} {k : Nat} {R : Fz → List Value → α → Prop} {F : Fz} {a : Option Addr} {n c i h : Nat} {l : List α} (hk : 0 < k) (hs : Sl k R F (.slice a n c) l) (h1 : i ≤ h) (h2 : h ≤ n) (h3 : n ≤ c) : Sl k R F (.slice (if h = i then a else a.map (·.add (i * k))) (h - i) (h - i)) ((l.take h).drop i) := Sl.dropAny (m := i) hk (Sl.cap (Sl.takeN (m := h) hs h2) (Nat.le_refl _) (by omega)) h1
theorem Sl.cut2 {α : Type} {k : Nat} {R : Fz → List Value → α → Prop} {F : Fz} {a : Option Addr} {n c i h : Nat} {l : List α} (hk : 0 < k) (hs : Sl k R F (.slice a n c) l) (h1 : i ≤ h) (h2 : h ≤ n) : Sl k R F (.slice (if c = i then a else a.map (·.add (i * k))) (h - i) (c - i)) ((l.take h).drop i) := Sl.dropAny (m := i) hk (Sl.takeN (m := h) hs h2) h1
set_option maxHeartbeats 8000000 in
theorem tapeCheckOk_spec (F : Fz) (w : World) (v : Value) (m : Cm) (hs : Sat w F) (hv : CmV F v m) (hm : CmOk m) :
    Calls Try.prog 50 #[v] w (Tells w (.int .i64 0)) := by
 obtain ⟨x1, y1, rfl, h1⟩ := hv
 obtain ⟨_, _, e1, q2, q3⟩ := Sl.shape h1
 injection e1 with _ _ e1
 subst e1
 unfold maxLen at q3
 have hmt := hm.turn
 have hms := hm.some
 have S := St.start hs
 go_enter Try.func50, Try.ntmps50
 refine wp_seq_k (fun K1 hK1 => region_wl ?_)
 refine stNew S (v := fun n => .pointer (some ⟨n, 0, none⟩)) rfl (ex_box (v := (.agg #[(.int .i64 ((m.turn : Nat) : Int)), (.slice x1 m.writes.length y1)])) rfl) (fun n2 w3 S4 => ?_)
 simp only [pS, pN, pA, pC, pZ]
 have S4 : St w F w3 F [⟨n2, [(.int .i64 ((m.turn : Nat) : Int)), (.slice x1 m.writes.length y1)], 72⟩] [] := S4
 refine do_ rfl (.int .i64 0) (ex_assign _) ?_
 simp only [pS, pN, pA, pC, pZ]
 refine wl_nil (hK1 _ _ ?_)
 refine wp_seq_k (fun K5 hK5 => ?_)
 refine wp_seq_k (fun K6 hK6 => region_wl ?_)
 refine do_ rfl (.pointer (some ⟨n2, 0, none⟩)) (ex_field (q := ⟨n2, 0, none⟩) rfl (fa_72_0 _ _)) ?_
 simp only [pS, pN, pA, pC, pZ]
 refine do_ rfl (.int .i64 ((m.turn : Nat) : Int)) (ex_load rfl (load1 (nagg_3 _) (St.cell S4 (i := 0) rfl rfl))) ?_
 simp only [pS, pN, pA, pC, pZ]
 refine do_ rfl (.bool false) (ex_lss (m := ((m.turn : Nat) : Int)) (n := (1 : Int)) (b := false) rfl rfl (decide_eq_false (by omega))) ?_
 simp only [pS, pN, pA, pC, pZ]
 refine do_ rfl (.bool false) (ex_move _) ?_
 simp only [pS, pN, pA, pC, pZ]
 refine do_ rfl (.pointer (some ⟨n2, 0, none⟩)) (ex_field (q := ⟨n2, 0, none⟩) rfl (fa_72_0 _ _)) ?_
 simp only [pS, pN, pA, pC, pZ]
 refine do_ rfl (.int .i64 ((m.turn : Nat) : Int)) (ex_load rfl (load1 (nagg_3 _) (St.cell S4 (i := 0) rfl rfl))) ?_
 simp only [pS, pN, pA, pC, pZ]
 refine do_ rfl (.bool false) (ex_gtr (m := ((m.turn : Nat) : Int)) (n := (1048576 : Int)) (b := false) rfl rfl (decide_eq_false (by omega))) ?_
 simp only [pS, pN, pA, pC, pZ]
 refine do_ rfl (.bool false) (ex_pick (b := false) rfl) ?_
 simp only [pS, pN, pA, pC, pZ]
 refine wl_nil (hK6 _ _ ?_)
 refine wp_cond_false rfl ?_
 refine wp_skip ?_
 refine hK5 _ _ ?_
 refine wp_seq_k (fun K7 hK7 => ?_)
 refine wp_seq_k (fun K8 hK8 => region_wl ?_)
 refine do_ rfl (.pointer (some ⟨n2, 1, none⟩)) (ex_field (q := ⟨n2, 1, none⟩) rfl (fa_72_1 _ _)) ?_
 simp only [pS, pN, pA, pC, pZ]
 refine do_ rfl (.slice x1 m.writes.length y1) (ex_load rfl (load1 (nagg_47 _) (St.cell S4 (i := 0) rfl rfl))) ?_
 simp only [pS, pN, pA, pC, pZ]
 refine do_ rfl (.int .i64 ((m.writes.length : Nat) : Int)) (ex_len Try.underlying47 rfl) ?_
 simp only [pS, pN, pA, pC, pZ]
 refine do_ rfl (.bool false) (ex_lss (m := ((m.writes.length : Nat) : Int)) (n := (1 : Int)) (b := false) rfl rfl (decide_eq_false (by omega))) ?_
 simp only [pS, pN, pA, pC, pZ]
 refine wl_nil (hK8 _ _ ?_)
 refine wp_cond_false rfl ?_
 refine wp_skip ?_
 refine hK7 _ _ ?_
 refine wp_seq_k (fun K9 hK9 => ?_)
 refine wp_seq_k (fun K10 hK10 => region_wl ?_)
 refine do_ rfl (.pointer (some ⟨n2, 1, none⟩)) (ex_field (q := ⟨n2, 1, none⟩) rfl (fa_72_1 _ _)) ?_
 simp only [pS, pN, pA, pC, pZ]
 refine do_ rfl (.slice x1 m.writes.length y1) (ex_load rfl (load1 (nagg_47 _) (St.cell S4 (i := 0) rfl rfl))) ?_
 simp only [pS, pN, pA, pC, pZ]
 refine do_ rfl (.int .i64 ((m.writes.length : Nat) : Int)) (ex_len Try.underlying47 rfl) ?_
 simp only [pS, pN, pA, pC, pZ]
 refine do_ rfl (.int .i64 0) (ex_move _) ?_
 simp only [pS, pN, pA, pC, pZ]
 refine wl_nil (hK10 _ _ ?_)
 refine wp_block ?_
 refine wp_loop_g (fun mm aa w13 => ∃ (k : Nat) (F11 : Fz) (u12 : Nat → Value), mm = m.writes.length - k ∧ u12 = slots aa ∧ aa = ⟨#[(.agg #[(.int .i64 ((m.turn : Nat) : Int)), (.slice x1 m.writes.length y1)]), (.pointer (some ⟨n2, 0, none⟩)), (u12 2), (u12 3), (u12 4), (u12 5), (u12 6), (.pointer (some ⟨n2, 0, none⟩)), (.int .i64 ((m.turn : Nat) : Int)), (.bool false), (.bool false), (.pointer (some ⟨n2, 0, none⟩)), (.int .i64 ((m.turn : Nat) : Int)), (.bool false), (.bool false), (.pointer (some ⟨n2, 1, none⟩)), (.slice x1 m.writes.length y1), (.int .i64 ((m.writes.length : Nat) : Int)), (.bool false), (.pointer (some ⟨n2, 1, none⟩)), (.slice x1 m.writes.length y1), (.int .i64 ((m.writes.length : Nat) : Int)), (.int .i64 ((k : Nat) : Int)), (u12 23), (u12 24), (u12 25), (u12 26), (u12 27), (u12 28), (u12 29), (u12 30), (u12 31), (u12 32), (u12 33), (u12 34), (u12 35), (u12 36), (u12 37), (u12 38)], []⟩ ∧ St w F w13 F11 [⟨n2, [(.int .i64 ((m.turn : Nat) : Int)), (.slice x1 m.writes.length y1)], 72⟩] [] ∧ Le F F11 ∧ (k ≤ m.writes.length)) _ ⟨0, F, _, rfl, rfl, rfl, S4, Le.refl _, (by omega)⟩ ?_
 rintro m14 a15 w16 ⟨k, F11, u12, rfl, -, rfl, S17, le18, hk⟩ K19 hK19
 refine wp_seq_k (fun K20 hK20 => region_wl ?_)
 by_cases hc23 : k < m.writes.length
 ·refine do_ rfl (.bool true) (ex_lss (m := ((k : Nat) : Int)) (n := ((m.writes.length : Nat) : Int)) (b := true) rfl rfl (decide_eq_true (by omega))) ?_
  simp only [pS, pN, pA, pC, pZ]
  refine wl_nil (hK20 _ _ ?_)
  refine wp_seq_k (fun K21 hK21 => ?_)
  refine wp_cond_true rfl ?_
  refine wp_skip ?_
  refine hK21 _ _ ?_
  refine wp_seq_k (fun K22 hK22 => ?_)
  refine wp_block ?_
  refine wp_seq_k (fun K23 hK23 => ?_)
  obtain ⟨p, hp⟩ : ∃ p, m.writes[k]? = some p := ⟨m.writes[k], List.getElem?_eq_getElem hc23⟩
  have hpo := hm.ok p (List.mem_of_getElem? hp)
  obtain ⟨gx, hae⟩ := applyNil hpo
  obtain ⟨b24, o25, ha26, xa28, xc29, xa32, xc33, xa37, xc38, c27, c31, c35, c36, r30, r34, r39⟩ := Wrs.get (h1.mono le18) hp
  refine region_wl ?_
  refine do_ rfl (.int .i64 ((k : Nat) : Int)) (ex_move _) ?_
  simp only [pS, pN, pA, pC, pZ]
  refine do_ rfl (.pointer (some ⟨b24, o25 + k * 4, none⟩)) (ex_at (i := k) (sz := 4) Try.underlying47 (sizeof_27 _) rfl ha26 rfl (by omega) rfl) ?_
  simp only [pS, pN, pA, pC, pZ]
  refine do_ rfl (.agg #[(.slice xa28 p.name.length xc29), (.slice xa32 p.key.length xc33), (.bool p.gone), (.slice xa37 p.value.length xc38)]) (ex_load rfl (loadN (cs := [(.slice xa28 p.name.length xc29), (.slice xa32 p.key.length xc33), (.bool p.gone), (.slice xa37 p.value.length xc38)]) Try.underlying27 rfl (size_27) (range4 (St.fz S17 c27) (St.fz S17 c31) (St.fz S17 c35) (St.fz S17 c36)))) ?_
  simp only [pS, pN, pA, pC, pZ]
  refine stNew S17 (v := fun n => .pointer (some ⟨n, 0, none⟩)) rfl (ex_alloc (zero_27 _)) (fun n40 w41 S42 => ?_)
  simp only [pS, pN, pA, pC, pZ]
  have S42 : St w F w41 F11 [⟨n40, [(.slice none 0 0), (.slice none 0 0), (.bool false), (.slice none 0 0)], 27⟩, ⟨n2, [(.int .i64 ((m.turn : Nat) : Int)), (.slice x1 m.writes.length y1)], 72⟩] [] := S42
  refine do_ rfl (.int .i64 ((k : Nat) : Int)) (ex_assign _) ?_
  simp only [pS, pN, pA, pC, pZ]
  refine stStore (i := 0) (v := (.agg #[(.slice xa28 p.name.length xc29), (.slice xa32 p.key.length xc33), (.bool p.gone), (.slice xa37 p.value.length xc38)])) S42 rfl rfl rfl rfl (size_27) (allc4 rfl rfl rfl rfl) (Nat.le_of_ble_eq_true rfl) (fun w43 S44 => ?_)
  simp only [pS, pN, pA, pC, pZ]
  have S44 : St w F w43 F11 [⟨n40, [(.slice xa28 p.name.length xc29), (.slice xa32 p.key.length xc33), (.bool p.gone), (.slice xa37 p.value.length xc38)], 27⟩, ⟨n2, [(.int .i64 ((m.turn : Nat) : Int)), (.slice x1 m.writes.length y1)], 72⟩] [] := S44
  refine wl_nil (hK23 _ _ ?_)
  refine wp_seq_k (fun K45 hK45 => ?_)
  refine wp_seq_k (fun K46 hK46 => region_wl ?_)
  refine do_ rfl (.int .i64 ((k : Nat) : Int)) (ex_move _) ?_
  simp only [pS, pN, pA, pC, pZ]
  refine do_ rfl (.bool false) (ex_eql (m := ((k : Nat) : Int)) (n := (10 : Int)) (b := false) rfl rfl (beq_eq_false_iff_ne.2 (by omega))) ?_
  simp only [pS, pN, pA, pC, pZ]
  refine wl_nil (hK46 _ _ ?_)
  refine wp_cond_false rfl ?_
  refine wp_skip ?_
  refine hK45 _ _ ?_
  refine wp_seq_k (fun K47 hK47 => region_wl ?_)
  refine do_ rfl (.agg #[(.slice xa28 p.name.length xc29), (.slice xa32 p.key.length xc33), (.bool p.gone), (.slice xa37 p.value.length xc38)]) (ex_load rfl (loadN (cs := [(.slice xa28 p.name.length xc29), (.slice xa32 p.key.length xc33), (.bool p.gone), (.slice xa37 p.value.length xc38)]) Try.underlying27 rfl (size_27) (St.range S44 (i := 0) rfl 0 [(.slice xa28 p.name.length xc29), (.slice xa32 p.key.length xc33), (.bool p.gone), (.slice xa37 p.value.length xc38)] (sub_range 0 rfl)))) ?_
  simp only [pS, pN, pA, pC, pZ]
  refine stNew S44 (v := fun n => .slice (some ⟨n, 0, none⟩) 1 1) rfl (ex_lit (ps := #[(0, (.agg #[(.slice xa28 p.name.length xc29), (.slice xa32 p.key.length xc33), (.bool p.gone), (.slice xa37 p.value.length xc38)]))]) (cells := #[(.slice xa28 p.name.length xc29), (.slice xa32 p.key.length xc33), (.bool p.gone), (.slice xa37 p.value.length xc38)]) (E := 27) (bmap1 rfl) (fun w => by kernel_rfl)) (fun n48 w49 S50 => ?_)
  simp only [pS, pN, pA, pC, pZ]
  have S50 : St w F w49 F11 [⟨n48, [(.slice xa28 p.name.length xc29), (.slice xa32 p.key.length xc33), (.bool p.gone), (.slice xa37 p.value.length xc38)], 27⟩, ⟨n40, [(.slice xa28 p.name.length xc29), (.slice xa32 p.key.length xc33), (.bool p.gone), (.slice xa37 p.value.length xc38)], 27⟩, ⟨n2, [(.int .i64 ((m.turn : Nat) : Int)), (.slice x1 m.writes.length y1)], 72⟩] [] := S50
  obtain ⟨S51, le52, hc53⟩ := St.freezeBlk S50 (i := 0) rfl
  have r55 : Wrs _ (.slice (some ⟨n48, 0, none⟩) 1 1) [p] := sl_of_block (R := WrC) (l := [p]) (el := [[(.slice xa28 p.name.length xc29), (.slice xa32 p.key.length xc33), (.bool p.gone), (.slice xa37 p.value.length xc38)]]) hc53 rfl ⟨⟨_, _, _, _, rfl, (r30.mono le52), (r34.mono le52), rfl, (r39.mono le52)⟩, trivial⟩ (by simp) (by unfold maxLen; simp)
  generalize addF F11 w49 n48 = F54 at *
  have S51 : St w F w49 F54 [⟨n40, [(.slice xa28 p.name.length xc29), (.slice xa32 p.key.length xc33), (.bool p.gone), (.slice xa37 p.value.length xc38)], 27⟩, ⟨n2, [(.int .i64 ((m.turn : Nat) : Int)), (.slice x1 m.writes.length y1)], 72⟩] [] := S51
  refine stGives S51 rfl (ex_fn (vs := #[(.slice none 0 0), (.slice (some ⟨n48, 0, none⟩) 1 1)]) (map2 rfl rfl) rfl (ent_17 _ _)) (apply_is (S51).sat (Sl.nil _ _ _) r55 (ForestOk.nil 60) (by simpa using hpo) hae) ?_
  intro v61 w56 F58 S57 le59 R60
  obtain ⟨_, rfl, r64⟩ := R60
  obtain ⟨a62, c63, rfl, h65, h66⟩ := Sl.shape r64
  unfold maxLen at h66
  have h65 : gx.length ≤ c63 := h65
  have r64 : Tns _ (.slice a62 gx.length c63) gx := r64
  simp only [pS, pN, pA, pC, pZ]
  refine do_ rfl (.tuple #[(.slice a62 gx.length c63), (.int .i64 0)]) (ex_move _) ?_
  simp only [pS, pN, pA, pC, pZ]
  refine do_ rfl (.slice a62 gx.length c63) (ex_extract rfl rfl) ?_
  simp only [pS, pN, pA, pC, pZ]
  refine do_ rfl (.int .i64 0) (ex_extract rfl rfl) ?_
  simp only [pS, pN, pA, pC, pZ]
  refine do_ rfl (.slice a62 gx.length c63) (ex_assign _) ?_
  simp only [pS, pN, pA, pC, pZ]
  refine do_ rfl (.int .i64 0) (ex_assign _) ?_
  simp only [pS, pN, pA, pC, pZ]
  refine wl_nil (hK47 _ _ ?_)
  refine wp_seq_k (fun K67 hK67 => region_wl ?_)
  refine do_ rfl (.int .i64 0) (ex_move _) ?_
  simp only [pS, pN, pA, pC, pZ]
  refine do_ rfl (.bool false) (ex_neq (b := false) rfl rfl (by decide)) ?_
  simp only [pS, pN, pA, pC, pZ]
  refine wl_nil (hK67 _ _ ?_)
  refine wp_cond_false rfl ?_
  refine wp_skip ?_
  refine hK22 _ _ ?_
  refine region_wl ?_
  refine do_ rfl (.int .i64 (((k + 1) : Nat) : Int)) (ex_add (m := ((k : Nat) : Int)) (n := (1 : Int)) (r := (((k + 1) : Nat) : Int)) rfl rfl (by omega) (by omega) (by omega)) ?_
  simp only [pS, pN, pA, pC, pZ]
  refine do_ rfl (.int .i64 (((k + 1) : Nat) : Int)) (ex_move _) ?_
  simp only [pS, pN, pA, pC, pZ]
  refine wl_nil ?_
  have S57 := St.drop S57 (L' := [⟨n2, [(.int .i64 ((m.turn : Nat) : Int)), (.slice x1 m.writes.length y1)], 72⟩]) (.cons _ (List.Sublist.refl _))
  exact hK19 _ _ _ (by omega) ⟨(k + 1), F58, _, rfl, rfl, rfl, S57, ((le18.trans le52).trans le59), (by omega)⟩
 ·refine do_ rfl (.bool false) (ex_lss (m := ((k : Nat) : Int)) (n := ((m.writes.length : Nat) : Int)) (b := false) rfl rfl (decide_eq_false (by omega))) ?_
  simp only [pS, pN, pA, pC, pZ]
  refine wl_nil (hK20 _ _ ?_)
  refine wp_seq_k (fun K68 hK68 => ?_)
  refine wp_cond_false rfl ?_
  refine wp_exit ?_
  refine hK9 _ _ ?_
  refine wp_seq_k (fun K69 hK69 => region_wl ?_)
  refine do_ rfl (.int .i64 0) (ex_assign _) ?_
  simp only [pS, pN, pA, pC, pZ]
  refine wl_nil (hK69 _ _ ?_)
  refine wp_ret ?_
  (try simp only [Exit.then, Exit.inBlock, ↓reduceIte, Nat.reduceEqDiff])
  refine bodyPost_ret (v := (.int .i64 0)) ?_ rfl ?_
  ·exact res_t rfl rfl
  ·exact ⟨rfl, S17.gr.below⟩
set_option maxHeartbeats 8000000 in
theorem folded_spec (F : Fz) (w : World) (u : Value) (cs : List Cm) (n : Nat) (hs : Sat w F) (hl : Cms F u cs) {m : Nat} (hh : HistOk m cs) (hm : m ≤ 60) (h300 : cs.length ≤ 300) (hn : n ≤ cs.length) :
    Calls Try.prog 35 #[u, .int .i64 (n : Int)] w (Gives w F (TnsE (stateC cs n) 0)) := by
 obtain ⟨a, c, rfl, hc1, hc2⟩ := Sl.shape hl
 unfold maxLen at hc2
 have S := St.start hs
 go_enter Try.func35, Try.ntmps35
 refine wp_seq_k (fun K1 hK1 => region_wl ?_)
 refine do_ rfl (.slice none 0 0) (ex_assign _) ?_
 simp only [pS, pN, pA, pC, pZ]
 refine do_ rfl (.int .i64 0) (ex_assign _) ?_
 simp only [pS, pN, pA, pC, pZ]
 refine wl_nil (hK1 _ _ ?_)
 refine wp_seq_k (fun K2 hK2 => ?_)
 refine wp_seq_k (fun K3 hK3 => region_wl ?_)
 refine do_ rfl (.slice a cs.length c) (ex_move _) ?_
 simp only [pS, pN, pA, pC, pZ]
 refine do_ rfl (.int .i64 ((cs.length : Nat) : Int)) (ex_len Try.underlying44 rfl) ?_
 simp only [pS, pN, pA, pC, pZ]
 refine do_ rfl (.bool false) (ex_gtr (m := ((cs.length : Nat) : Int)) (n := (300 : Int)) (b := false) rfl rfl (decide_eq_false (by omega))) ?_
 simp only [pS, pN, pA, pC, pZ]
 refine wl_nil (hK3 _ _ ?_)
 refine wp_cond_false rfl ?_
 refine wp_skip ?_
 refine hK2 _ _ ?_
 refine wp_seq_k (fun K4 hK4 => region_wl ?_)
 refine do_ rfl (.slice none 0 0) (ex_assign _) ?_
 simp only [pS, pN, pA, pC, pZ]
 refine do_ rfl (.slice none 0 0) (ex_assign _) ?_
 simp only [pS, pN, pA, pC, pZ]
 refine wl_nil (hK4 _ _ ?_)
 refine wp_seq_k (fun K5 hK5 => ?_)
 refine wp_seq_k (fun K6 hK6 => region_wl ?_)
 refine do_ rfl (.slice a cs.length c) (ex_move _) ?_
 simp only [pS, pN, pA, pC, pZ]
 refine do_ rfl (.int .i64 ((cs.length : Nat) : Int)) (ex_len Try.underlying44 rfl) ?_
 simp only [pS, pN, pA, pC, pZ]
 refine do_ rfl (.int .i64 0) (ex_move _) ?_
 simp only [pS, pN, pA, pC, pZ]
 refine wl_nil (hK6 _ _ ?_)
 refine wp_block ?_
 refine wp_loop_g (fun mm aa w9 => ∃ (k : Nat) (v : Value) (u : Value) (F7 : Fz) (u8 : Nat → Value), mm = cs.length - k ∧ u8 = slots aa ∧ aa = ⟨#[(.slice a cs.length c), (.int .i64 ((n : Nat) : Int)), undef, undef, (u8 4), (u8 5), v, u, (u8 8), (u8 9), (u8 10), (u8 11), (u8 12), (.slice a cs.length c), (.int .i64 ((cs.length : Nat) : Int)), (.bool false), (.slice a cs.length c), (.int .i64 ((cs.length : Nat) : Int)), (.int .i64 ((k : Nat) : Int)), (u8 19), (u8 20), (u8 21), (u8 22), (u8 23), (u8 24), (u8 25), (u8 26), (u8 27), (u8 28), (u8 29), (u8 30), (u8 31), (u8 32), (u8 33), (u8 34), (u8 35), (u8 36), (u8 37), (u8 38), (u8 39), (u8 40), (u8 41), (u8 42), (u8 43), (u8 44), (u8 45), (u8 46), (u8 47), (u8 48), (u8 49), undef], []⟩ ∧ St w F w9 F7 [] [] ∧ Le F F7 ∧ (k ≤ cs.length) ∧ (Tns F7 v (stateC cs k)) ∧ (Tns F7 u (stateC cs (if n ≤ k then n else 0)))) _ ⟨0, (.slice none 0 0), (.slice none 0 0), F, _, rfl, rfl, rfl, S, Le.refl _, (by omega), (Sl.nil _ _ _), (by rw [show (if n ≤ 0 then n else 0) = 0 from by split <;> omega]; exact Sl.nil _ _ _)⟩ ?_
 rintro m10 a11 w12 ⟨k, v, u, F7, u8, rfl, -, rfl, S13, le14, hk, hvf, huf⟩ K15 hK15
 refine wp_seq_k (fun K16 hK16 => region_wl ?_)
 by_cases hc19 : k < cs.length
 ·refine do_ rfl (.bool true) (ex_lss (m := ((k : Nat) : Int)) (n := ((cs.length : Nat) : Int)) (b := true) rfl rfl (decide_eq_true (by omega))) ?_
  simp only [pS, pN, pA, pC, pZ]
  refine wl_nil (hK16 _ _ ?_)
  refine wp_seq_k (fun K17 hK17 => ?_)
  refine wp_cond_true rfl ?_
  refine wp_skip ?_
  refine hK17 _ _ ?_
  refine wp_seq_k (fun K18 hK18 => ?_)
  refine wp_block ?_
  refine wp_seq_k (fun K19 hK19 => ?_)
  obtain ⟨p, hp⟩ : ∃ p, cs[k]? = some p := ⟨cs[k], List.getElem?_eq_getElem hc19⟩
  have hpo := hh.ok p (List.mem_of_getElem? hp)
  have hpt : p.turn = k + 1 := by have := hh.turn k hc19; rw [List.getElem?_eq_getElem hc19] at hp; cases hp; exact this
  have okk := (state_ok hh k).mono hm
  have hae : applyE (stateC cs k) p.writes = (0, stateC cs (k + 1)) := by have h := state_next hh hc19; rw [List.getElem?_eq_getElem hc19] at hp; cases hp; rw [applyE_ok hpo.ok hpo.some.2, h]
  obtain ⟨b20, o21, ha22, xa25, xc26, c23, c24, r27⟩ := Cms.get (hl.mono le14) hp
  refine region_wl ?_
  refine do_ rfl (.int .i64 ((k : Nat) : Int)) (ex_move _) ?_
  simp only [pS, pN, pA, pC, pZ]
  refine do_ rfl (.pointer (some ⟨b20, o21 + k * 2, none⟩)) (ex_at (i := k) (sz := 2) Try.underlying44 (sizeof_72 _) rfl ha22 rfl (by omega) rfl) ?_
  simp only [pS, pN, pA, pC, pZ]
  refine do_ rfl (.agg #[(.int .i64 ((p.turn : Nat) : Int)), (.slice xa25 p.writes.length xc26)]) (ex_load rfl (loadN (cs := [(.int .i64 ((p.turn : Nat) : Int)), (.slice xa25 p.writes.length xc26)]) Try.underlying72 rfl (size_72) (range2 (St.fz S13 c23) (St.fz S13 c24)))) ?_
  simp only [pS, pN, pA, pC, pZ]
  refine stNew S13 (v := fun n => .pointer (some ⟨n, 0, none⟩)) rfl (ex_alloc (zero_72 _)) (fun n28 w29 S30 => ?_)
  simp only [pS, pN, pA, pC, pZ]
  have S30 : St w F w29 F7 [⟨n28, [(.int .i64 0), (.slice none 0 0)], 72⟩] [] := S30
  refine do_ rfl (.int .i64 ((k : Nat) : Int)) (ex_assign _) ?_
  simp only [pS, pN, pA, pC, pZ]
  refine stStore (i := 0) (v := (.agg #[(.int .i64 ((p.turn : Nat) : Int)), (.slice xa25 p.writes.length xc26)])) S30 rfl rfl rfl rfl (size_72) (allc2 rfl rfl) (Nat.le_of_ble_eq_true rfl) (fun w31 S32 => ?_)
  simp only [pS, pN, pA, pC, pZ]
  have S32 : St w F w31 F7 [⟨n28, [(.int .i64 ((p.turn : Nat) : Int)), (.slice xa25 p.writes.length xc26)], 72⟩] [] := S32
  refine wl_nil (hK19 _ _ ?_)
  refine wp_seq_k (fun K33 hK33 => ?_)
  refine wp_seq_k (fun K34 hK34 => region_wl ?_)
  refine do_ rfl (.agg #[(.int .i64 ((p.turn : Nat) : Int)), (.slice xa25 p.writes.length xc26)]) (ex_load rfl (loadN (cs := [(.int .i64 ((p.turn : Nat) : Int)), (.slice xa25 p.writes.length xc26)]) Try.underlying72 rfl (size_72) (St.range S32 (i := 0) rfl 0 [(.int .i64 ((p.turn : Nat) : Int)), (.slice xa25 p.writes.length xc26)] (sub_range 0 rfl)))) ?_
  simp only [pS, pN, pA, pC, pZ]
  refine stTells (v := (.int .i64 0)) S32 rfl (ex_fn (vs := #[(.agg #[(.int .i64 ((p.turn : Nat) : Int)), (.slice xa25 p.writes.length xc26)])]) (map1 rfl) rfl (ent_50 _ _)) (tapeCheckOk_spec _ _ _ p (S32).sat ⟨_, _, rfl, r27⟩ hpo) (fun w35 S36 => ?_)
  simp only [pS, pN, pA, pC, pZ]
  refine do_ rfl (.int .i64 0) (ex_assign _) ?_
  simp only [pS, pN, pA, pC, pZ]
  refine wl_nil (hK34 _ _ ?_)
  refine wp_seq_k (fun K37 hK37 => region_wl ?_)
  refine do_ rfl (.int .i64 0) (ex_move _) ?_
  simp only [pS, pN, pA, pC, pZ]
  refine do_ rfl (.bool false) (ex_neq (b := false) rfl rfl (by decide)) ?_
  simp only [pS, pN, pA, pC, pZ]
  refine wl_nil (hK37 _ _ ?_)
  refine wp_cond_false rfl ?_
  refine wp_skip ?_
  refine hK33 _ _ ?_
  refine wp_seq_k (fun K38 hK38 => ?_)
  refine wp_seq_k (fun K39 hK39 => region_wl ?_)
  refine do_ rfl (.pointer (some ⟨n28, 0, none⟩)) (ex_field (q := ⟨n28, 0, none⟩) rfl (fa_72_0 _ _)) ?_
  simp only [pS, pN, pA, pC, pZ]
  refine do_ rfl (.int .i64 ((p.turn : Nat) : Int)) (ex_load rfl (load1 (nagg_3 _) (St.cell S36 (i := 0) rfl rfl))) ?_
  simp only [pS, pN, pA, pC, pZ]
  refine do_ rfl (.int .i64 ((k : Nat) : Int)) (ex_move _) ?_
  simp only [pS, pN, pA, pC, pZ]
  refine do_ rfl (.int .i64 (((k + 1) : Nat) : Int)) (ex_add (m := ((k : Nat) : Int)) (n := (1 : Int)) (r := (((k + 1) : Nat) : Int)) rfl rfl (by omega) (by omega) (by omega)) ?_
  simp only [pS, pN, pA, pC, pZ]
  refine do_ rfl (.bool false) (ex_neq (m := ((p.turn : Nat) : Int)) (n := (((k + 1) : Nat) : Int)) (b := false) rfl rfl (bne_eq_false_iff_eq.2 (by omega))) ?_
  simp only [pS, pN, pA, pC, pZ]
  refine wl_nil (hK39 _ _ ?_)
  refine wp_cond_false rfl ?_
  refine wp_skip ?_
  refine hK38 _ _ ?_
  refine wp_seq_k (fun K40 hK40 => region_wl ?_)
  refine do_ rfl v (ex_move _) ?_
  simp only [pS, pN, pA, pC, pZ]
  refine do_ rfl (.pointer (some ⟨n28, 1, none⟩)) (ex_field (q := ⟨n28, 1, none⟩) rfl (fa_72_1 _ _)) ?_
  simp only [pS, pN, pA, pC, pZ]
  refine do_ rfl (.slice xa25 p.writes.length xc26) (ex_load rfl (load1 (nagg_47 _) (St.cell S36 (i := 0) rfl rfl))) ?_
  simp only [pS, pN, pA, pC, pZ]
  refine stGives S36 rfl (ex_fn (vs := #[v, (.slice xa25 p.writes.length xc26)]) (map2 rfl rfl) rfl (ent_17 _ _)) (apply_is (S36).sat hvf r27 okk hpo.ok hae) ?_
  intro v46 w41 F43 S42 le44 R45
  obtain ⟨_, rfl, r49⟩ := R45
  obtain ⟨a47, c48, rfl, h50, h51⟩ := Sl.shape r49
  unfold maxLen at h51
  have h50 : (stateC cs (k + 1)).length ≤ c48 := h50
  have r49 : Tns _ (.slice a47 (stateC cs (k + 1)).length c48) (stateC cs (k + 1)) := r49
  simp only [pS, pN, pA, pC, pZ]
  refine do_ rfl (.tuple #[(.slice a47 (stateC cs (k + 1)).length c48), (.int .i64 0)]) (ex_move _) ?_
  simp only [pS, pN, pA, pC, pZ]
  refine do_ rfl (.slice a47 (stateC cs (k + 1)).length c48) (ex_extract rfl rfl) ?_
  simp only [pS, pN, pA, pC, pZ]
  refine do_ rfl (.int .i64 0) (ex_extract rfl rfl) ?_
  simp only [pS, pN, pA, pC, pZ]
  refine do_ rfl (.slice a47 (stateC cs (k + 1)).length c48) (ex_assign _) ?_
  simp only [pS, pN, pA, pC, pZ]
  refine do_ rfl (.int .i64 0) (ex_assign _) ?_
  simp only [pS, pN, pA, pC, pZ]
  refine wl_nil (hK40 _ _ ?_)
  refine wp_seq_k (fun K52 hK52 => ?_)
  refine wp_seq_k (fun K53 hK53 => region_wl ?_)
  refine do_ rfl (.int .i64 0) (ex_move _) ?_
  simp only [pS, pN, pA, pC, pZ]
  refine do_ rfl (.bool false) (ex_neq (b := false) rfl rfl (by decide)) ?_
  simp only [pS, pN, pA, pC, pZ]
  refine wl_nil (hK53 _ _ ?_)
  refine wp_cond_false rfl ?_
  refine wp_skip ?_
  refine hK52 _ _ ?_
  refine wp_seq_k (fun K54 hK54 => region_wl ?_)
  refine do_ rfl (.slice a47 (stateC cs (k + 1)).length c48) (ex_move _) ?_
  simp only [pS, pN, pA, pC, pZ]
  refine do_ rfl (.slice a47 (stateC cs (k + 1)).length c48) (ex_assign _) ?_
  simp only [pS, pN, pA, pC, pZ]
  refine wl_nil (hK54 _ _ ?_)
  refine wp_seq_k (fun K55 hK55 => region_wl ?_)
  refine do_ rfl (.int .i64 ((k : Nat) : Int)) (ex_move _) ?_
  simp only [pS, pN, pA, pC, pZ]
  refine do_ rfl (.int .i64 (((k + 1) : Nat) : Int)) (ex_add (m := ((k : Nat) : Int)) (n := (1 : Int)) (r := (((k + 1) : Nat) : Int)) rfl rfl (by omega) (by omega) (by omega)) ?_
  simp only [pS, pN, pA, pC, pZ]
  refine do_ rfl (.int .i64 ((n : Nat) : Int)) (ex_move _) ?_
  simp only [pS, pN, pA, pC, pZ]
  by_cases hc47 : (k + 1) = n
  ·refine do_ rfl (.bool true) (ex_eql (m := (((k + 1) : Nat) : Int)) (n := ((n : Nat) : Int)) (b := true) rfl rfl (beq_iff_eq.2 (by omega))) ?_
   simp only [pS, pN, pA, pC, pZ]
   refine wl_nil (hK55 _ _ ?_)
   refine wp_cond_true rfl ?_
   refine region_wl ?_
   refine do_ rfl (.slice a47 (stateC cs (k + 1)).length c48) (ex_move _) ?_
   simp only [pS, pN, pA, pC, pZ]
   refine do_ rfl (.slice a47 (stateC cs (k + 1)).length c48) (ex_assign _) ?_
   simp only [pS, pN, pA, pC, pZ]
   refine wl_nil (hK18 _ _ ?_)
   refine region_wl ?_
   refine do_ rfl (.int .i64 (((k + 1) : Nat) : Int)) (ex_add (m := ((k : Nat) : Int)) (n := (1 : Int)) (r := (((k + 1) : Nat) : Int)) rfl rfl (by omega) (by omega) (by omega)) ?_
   simp only [pS, pN, pA, pC, pZ]
   refine do_ rfl (.int .i64 (((k + 1) : Nat) : Int)) (ex_move _) ?_
   simp only [pS, pN, pA, pC, pZ]
   refine wl_nil ?_
   have S42 := St.drop S42 (L' := []) (.cons _ (List.Sublist.refl _))
   exact hK15 _ _ _ (by omega) ⟨(k + 1), (.slice a47 (stateC cs (k + 1)).length c48), (.slice a47 (stateC cs (k + 1)).length c48), F43, _, rfl, rfl, rfl, S42, (le14.trans le44), (by omega), r49, (by rw [if_pos (by omega), show n = k + 1 from by omega]; exact r49)⟩
  ·refine do_ rfl (.bool false) (ex_eql (m := (((k + 1) : Nat) : Int)) (n := ((n : Nat) : Int)) (b := false) rfl rfl (beq_eq_false_iff_ne.2 (by omega))) ?_
   simp only [pS, pN, pA, pC, pZ]
   refine wl_nil (hK55 _ _ ?_)
   refine wp_cond_false rfl ?_
   refine wp_skip ?_
   refine hK18 _ _ ?_
   refine region_wl ?_
   refine do_ rfl (.int .i64 (((k + 1) : Nat) : Int)) (ex_add (m := ((k : Nat) : Int)) (n := (1 : Int)) (r := (((k + 1) : Nat) : Int)) rfl rfl (by omega) (by omega) (by omega)) ?_
   simp only [pS, pN, pA, pC, pZ]
   refine do_ rfl (.int .i64 (((k + 1) : Nat) : Int)) (ex_move _) ?_
   simp only [pS, pN, pA, pC, pZ]
   refine wl_nil ?_
   have S42 := St.drop S42 (L' := []) (.cons _ (List.Sublist.refl _))
   exact hK15 _ _ _ (by omega) ⟨(k + 1), (.slice a47 (stateC cs (k + 1)).length c48), u, F43, _, rfl, rfl, rfl, S42, (le14.trans le44), (by omega), r49, (by rw [show (if n ≤ k + 1 then n else 0) = (if n ≤ k then n else 0) from by split <;> split <;> omega]; exact (huf.mono le44))⟩
 ·refine do_ rfl (.bool false) (ex_lss (m := ((k : Nat) : Int)) (n := ((cs.length : Nat) : Int)) (b := false) rfl rfl (decide_eq_false (by omega))) ?_
  simp only [pS, pN, pA, pC, pZ]
  refine wl_nil (hK16 _ _ ?_)
  refine wp_seq_k (fun K56 hK56 => ?_)
  refine wp_cond_false rfl ?_
  refine wp_exit ?_
  refine hK5 _ _ ?_
  refine wp_seq_k (fun K57 hK57 => region_wl ?_)
  refine do_ rfl u (ex_move _) ?_
  simp only [pS, pN, pA, pC, pZ]
  refine do_ rfl u (ex_assign _) ?_
  simp only [pS, pN, pA, pC, pZ]
  refine do_ rfl (.int .i64 0) (ex_assign _) ?_
  simp only [pS, pN, pA, pC, pZ]
  refine wl_nil (hK57 _ _ ?_)
  refine wp_ret ?_
  (try simp only [Exit.then, Exit.inBlock, ↓reduceIte, Nat.reduceEqDiff])
  refine bodyPost_ret (v := (.tuple #[u, (.int .i64 0)])) ?_ rfl ?_
  ·exact res_tt rfl rfl rfl
  ·exact ⟨_, _, rfl, S13.gr, _, rfl, by have := huf; rwa [show (if n ≤ k then n else 0) = n from by rw [if_pos (by omega)]] at this⟩
set_option maxHeartbeats 8000000 in
theorem fold_spec (F : Fz) (w : World) (u : Value) (cs : List Cm) (n : Nat) (hs : Sat w F) (hl : Cms F u cs) {m : Nat} (hh : HistOk m cs) (hm : m ≤ 60) (h300 : cs.length ≤ 300) (hn : n ≤ cs.length) :
    Calls Try.prog 15 #[u, .int .i64 (n : Int)] w (Gives w F (TnsE (stateC cs n) 0)) := by
 obtain ⟨a, c, rfl, hc1, hc2⟩ := Sl.shape hl
 unfold maxLen at hc2
 have S := St.start hs
 go_enter Try.func15, Try.ntmps15
 refine wp_seq_k (fun K1 hK1 => region_wl ?_)
 refine do_ rfl (.slice none 0 0) (ex_assign _) ?_
 simp only [pS, pN, pA, pC, pZ]
 refine do_ rfl (.int .i64 0) (ex_assign _) ?_
 simp only [pS, pN, pA, pC, pZ]
 refine wl_nil (hK1 _ _ ?_)
 refine wp_seq_k (fun K2 hK2 => region_wl ?_)
 refine do_ rfl (.slice a cs.length c) (ex_move _) ?_
 simp only [pS, pN, pA, pC, pZ]
 refine do_ rfl (.int .i64 ((n : Nat) : Int)) (ex_move _) ?_
 simp only [pS, pN, pA, pC, pZ]
 refine stGives S rfl (ex_fn (vs := #[(.slice a cs.length c), (.int .i64 ((n : Nat) : Int))]) (map2 rfl rfl) rfl (ent_35 _ _)) (folded_spec _ _ _ cs n (S).sat hl hh hm h300 (by omega)) ?_
 intro v8 w3 F5 S4 le6 R7
 obtain ⟨_, rfl, r11⟩ := R7
 obtain ⟨a9, c10, rfl, h12, h13⟩ := Sl.shape r11
 unfold maxLen at h13
 have h12 : (stateC cs n).length ≤ c10 := h12
 have r11 : Tns _ (.slice a9 (stateC cs n).length c10) (stateC cs n) := r11
 simp only [pS, pN, pA, pC, pZ]
 refine do_ rfl (.tuple #[(.slice a9 (stateC cs n).length c10), (.int .i64 0)]) (ex_move _) ?_
 simp only [pS, pN, pA, pC, pZ]
 refine do_ rfl (.slice a9 (stateC cs n).length c10) (ex_extract rfl rfl) ?_
 simp only [pS, pN, pA, pC, pZ]
 refine do_ rfl (.int .i64 0) (ex_extract rfl rfl) ?_
 simp only [pS, pN, pA, pC, pZ]
 refine do_ rfl (.slice a9 (stateC cs n).length c10) (ex_assign _) ?_
 simp only [pS, pN, pA, pC, pZ]
 refine do_ rfl (.int .i64 0) (ex_assign _) ?_
 simp only [pS, pN, pA, pC, pZ]
 refine wl_nil (hK2 _ _ ?_)
 refine wp_seq_k (fun K14 hK14 => ?_)
 refine wp_seq_k (fun K15 hK15 => region_wl ?_)
 refine do_ rfl (.int .i64 0) (ex_move _) ?_
 simp only [pS, pN, pA, pC, pZ]
 refine do_ rfl (.bool false) (ex_neq (b := false) rfl rfl (by decide)) ?_
 simp only [pS, pN, pA, pC, pZ]
 refine wl_nil (hK15 _ _ ?_)
 refine wp_cond_false rfl ?_
 refine wp_skip ?_
 refine hK14 _ _ ?_
 refine wp_seq_k (fun K16 hK16 => ?_)
 refine wp_seq_k (fun K17 hK17 => region_wl ?_)
 refine do_ rfl (.int .i64 ((n : Nat) : Int)) (ex_move _) ?_
 simp only [pS, pN, pA, pC, pZ]
 refine do_ rfl (.bool false) (ex_lss (m := ((n : Nat) : Int)) (n := (0 : Int)) (b := false) rfl rfl (decide_eq_false (by omega))) ?_
 simp only [pS, pN, pA, pC, pZ]
 refine do_ rfl (.bool false) (ex_move _) ?_
 simp only [pS, pN, pA, pC, pZ]
 refine do_ rfl (.int .i64 ((n : Nat) : Int)) (ex_move _) ?_
 simp only [pS, pN, pA, pC, pZ]
 refine do_ rfl (.slice a cs.length c) (ex_move _) ?_
 simp only [pS, pN, pA, pC, pZ]
 refine do_ rfl (.int .i64 ((cs.length : Nat) : Int)) (ex_len Try.underlying44 rfl) ?_
 simp only [pS, pN, pA, pC, pZ]
 refine do_ rfl (.bool false) (ex_gtr (m := ((n : Nat) : Int)) (n := ((cs.length : Nat) : Int)) (b := false) rfl rfl (decide_eq_false (by omega))) ?_
 simp only [pS, pN, pA, pC, pZ]
 refine do_ rfl (.bool false) (ex_pick (b := false) rfl) ?_
 simp only [pS, pN, pA, pC, pZ]
 refine wl_nil (hK17 _ _ ?_)
 refine wp_cond_false rfl ?_
 refine wp_skip ?_
 refine hK16 _ _ ?_
 refine wp_seq_k (fun K18 hK18 => region_wl ?_)
 refine do_ rfl (.slice a9 (stateC cs n).length c10) (ex_move _) ?_
 simp only [pS, pN, pA, pC, pZ]
 refine do_ rfl (.slice a9 (stateC cs n).length c10) (ex_assign _) ?_
 simp only [pS, pN, pA, pC, pZ]
 refine do_ rfl (.int .i64 0) (ex_assign _) ?_
 simp only [pS, pN, pA, pC, pZ]
 refine wl_nil (hK18 _ _ ?_)
 refine wp_ret ?_
 (try simp only [Exit.then, Exit.inBlock, ↓reduceIte, Nat.reduceEqDiff])
 refine bodyPost_ret (v := (.tuple #[(.slice a9 (stateC cs n).length c10), (.int .i64 0)])) ?_ rfl ?_
 ·exact res_tt rfl rfl rfl
 ·exact ⟨_, _, rfl, S4.gr, _, rfl, r11⟩
theorem HistOk.grow {m n : Nat} {cs : List Cm} (h : HistOk m cs) (hm : m ≤ n) : HistOk n cs := ⟨h.turn, h.ok, Nat.le_trans h.size hm, h.fits⟩
theorem chunk_ok {ws : List Wr} (h : ∀ w ∈ ws, WrOk w) {i n : Nat} : ∀ w ∈ (ws.take (i + n)).drop i, WrOk w := fun w hw => h w (List.mem_of_mem_take (List.mem_of_mem_drop hw))
theorem writesN_leng (l : List Pl) (m : Nat) : (writesN l m).length = min m l.length := by simp [writesN]
theorem writeF_room {m : Nat} {f : Forest} {r : Wr} (ok : ForestOk m f) (h1 : f.length < 8) (h2 : m < 60) : writeF f r ≠ none := by
  rw [writeF_is (l := f) (r := r) rfl rfl]
  have hN : (nextT r (treeF f r.name)).length ≤ m + 1 := by
    have hl := (treeF_ok ok r.name).len
    unfold nextT
    split
    · have := len_delT (treeF_ok ok r.name).rise r.key; split at this <;> omega
    · have := len_putT (treeF f r.name) r.key r.value; split at this <;> omega
  rw [if_neg (by omega)]
  split
  · simp
  · have := len_putT f r.name (nextT r (treeF f r.name))
    rw [if_neg (by split at this <;> omega)]
    simp
theorem applyF_room : ∀ {ws : List Wr} {m : Nat} {f : Forest}, ForestOk m f → (∀ w ∈ ws, WrOk w) → f.length + ws.length ≤ 8 → m + ws.length ≤ 60 → applyF f ws ≠ none
  | [], m, f, _, _, _, _ => by simp [applyF]
  | w :: ws, m, f, ok, hw, h1, h2 => by
    simp only [List.length_cons] at h1 h2
    cases e : writeF f w with
    | none => exact absurd e (writeF_room ok (by omega) (by omega))
    | some g =>
      have hl := len_writeF ok.rise e
      have := applyF_room (writeF_ok ok (hw w (by simp)) e) (fun x hx => hw x (by simp [hx])) (ws := ws) (by omega) (by omega)
      simpa [applyF, e] using this
theorem apply_first {cs : List Cm} {ws : List Wr} (h : cs = []) (hw : ∀ w ∈ ws, WrOk w) (h3 : ws.length ≤ 3) : applyF (stateC cs cs.length) ws ≠ none := by
  subst h
  exact applyF_room (ForestOk.nil 0) hw (by simp [state_zero]; omega) (by omega)
theorem chunk_len {ws : List Wr} {i n : Nat} (h : i + n ≤ ws.length) : ((ws.take (i + n)).drop i).length = n := by rw [List.length_drop, List.length_take]; omega
set_option maxHeartbeats 8000000 in
theorem commitsO_spec (F : Fz) (w : World) (v : Value) (l : List Pl) (m : Nat) (hs : Sat w F) (hv : Pls F v l) (hm : m ≤ 60) :
    Calls Try.prog 11 #[v, .int .i64 (m : Nat)] w fun e w' => ∃ u F' cs, e = .returned u ∧ Gr w F w' F' ∧ Own 2 CmC 72 w.heap.size w' F' u cs ∧ HistOk m cs ∧ cs.length ≤ m ∧ (0 < l.length → 0 < m → 0 < cs.length) := by
 obtain ⟨a, c, rfl, hc1, hc2⟩ := Sl.shape hv
 unfold maxLen at hc2
 obtain ⟨i72, hi72, hz72, hs72, hb72⟩ := info_parts info_72
 have S := St.start hs
 go_enter Try.func11, Try.ntmps11
 refine wp_seq_k (fun K1 hK1 => region_wl ?_)
 refine do_ rfl (.slice none 0 0) (ex_assign _) ?_
 simp only [pS, pN, pA, pC, pZ]
 refine wl_nil (hK1 _ _ ?_)
 refine wp_seq_k (fun K2 hK2 => region_wl ?_)
 refine do_ rfl (.slice none 0 0) (ex_assign _) ?_
 simp only [pS, pN, pA, pC, pZ]
 refine wl_nil (hK2 _ _ ?_)
 refine wp_seq_k (fun K3 hK3 => region_wl ?_)
 refine do_ rfl (.slice none 0 0) (ex_assign _) ?_
 simp only [pS, pN, pA, pC, pZ]
 refine wl_nil (hK3 _ _ ?_)
 refine wp_seq_k (fun K4 hK4 => region_wl ?_)
 refine do_ rfl (.slice a l.length c) (ex_move _) ?_
 simp only [pS, pN, pA, pC, pZ]
 refine do_ rfl (.int .i64 ((m : Nat) : Int)) (ex_move _) ?_
 simp only [pS, pN, pA, pC, pZ]
 refine stGives S rfl (ex_fn (vs := #[(.slice a l.length c), (.int .i64 ((m : Nat) : Int))]) (map2 rfl rfl) rfl (ent_32 _ _)) (writes_spec _ _ _ l m (S).sat hv (by omega)) ?_
 intro v10 w5 F7 S6 le8 R9
 obtain ⟨a11, c12, rfl, h13, h14⟩ := Sl.shape R9
 unfold maxLen at h14
 simp only [pS, pN, pA, pC, pZ]
 refine do_ rfl (.slice a11 (writesN l m).length c12) (ex_assign _) ?_
 simp only [pS, pN, pA, pC, pZ]
 refine wl_nil (hK4 _ _ ?_)
 refine wp_seq_k (fun K15 hK15 => ?_)
 refine wp_seq_k (fun K16 hK16 => ?_)
 have hwl := writesN_len l m
 have hwok := writesN_ok l m
 refine region_wl ?_
 refine do_ rfl (.int .i64 0) (ex_assign _) ?_
 simp only [pS, pN, pA, pC, pZ]
 refine wl_nil (hK16 _ _ ?_)
 refine wp_block ?_
 have S17 := St.addNil S6 2 CmC CmC.mono 72 w.heap.size
 refine wp_loop_g (fun mm aa w20 => ∃ (i : Nat) (v : Value) (x : Value) (cs : List Cm) (F18 : Fz) (u19 : Nat → Value), mm = (writesN l m).length - i ∧ u19 = slots aa ∧ aa = ⟨#[(.slice a l.length c), (.int .i64 ((m : Nat) : Int)), undef, undef, (.slice none 0 0), v, x, (.slice a11 (writesN l m).length c12), (.int .i64 ((i : Nat) : Int)), (u19 9), (u19 10), (u19 11), (.slice a l.length c), (.int .i64 ((m : Nat) : Int)), (.slice a11 (writesN l m).length c12), (u19 15), (u19 16), (u19 17), (u19 18), (u19 19), (u19 20), (u19 21), (u19 22), (u19 23), (u19 24), (u19 25), (u19 26), (u19 27), (u19 28), (u19 29), (u19 30), (u19 31), (u19 32), (u19 33), (u19 34), (u19 35), (u19 36), (u19 37), (u19 38), (u19 39), (u19 40), (u19 41), (u19 42), (u19 43), (u19 44), (u19 45), (u19 46), (u19 47), (u19 48), (u19 49), (u19 50), (u19 51), (u19 52), (u19 53), (u19 54), (u19 55), (u19 56), (u19 57), (u19 58), (u19 59), (u19 60), (u19 61), (u19 62), (u19 63), (u19 64), undef], []⟩ ∧ St w F w20 F18 [] [ownP 2 CmC CmC.mono 72 w.heap.size v cs] ∧ Le F7 F18 ∧ (i ≤ (writesN l m).length) ∧ (Tns F18 x (stateC cs cs.length)) ∧ (HistOk i cs) ∧ (cs.length ≤ i) ∧ (0 < i → 0 < cs.length)) _ ⟨0, (.slice none 0 0), (.slice none 0 0), [], F7, _, rfl, rfl, rfl, S17, Le.refl _, (by omega), (Sl.nil _ _ _), (HistOk.nil 0), (by simp), (fun h => absurd h (by omega))⟩ ?_
 rintro m21 a22 w23 ⟨i, v, x, cs, F18, u19, rfl, -, rfl, S24, le25, hi, hx, hh, hcl, hpos⟩ K26 hK26
 refine wp_seq_k (fun K27 hK27 => ?_)
 refine wp_seq_k (fun K28 hK28 => region_wl ?_)
 refine do_ rfl (.int .i64 ((i : Nat) : Int)) (ex_move _) ?_
 simp only [pS, pN, pA, pC, pZ]
 refine do_ rfl (.slice a11 (writesN l m).length c12) (ex_move _) ?_
 simp only [pS, pN, pA, pC, pZ]
 refine do_ rfl (.int .i64 (((writesN l m).length : Nat) : Int)) (ex_len Try.underlying47 rfl) ?_
 simp only [pS, pN, pA, pC, pZ]
 by_cases hc18 : i < (writesN l m).length
 ·refine do_ rfl (.bool true) (ex_lss (m := ((i : Nat) : Int)) (n := (((writesN l m).length : Nat) : Int)) (b := true) rfl rfl (decide_eq_true (by omega))) ?_
  simp only [pS, pN, pA, pC, pZ]
  refine wl_nil (hK28 _ _ ?_)
  refine wp_cond_true rfl ?_
  refine wp_skip ?_
  refine hK27 _ _ ?_
  refine wp_block ?_
  refine wp_seq_k (fun K29 hK29 => ?_)
  obtain ⟨p, hp⟩ : ∃ p, (writesN l m)[i]? = some p := ⟨(writesN l m)[i], List.getElem?_eq_getElem hc18⟩
  obtain ⟨b30, o31, ha32, xa34, xc35, xa38, xc39, xa43, xc44, c33, c37, c41, c42, r36, r40, r45⟩ := Wrs.get (R9.mono le25) hp
  refine region_wl ?_
  refine do_ rfl (.slice a11 (writesN l m).length c12) (ex_move _) ?_
  simp only [pS, pN, pA, pC, pZ]
  refine do_ rfl (.int .i64 ((i : Nat) : Int)) (ex_move _) ?_
  simp only [pS, pN, pA, pC, pZ]
  refine do_ rfl (.pointer (some ⟨b30, o31 + i * 4, none⟩)) (ex_at (i := i) (sz := 4) Try.underlying47 (sizeof_27 _) rfl ha32 rfl (by omega) rfl) ?_
  simp only [pS, pN, pA, pC, pZ]
  refine do_ rfl (.pointer (some ⟨b30, o31 + i * 4 + 1, none⟩)) (ex_field (q := ⟨b30, o31 + i * 4 + 1, none⟩) rfl (fa_27_1 _ _)) ?_
  simp only [pS, pN, pA, pC, pZ]
  refine do_ rfl (.slice xa38 p.key.length xc39) (ex_load rfl (load1 (nagg_25 _) (St.fz S24 c37))) ?_
  simp only [pS, pN, pA, pC, pZ]
  refine do_ rfl (.int .i64 ((p.key.length : Nat) : Int)) (ex_len Try.underlying25 rfl) ?_
  simp only [pS, pN, pA, pC, pZ]
  refine do_ rfl (.int .i64 (((p.key.length % 3) : Nat) : Int)) (ex_rem rfl rfl (by decide)) ?_
  simp only [pS, pN, pA, pC, pZ]
  refine do_ rfl (.int .i64 (((1 + (p.key.length % 3)) : Nat) : Int)) (ex_add (m := (1 : Int)) (n := (((p.key.length % 3) : Nat) : Int)) (r := (((1 + (p.key.length % 3)) : Nat) : Int)) rfl rfl (by omega) (by omega) (by omega)) ?_
  simp only [pS, pN, pA, pC, pZ]
  refine do_ rfl (.slice a11 (writesN l m).length c12) (ex_move _) ?_
  simp only [pS, pN, pA, pC, pZ]
  refine do_ rfl (.int .i64 (((writesN l m).length : Nat) : Int)) (ex_len Try.underlying47 rfl) ?_
  simp only [pS, pN, pA, pC, pZ]
  refine do_ rfl (.int .i64 ((i : Nat) : Int)) (ex_move _) ?_
  simp only [pS, pN, pA, pC, pZ]
  refine do_ rfl (.int .i64 ((((writesN l m).length - i) : Nat) : Int)) (ex_sub (m := (((writesN l m).length : Nat) : Int)) (n := ((i : Nat) : Int)) (r := ((((writesN l m).length - i) : Nat) : Int)) rfl rfl (by omega) (by omega) (by omega)) ?_
  simp only [pS, pN, pA, pC, pZ]
  refine do_ rfl (.int .i64 (((stepN p.key.length (writesN l m).length i) : Nat) : Int)) (ex_min (m := (((1 + (p.key.length % 3)) : Nat) : Int)) (n := ((((writesN l m).length - i) : Nat) : Int)) (r := (((stepN p.key.length (writesN l m).length i) : Nat) : Int)) rfl rfl (by unfold stepN; split <;> split <;> omega)) ?_
  simp only [pS, pN, pA, pC, pZ]
  refine do_ rfl (.int .i64 (((stepN p.key.length (writesN l m).length i) : Nat) : Int)) (ex_assign _) ?_
  simp only [pS, pN, pA, pC, pZ]
  refine wl_nil (hK29 _ _ ?_)
  refine wp_seq_k (fun K46 hK46 => ?_)
  obtain ⟨h1n, h2n, h3n⟩ := stepN_ok (kl := p.key.length) hc18
  generalize stepN p.key.length (writesN l m).length i = n at *
  have okk := (state_ok hh cs.length).mono (show i ≤ 60 by omega)
  have hcn := chunk_len (ws := (writesN l m)) (i := i) (n := n) (by omega)
  have hae := applyE_ok (l := stateC cs cs.length) (chunk_ok hwok (i := i) (n := n)) (by omega)
  cases hg : applyF (stateC cs cs.length) (((writesN l m).take (i + n)).drop i) with
  | none =>
   rw [hg] at hae
   have hcp : 0 < cs.length := by rcases Nat.eq_zero_or_pos cs.length with h0 | h0; exact absurd hg (apply_first (List.eq_nil_of_length_eq_zero h0) (chunk_ok hwok) (by omega)); exact h0
   refine region_wl ?_
   refine do_ rfl x (ex_move _) ?_
   simp only [pS, pN, pA, pC, pZ]
   refine do_ rfl (.slice a11 (writesN l m).length c12) (ex_move _) ?_
   simp only [pS, pN, pA, pC, pZ]
   refine do_ rfl (.int .i64 ((i : Nat) : Int)) (ex_move _) ?_
   simp only [pS, pN, pA, pC, pZ]
   refine do_ rfl (.int .i64 ((i : Nat) : Int)) (ex_move _) ?_
   simp only [pS, pN, pA, pC, pZ]
   refine do_ rfl (.int .i64 ((n : Nat) : Int)) (ex_move _) ?_
   simp only [pS, pN, pA, pC, pZ]
   refine do_ rfl (.int .i64 (((i + n) : Nat) : Int)) (ex_add (m := ((i : Nat) : Int)) (n := ((n : Nat) : Int)) (r := (((i + n) : Nat) : Int)) rfl rfl (by omega) (by omega) (by omega)) ?_
   simp only [pS, pN, pA, pC, pZ]
   have r47 : Wrs F18 (.slice (if c12 = i then a11 else a11.map (·.add (i * 4))) ((i + n) - i) (c12 - i)) (((writesN l m).take (i + n)).drop i) := Sl.cut2 (by decide) (R9.mono le25) (by omega) (by omega)
   refine do_ rfl (.slice (if c12 = i then a11 else a11.map (·.add (i * 4))) ((i + n) - i) (c12 - i)) (ex_slice (l := i) (h := (i + n)) (sz := 4) Try.underlying47 rfl (sizeof_27 _) (.inr ⟨_, rfl, rfl⟩) (.inr ⟨_, rfl, rfl⟩) (by omega) (by omega) (rfl)) ?_
   simp only [pS, pN, pA, pC, pZ]
   refine stGives S24 rfl (ex_fn (vs := #[x, (.slice (if c12 = i then a11 else a11.map (·.add (i * 4))) ((i + n) - i) (c12 - i))]) (map2 rfl rfl) rfl (ent_17 _ _)) (apply_is (S24).sat hx r47 okk (chunk_ok hwok) hae) ?_
   intro v53 w48 F50 S49 le51 R52
   obtain ⟨_, rfl, r56⟩ := R52
   obtain ⟨a54, c55, rfl, h57, h58⟩ := Sl.shape r56
   unfold maxLen at h58
   simp only [pS, pN, pA, pC, pZ]
   refine do_ rfl (.tuple #[(.slice a54 ([] : Forest).length c55), (.int .i64 11)]) (ex_move _) ?_
   simp only [pS, pN, pA, pC, pZ]
   refine do_ rfl (.slice a54 ([] : Forest).length c55) (ex_extract rfl rfl) ?_
   simp only [pS, pN, pA, pC, pZ]
   refine do_ rfl (.int .i64 11) (ex_extract rfl rfl) ?_
   simp only [pS, pN, pA, pC, pZ]
   refine do_ rfl (.slice a54 ([] : Forest).length c55) (ex_assign _) ?_
   simp only [pS, pN, pA, pC, pZ]
   refine do_ rfl (.int .i64 11) (ex_assign _) ?_
   simp only [pS, pN, pA, pC, pZ]
   refine wl_nil (hK46 _ _ ?_)
   refine wp_seq_k (fun K59 hK59 => ?_)
   refine wp_seq_k (fun K60 hK60 => region_wl ?_)
   refine do_ rfl (.int .i64 11) (ex_move _) ?_
   simp only [pS, pN, pA, pC, pZ]
   refine do_ rfl (.bool false) (ex_eql (b := false) rfl rfl (by decide)) ?_
   simp only [pS, pN, pA, pC, pZ]
   refine wl_nil (hK60 _ _ ?_)
   refine wp_cond_false rfl ?_
   refine wp_skip ?_
   refine hK59 _ _ ?_
   refine region_wl ?_
   refine do_ rfl (.int .i64 ((i : Nat) : Int)) (ex_move _) ?_
   simp only [pS, pN, pA, pC, pZ]
   refine do_ rfl (.int .i64 ((n : Nat) : Int)) (ex_move _) ?_
   simp only [pS, pN, pA, pC, pZ]
   refine do_ rfl (.int .i64 (((i + n) : Nat) : Int)) (ex_add (m := ((i : Nat) : Int)) (n := ((n : Nat) : Int)) (r := (((i + n) : Nat) : Int)) rfl rfl (by omega) (by omega) (by omega)) ?_
   simp only [pS, pN, pA, pC, pZ]
   refine do_ rfl (.int .i64 (((i + n) : Nat) : Int)) (ex_assign _) ?_
   simp only [pS, pN, pA, pC, pZ]
   refine wl_nil ?_
   exact hK26 _ _ _ (by omega) ⟨(i + n), v, x, cs, F50, _, rfl, rfl, rfl, S49, (le25.trans le51), (by omega), (hx.mono le51), (hh.grow (by omega)), (by omega), (fun _ => hcp)⟩
  | some g =>
   rw [hg] at hae
   have hsn := HistOk.snoc (n := i + n) hh (chunk_ok hwok) (by omega) (by omega) (by omega) (by omega) hg
   refine region_wl ?_
   refine do_ rfl x (ex_move _) ?_
   simp only [pS, pN, pA, pC, pZ]
   refine do_ rfl (.slice a11 (writesN l m).length c12) (ex_move _) ?_
   simp only [pS, pN, pA, pC, pZ]
   refine do_ rfl (.int .i64 ((i : Nat) : Int)) (ex_move _) ?_
   simp only [pS, pN, pA, pC, pZ]
   refine do_ rfl (.int .i64 ((i : Nat) : Int)) (ex_move _) ?_
   simp only [pS, pN, pA, pC, pZ]
   refine do_ rfl (.int .i64 ((n : Nat) : Int)) (ex_move _) ?_
   simp only [pS, pN, pA, pC, pZ]
   refine do_ rfl (.int .i64 (((i + n) : Nat) : Int)) (ex_add (m := ((i : Nat) : Int)) (n := ((n : Nat) : Int)) (r := (((i + n) : Nat) : Int)) rfl rfl (by omega) (by omega) (by omega)) ?_
   simp only [pS, pN, pA, pC, pZ]
   have r61 : Wrs F18 (.slice (if c12 = i then a11 else a11.map (·.add (i * 4))) ((i + n) - i) (c12 - i)) (((writesN l m).take (i + n)).drop i) := Sl.cut2 (by decide) (R9.mono le25) (by omega) (by omega)
   refine do_ rfl (.slice (if c12 = i then a11 else a11.map (·.add (i * 4))) ((i + n) - i) (c12 - i)) (ex_slice (l := i) (h := (i + n)) (sz := 4) Try.underlying47 rfl (sizeof_27 _) (.inr ⟨_, rfl, rfl⟩) (.inr ⟨_, rfl, rfl⟩) (by omega) (by omega) (rfl)) ?_
   simp only [pS, pN, pA, pC, pZ]
   refine stGives S24 rfl (ex_fn (vs := #[x, (.slice (if c12 = i then a11 else a11.map (·.add (i * 4))) ((i + n) - i) (c12 - i))]) (map2 rfl rfl) rfl (ent_17 _ _)) (apply_is (S24).sat hx r61 okk (chunk_ok hwok) hae) ?_
   intro v67 w62 F64 S63 le65 R66
   obtain ⟨_, rfl, r70⟩ := R66
   obtain ⟨a68, c69, rfl, h71, h72⟩ := Sl.shape r70
   unfold maxLen at h72
   have h71 : g.length ≤ c69 := h71
   have r70 : Tns _ (.slice a68 g.length c69) g := r70
   simp only [pS, pN, pA, pC, pZ]
   refine do_ rfl (.tuple #[(.slice a68 g.length c69), (.int .i64 0)]) (ex_move _) ?_
   simp only [pS, pN, pA, pC, pZ]
   refine do_ rfl (.slice a68 g.length c69) (ex_extract rfl rfl) ?_
   simp only [pS, pN, pA, pC, pZ]
   refine do_ rfl (.int .i64 0) (ex_extract rfl rfl) ?_
   simp only [pS, pN, pA, pC, pZ]
   refine do_ rfl (.slice a68 g.length c69) (ex_assign _) ?_
   simp only [pS, pN, pA, pC, pZ]
   refine do_ rfl (.int .i64 0) (ex_assign _) ?_
   simp only [pS, pN, pA, pC, pZ]
   refine wl_nil (hK46 _ _ ?_)
   refine wp_seq_k (fun K73 hK73 => ?_)
   refine wp_seq_k (fun K74 hK74 => region_wl ?_)
   refine do_ rfl (.int .i64 0) (ex_move _) ?_
   simp only [pS, pN, pA, pC, pZ]
   refine do_ rfl (.bool true) (ex_eql (b := true) rfl rfl (by decide)) ?_
   simp only [pS, pN, pA, pC, pZ]
   refine wl_nil (hK74 _ _ ?_)
   refine wp_cond_true rfl ?_
   refine wp_seq_k (fun K75 hK75 => region_wl ?_)
   refine do_ rfl (.slice a68 g.length c69) (ex_move _) ?_
   simp only [pS, pN, pA, pC, pZ]
   refine do_ rfl (.slice a68 g.length c69) (ex_assign _) ?_
   simp only [pS, pN, pA, pC, pZ]
   refine wl_nil (hK75 _ _ ?_)
   obtain ⟨a76, cap77, rfl, h78, h79⟩ := (S63.own (i := 0) rfl).shape
   unfold maxLen at h79
   refine region_wl ?_
   refine do_ rfl (.slice a76 cs.length cap77) (ex_move _) ?_
   simp only [pS, pN, pA, pC, pZ]
   refine do_ rfl (.slice a76 cs.length cap77) (ex_move _) ?_
   simp only [pS, pN, pA, pC, pZ]
   refine do_ rfl (.int .i64 ((cs.length : Nat) : Int)) (ex_len Try.underlying44 rfl) ?_
   simp only [pS, pN, pA, pC, pZ]
   refine do_ rfl (.int .i64 (((cs.length + 1) : Nat) : Int)) (ex_add (m := ((cs.length : Nat) : Int)) (n := (1 : Int)) (r := (((cs.length + 1) : Nat) : Int)) rfl rfl (by omega) (by omega) (by omega)) ?_
   simp only [pS, pN, pA, pC, pZ]
   refine do_ rfl (.slice a11 (writesN l m).length c12) (ex_move _) ?_
   simp only [pS, pN, pA, pC, pZ]
   refine do_ rfl (.int .i64 ((i : Nat) : Int)) (ex_move _) ?_
   simp only [pS, pN, pA, pC, pZ]
   refine do_ rfl (.int .i64 ((i : Nat) : Int)) (ex_move _) ?_
   simp only [pS, pN, pA, pC, pZ]
   refine do_ rfl (.int .i64 ((n : Nat) : Int)) (ex_move _) ?_
   simp only [pS, pN, pA, pC, pZ]
   refine do_ rfl (.int .i64 (((i + n) : Nat) : Int)) (ex_add (m := ((i : Nat) : Int)) (n := ((n : Nat) : Int)) (r := (((i + n) : Nat) : Int)) rfl rfl (by omega) (by omega) (by omega)) ?_
   simp only [pS, pN, pA, pC, pZ]
   refine do_ rfl (.int .i64 ((i : Nat) : Int)) (ex_move _) ?_
   simp only [pS, pN, pA, pC, pZ]
   refine do_ rfl (.int .i64 ((n : Nat) : Int)) (ex_move _) ?_
   simp only [pS, pN, pA, pC, pZ]
   refine do_ rfl (.int .i64 (((i + n) : Nat) : Int)) (ex_add (m := ((i : Nat) : Int)) (n := ((n : Nat) : Int)) (r := (((i + n) : Nat) : Int)) rfl rfl (by omega) (by omega) (by omega)) ?_
   simp only [pS, pN, pA, pC, pZ]
   have r80 : Wrs F64 (.slice (if (i + n) = i then a11 else a11.map (·.add (i * 4))) ((i + n) - i) ((i + n) - i)) (((writesN l m).take (i + n)).drop i) := Sl.cut3 (by decide) (R9.mono (le25.trans le65)) (by omega) (by omega) (by omega)
   have r80 : Wrs F64 (.slice (if (i + n) = i then a11 else a11.map (·.add (i * 4))) (((writesN l m).take (i + n)).drop i).length ((i + n) - i)) (((writesN l m).take (i + n)).drop i) := by rw [chunk_len (by omega)]; rw [show (i + n) - i = n from by omega] at *; exact r80
   refine do_ rfl (.slice (if (i + n) = i then a11 else a11.map (·.add (i * 4))) (((writesN l m).take (i + n)).drop i).length ((i + n) - i)) (ex_slice3 (l := i) (h := (i + n)) (m := (i + n)) (sz := 4) Try.underlying47 rfl (sizeof_27 _) rfl rfl rfl (by omega) (by omega) (by omega) (by rw [chunk_len (by omega)]; rw [show (i + n) - i = n from by omega])) ?_
   simp only [pS, pN, pA, pC, pZ]
   refine do_ rfl (.agg #[(.int .i64 (((cs.length + 1) : Nat) : Int)), (.slice (if (i + n) = i then a11 else a11.map (·.add (i * 4))) (((writesN l m).take (i + n)).drop i).length ((i + n) - i))]) (ex_build (ps := #[(0, (.int .i64 (((cs.length + 1) : Nat) : Int))), (1, (.slice (if (i + n) = i then a11 else a11.map (·.add (i * 4))) (((writesN l m).take (i + n)).drop i).length ((i + n) - i)))]) (bmap2 rfl rfl) (by kernel_rfl)) ?_
   simp only [pS, pN, pA, pC, pZ]
   refine stNew S63 (v := fun n => .slice (some ⟨n, 0, none⟩) 1 1) rfl (ex_lit (ps := #[(0, (.agg #[(.int .i64 (((cs.length + 1) : Nat) : Int)), (.slice (if (i + n) = i then a11 else a11.map (·.add (i * 4))) (((writesN l m).take (i + n)).drop i).length ((i + n) - i))]))]) (cells := #[(.int .i64 (((cs.length + 1) : Nat) : Int)), (.slice (if (i + n) = i then a11 else a11.map (·.add (i * 4))) (((writesN l m).take (i + n)).drop i).length ((i + n) - i))]) (E := 72) (bmap1 rfl) (fun w => by kernel_rfl)) (fun n81 w82 S83 => ?_)
   simp only [pS, pN, pA, pC, pZ]
   have S83 : St w F w82 F64 [⟨n81, [(.int .i64 (((cs.length + 1) : Nat) : Int)), (.slice (if (i + n) = i then a11 else a11.map (·.add (i * 4))) (((writesN l m).take (i + n)).drop i).length ((i + n) - i))], 72⟩] [ownP 2 CmC CmC.mono 72 w.heap.size (.slice a76 cs.length cap77) cs] := S83
   refine stPush (i := 0) (r := 0) (p := (⟨cs.length + 1, (((writesN l m).take (i + n)).drop i)⟩ : Cm)) (cs := [(.int .i64 (((cs.length + 1) : Nat) : Int)), (.slice (if (i + n) = i then a11 else a11.map (·.add (i * 4))) (((writesN l m).take (i + n)).drop i).length ((i + n) - i))]) S83 rfl i72 (.agg #[(.int .i64 0), (.slice none 0 0)]) 32 Try.underlying44 hi72 hz72 hs72 hb72 rfl (by decide) rfl rfl rfl rfl rfl (CmC.oneCell (p := (⟨cs.length + 1, (((writesN l m).take (i + n)).drop i)⟩ : Cm)) ⟨_, _, rfl, rfl, r80⟩) (⟨_, _, rfl, rfl, r80⟩) (Nat.le_refl _) S83.gr.below.size (by unfold maxLen; omega) (by omega) ?_
   intro v84 w85 S86 hn87
   simp only [pS, pN, pA, pC, pZ]
   have S86 := St.drop S86 (L' := []) (.cons _ (List.Sublist.refl _))
   have S86 : St w F w85 F64 [] [ownP 2 CmC CmC.mono 72 w.heap.size v84 (cs ++ [(⟨cs.length + 1, (((writesN l m).take (i + n)).drop i)⟩ : Cm)])] := S86
   refine do_ rfl v84 (ex_assign _) ?_
   simp only [pS, pN, pA, pC, pZ]
   refine wl_nil (hK73 _ _ ?_)
   refine region_wl ?_
   refine do_ rfl (.int .i64 ((i : Nat) : Int)) (ex_move _) ?_
   simp only [pS, pN, pA, pC, pZ]
   refine do_ rfl (.int .i64 ((n : Nat) : Int)) (ex_move _) ?_
   simp only [pS, pN, pA, pC, pZ]
   refine do_ rfl (.int .i64 (((i + n) : Nat) : Int)) (ex_add (m := ((i : Nat) : Int)) (n := ((n : Nat) : Int)) (r := (((i + n) : Nat) : Int)) rfl rfl (by omega) (by omega) (by omega)) ?_
   simp only [pS, pN, pA, pC, pZ]
   refine do_ rfl (.int .i64 (((i + n) : Nat) : Int)) (ex_assign _) ?_
   simp only [pS, pN, pA, pC, pZ]
   refine wl_nil ?_
   exact hK26 _ _ _ (by omega) ⟨(i + n), v84, (.slice a68 g.length c69), (cs ++ [(⟨cs.length + 1, (((writesN l m).take (i + n)).drop i)⟩ : Cm)]), F64, _, rfl, rfl, rfl, S86, (le25.trans le65), (by omega), (by rw [show (cs ++ [(⟨cs.length + 1, (((writesN l m).take (i + n)).drop i)⟩ : Cm)]).length = cs.length + 1 from by simp, hsn.2]; exact r70), hsn.1, (by simp; omega), (fun _ => by simp)⟩
 ·refine do_ rfl (.bool false) (ex_lss (m := ((i : Nat) : Int)) (n := (((writesN l m).length : Nat) : Int)) (b := false) rfl rfl (decide_eq_false (by omega))) ?_
  simp only [pS, pN, pA, pC, pZ]
  refine wl_nil (hK28 _ _ ?_)
  refine wp_cond_false rfl ?_
  refine wp_exit ?_
  refine hK15 _ _ ?_
  refine wp_seq_k (fun K88 hK88 => region_wl ?_)
  refine do_ rfl v (ex_move _) ?_
  simp only [pS, pN, pA, pC, pZ]
  refine do_ rfl v (ex_assign _) ?_
  simp only [pS, pN, pA, pC, pZ]
  refine wl_nil (hK88 _ _ ?_)
  refine wp_ret ?_
  (try simp only [Exit.then, Exit.inBlock, ↓reduceIte, Nat.reduceEqDiff])
  refine bodyPost_ret (v := v) ?_ rfl ?_
  ·exact res_t rfl rfl
  ·exact ⟨_, _, cs, rfl, S24.gr, St.own (i := 0) S24 rfl, hh.grow (by omega), by omega, fun h1 h2 => hpos (by have := writesN_leng l m; omega)⟩
theorem commitsN_spec (F : Fz) (w : World) (v : Value) (l : List Pl) (m : Nat) (hs : Sat w F) (hv : Pls F v l) (hm : m ≤ 60) :
    Calls Try.prog 11 #[v, .int .i64 (m : Nat)] w (Gives w F fun F' u => ∃ cs, Cms F' u cs ∧ HistOk m cs ∧ cs.length ≤ m ∧ (0 < l.length → 0 < m → 0 < cs.length)) :=
  (commitsO_spec F w v l m hs hv hm).mono fun e w' ⟨u, F', cs, he, g, ho, h1, h2, h3⟩ => by
    obtain ⟨F2, g2, _, hv2⟩ := ho.freeze CmC.mono g (Nat.le_refl _)
    exact ⟨u, F2, he, g2, cs, hv2, h1, h2, h3⟩
theorem commits_spec (F : Fz) (w : World) (v : Value) (l : List Pl) (m : Nat) (hs : Sat w F) (hv : Pls F v l) (hm : m ≤ 60) :
    Calls Try.prog 11 #[v, .int .i64 (m : Nat)] w (Gives w F fun F' u => ∃ cs, Cms F' u cs ∧ HistOk m cs ∧ cs.length ≤ m) :=
  (commitsN_spec F w v l m hs hv hm).mono fun e w' ⟨u, F', he, g, cs, h1, h2, h3, _⟩ => ⟨u, F', he, g, cs, h1, h2, h3⟩
end Go.Proofs.Ytlimmmidfhpakaa
namespace Go.Proofs.Ytlimmmidfhpakaa
open Go.RowKit
set_option linter.unusedVariables false
structure HL (P : Program) (ops : Array Oper) (Q : Exit → Act → World → Prop) (F : Fz) (fuel : Nat) (listed : Array Bool) (a : Act) (w : World) : Prop where
  out : Go.wpAnyH P .any ops Q (fun w => Sat w F) fuel listed a w
section
variable {P : Program} {ops : Array Oper} {Q : Exit → Act → World → Prop} {F : Fz} {fuel : Nat} {listed : Array Bool} {a : Act} {w : World} {o : Oper}
theorem region_hl {id : Nat} {l : List Oper} {w0 : World} {F0 : Fz} {L : List Blk} {M : List RowP} (S : St w0 F0 w F L M) (hm : P.follows .mixedOrders = true) (h : ∀ w', St w0 F0 w' F L M → HL P l.toArray Q F l.length (Array.replicate l.length false) a w') : (Code.region id l.toArray true).wp P Q a w := by
  have := (h { w with drawn := w.drawn + 1 } (S.tells (Below.refl w.heap.size w).drew)).out
  refine wp_region_held (S := fun w => Sat w F) hm ?_
  simpa using this
def canTake (ops : Array Oper) (listed : Array Bool) (i : Nat) : Bool := Region.noSelect ops && Region.free .any ops listed i && (Region.ready .any ops listed).contains i
theorem hl_take {l : List Oper} (i : Nat) (hi : l[i]? = some o) (hc : canTake l.toArray listed i = true) {v : Value} (hQ : ∀ c a w, Q (.panic c) (a.put o.dst v) w → Q (.panic c) a w) (hS : Sat w F) (hw : Region.wanted o (yielded l.toArray a.tmps) = true)
    (hr : ∀ w1, Sat w1 F → (execOp a.eval o).run P w1 = .ok (.value v) w1) (h : HL P l.toArray Q F fuel (listed.setIfInBounds i true) (a.put o.dst v) w) : HL P l.toArray Q F (fuel + 1) listed a w := by
  simp only [canTake, Bool.and_eq_true] at hc
  exact ⟨Go.wpAnyH_take (by simpa using hi) hc.1.1 hc.1.2 hc.2 hQ (.inl ⟨hw, hr⟩) hS h.out⟩
theorem Oper.wp_exit {K K' : Act → World → Prop} (hh : o.wp P a w K (Exit.then K' Q)) : o.wp P a w K Q := by
  unfold Oper.wp at *
  generalize (execOp a.eval o).run P w = r at *
  cases r with
  | ok n w' =>
    cases n <;> simp only [Oper.upon] at hh ⊢ <;> try exact hh
  | halt x w' => cases x <;> exact hh
/-- The only one that may come up. -/
theorem hl_next {l : List Oper} (i : Nat) (hr : Region.ready .any l.toArray listed = [i]) (hi : l[i]? = some o) (h : WL P l.toArray (Exit.then (fun a' w' => Sat w' F ∧ Go.wpAnyH P .any l.toArray Q (fun w => Sat w F) fuel (listed.setIfInBounds i true) a' w') Q) [o] a w) : HL P l.toArray Q F (fuel + 1) listed a w := by
  refine ⟨Go.wpAnyH_all hr (by simp) fun j hj => ?_⟩
  have hji : j = i := by simpa using hj
  subst hji
  have h1 := h.out
  unfold wpList at h1
  unfold wpOp
  have hi' : l.toArray[j]? = some o := by simpa using hi
  simp only [hi']
  split
  · rename_i hw
    rw [if_pos hw] at h1
    rcases h1 with h1 | h1
    · left
      refine Oper.wp_mono (fun a' w' hk => ?_) (Oper.wp_exit h1)
      exact hk
    · exact .inr h1
  · rename_i hw
    rw [if_neg hw] at h1
    exact h1
theorem hl_back (hS : Sat w F) (h : HL P ops Q F fuel listed a w) : Exit.then (fun a' w' => Sat w' F ∧ Go.wpAnyH P .any ops Q (fun w => Sat w F) fuel listed a' w') Q .normal a w := ⟨hS, h.out⟩
theorem hl_done (hr : Region.ready .any ops listed = []) (h : Q .normal a w) : HL P ops Q F fuel listed a w := ⟨Go.wpAnyH_done hr h _⟩
end
end Go.Proofs.Ytlimmmidfhpakaa
namespace Go.Proofs.Ytlimmmidfhpakaa
open Go.RowKit
set_option linter.unusedVariables false
set_option linter.unusedSimpArgs false
/-- A map, in the order of its entries. -/
def putM : List Pr → By → By → List Pr
  | [], k, v => [(k, v)]
  | e :: l, k, v => if e.1 = k then (k, v) :: l else e :: putM l k v
def delM : List Pr → By → List Pr
  | [], _ => []
  | e :: l, k => if e.1 = k then l else e :: delM l k
theorem nodup_le : ∀ (l S : List By), l.Nodup → (∀ x ∈ l, x ∈ S) → l.length ≤ S.length
  | [], S, _, _ => Nat.zero_le _
  | x :: l, S, hn, hs => by
    have hx := hs x (by simp)
    rw [List.nodup_cons] at hn
    have := nodup_le l (S.erase x) hn.2 (fun y hy => (List.mem_erase_of_ne (by rintro rfl; exact hn.1 hy)).2 (hs y (by simp [hy])))
    rw [List.length_erase_of_mem hx] at this
    have := List.length_pos_of_mem hx
    simp; omega
theorem getT_key {l : List Pr} {k : By} : k ∈ l.map (·.1) ↔ (getT l k).isSome = true := by
  rw [← hasT_getT, hasBy_iff, List.mem_map]
/-- The tree and the map behind so many places. -/
def gmT (l : List Pl) (i : Nat) : List Pr := (l.take i).foldl (fun t p => nextT (writeP p) t) []
def gmM (l : List Pl) (i : Nat) : List Pr := (l.take i).foldl (fun t p => if (writeP p).gone then delM t (writeP p).key else putM t (writeP p).key (writeP p).value) []
structure GmOk (l : List Pl) (i : Nat) : Prop where
  tree : TreeOk i (gmT l i)
  nodup : ((gmM l i).map (·.1)).Nodup
  same : ∀ k, getT (gmT l i) k = getT (gmM l i) k
  len : (gmM l i).length ≤ i
end Go.Proofs.Ytlimmmidfhpakaa
namespace Go.Proofs.Ytlimmmidfhpakaa
open Go.RowKit
set_option linter.unusedVariables false
set_option linter.unusedSimpArgs false
/-- The order of places. -/
def cmpW (a b : Wr) : Int := if cmpL a.name b.name ≠ 0 then cmpL a.name b.name else cmpL a.key b.key
def LtW (a b : Wr) : Prop := Lt a.name b.name ∨ (a.name = b.name ∧ Lt a.key b.key)
theorem cmpW_lt {a b : Wr} : cmpW a b < 0 ↔ LtW a b := by
  unfold cmpW LtW
  by_cases h : cmpL a.name b.name = 0
  · rw [if_neg (by simpa using h), cmpL_lt]
    have e := cmpL_eq.1 h
    constructor
    · exact fun k => .inr ⟨e, k⟩
    · rintro (k | ⟨_, k⟩)
      · rw [e] at k; exact absurd (less_irrefl b.name) (by rw [k]; simp)
      · exact k
  · rw [if_pos h, cmpL_lt]
    constructor
    · exact .inl
    · rintro (k | ⟨e, _⟩)
      · exact k
      · exact absurd (cmpL_eq.2 e) h
theorem cmpW_eq {a b : Wr} : cmpW a b = 0 ↔ a.name = b.name ∧ a.key = b.key := by
  unfold cmpW
  by_cases h : cmpL a.name b.name = 0
  · rw [if_neg (by simpa using h), cmpL_eq]
    exact ⟨fun k => ⟨cmpL_eq.1 h, k⟩, fun k => k.2⟩
  · rw [if_pos h]
    exact ⟨fun k => absurd k h, fun k => absurd (cmpL_eq.2 k.1) h⟩
theorem LtW.irrefl (a : Wr) : ¬ LtW a a := by
  rintro (h | ⟨_, h⟩)
  · exact less_ne h rfl
  · exact less_ne h rfl
theorem LtW.trans {a b c : Wr} (h : LtW a b) (k : LtW b c) : LtW a c := by
  rcases h with h | ⟨h1, h2⟩
  · rcases k with k | ⟨k1, k2⟩
    · exact .inl (less_trans _ _ _ h k)
    · exact .inl (by rw [← k1]; exact h)
  · rcases k with k | ⟨k1, k2⟩
    · exact .inl (by rw [h1]; exact k)
    · exact .inr ⟨h1.trans k1, less_trans _ _ _ h2 k2⟩
theorem LtW.total (a b : Wr) : LtW a b ∨ LtW b a ∨ (a.name = b.name ∧ a.key = b.key) := by
  by_cases h1 : Lt a.name b.name
  · exact .inl (.inl h1)
  by_cases h2 : Lt b.name a.name
  · exact .inr (.inl (.inl h2))
  have e := less_total a.name b.name (by simpa using h1) (by simpa using h2)
  by_cases h3 : Lt a.key b.key
  · exact .inl (.inr ⟨e, h3⟩)
  by_cases h4 : Lt b.key a.key
  · exact .inr (.inl (.inr ⟨e.symm, h4⟩))
  exact .inr (.inr ⟨e, less_total a.key b.key (by simpa using h3) (by simpa using h4)⟩)
/-- One place: nothing else. -/
def Bare (w : Wr) : Prop := w.gone = false ∧ w.value = []
theorem bare_eq {a b : Wr} (ha : Bare a) (hb : Bare b) (h : a.name = b.name ∧ a.key = b.key) : a = b := by
  obtain ⟨n, k, g, v⟩ := a
  obtain ⟨n', k', g', v'⟩ := b
  obtain ⟨h1, h2⟩ := h
  obtain ⟨a1, a2⟩ := ha
  obtain ⟨b1, b2⟩ := hb
  simp only at h1 h2 a1 a2 b1 b2
  subst h1 h2 a1 a2 b1 b2
  rfl
/-- What stands behind one that is the same falls. -/
def compF : Wr → List Wr → List Wr
  | _, [] => []
  | p, x :: l => if cmpW x p = 0 then compF x l else x :: compF x l
def compactW : List Wr → List Wr
  | [] => []
  | x :: l => x :: compF x l
theorem compF_mem {y : Wr} : ∀ {p : Wr} {l : List Wr}, y ∈ compF p l → y ∈ l
  | p, [], h => h
  | p, x :: l, h => by
    unfold compF at h
    split at h
    · exact List.mem_cons_of_mem _ (compF_mem h)
    · rcases List.mem_cons.1 h with rfl | h
      · exact List.mem_cons_self ..
      · exact List.mem_cons_of_mem _ (compF_mem h)
theorem compF_has {y : Wr} : ∀ {p : Wr} {l : List Wr}, (∀ x ∈ p :: l, Bare x) → y ∈ l → y = p ∨ y ∈ compF p l
  | p, [], _, h => .inr h
  | p, x :: l, hb, h => by
    have hp := hb p (List.mem_cons_self ..)
    have hx := hb x (List.mem_cons_of_mem _ (List.mem_cons_self ..))
    unfold compF
    rcases List.mem_cons.1 h with rfl | h
    · split
      · rename_i c; exact .inl (bare_eq hx hp (cmpW_eq.1 c))
      · exact .inr (List.mem_cons_self ..)
    · have := compF_has (p := x) (l := l) (fun z hz => hb z (List.mem_cons_of_mem _ hz)) h
      split
      · rename_i c
        rcases this with e | e
        · exact .inl (e.trans (bare_eq hx hp (cmpW_eq.1 c)))
        · exact .inr e
      · rcases this with e | e
        · exact .inr (by rw [e]; exact List.mem_cons_self ..)
        · exact .inr (List.mem_cons_of_mem _ e)
theorem compF_rise : ∀ {p : Wr} {l : List Wr}, (p :: l).Pairwise (fun x y => ¬ LtW y x) → (∀ x ∈ compF p l, LtW p x) ∧ (compF p l).Pairwise LtW
  | p, [], _ => ⟨by simp [compF], by simp [compF]⟩
  | p, x :: l, h => by
    rw [List.pairwise_cons] at h
    obtain ⟨h1, h2⟩ := h
    obtain ⟨q1, q2⟩ := compF_rise h2
    have hpx := h1 x (List.mem_cons_self ..)
    unfold compF
    split
    · rename_i c
      obtain ⟨e1, e2⟩ := cmpW_eq.1 c
      refine ⟨fun y hy => ?_, q2⟩
      have := q1 y hy
      unfold LtW at this ⊢
      rw [e1, e2] at this
      exact this
    · rename_i c
      have hlt : LtW p x := by
        rcases LtW.total p x with k | k | k
        · exact k
        · exact absurd k hpx
        · exact absurd (cmpW_eq.2 ⟨k.1.symm, k.2.symm⟩) c
      refine ⟨fun y hy => ?_, List.pairwise_cons.2 ⟨q1, q2⟩⟩
      rcases List.mem_cons.1 hy with rfl | hy
      · exact hlt
      · exact hlt.trans (q1 y hy)
theorem compactW_mem {l : List Wr} (hb : ∀ x ∈ l, Bare x) (y : Wr) : y ∈ compactW l ↔ y ∈ l := by
  cases l with
  | nil => exact Iff.rfl
  | cons x l =>
    unfold compactW
    constructor
    · intro h
      rcases List.mem_cons.1 h with rfl | h
      · exact List.mem_cons_self ..
      · exact List.mem_cons_of_mem _ (compF_mem h)
    · intro h
      rcases List.mem_cons.1 h with rfl | h
      · exact List.mem_cons_self ..
      · rcases compF_has hb h with rfl | h
        · exact List.mem_cons_self ..
        · exact List.mem_cons_of_mem _ h
theorem compactW_rise {l : List Wr} (h : l.Pairwise (fun x y => ¬ LtW y x)) : (compactW l).Pairwise LtW := by
  cases l with
  | nil => exact List.Pairwise.nil
  | cons x l =>
    obtain ⟨q1, q2⟩ := compF_rise h
    exact List.pairwise_cons.2 ⟨q1, q2⟩
/-- The places of a forest, as they lie in it. -/
def placeW (n k : By) : Wr := ⟨n, k, false, []⟩
def tenW (t : By × List Pr) : List Wr := t.2.map fun p => placeW t.1 p.1
def forW (f : Forest) : List Wr := f.flatMap tenW
theorem forW_bare {f : Forest} : ∀ w ∈ forW f, Bare w := by
  intro w hw
  obtain ⟨t, _, hw⟩ := List.mem_flatMap.1 hw
  obtain ⟨p, _, rfl⟩ := List.mem_map.1 hw
  exact ⟨rfl, rfl⟩
theorem forW_mem {m : Nat} {f : Forest} (ok : ForestOk m f) (w : Wr) : w ∈ forW f ↔ Bare w ∧ (getF f w.name w.key).isSome = true := by
  constructor
  · intro hw
    refine ⟨forW_bare w hw, ?_⟩
    obtain ⟨t, ht, hw⟩ := List.mem_flatMap.1 hw
    obtain ⟨p, hp, rfl⟩ := List.mem_map.1 hw
    show (getT (treeF f t.1) p.1).isSome = true
    have e : treeF f t.1 = t.2 := by unfold treeF; rw [mem_getT ok.rise ht]; rfl
    rw [e, mem_getT (ok.tree t ht).rise hp]; rfl
  · rintro ⟨hb, hs⟩
    unfold getF treeF at hs
    cases hg : getT f w.name with
    | none => rw [hg] at hs; simp [getT_nil] at hs
    | some l =>
      rw [hg] at hs
      simp only [Option.getD_some] at hs
      obtain ⟨v, hv⟩ := Option.isSome_iff_exists.1 hs
      have h1 := getT_mem hg
      have h2 := getT_mem hv
      refine List.mem_flatMap.2 ⟨_, h1, List.mem_map.2 ⟨_, h2, ?_⟩⟩
      exact bare_eq ⟨rfl, rfl⟩ hb ⟨rfl, rfl⟩
/-- The places of two forests. -/
structure IsPl (a b : Forest) (ps : List Wr) : Prop where
  rise : ps.Pairwise LtW
  mem : ∀ w, w ∈ ps ↔ Bare w ∧ ((getF a w.name w.key).isSome = true ∨ (getF b w.name w.key).isSome = true)
theorem places_of {m n : Nat} {a b : Forest} (ha : ForestOk m a) (hb : ForestOk n b) {s : List Wr} (hp : s.Perm (forW a ++ forW b)) (hs : s.Pairwise (fun x y => ¬ LtW y x)) : IsPl a b (compactW s) := by
  have hbare : ∀ x ∈ s, Bare x := fun x hx => by
    rcases List.mem_append.1 (hp.mem_iff.1 hx) with h | h
    · exact forW_bare x h
    · exact forW_bare x h
  refine ⟨compactW_rise hs, fun w => ?_⟩
  rw [compactW_mem hbare, hp.mem_iff, List.mem_append, forW_mem ha, forW_mem hb]
  constructor
  · rintro (h | h)
    · exact ⟨h.1, .inl h.2⟩
    · exact ⟨h.1, .inr h.2⟩
  · rintro ⟨h, k | k⟩
    · exact .inl ⟨h, k⟩
    · exact .inr ⟨h, k⟩
/-- The changes. -/
def difP (a b : Forest) (ps : List Wr) : List Wr := ps.filter fun w => decide (getF a w.name w.key ≠ getF b w.name w.key)
def chgW (b : Forest) (w : Wr) : Wr := ⟨w.name, w.key, !(getF b w.name w.key).isSome, (getF b w.name w.key).getD []⟩
def chgs (a b : Forest) (ps : List Wr) : List Wr := (difP a b ps).map (chgW b)
theorem difP_self (a : Forest) (ps : List Wr) : difP a a ps = [] := by
  unfold difP; simp
theorem chg_skip {x y : Option By} : (x.isSome = y.isSome ∧ x.getD [] = y.getD []) ↔ x = y := by
  cases x <;> cases y <;> simp
theorem difP_snoc (a b : Forest) (ps : List Wr) (w : Wr) : difP a b (ps ++ [w]) = if getF a w.name w.key = getF b w.name w.key then difP a b ps else difP a b ps ++ [w] := by
  unfold difP
  rw [List.filter_append]
  by_cases h : getF a w.name w.key = getF b w.name w.key
  · rw [if_pos h]; simp [h]
  · rw [if_neg h]; simp [h]
theorem chgs_snoc (a b : Forest) (ps : List Wr) (w : Wr) : chgs a b (ps ++ [w]) = if getF a w.name w.key = getF b w.name w.key then chgs a b ps else chgs a b ps ++ [chgW b w] := by
  unfold chgs
  rw [difP_snoc]
  split
  · rfl
  · rw [List.map_append]; rfl
theorem chg_ok {m n : Nat} {a b : Forest} (ha : ForestOk m a) (hb : ForestOk n b) {ps : List Wr} (h : IsPl a b ps) {w : Wr} (hw : w ∈ ps) : NameOk w.name ∧ 1 ≤ w.key.length ∧ w.key.length ≤ 16 := by
  have key : ∀ {m : Nat} {f : Forest}, ForestOk m f → (getF f w.name w.key).isSome = true → NameOk w.name ∧ 1 ≤ w.key.length ∧ w.key.length ≤ 16 := by
    intro m f ok hs
    unfold getF treeF at hs
    cases hg : getT f w.name with
    | none => rw [hg] at hs; simp [getT_nil] at hs
    | some l =>
      rw [hg] at hs
      simp only [Option.getD_some] at hs
      obtain ⟨v, hv⟩ := Option.isSome_iff_exists.1 hs
      have h1 := getT_mem hg
      have h2 := (ok.tree _ h1).ok _ (getT_mem hv)
      exact ⟨ok.name _ h1, h2.1, h2.2.1⟩
  rcases ((h.mem w).1 hw).2 with k | k
  · exact key ha k
  · exact key hb k
theorem chgW_ok {m n : Nat} {a b : Forest} (ha : ForestOk m a) (hb : ForestOk n b) {ps : List Wr} (h : IsPl a b ps) {w : Wr} (hw : w ∈ ps) : WrOk (chgW b w) := by
  obtain ⟨h1, h2, h3⟩ := chg_ok ha hb h hw
  have hv : ((getF b w.name w.key).getD []).length ≤ 32 := by
    cases e : getF b w.name w.key with
    | none => simp
    | some v =>
      unfold getF treeF at e
      cases hg : getT b w.name with
      | none => rw [hg] at e; simp [getT_nil] at e
      | some l =>
        rw [hg] at e
        simp only [Option.getD_some] at e
        exact ((hb.tree _ (getT_mem hg)).ok _ (getT_mem e)).2.2
  refine ⟨h1, h2, h3, hv, fun hg => ?_⟩
  have : (getF b w.name w.key).isSome = false := by simpa [chgW] using hg
  show (getF b w.name w.key).getD [] = []
  cases e : getF b w.name w.key with
  | none => rfl
  | some v => rw [e] at this; cases this
end Go.Proofs.Ytlimmmidfhpakaa
