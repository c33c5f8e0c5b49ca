/- Rules, plain laws and walks: K4 P29 SM -/
import Derived.Test.YtlimmmidfhpakaaGM3
import Derived.Test.YtlimmmidfhpakaaGM2
import Derived.Maps.OwnSet
namespace Go.Proofs.Ytlimmmidfhpakaa
open Go.RowKit
set_option maxRecDepth 100000
set_option linter.unusedVariables false
set_option linter.unusedSimpArgs false
set_option maxHeartbeats 8000000 in
theorem keepWrite_spec (F : Fz) (w : World) (v : Value) (p : Pl) (hs : Sat w F) (hv : PlV F v p) :
    Calls Try.prog 6 #[v] w (Gives w F fun F' u => WrV F' u (writeP p)) := by
 obtain ⟨x0, y0, x1, y1, x2, y2, rfl, h0, h1, h2⟩ := hv
 have S := St.start hs
 go_enter Try.func6, Try.ntmps6
 refine wp_seq_k (fun K1 hK1 => region_wl ?_)
 refine stNew S (v := fun n => .pointer (some ⟨n, 0, none⟩)) rfl (ex_box (v := (.agg #[(.slice x0 p.name.length y0), (.slice x1 p.key.length y1), (.slice x2 p.value.length y2), (.bool p.gone)])) rfl) (fun n2 w3 S4 => ?_)
 simp only [pS, pN, pA, pC, pZ]
 have S4 : St w F w3 F [⟨n2, [(.slice x0 p.name.length y0), (.slice x1 p.key.length y1), (.slice x2 p.value.length y2), (.bool p.gone)], 30⟩] [] := S4
 refine stNew S4 (v := fun n => .pointer (some ⟨n, 0, none⟩)) rfl (ex_alloc (zero_27 _)) (fun n5 w6 S7 => ?_)
 simp only [pS, pN, pA, pC, pZ]
 have S7 : St w F w6 F [⟨n5, [(.slice none 0 0), (.slice none 0 0), (.bool false), (.slice none 0 0)], 27⟩, ⟨n2, [(.slice x0 p.name.length y0), (.slice x1 p.key.length y1), (.slice x2 p.value.length y2), (.bool p.gone)], 30⟩] [] := S7
 refine wl_nil (hK1 _ _ ?_)
 refine wp_seq_k (fun K8 hK8 => ?_)
 refine region_gw F 10 [(2, .made (fun F' u => Bs F' u (nameL p.name))), (5, .made (fun F' u => Bs F' u (keyL p.key))), (8, .made (fun F' u => WrV F' u (⟨(nameL p.name), (keyL p.key), p.gone, ([] : By)⟩ : Wr))), (9, .rel (NewAt w6 [(.slice none 0 0), (.slice none 0 0), (.bool false), (.slice none 0 0)] 27) (NewAt.stable _ _ _))] (by kernel_rfl) (by kernel_rfl) ?_
 simp only [List.take_succ_cons, List.take_zero]
 refine gw_pure rfl rfl (.pointer (some ⟨n2, 0, none⟩)) (fun w9 hCw9 => pureAt_of (ex_field (q := ⟨n2, 0, none⟩) rfl (fa_30_0 _ _))) ?_
 simp only [pS, pN, pA, pC, pZ]
 refine gw_pure rfl rfl (.slice x0 p.name.length y0) (fun w9 hCw9 => pureAt_of (ex_load rfl (load1 (nagg_25 _) (St.cell (St.tells S7 hCw9) (i := 1) rfl rfl)))) ?_
 simp only [pS, pN, pA, pC, pZ]
 refine gw_rel rfl rfl (fun w9 hCw9 hF => does_call (ex_fn (vs := #[(.slice x0 p.name.length y0)]) (map1 rfl) rfl (ent_20 _ _)) (call_made S7.sat hCw9 (name_spec _ _ _ p.name ((St.tells S7 hCw9)).sat h0))) (fun v10 => ?_)
 simp only [pS, pN, pA, pC, pZ]
 refine gw_pure rfl rfl (.pointer (some ⟨n2, 1, none⟩)) (fun w9 hCw9 => pureAt_of (ex_field (q := ⟨n2, 1, none⟩) rfl (fa_30_1 _ _))) ?_
 simp only [pS, pN, pA, pC, pZ]
 refine gw_pure rfl rfl (.slice x1 p.key.length y1) (fun w9 hCw9 => pureAt_of (ex_load rfl (load1 (nagg_25 _) (St.cell (St.tells S7 hCw9) (i := 1) rfl rfl)))) ?_
 simp only [pS, pN, pA, pC, pZ]
 refine gw_rel rfl rfl (fun w9 hCw9 hF => does_call (ex_fn (vs := #[(.slice x1 p.key.length y1)]) (map1 rfl) rfl (ent_21 _ _)) (call_made S7.sat hCw9 (key_spec _ _ _ p.key ((St.tells S7 hCw9)).sat h1))) (fun v11 => ?_)
 simp only [pS, pN, pA, pC, pZ]
 refine gw_pure rfl rfl (.pointer (some ⟨n2, 3, none⟩)) (fun w9 hCw9 => pureAt_of (ex_field (q := ⟨n2, 3, none⟩) rfl (fa_30_3 _ _))) ?_
 simp only [pS, pN, pA, pC, pZ]
 refine gw_pure rfl rfl (.bool p.gone) (fun w9 hCw9 => pureAt_of (ex_load rfl (load1 (nagg_4 _) (St.cell (St.tells S7 hCw9) (i := 1) rfl rfl)))) ?_
 simp only [pS, pN, pA, pC, pZ]
 refine gw_rel rfl rfl (fun w9 hCw9 hF_ => ?_) (fun v12 => ?_)
 ·obtain ⟨F13, g14, R15⟩ := hF_.get 2 (by kernel_rfl) rfl rfl
  obtain ⟨F18, g19, R20⟩ := hF_.get 5 (by kernel_rfl) rfl rfl
  have hR0 := (R15.mono (both_left F13 F18))
  obtain ⟨xa23, xc24, rfl, _⟩ := hR0.shape
  have hR1 := (R20.mono (both_right g14.sat g19.sat))
  obtain ⟨xa25, xc26, rfl, _⟩ := hR1.shape
  have hR3 := Bs.nil (both F13 F18)
  exact does_val (ex_build (bmap3 rfl rfl rfl) (by kernel_rfl)) ⟨(both F13 F18), (g14.both g19), ⟨_, _, _, _, _, _, rfl, hR0, hR1, hR3⟩⟩ (Below.refl _ _)
 simp only [pS, pN, pA, pC, pZ]
 refine gw_rel rfl rfl (fun w9 hCw9 _ => does_alloc (cs := [(.slice none 0 0), (.slice none 0 0), (.bool false), (.slice none 0 0)]) (zero_27 _) rfl hCw9) (fun v27 => ?_)
 simp only [pS, pN, pA, pC, pZ]
 refine gw_nil ?_
 intro w28 hC30 hF31
 obtain ⟨n32, rfl, hn33, hb34⟩ := hF31.getR 9 rfl rfl
 have hnbn32 : ∀ u ∈ [(.slice none 0 0), (.slice none 0 0), (.bool false), (.slice none 0 0)], ∀ x, u ≠ bv x := by intro u hu x; simp only [List.mem_cons, List.not_mem_nil, or_false] at hu; rcases hu with rfl | rfl | rfl | rfl <;> (unfold bv; simp)
 obtain ⟨F35, g36, R37⟩ := hF31.get 8 rfl rfl
 have g38 := g36.dropF S7.sat hn33
 have R39 := WrV.dropF g36.sat hb34 hnbn32 R37
 have S29 := St.addBlk (cs := [(.slice none 0 0), (.slice none 0 0), (.bool false), (.slice none 0 0)]) S7 g38 hn33 (dropF_at _ _) hb34
 have le41 : Le _ _ := g38.le S7.sat
 have R42 := R39
 generalize (dropF F35 n32) = F40 at *
 obtain ⟨xa43, xc44, xa46, xc47, xa49, xc50, rfl, r45, r48, r51⟩ := R42
 have r45 : Bs _ (.slice xa43 (nameL p.name).length xc44) (nameL p.name) := r45
 have r48 : Bs _ (.slice xa46 (keyL p.key).length xc47) (keyL p.key) := r48
 have r51 : Bs _ (.slice xa49 ([] : By).length xc50) ([] : By) := r51
 clear hF31
 simp only [List.drop_succ_cons, List.drop_zero]
 have S29 : St w F w28 F40 [⟨n32, [(.slice none 0 0), (.slice none 0 0), (.bool false), (.slice none 0 0)], 27⟩, ⟨n5, [(.slice none 0 0), (.slice none 0 0), (.bool false), (.slice none 0 0)], 27⟩, ⟨n2, [(.slice x0 p.name.length y0), (.slice x1 p.key.length y1), (.slice x2 p.value.length y2), (.bool p.gone)], 30⟩] [] := S29
 refine stStore (i := 0) (v := (.agg #[(.slice xa43 (nameL p.name).length xc44), (.slice xa46 (keyL p.key).length xc47), (.bool p.gone), (.slice xa49 ([] : By).length xc50)])) S29 rfl rfl rfl rfl (size_27) (allc4 rfl rfl rfl rfl) (Nat.le_of_ble_eq_true rfl) (fun w52 S53 => ?_)
 simp only [pS, pN, pA, pC, pZ]
 have S53 : St w F w52 F40 [⟨n32, [(.slice xa43 (nameL p.name).length xc44), (.slice xa46 (keyL p.key).length xc47), (.bool p.gone), (.slice xa49 ([] : By).length xc50)], 27⟩, ⟨n5, [(.slice none 0 0), (.slice none 0 0), (.bool false), (.slice none 0 0)], 27⟩, ⟨n2, [(.slice x0 p.name.length y0), (.slice x1 p.key.length y1), (.slice x2 p.value.length y2), (.bool p.gone)], 30⟩] [] := S53
 refine wl_nil (hK8 _ _ ?_)
 refine wp_seq_k (fun K54 hK54 => ?_)
 refine wp_seq_k (fun K55 hK55 => region_wl ?_)
 refine do_ rfl (.pointer (some ⟨n2, 3, none⟩)) (ex_field (q := ⟨n2, 3, none⟩) rfl (fa_30_3 _ _)) ?_
 simp only [pS, pN, pA, pC, pZ]
 refine do_ rfl (.bool p.gone) (ex_load rfl (load1 (nagg_4 _) (St.cell S53 (i := 2) rfl rfl))) ?_
 simp only [pS, pN, pA, pC, pZ]
 refine do_ rfl (.bool (!p.gone)) (ex_not rfl rfl) ?_
 simp only [pS, pN, pA, pC, pZ]
 refine wl_nil (hK55 _ _ ?_)
 refine wp_cond_split rfl (fun hc56 => ?_) (fun hc56 => ?_)
 ·refine region_wl ?_
  refine do_ rfl (.pointer (some ⟨n2, 2, none⟩)) (ex_field (q := ⟨n2, 2, none⟩) rfl (fa_30_2 _ _)) ?_
  simp only [pS, pN, pA, pC, pZ]
  refine do_ rfl (.slice x2 p.value.length y2) (ex_load rfl (load1 (nagg_25 _) (St.cell S53 (i := 2) rfl rfl))) ?_
  simp only [pS, pN, pA, pC, pZ]
  refine stGives S53 rfl (ex_fn (vs := #[(.slice x2 p.value.length y2), (.int .i64 32)]) (map2 rfl rfl) rfl (ent_22 _ _)) (some_spec _ _ _ p.value 32 (S53).sat (h2.mono le41) (by omega) (by omega)) ?_
  intro v62 w57 F59 S58 le60 R61
  obtain ⟨xa63, xc64, rfl, _⟩ := R61.shape
  simp only [pS, pN, pA, pC, pZ]
  refine do_ rfl (.pointer (some ⟨n32, 3, none⟩)) (ex_field (q := ⟨n32, 3, none⟩) rfl (fa_27_3 _ _)) ?_
  simp only [pS, pN, pA, pC, pZ]
  refine stStore (i := 0) (v := (.slice xa63 (p.value.take 32).length xc64)) S58 rfl rfl rfl rfl (size_25) (allc1 rfl) (Nat.le_of_ble_eq_true rfl) (fun w65 S66 => ?_)
  simp only [pS, pN, pA, pC, pZ]
  have S66 : St w F w65 F59 [⟨n32, [(.slice xa43 (nameL p.name).length xc44), (.slice xa46 (keyL p.key).length xc47), (.bool p.gone), (.slice xa63 (p.value.take 32).length xc64)], 27⟩, ⟨n5, [(.slice none 0 0), (.slice none 0 0), (.bool false), (.slice none 0 0)], 27⟩, ⟨n2, [(.slice x0 p.name.length y0), (.slice x1 p.key.length y1), (.slice x2 p.value.length y2), (.bool p.gone)], 30⟩] [] := S66
  refine wl_nil (hK54 _ _ ?_)
  refine wp_seq_k (fun K67 hK67 => region_wl ?_)
  refine do_ rfl (.agg #[(.slice xa43 (nameL p.name).length xc44), (.slice xa46 (keyL p.key).length xc47), (.bool p.gone), (.slice xa63 (p.value.take 32).length xc64)]) (ex_load rfl (loadN (cs := [(.slice xa43 (nameL p.name).length xc44), (.slice xa46 (keyL p.key).length xc47), (.bool p.gone), (.slice xa63 (p.value.take 32).length xc64)]) Try.underlying27 rfl (size_27) (St.range S66 (i := 0) rfl 0 [(.slice xa43 (nameL p.name).length xc44), (.slice xa46 (keyL p.key).length xc47), (.bool p.gone), (.slice xa63 (p.value.take 32).length xc64)] (sub_range 0 rfl)))) ?_
  simp only [pS, pN, pA, pC, pZ]
  refine stStore (i := 1) (v := (.agg #[(.slice xa43 (nameL p.name).length xc44), (.slice xa46 (keyL p.key).length xc47), (.bool p.gone), (.slice xa63 (p.value.take 32).length xc64)])) S66 rfl rfl rfl rfl (size_27) (allc4 rfl rfl rfl rfl) (Nat.le_of_ble_eq_true rfl) (fun w68 S69 => ?_)
  simp only [pS, pN, pA, pC, pZ]
  have S69 : St w F w68 F59 [⟨n32, [(.slice xa43 (nameL p.name).length xc44), (.slice xa46 (keyL p.key).length xc47), (.bool p.gone), (.slice xa63 (p.value.take 32).length xc64)], 27⟩, ⟨n5, [(.slice xa43 (nameL p.name).length xc44), (.slice xa46 (keyL p.key).length xc47), (.bool p.gone), (.slice xa63 (p.value.take 32).length xc64)], 27⟩, ⟨n2, [(.slice x0 p.name.length y0), (.slice x1 p.key.length y1), (.slice x2 p.value.length y2), (.bool p.gone)], 30⟩] [] := S69
  refine wl_nil (hK67 _ _ ?_)
  refine wp_ret ?_
  (try simp only [Exit.then, Exit.inBlock, ↓reduceIte, Nat.reduceEqDiff])
  refine bodyPost_ret (v := (.agg #[(.slice xa43 (nameL p.name).length xc44), (.slice xa46 (keyL p.key).length xc47), (.bool p.gone), (.slice xa63 (p.value.take 32).length xc64)])) ?_ rfl ?_
  ·exact res_c rfl ⟨_, rfl, loadN (cs := [(.slice xa43 (nameL p.name).length xc44), (.slice xa46 (keyL p.key).length xc47), (.bool p.gone), (.slice xa63 (p.value.take 32).length xc64)]) Try.underlying27 rfl (size_27) (St.range S69 (i := 1) rfl 0 [(.slice xa43 (nameL p.name).length xc44), (.slice xa46 (keyL p.key).length xc47), (.bool p.gone), (.slice xa63 (p.value.take 32).length xc64)] (sub_range 0 rfl))⟩
  ·have hw : writeP p = ⟨nameL p.name, keyL p.key, p.gone, (p.value.take 32)⟩ := by unfold writeP; rw [show p.gone = false from by simpa using hc56]; rfl
   rw [hw]
   exact ⟨_, _, rfl, S69.gr, _, _, _, _, _, _, rfl, (r45.mono le60), (r48.mono le60), R61⟩
 ·refine wp_skip ?_
  refine hK54 _ _ ?_
  refine wp_seq_k (fun K70 hK70 => region_wl ?_)
  refine do_ rfl (.agg #[(.slice xa43 (nameL p.name).length xc44), (.slice xa46 (keyL p.key).length xc47), (.bool p.gone), (.slice xa49 ([] : By).length xc50)]) (ex_load rfl (loadN (cs := [(.slice xa43 (nameL p.name).length xc44), (.slice xa46 (keyL p.key).length xc47), (.bool p.gone), (.slice xa49 ([] : By).length xc50)]) Try.underlying27 rfl (size_27) (St.range S53 (i := 0) rfl 0 [(.slice xa43 (nameL p.name).length xc44), (.slice xa46 (keyL p.key).length xc47), (.bool p.gone), (.slice xa49 ([] : By).length xc50)] (sub_range 0 rfl)))) ?_
  simp only [pS, pN, pA, pC, pZ]
  refine stStore (i := 1) (v := (.agg #[(.slice xa43 (nameL p.name).length xc44), (.slice xa46 (keyL p.key).length xc47), (.bool p.gone), (.slice xa49 ([] : By).length xc50)])) S53 rfl rfl rfl rfl (size_27) (allc4 rfl rfl rfl rfl) (Nat.le_of_ble_eq_true rfl) (fun w71 S72 => ?_)
  simp only [pS, pN, pA, pC, pZ]
  have S72 : St w F w71 F40 [⟨n32, [(.slice xa43 (nameL p.name).length xc44), (.slice xa46 (keyL p.key).length xc47), (.bool p.gone), (.slice xa49 ([] : By).length xc50)], 27⟩, ⟨n5, [(.slice xa43 (nameL p.name).length xc44), (.slice xa46 (keyL p.key).length xc47), (.bool p.gone), (.slice xa49 ([] : By).length xc50)], 27⟩, ⟨n2, [(.slice x0 p.name.length y0), (.slice x1 p.key.length y1), (.slice x2 p.value.length y2), (.bool p.gone)], 30⟩] [] := S72
  refine wl_nil (hK70 _ _ ?_)
  refine wp_ret ?_
  (try simp only [Exit.then, Exit.inBlock, ↓reduceIte, Nat.reduceEqDiff])
  refine bodyPost_ret (v := (.agg #[(.slice xa43 (nameL p.name).length xc44), (.slice xa46 (keyL p.key).length xc47), (.bool p.gone), (.slice xa49 ([] : By).length xc50)])) ?_ rfl ?_
  ·exact res_c rfl ⟨_, rfl, loadN (cs := [(.slice xa43 (nameL p.name).length xc44), (.slice xa46 (keyL p.key).length xc47), (.bool p.gone), (.slice xa49 ([] : By).length xc50)]) Try.underlying27 rfl (size_27) (St.range S72 (i := 1) rfl 0 [(.slice xa43 (nameL p.name).length xc44), (.slice xa46 (keyL p.key).length xc47), (.bool p.gone), (.slice xa49 ([] : By).length xc50)] (sub_range 0 rfl))⟩
  ·have hw : writeP p = ⟨nameL p.name, keyL p.key, p.gone, ([] : By)⟩ := by unfold writeP; rw [show p.gone = true from by simpa using hc56]; rfl
   rw [hw]
   exact ⟨_, _, rfl, S72.gr, _, _, _, _, _, _, rfl, r45, r48, r51⟩
end Go.Proofs.Ytlimmmidfhpakaa
namespace Go.Proofs.Ytlimmmidfhpakaa
open Go.RowKit
set_option linter.unusedVariables false
set_option linter.unusedSimpArgs false
/-- A map, in the order of its entries. -/
def putM : List Pr → By → By → List Pr
  | [], k, v => [(k, v)]
  | e :: l, k, v => if e.1 = k then (k, v) :: l else e :: putM l k v
def delM : List Pr → By → List Pr
  | [], _ => []
  | e :: l, k => if e.1 = k then l else e :: delM l k
theorem getT_putM (k v j : By) : ∀ l : List Pr, getT (putM l k v) j = if k = j then some v else getT l j
  | [] => by rw [putM, getT_cons]
  | e :: l => by
    unfold putM
    split
    · rename_i h
      rw [getT_cons, getT_cons]
      by_cases c : k = j
      · simp [c]
      · rw [if_neg c, if_neg c, if_neg (by rw [h]; exact c)]
    · rename_i h
      rw [getT_cons, getT_cons, getT_putM k v j l]
      by_cases c : k = j
      · subst c; rw [if_neg h]; simp
      · simp [c]
theorem mem_putM {k v x : By} : ∀ {l : List Pr}, x ∈ (putM l k v).map (·.1) → x = k ∨ x ∈ l.map (·.1)
  | [], h => by simpa [putM] using h
  | e :: l, h => by
    unfold putM at h
    split at h
    · rename_i c
      simp only [List.map_cons, List.mem_cons] at h ⊢
      rcases h with h | h
      · exact .inl h
      · exact .inr (.inr h)
    · simp only [List.map_cons, List.mem_cons] at h ⊢
      rcases h with h | h
      · exact .inr (.inl h)
      · rcases mem_putM h with h | h
        · exact .inl h
        · exact .inr (.inr h)
theorem mem_delM {k x : By} : ∀ {l : List Pr}, x ∈ (delM l k).map (·.1) → x ∈ l.map (·.1)
  | [], h => h
  | e :: l, h => by
    unfold delM at h
    split at h
    · simp only [List.map_cons, List.mem_cons]; exact .inr h
    · simp only [List.map_cons, List.mem_cons] at h ⊢
      rcases h with h | h
      · exact .inl h
      · exact .inr (mem_delM h)
theorem nodup_putM (k v : By) : ∀ {l : List Pr}, (l.map (·.1)).Nodup → ((putM l k v).map (·.1)).Nodup
  | [], _ => by simp [putM]
  | e :: l, h => by
    unfold putM
    simp only [List.map_cons, List.nodup_cons] at h
    split
    · rename_i c
      simp only [List.map_cons, List.nodup_cons]
      exact ⟨by rw [← c]; exact h.1, h.2⟩
    · rename_i c
      simp only [List.map_cons, List.nodup_cons]
      refine ⟨fun hm => ?_, nodup_putM k v h.2⟩
      rcases mem_putM hm with q | q
      · exact c q
      · exact h.1 q
theorem nodup_delM (k : By) : ∀ {l : List Pr}, (l.map (·.1)).Nodup → ((delM l k).map (·.1)).Nodup
  | [], h => h
  | e :: l, h => by
    unfold delM
    simp only [List.map_cons, List.nodup_cons] at h
    split
    · exact h.2
    · simp only [List.map_cons, List.nodup_cons]
      exact ⟨fun hm => h.1 (mem_delM hm), nodup_delM k h.2⟩
theorem getT_delM (k j : By) : ∀ {l : List Pr}, (l.map (·.1)).Nodup → getT (delM l k) j = if k = j then none else getT l j
  | [], _ => by simp [delM, getT_nil]
  | e :: l, h => by
    unfold delM
    simp only [List.map_cons, List.nodup_cons] at h
    split
    · rename_i c
      rw [getT_cons]
      by_cases d : k = j
      · rw [if_pos d, ← d]
        refine getT_none fun p hp hk => h.1 ?_
        rw [c, ← hk]
        exact List.mem_map.2 ⟨p, hp, rfl⟩
      · rw [if_neg d, if_neg (by rw [c]; exact d)]
    · rename_i c
      rw [getT_cons, getT_cons, getT_delM k j h.2]
      by_cases d : k = j
      · subst d; rw [if_neg c]; simp
      · simp [d]
theorem nodup_le : ∀ (l S : List By), l.Nodup → (∀ x ∈ l, x ∈ S) → l.length ≤ S.length
  | [], S, _, _ => Nat.zero_le _
  | x :: l, S, hn, hs => by
    have hx := hs x (by simp)
    rw [List.nodup_cons] at hn
    have := nodup_le l (S.erase x) hn.2 (fun y hy => (List.mem_erase_of_ne (by rintro rfl; exact hn.1 hy)).2 (hs y (by simp [hy])))
    rw [List.length_erase_of_mem hx] at this
    have := List.length_pos_of_mem hx
    simp; omega
theorem getT_key {l : List Pr} {k : By} : k ∈ l.map (·.1) ↔ (getT l k).isSome = true := by
  rw [← hasT_getT, hasBy_iff, List.mem_map]
/-- A tree and a map that tell the same have as many pairs. -/
theorem same_len {l m : List Pr} (hl : Rise l) (hm : (m.map (·.1)).Nodup) (h : ∀ k, getT l k = getT m k) : l.length = m.length := by
  have hn : (l.map (·.1)).Nodup := by
    rw [List.nodup_iff_pairwise_ne, List.pairwise_map]
    exact hl.imp fun hlt => less_ne hlt
  have h1 := nodup_le (l.map (·.1)) (m.map (·.1)) hn fun x hx => by rw [getT_key] at hx ⊢; rw [← h]; exact hx
  have h2 := nodup_le (m.map (·.1)) (l.map (·.1)) hm fun x hx => by rw [getT_key] at hx ⊢; rw [h]; exact hx
  simp only [List.length_map] at h1 h2
  omega
/-- The tree and the map behind so many places. -/
def gmT (l : List Pl) (i : Nat) : List Pr := (l.take i).foldl (fun t p => nextT (writeP p) t) []
def gmM (l : List Pl) (i : Nat) : List Pr := (l.take i).foldl (fun t p => if (writeP p).gone then delM t (writeP p).key else putM t (writeP p).key (writeP p).value) []
theorem gmT_succ {l : List Pl} {i : Nat} {p : Pl} (h : l[i]? = some p) : gmT l (i + 1) = nextT (writeP p) (gmT l i) := by
  obtain ⟨hi, rfl⟩ := List.getElem?_eq_some_iff.1 h
  unfold gmT
  rw [List.take_succ_eq_append_getElem hi, List.foldl_append]; rfl
theorem gmM_succ {l : List Pl} {i : Nat} {p : Pl} (h : l[i]? = some p) : gmM l (i + 1) = if (writeP p).gone then delM (gmM l i) (writeP p).key else putM (gmM l i) (writeP p).key (writeP p).value := by
  obtain ⟨hi, rfl⟩ := List.getElem?_eq_some_iff.1 h
  unfold gmM
  rw [List.take_succ_eq_append_getElem hi, List.foldl_append]; rfl
structure GmOk (l : List Pl) (i : Nat) : Prop where
  tree : TreeOk i (gmT l i)
  nodup : ((gmM l i).map (·.1)).Nodup
  same : ∀ k, getT (gmT l i) k = getT (gmM l i) k
  len : (gmM l i).length ≤ i
theorem gm_ok (l : List Pl) : ∀ i, i ≤ l.length → GmOk l i
  | 0, _ => ⟨TreeOk.nil 0, by simp [gmM], fun k => by simp [gmT, gmM], by simp [gmM]⟩
  | i + 1, hi => by
    have h := gm_ok l i (by omega)
    have hp : l[i]? = some (l[i]'(by omega)) := List.getElem?_eq_getElem (by omega)
    have e1 := gmT_succ hp
    have e2 := gmM_succ hp
    have ht := nextT_ok h.tree (writeP_ok (l[i]'(by omega)))
    rw [← e1] at ht
    have hn : ((gmM l (i + 1)).map (·.1)).Nodup := by
      rw [e2]; split
      · exact nodup_delM _ h.nodup
      · exact nodup_putM _ _ h.nodup
    have hs : ∀ k, getT (gmT l (i + 1)) k = getT (gmM l (i + 1)) k := fun k => by
      rw [e1, e2, nextT_get h.tree.rise]
      split <;> rename_i c
      · split <;> rename_i d
        · rw [getT_delM _ _ h.nodup, if_pos c]
        · rw [getT_putM, if_pos c]
      · split <;> rename_i d
        · rw [getT_delM _ _ h.nodup, if_neg c, h.same]
        · rw [getT_putM, if_neg c, h.same]
    exact ⟨ht, hn, hs, by rw [← same_len ht.rise hn hs]; exact ht.len⟩
theorem gm_len {l : List Pl} {i : Nat} (hi : i ≤ l.length) : (gmT l i).length = (gmM l i).length := same_len (gm_ok l i hi).tree.rise (gm_ok l i hi).nodup (gm_ok l i hi).same
end Go.Proofs.Ytlimmmidfhpakaa
namespace Go.Proofs.Ytlimmmidfhpakaa
open Go.RowKit Go.Instr
open Go.ChangeMaps (setBlock heap_setBlock_same heap_setBlock_other)
set_option linter.unusedVariables false
set_option linter.unusedSimpArgs false
abbrev sV (l : By) : Value := .string ⟨l.toArray⟩
def EntsM : List MapEntry → List Pr → Prop
  | [], [] => True
  | e :: es, p :: l => (e.key = sV p.1 ∧ e.val = sV p.2) ∧ EntsM es l
  | _, _ => False
def MapIs (w : World) (b : Nat) (l : List Pr) : Prop := ∃ es c, w.heap[b]? = some (.map es c) ∧ EntsM es.toList l
def mapP (b : Nat) (l : List Pr) : RowP where
  ob := some b
  holds w F := MapIs w b l
  stable := by
    intro w w' F F' h hh _ _
    obtain ⟨es, c, h1, h2⟩ := h
    exact ⟨es, c, (hh b rfl).trans h1, h2⟩
def idxM : List Pr → By → Option (Nat × By)
  | [], _ => none
  | e :: l, k => if e.1 = k then some (0, e.2) else (idxM l k).map fun p => (p.1 + 1, p.2)
theorem str_beq (a b : By) : ((⟨a.toArray⟩ : ByteArray) == ⟨b.toArray⟩) = decide (a = b) := by
  by_cases h : a = b
  · subst h
    rw [decide_eq_true rfl]
    exact (MapKept.bytes_beq _ _).2 rfl
  · rw [decide_eq_false h]
    cases e : ((⟨a.toArray⟩ : ByteArray) == ⟨b.toArray⟩) with
    | false => rfl
    | true =>
      have := (MapKept.bytes_beq _ _).1 e
      injection this with this
      exact absurd (by simpa using this) h
theorem EntsM.len : ∀ {es : List MapEntry} {l : List Pr}, EntsM es l → es.length = l.length
  | [], [], _ => rfl
  | _ :: _, _ :: _, h => by simp [h.2.len]
  | [], _ :: _, h => h.elim
  | _ :: _, [], h => h.elim
theorem find_ents : ∀ {es : List MapEntry} {l : List Pr} (k : By) (n : Nat), EntsM es l → findNow .string (sV k) es n = some ((idxM l k).map fun p => (n + p.1, sV p.2))
  | [], [], _, _, _ => rfl
  | e :: es, p :: l, k, n, h => by
    unfold findNow
    rw [h.1.1]
    have e0 : sameNow .string (sV k) (sV p.1) = some (decide (k = p.1)) := by
      show some ((⟨k.toArray⟩ : ByteArray) == ⟨p.1.toArray⟩) = _
      rw [str_beq]
    rw [e0]
    unfold idxM
    by_cases c : p.1 = k
    · rw [if_pos c, decide_eq_true c.symm]
      simp only [h.1.2]
      rfl
    · rw [if_neg c, decide_eq_false (fun e => c e.symm)]
      simp only
      rw [find_ents k (n + 1) h.2]
      cases idxM l k with
      | none => rfl
      | some q => simp only [Option.map_some]; rw [show n + 1 + q.1 = n + (q.1 + 1) by omega]
  | [], _ :: _, _, _, h => h.elim
  | _ :: _, [], _, _, h => h.elim
theorem idxM_get : ∀ (l : List Pr) (k : By), (idxM l k).map (·.2) = getT l k
  | [], _ => rfl
  | e :: l, k => by
    unfold idxM
    rw [getT_cons]
    split
    · rfl
    · rw [← idxM_get l k]; cases idxM l k <;> rfl
theorem ents_modify : ∀ {es : List MapEntry} {l : List Pr} {k v : By} {i : Nat} {o : By} {f : MapEntry → MapEntry}, EntsM es l → idxM l k = some (i, o) → (∀ e, (f e).key = sV k ∧ (f e).val = sV v) → EntsM (es.modify i f) (putM l k v)
  | [], [], _, _, _, _, _, _, h, _ => by cases h
  | e :: es, p :: l, k, v, i, o, f, h, hi, hf => by
    unfold idxM at hi
    unfold putM
    by_cases c : p.1 = k
    · rw [if_pos c] at hi ⊢
      injection hi with hi
      injection hi with h1 h2
      subst h1
      exact ⟨hf e, h.2⟩
    · rw [if_neg c] at hi ⊢
      cases e2 : idxM l k with
      | none => rw [e2] at hi; cases hi
      | some q =>
        rw [e2] at hi
        injection hi with hi
        injection hi with h1 h2
        subst h1
        exact ⟨h.1, ents_modify h.2 e2 hf⟩
  | [], _ :: _, _, _, _, _, _, h, _, _ => h.elim
  | _ :: _, [], _, _, _, _, _, h, _, _ => h.elim
theorem ents_push : ∀ {es : List MapEntry} {l : List Pr} {k v : By} {e : MapEntry}, EntsM es l → idxM l k = none → e.key = sV k → e.val = sV v → EntsM (es ++ [e]) (putM l k v)
  | [], [], _, _, _, _, _, h1, h2 => ⟨⟨h1, h2⟩, trivial⟩
  | a :: es, p :: l, k, v, e, h, hi, h1, h2 => by
    unfold idxM at hi
    unfold putM
    by_cases c : p.1 = k
    · rw [if_pos c] at hi; cases hi
    · rw [if_neg c] at hi ⊢
      exact ⟨h.1, ents_push h.2 (by cases e2 : idxM l k with | none => rfl | some q => rw [e2] at hi; cases hi) h1 h2⟩
  | [], _ :: _, _, _, _, h, _, _, _ => h.elim
  | _ :: _, [], _, _, _, h, _, _, _ => h.elim
theorem ents_erase : ∀ {es : List MapEntry} {l : List Pr} {k : By} {i : Nat} {o : By}, EntsM es l → idxM l k = some (i, o) → EntsM (es.eraseIdx i) (delM l k)
  | [], [], _, _, _, _, h => by cases h
  | a :: es, p :: l, k, i, o, h, hi => by
    unfold idxM at hi
    unfold delM
    by_cases c : p.1 = k
    · rw [if_pos c] at hi ⊢
      injection hi with hi
      injection hi with h1 h2
      subst h1
      exact h.2
    · rw [if_neg c] at hi ⊢
      cases e2 : idxM l k with
      | none => rw [e2] at hi; cases hi
      | some q =>
        rw [e2] at hi
        injection hi with hi
        injection hi with h1 h2
        subst h1
        exact ⟨h.1, ents_erase h.2 e2⟩
  | [], _ :: _, _, _, _, h, _ => h.elim
  | _ :: _, [], _, _, _, h, _ => h.elim
theorem delM_none : ∀ {l : List Pr} {k : By}, idxM l k = none → delM l k = l
  | [], _, _ => rfl
  | p :: l, k, h => by
    unfold idxM at h
    unfold delM
    by_cases c : p.1 = k
    · rw [if_pos c] at h; cases h
    · rw [if_neg c] at h ⊢
      rw [delM_none (by cases e2 : idxM l k with | none => rfl | some q => rw [e2] at h; cases h)]
section
variable {P : Program} {w : World} {mt kt et : TypeId} {b : Nat} {l : List Pr}
theorem run_checkS (hk : P.underlying kt = some .string) (x : Bool) (k : By) : (checkKey x 10000 kt (sV k)).run P w = .ok () w := MapKept.run_checkKey (d := .string) (k := sV k) hk trivial x 9999
theorem run_findS (hk : P.underlying kt = some .string) {es : List MapEntry} (h : EntsM es l) (k : By) : (findKey kt (sV k) es).run P w = .ok ((idxM l k).map fun p => (p.1, sV p.2)) w := by
  have := find_ents k 0 h
  simp only [Nat.zero_add] at this
  simp [findKey, run_underlying hk, this]
theorem run_lookS (hm : P.underlying mt = some (.map kt et)) (hk : P.underlying kt = some .string) {z : Value} (hz : (zeroValue et).run P w = .ok z w) (h : MapIs w b l) (k : By) :
    (lookup mt (.map (some b)) (sV k) true).run P w = .ok (.tuple #[match getT l k with | some v => sV v | none => z, .bool (getT l k).isSome]) w := by
  obtain ⟨es, c, h1, h2⟩ := h
  have e := idxM_get l k
  cases hi : idxM l k with
  | none =>
    rw [hi] at e
    have hf := run_findS (P := P) (w := w) hk h2 k
    rw [hi] at hf
    rw [← e]
    simp [lookup, run_underlying hm, MapKept.run_getObj_map h1, run_checkS hk, hf, hz, Result.andThen]
  | some q =>
    rw [hi] at e
    have hf := run_findS (P := P) (w := w) hk h2 k
    rw [hi] at hf
    rw [← e]
    simp [lookup, run_underlying hm, MapKept.run_getObj_map h1, run_checkS hk, hf, Result.andThen]
theorem run_staysS (k : By) : (keyThatStays (sV k) (sV k)).run P w = .ok (sV k) w := MapKept.run_keyThatStays (d := .string) trivial
theorem EntsM.at : ∀ {es : List MapEntry} {l : List Pr} {k : By} {i : Nat} {o : By}, EntsM es l → idxM l k = some (i, o) → ∃ e, es[i]? = some e ∧ e.key = sV k
  | [], [], _, _, _, _, h => by cases h
  | a :: es, p :: l, k, i, o, h, hi => by
    unfold idxM at hi
    by_cases c : p.1 = k
    · rw [if_pos c] at hi
      injection hi with hi
      injection hi with h1 h2
      subst h1
      exact ⟨a, rfl, by rw [← c]; exact h.1.1⟩
    · rw [if_neg c] at hi
      cases e2 : idxM l k with
      | none => rw [e2] at hi; cases hi
      | some q =>
        rw [e2] at hi
        injection hi with hi
        injection hi with h1 h2
        subst h1
        obtain ⟨e, q1, q2⟩ := EntsM.at h.2 e2
        exact ⟨e, by simpa using q1, q2⟩
  | [], _ :: _, _, _, _, h, _ => h.elim
  | _ :: _, [], _, _, _, h, _ => h.elim
theorem run_updS (hm : P.underlying mt = some (.map kt et)) (hk : P.underlying kt = some .string) (h : MapIs w b l) (k v : By) :
    ∃ o, w.heap[b]?.isSome = true ∧ (mapUpdate mt (.map (some b)) (sV k) (sV v)).run P w = .ok () (setBlock w b o) ∧ MapIs (setBlock w b o) b (putM l k v) := by
  obtain ⟨es, c, h1, h2⟩ := h
  have hf := run_findS (P := P) (w := w) hk h2 k
  cases hi : idxM l k with
  | none =>
    rw [hi] at hf
    refine ⟨.map (es.push { key := sV k, val := sV v, born := c }) (c + 1), by rw [h1]; rfl, ?_, _, _, heap_setBlock_same h1 _, ?_⟩
    · simp [mapUpdate, run_underlying hm, MapKept.run_getObj_map h1, run_checkS hk, hf, MapKept.run_setObj_map _ h1, Result.andThen, setBlock]
    · simp only [Array.toList_push]
      exact ents_push h2 hi rfl rfl
  | some q =>
    rw [hi] at hf
    obtain ⟨e, he1, he2⟩ := EntsM.at (i := q.1) (o := q.2) h2 hi
    have he3 : es[q.1]? = some e := by simpa using he1
    refine ⟨.map (es.modify q.1 fun e => { e with key := sV k, val := sV v }) c, by rw [h1]; rfl, ?_, _, _, heap_setBlock_same h1 _, ?_⟩
    · simp [mapUpdate, run_underlying hm, MapKept.run_getObj_map h1, run_checkS hk, hf, he3, he2, run_staysS, MapKept.run_setObj_map _ h1, Result.andThen, setBlock]
    · simp only [Array.toList_modify]
      exact ents_modify h2 hi fun e => ⟨rfl, rfl⟩
theorem run_delS (hm : P.underlying mt = some (.map kt et)) (hk : P.underlying kt = some .string) (h : MapIs w b l) (k : By) (kt' ty : TypeId) :
    ∃ o, w.heap[b]?.isSome = true ∧ (Builtin.delete_ #[mt, kt'] ty #[.map (some b), sV k]).run P w = .ok (.tuple #[]) (setBlock w b o) ∧ MapIs (setBlock w b o) b (delM l k) := by
  obtain ⟨es, c, h1, h2⟩ := h
  have hf := run_findS (P := P) (w := w) hk h2 k
  cases hi : idxM l k with
  | none =>
    rw [hi] at hf
    refine ⟨.map es c, by rw [h1]; rfl, ?_, _, _, heap_setBlock_same h1 _, ?_⟩
    · simp [Builtin.delete_, run_underlying hm, MapKept.run_getObj_map h1, run_checkS hk, hf, MapKept.run_setObj_map _ h1, Result.andThen, setBlock]
    · rw [delM_none hi]; exact h2
  | some q =>
    rw [hi] at hf
    refine ⟨.map (es.eraseIdxIfInBounds q.1) c, by rw [h1]; rfl, ?_, _, _, heap_setBlock_same h1 _, ?_⟩
    · simp [Builtin.delete_, run_underlying hm, MapKept.run_getObj_map h1, run_checkS hk, hf, MapKept.run_setObj_map _ h1, Result.andThen, setBlock]
    · have e : (es.eraseIdxIfInBounds q.1).toList = es.toList.eraseIdx q.1 := by simp
      rw [e]
      exact ents_erase h2 hi
end
section
variable {P : Program} {w0 w w' : World} {F0 F : Fz} {L : List Blk} {M : List RowP} {ops : Array Oper} {Q : Exit → Act → World → Prop} {a : Act} {rest : List Oper} {d : Option Tmp} {t : TypeId} {pos : String} {after : Array Edge} {guard : Option (Nat × Bool)} {b : Nat} {l : List Pr} {mt kt et : TypeId}
theorem St.addMap (S : St w0 F0 w F L M) : St w0 F0 (w.alloc (.map #[] 0)) F L (mapP w.heap.size [] :: M) := by
  have S' := S.gives ((Gr.refl S.sat).new (.map #[] 0))
  refine ⟨S'.gr, S'.blk, fun r hr => ?_, S'.bb, fun r hr x hx => ?_, List.pairwise_cons.2 ⟨fun r hr g hg => ?_, S.rr⟩⟩
  · rcases List.mem_cons.1 hr with rfl | hr
    · exact ⟨⟨#[], 0, heap_new_at w _ rfl, trivial⟩, fun g hg => by cases hg; exact ⟨by simp, S.sat.out (Nat.le_refl _), S.gr.below.size⟩⟩
    · exact S'.row r hr
  · rcases List.mem_cons.1 hr with rfl | hr
    · intro e
      have := S.blk_lt hx
      have e : w.heap.size = x.n := Option.some.inj e
      omega
    · exact S.rb r hr x hx
  · cases hg
    intro e
    have := ((S.row r hr).2 _ e).1
    omega
theorem St.setMap (S : St w0 F0 w F L (mapP b l :: M)) {o : Obj} (hb : w.heap[b]?.isSome = true) {l' : List Pr} (h : MapIs (setBlock w b o) b l') : St w0 F0 (setBlock w b o) F L (mapP b l' :: M) := by
  obtain ⟨es0, c0, hb, _⟩ : MapIs w b l := (S.row _ (List.mem_cons_self ..)).1
  have hr0 := (S.row _ (List.mem_cons_self ..)).2 b rfl
  have hg : w.grownBy (setBlock w b o) (some b) := ⟨rfl, rfl, rfl, by simp [setBlock], fun i _ hi => heap_setBlock_other hb _ (fun e => hi (by rw [e]))⟩
  have hsz : (setBlock w b o).heap.size = w.heap.size := by simp [setBlock]
  have hne : ∀ i, i ≠ b → (setBlock w b o).heap[i]? = w.heap[i]? := fun i hi => heap_setBlock_other hb _ hi
  refine ⟨S.gr.grown hg fun g hg' => by cases hg'; exact ⟨hr0.2.2, hr0.2.1⟩, fun x hx => ?_, fun r hr => ?_, S.bb, fun r hr x hx => ?_, ?_⟩
  · have := S.blk x hx
    exact ⟨(hne _ fun e => S.rb _ (List.mem_cons_self ..) x hx (by rw [e]; rfl)).trans this.1, this.2⟩
  · rcases List.mem_cons.1 hr with rfl | hr
    · exact ⟨h, fun g hg => by cases hg; exact ⟨by rw [hsz]; exact hr0.1, hr0.2⟩⟩
    · have h1 := S.row r (List.mem_cons_of_mem _ hr)
      have h2 : ∀ g, r.ob = some g → g ≠ b := fun g hg e => (List.pairwise_cons.1 S.rr).1 r hr b rfl (by rw [hg, e])
      exact ⟨r.stable _ _ _ _ h1.1 (fun g hg => hne g (h2 g hg)) (Le.refl _) (fun g hg => (h1.2 g hg).2.1), fun g hg => ⟨by rw [hsz]; exact (h1.2 g hg).1, (h1.2 g hg).2⟩⟩
  · rcases List.mem_cons.1 hr with rfl | hr
    · exact S.rb _ (List.mem_cons_self ..) x hx
    · exact S.rb r (List.mem_cons_of_mem _ hr) x hx
  · exact List.pairwise_cons.2 ⟨fun r hr g hg => (List.pairwise_cons.1 S.rr).1 r hr g hg, (List.pairwise_cons.1 S.rr).2⟩
theorem St.map (S : St w0 F0 w F L (mapP b l :: M)) : MapIs w b l := (S.row _ (List.mem_cons_self ..)).1
theorem stMakeMap (S : St w0 F0 w F L M) (hw : Region.wanted ⟨d, .makeMap mt none, t, pos, after, guard⟩ (yielded ops a.tmps) = true)
    (h : ∀ n w', St w0 F0 w' F L (mapP n [] :: M) → WL P ops Q rest (a.put d (.map (some n))) w') : WL P ops Q (⟨d, .makeMap mt none, t, pos, after, guard⟩ :: rest) a w :=
  do_ hw (.map (some w.heap.size)) rfl (h _ _ S.addMap)
theorem stMapUpd {x y z : Operand} {k v : By} (S : St w0 F0 w F L (mapP b l :: M)) (hw : Region.wanted ⟨d, .mapUpdate mt x y z, t, pos, after, guard⟩ (yielded ops a.tmps) = true) (hm : P.underlying mt = some (.map kt et)) (hk : P.underlying kt = some .string)
    (hx : a.eval x = .map (some b)) (hy : a.eval y = sV k) (hz : a.eval z = sV v)
    (h : ∀ w', St w0 F0 w' F L (mapP b (putM l k v) :: M) → WL P ops Q rest (a.put d undef) w') : WL P ops Q (⟨d, .mapUpdate mt x y z, t, pos, after, guard⟩ :: rest) a w := by
  obtain ⟨o, h1, h2, h3⟩ := run_updS (P := P) hm hk S.map k v
  refine doS hw ?_ (h _ (S.setMap h1 h3))
  simp [execOp, hx, hy, hz, h2, Result.andThen]
theorem stMapDel {x y : Operand} {k : By} {kt' : TypeId} (S : St w0 F0 w F L (mapP b l :: M)) (hw : Region.wanted ⟨d, .call ⟨.builtin .delete, #[x, y], #[mt, kt']⟩, t, pos, after, guard⟩ (yielded ops a.tmps) = true) (hm : P.underlying mt = some (.map kt et)) (hk : P.underlying kt = some .string)
    (hx : a.eval x = .map (some b)) (hy : a.eval y = sV k)
    (h : ∀ w', St w0 F0 w' F L (mapP b (delM l k) :: M) → WL P ops Q rest (a.put d (.tuple #[])) w') : WL P ops Q (⟨d, .call ⟨.builtin .delete, #[x, y], #[mt, kt']⟩, t, pos, after, guard⟩ :: rest) a w := by
  obtain ⟨o, h1, h2, h3⟩ := run_delS (P := P) hm hk S.map k kt' t
  refine do_ hw (.tuple #[]) ?_ (h _ (S.setMap h1 h3))
  simp only [execOp, resolve, invoke, builtin, Sem.run_bind, Sem.run_pure, Result.andThen_ok, List.map_toArray, List.map_cons, List.map_nil, hx, hy, h2]
theorem ex_look {ρ : Operand → Value} {x y : Operand} {k : By} (S : St w0 F0 w F L (mapP b l :: M)) (hm : P.underlying mt = some (.map kt et)) (hk : P.underlying kt = some .string) (hz : (zeroValue et).run P w = .ok (sV []) w)
    (hx : ρ x = .map (some b)) (hy : ρ y = sV k) : (execOp ρ ⟨d, .lookup mt x y true, t, pos, after, guard⟩).run P w = .ok (.value (.tuple #[sV ((getT l k).getD []), .bool (getT l k).isSome])) w := by
  have e : (match getT l k with | some v => sV v | none => sV []) = sV ((getT l k).getD []) := by cases getT l k <;> rfl
  simp only [execOp, Sem.run_bind, hx, hy, run_lookS hm hk hz S.map k, Result.andThen_ok, Sem.run_pure, e]
theorem ex_lenM {ρ : Operand → Value} {x : Operand} (S : St w0 F0 w F L (mapP b l :: M)) (hm : P.underlying mt = some (.map kt et)) (hx : ρ x = .map (some b)) :
    (execOp ρ ⟨d, .call ⟨.builtin .len, #[x], #[mt]⟩, t, pos, after, guard⟩).run P w = .ok (.value (.int .i64 ((l.length : Nat) : Int))) w := by
  obtain ⟨es, c, h1, h2⟩ := S.map
  have := h2.len
  simp only [execOp, resolve, invoke, builtin, Sem.run_bind, Sem.run_pure, Result.andThen_ok, List.map_toArray, List.map_cons, List.map_nil, hx]
  simp [Builtin.len_, run_underlying hm, MapKept.run_getObj_map h1, ← this]
  rfl
end
end Go.Proofs.Ytlimmmidfhpakaa
