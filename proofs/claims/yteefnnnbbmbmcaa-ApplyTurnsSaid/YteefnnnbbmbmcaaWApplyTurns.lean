/- Walk of ApplyTurns -/
import Derived.Test.YteefnnnbbmbmcaaK6
namespace Go.Proofs.Yteefnnnbbmbmcaa
open Go.RowKit
set_option maxRecDepth 100000
set_option linter.unusedVariables false
set_option linter.unusedSimpArgs false
theorem zeros_wr : (madeCells (Value.agg #[.slice none 0 0, .slice none 0 0, .bool false, .slice none 0 0]).cells (11 * 4)).toList = (List.replicate 11 [Value.slice none 0 0, .slice none 0 0, .bool false, .slice none 0 0]).flatten := by kernel_rfl
theorem wrs_zero (F : Fz) : AllR (WrC F) (List.replicate 11 [Value.slice none 0 0, .slice none 0 0, .bool false, .slice none 0 0]) (List.replicate 11 (⟨[], [], false, []⟩ : Wr)) :=
  AllR.of_get (by simp) fun i h1 h2 => by
    simp only [List.getElem_replicate]
    exact ⟨_, _, _, _, rfl, Bs.nil _, Bs.nil _, rfl, Bs.nil _⟩
theorem applyMany_spec (F : Fz) (w : World) (v u : Value) (l : Forest) (hs : Sat w F) (hv : Tns F v l) (hw : Wrs F u (List.replicate 11 (⟨[], [], false, []⟩ : Wr))) (ok1 : ForestOk 60 l) :
    Calls Try.prog 59 #[v, u] w (Gives w F (TnsE [] 1)) := by
  have := apply_spec F w v u l _ hs hv hw ok1 (fun r hr => by rw [List.eq_of_mem_replicate hr]; simp)
  have he : applyE l (List.replicate 11 (⟨[], [], false, []⟩ : Wr)) = (1, []) := by unfold applyE; rw [if_pos (by simp)]
  rwa [he] at this
set_option maxHeartbeats 8000000 in
theorem applyTurns_walk (W : World) (v0 : Value) (l0 : List Pl) (z0 : Pls (whole W) v0 l0) (p1 : Pl) (v10 : Value) (z10 : Bs (whole W) v10 p1.name) (v11 : Value) (z11 : Bs (whole W) v11 p1.key) (v12 : Value) (z12 : Bs (whole W) v12 p1.value) (p2 : Pl) (v20 : Value) (z20 : Bs (whole W) v20 p2.name) (v21 : Value) (z21 : Bs (whole W) v21 p2.key) (v22 : Value) (z22 : Bs (whole W) v22 p2.value) :
    Calls Try.prog 18 #[v0, .agg #[v10, v11, v12, .bool p1.gone], .agg #[v20, v21, v22, .bool p2.gone]] W (Tells W (.bool true)) := by
  obtain ⟨a0, c0, rfl, q0, q0'⟩ := Sl.shape z0
  obtain ⟨a10, c10, rfl, _⟩ := z10.shape
  obtain ⟨a11, c11, rfl, _⟩ := z11.shape
  obtain ⟨a12, c12, rfl, _⟩ := z12.shape
  obtain ⟨a20, c20, rfl, _⟩ := z20.shape
  obtain ⟨a21, c21, rfl, _⟩ := z21.shape
  obtain ⟨a22, c22, rfl, _⟩ := z22.shape
  have okf : ForestOk 60 (forestW (writesN l0 20)) := (forestW_ok (writesN_ok l0 20)).mono (by have := writesN_len l0 20; omega)
  obtain ⟨i67, hi67, hz67, hs67, hb67⟩ := info_parts info_67
  have S := St.start (Sat.whole W)
  go_enter Try.func18, Try.ntmps18
  refine wp_seq_k (fun K1 hK1 => ?_)
  refine region_wl ?_
  refine stNew S (v := fun n => .pointer (some ⟨n, 0, none⟩)) rfl (ex_box (v := (.agg #[(.slice a10 p1.name.length c10), (.slice a11 p1.key.length c11), (.slice a12 p1.value.length c12), (.bool p1.gone)])) rfl) (fun n2 w3 S4 => ?_)
  simp only [Act.put, List.setIfInBounds_toArray, List.set_cons_succ, List.set_cons_zero]
  have S4 : St W (whole W) w3 (whole W) [⟨n2, [(.slice a10 p1.name.length c10), (.slice a11 p1.key.length c11), (.slice a12 p1.value.length c12), (.bool p1.gone)], 70⟩] [] := S4
  refine stNew S4 (v := fun n => .pointer (some ⟨n, 0, none⟩)) rfl (ex_box (v := (.agg #[(.slice a20 p2.name.length c20), (.slice a21 p2.key.length c21), (.slice a22 p2.value.length c22), (.bool p2.gone)])) rfl) (fun n5 w6 S7 => ?_)
  simp only [Act.put, List.setIfInBounds_toArray, List.set_cons_succ, List.set_cons_zero]
  have S7 : St W (whole W) w6 (whole W) [⟨n5, [(.slice a20 p2.name.length c20), (.slice a21 p2.key.length c21), (.slice a22 p2.value.length c22), (.bool p2.gone)], 70⟩, ⟨n2, [(.slice a10 p1.name.length c10), (.slice a11 p1.key.length c11), (.slice a12 p1.value.length c12), (.bool p1.gone)], 70⟩] [] := S7
  refine do_ rfl (.bool false) (ex_assign _) ?_
  simp only [Act.put, List.setIfInBounds_toArray, List.set_cons_succ, List.set_cons_zero]
  refine wl_nil ?_
  (try simp only [Exit.then, Exit.inBlock, ↓reduceIte, Nat.reduceEqDiff])
  refine hK1 _ _ ?_
  refine wp_seq_k (fun K8 hK8 => ?_)
  refine region_wl ?_
  refine do_ rfl (.slice a0 l0.length c0) (ex_move _) ?_
  simp only [Act.put, List.setIfInBounds_toArray, List.set_cons_succ, List.set_cons_zero]
  refine stGives S7 rfl (ex_fn (vs := #[(.slice a0 l0.length c0), (.int .i64 20)]) (map2 rfl rfl) rfl (ent_57 _ _)) (forest_spec _ _ _ l0 20 (S7).sat z0 (by omega)) ?_
  intro v14 w9 F11 S10 le12 R13
  obtain ⟨a15, c16, rfl, h17, h18⟩ := Sl.shape R13
  unfold maxLen at h18
  have R13 : Tns _ (.slice a15 (forestW (writesN l0 20)).length c16) (forestW (writesN l0 20)) := R13
  simp only [Act.put, List.setIfInBounds_toArray, List.set_cons_succ, List.set_cons_zero]
  have S10 : St W (whole W) w9 F11 [⟨n5, [(.slice a20 p2.name.length c20), (.slice a21 p2.key.length c21), (.slice a22 p2.value.length c22), (.bool p2.gone)], 70⟩, ⟨n2, [(.slice a10 p1.name.length c10), (.slice a11 p1.key.length c11), (.slice a12 p1.value.length c12), (.bool p1.gone)], 70⟩] [] := S10
  refine do_ rfl (.slice a15 (forestW (writesN l0 20)).length c16) (ex_assign _) ?_
  simp only [Act.put, List.setIfInBounds_toArray, List.set_cons_succ, List.set_cons_zero]
  refine wl_nil ?_
  (try simp only [Exit.then, Exit.inBlock, ↓reduceIte, Nat.reduceEqDiff])
  refine hK8 _ _ ?_
  refine wp_seq_k (fun K19 hK19 => ?_)
  refine region_wl ?_
  refine do_ rfl (.agg #[(.slice a10 p1.name.length c10), (.slice a11 p1.key.length c11), (.slice a12 p1.value.length c12), (.bool p1.gone)]) (ex_load rfl (loadN (cs := [(.slice a10 p1.name.length c10), (.slice a11 p1.key.length c11), (.slice a12 p1.value.length c12), (.bool p1.gone)]) Try.underlying70 rfl (size_70) (St.range S10 (i := 1) rfl 0 [(.slice a10 p1.name.length c10), (.slice a11 p1.key.length c11), (.slice a12 p1.value.length c12), (.bool p1.gone)] (sub_range 0 rfl)))) ?_
  simp only [Act.put, List.setIfInBounds_toArray, List.set_cons_succ, List.set_cons_zero]
  refine stGives S10 rfl (ex_fn (vs := #[(.agg #[(.slice a10 p1.name.length c10), (.slice a11 p1.key.length c11), (.slice a12 p1.value.length c12), (.bool p1.gone)])]) (map1 rfl) rfl (ent_56 _ _)) (keepWrite_spec _ _ _ p1 (S10).sat ⟨_, _, _, _, _, _, rfl, (z10.mono le12), (z11.mono le12), (z12.mono le12)⟩) ?_
  intro v25 w20 F22 S21 le23 R24
  obtain ⟨xa26, xc27, xa28, xc29, xa30, xc31, rfl, r32, r33, r34⟩ := R24
  simp only [Act.put, List.setIfInBounds_toArray, List.set_cons_succ, List.set_cons_zero]
  have S21 : St W (whole W) w20 F22 [⟨n5, [(.slice a20 p2.name.length c20), (.slice a21 p2.key.length c21), (.slice a22 p2.value.length c22), (.bool p2.gone)], 70⟩, ⟨n2, [(.slice a10 p1.name.length c10), (.slice a11 p1.key.length c11), (.slice a12 p1.value.length c12), (.bool p1.gone)], 70⟩] [] := S21
  refine stNew S21 (v := fun n => .pointer (some ⟨n, 0, none⟩)) rfl (ex_alloc (zero_67 _)) (fun n35 w36 S37 => ?_)
  simp only [Act.put, List.setIfInBounds_toArray, List.set_cons_succ, List.set_cons_zero]
  have S37 : St W (whole W) w36 F22 [⟨n35, [(.slice none 0 0), (.slice none 0 0), (.bool false), (.slice none 0 0)], 67⟩, ⟨n5, [(.slice a20 p2.name.length c20), (.slice a21 p2.key.length c21), (.slice a22 p2.value.length c22), (.bool p2.gone)], 70⟩, ⟨n2, [(.slice a10 p1.name.length c10), (.slice a11 p1.key.length c11), (.slice a12 p1.value.length c12), (.bool p1.gone)], 70⟩] [] := S37
  refine stStore (i := 0) (v := (.agg #[(.slice xa26 (writeP p1).name.length xc27), (.slice xa28 (writeP p1).key.length xc29), (.bool (writeP p1).gone), (.slice xa30 (writeP p1).value.length xc31)])) S37 rfl rfl rfl rfl (size_67) (allc4 rfl rfl rfl rfl) (Nat.le_of_ble_eq_true rfl) (fun w38 S39 => ?_)
  simp only [Act.put, List.setIfInBounds_toArray, List.set_cons_succ, List.set_cons_zero]
  have S39 : St W (whole W) w38 F22 [⟨n35, [(.slice xa26 (writeP p1).name.length xc27), (.slice xa28 (writeP p1).key.length xc29), (.bool (writeP p1).gone), (.slice xa30 (writeP p1).value.length xc31)], 67⟩, ⟨n5, [(.slice a20 p2.name.length c20), (.slice a21 p2.key.length c21), (.slice a22 p2.value.length c22), (.bool p2.gone)], 70⟩, ⟨n2, [(.slice a10 p1.name.length c10), (.slice a11 p1.key.length c11), (.slice a12 p1.value.length c12), (.bool p1.gone)], 70⟩] [] := S39
  refine wl_nil ?_
  (try simp only [Exit.then, Exit.inBlock, ↓reduceIte, Nat.reduceEqDiff])
  refine hK19 _ _ ?_
  refine wp_seq_k (fun K40 hK40 => ?_)
  refine region_wl ?_
  refine do_ rfl (.agg #[(.slice a20 p2.name.length c20), (.slice a21 p2.key.length c21), (.slice a22 p2.value.length c22), (.bool p2.gone)]) (ex_load rfl (loadN (cs := [(.slice a20 p2.name.length c20), (.slice a21 p2.key.length c21), (.slice a22 p2.value.length c22), (.bool p2.gone)]) Try.underlying70 rfl (size_70) (St.range S39 (i := 1) rfl 0 [(.slice a20 p2.name.length c20), (.slice a21 p2.key.length c21), (.slice a22 p2.value.length c22), (.bool p2.gone)] (sub_range 0 rfl)))) ?_
  simp only [Act.put, List.setIfInBounds_toArray, List.set_cons_succ, List.set_cons_zero]
  refine stGives S39 rfl (ex_fn (vs := #[(.agg #[(.slice a20 p2.name.length c20), (.slice a21 p2.key.length c21), (.slice a22 p2.value.length c22), (.bool p2.gone)])]) (map1 rfl) rfl (ent_56 _ _)) (keepWrite_spec _ _ _ p2 (S39).sat ⟨_, _, _, _, _, _, rfl, (z20.mono (le12.trans le23)), (z21.mono (le12.trans le23)), (z22.mono (le12.trans le23))⟩) ?_
  intro v46 w41 F43 S42 le44 R45
  obtain ⟨xa47, xc48, xa49, xc50, xa51, xc52, rfl, r53, r54, r55⟩ := R45
  simp only [Act.put, List.setIfInBounds_toArray, List.set_cons_succ, List.set_cons_zero]
  have S42 : St W (whole W) w41 F43 [⟨n35, [(.slice xa26 (writeP p1).name.length xc27), (.slice xa28 (writeP p1).key.length xc29), (.bool (writeP p1).gone), (.slice xa30 (writeP p1).value.length xc31)], 67⟩, ⟨n5, [(.slice a20 p2.name.length c20), (.slice a21 p2.key.length c21), (.slice a22 p2.value.length c22), (.bool p2.gone)], 70⟩, ⟨n2, [(.slice a10 p1.name.length c10), (.slice a11 p1.key.length c11), (.slice a12 p1.value.length c12), (.bool p1.gone)], 70⟩] [] := S42
  refine stNew S42 (v := fun n => .pointer (some ⟨n, 0, none⟩)) rfl (ex_alloc (zero_67 _)) (fun n56 w57 S58 => ?_)
  simp only [Act.put, List.setIfInBounds_toArray, List.set_cons_succ, List.set_cons_zero]
  have S58 : St W (whole W) w57 F43 [⟨n56, [(.slice none 0 0), (.slice none 0 0), (.bool false), (.slice none 0 0)], 67⟩, ⟨n35, [(.slice xa26 (writeP p1).name.length xc27), (.slice xa28 (writeP p1).key.length xc29), (.bool (writeP p1).gone), (.slice xa30 (writeP p1).value.length xc31)], 67⟩, ⟨n5, [(.slice a20 p2.name.length c20), (.slice a21 p2.key.length c21), (.slice a22 p2.value.length c22), (.bool p2.gone)], 70⟩, ⟨n2, [(.slice a10 p1.name.length c10), (.slice a11 p1.key.length c11), (.slice a12 p1.value.length c12), (.bool p1.gone)], 70⟩] [] := S58
  refine stStore (i := 0) (v := (.agg #[(.slice xa47 (writeP p2).name.length xc48), (.slice xa49 (writeP p2).key.length xc50), (.bool (writeP p2).gone), (.slice xa51 (writeP p2).value.length xc52)])) S58 rfl rfl rfl rfl (size_67) (allc4 rfl rfl rfl rfl) (Nat.le_of_ble_eq_true rfl) (fun w59 S60 => ?_)
  simp only [Act.put, List.setIfInBounds_toArray, List.set_cons_succ, List.set_cons_zero]
  have S60 : St W (whole W) w59 F43 [⟨n56, [(.slice xa47 (writeP p2).name.length xc48), (.slice xa49 (writeP p2).key.length xc50), (.bool (writeP p2).gone), (.slice xa51 (writeP p2).value.length xc52)], 67⟩, ⟨n35, [(.slice xa26 (writeP p1).name.length xc27), (.slice xa28 (writeP p1).key.length xc29), (.bool (writeP p1).gone), (.slice xa30 (writeP p1).value.length xc31)], 67⟩, ⟨n5, [(.slice a20 p2.name.length c20), (.slice a21 p2.key.length c21), (.slice a22 p2.value.length c22), (.bool p2.gone)], 70⟩, ⟨n2, [(.slice a10 p1.name.length c10), (.slice a11 p1.key.length c11), (.slice a12 p1.value.length c12), (.bool p1.gone)], 70⟩] [] := S60
  refine wl_nil ?_
  (try simp only [Exit.then, Exit.inBlock, ↓reduceIte, Nat.reduceEqDiff])
  refine hK40 _ _ ?_
  refine wp_seq_k (fun K61 hK61 => ?_)
  have hwsx : ∀ w ∈ [(writeP p1), (writeP p2)], WrOk w := by intro w hw; simp at hw; rcases hw with rfl | rfl; exact writeP_ok _; exact writeP_ok _
  cases ex : applyF (forestW (writesN l0 20)) [(writeP p1), (writeP p2)] with
  | none =>
    have hx := applyE_ok (l := (forestW (writesN l0 20))) (ws := [(writeP p1), (writeP p2)]) hwsx (by simp)
    rw [ex] at hx
    refine region_wl ?_
    refine do_ rfl (.slice a15 (forestW (writesN l0 20)).length c16) (ex_move _) ?_
    simp only [Act.put, List.setIfInBounds_toArray, List.set_cons_succ, List.set_cons_zero]
    refine do_ rfl (.agg #[(.slice xa26 (writeP p1).name.length xc27), (.slice xa28 (writeP p1).key.length xc29), (.bool (writeP p1).gone), (.slice xa30 (writeP p1).value.length xc31)]) (ex_load rfl (loadN (cs := [(.slice xa26 (writeP p1).name.length xc27), (.slice xa28 (writeP p1).key.length xc29), (.bool (writeP p1).gone), (.slice xa30 (writeP p1).value.length xc31)]) Try.underlying67 rfl (size_67) (St.range S60 (i := 1) rfl 0 [(.slice xa26 (writeP p1).name.length xc27), (.slice xa28 (writeP p1).key.length xc29), (.bool (writeP p1).gone), (.slice xa30 (writeP p1).value.length xc31)] (sub_range 0 rfl)))) ?_
    simp only [Act.put, List.setIfInBounds_toArray, List.set_cons_succ, List.set_cons_zero]
    refine do_ rfl (.agg #[(.slice xa47 (writeP p2).name.length xc48), (.slice xa49 (writeP p2).key.length xc50), (.bool (writeP p2).gone), (.slice xa51 (writeP p2).value.length xc52)]) (ex_load rfl (loadN (cs := [(.slice xa47 (writeP p2).name.length xc48), (.slice xa49 (writeP p2).key.length xc50), (.bool (writeP p2).gone), (.slice xa51 (writeP p2).value.length xc52)]) Try.underlying67 rfl (size_67) (St.range S60 (i := 0) rfl 0 [(.slice xa47 (writeP p2).name.length xc48), (.slice xa49 (writeP p2).key.length xc50), (.bool (writeP p2).gone), (.slice xa51 (writeP p2).value.length xc52)] (sub_range 0 rfl)))) ?_
    simp only [Act.put, List.setIfInBounds_toArray, List.set_cons_succ, List.set_cons_zero]
    refine stNew S60 (v := fun n => .slice (some ⟨n, 0, none⟩) 2 2) rfl (ex_lit (ps := #[(0, (.agg #[(.slice xa26 (writeP p1).name.length xc27), (.slice xa28 (writeP p1).key.length xc29), (.bool (writeP p1).gone), (.slice xa30 (writeP p1).value.length xc31)])), (1, (.agg #[(.slice xa47 (writeP p2).name.length xc48), (.slice xa49 (writeP p2).key.length xc50), (.bool (writeP p2).gone), (.slice xa51 (writeP p2).value.length xc52)]))]) (cells := #[(.slice xa26 (writeP p1).name.length xc27), (.slice xa28 (writeP p1).key.length xc29), (.bool (writeP p1).gone), (.slice xa30 (writeP p1).value.length xc31), (.slice xa47 (writeP p2).name.length xc48), (.slice xa49 (writeP p2).key.length xc50), (.bool (writeP p2).gone), (.slice xa51 (writeP p2).value.length xc52)]) (E := 67) (bmap2 rfl rfl) (fun w => by kernel_rfl)) (fun n62 w63 S64 => ?_)
    simp only [Act.put, List.setIfInBounds_toArray, List.set_cons_succ, List.set_cons_zero]
    have S64 : St W (whole W) w63 F43 [⟨n62, [(.slice xa26 (writeP p1).name.length xc27), (.slice xa28 (writeP p1).key.length xc29), (.bool (writeP p1).gone), (.slice xa30 (writeP p1).value.length xc31), (.slice xa47 (writeP p2).name.length xc48), (.slice xa49 (writeP p2).key.length xc50), (.bool (writeP p2).gone), (.slice xa51 (writeP p2).value.length xc52)], 67⟩, ⟨n56, [(.slice xa47 (writeP p2).name.length xc48), (.slice xa49 (writeP p2).key.length xc50), (.bool (writeP p2).gone), (.slice xa51 (writeP p2).value.length xc52)], 67⟩, ⟨n35, [(.slice xa26 (writeP p1).name.length xc27), (.slice xa28 (writeP p1).key.length xc29), (.bool (writeP p1).gone), (.slice xa30 (writeP p1).value.length xc31)], 67⟩, ⟨n5, [(.slice a20 p2.name.length c20), (.slice a21 p2.key.length c21), (.slice a22 p2.value.length c22), (.bool p2.gone)], 70⟩, ⟨n2, [(.slice a10 p1.name.length c10), (.slice a11 p1.key.length c11), (.slice a12 p1.value.length c12), (.bool p1.gone)], 70⟩] [] := S64
    obtain ⟨S65, le66, hc67⟩ := St.freezeBlk S64 (i := 0) rfl
    have r69 : Wrs _ (.slice (some ⟨n62, 0, none⟩) 2 2) [(writeP p1), (writeP p2)] := sl_of_block (R := WrC) (l := [(writeP p1), (writeP p2)]) (el := [[(.slice xa26 (writeP p1).name.length xc27), (.slice xa28 (writeP p1).key.length xc29), (.bool (writeP p1).gone), (.slice xa30 (writeP p1).value.length xc31)], [(.slice xa47 (writeP p2).name.length xc48), (.slice xa49 (writeP p2).key.length xc50), (.bool (writeP p2).gone), (.slice xa51 (writeP p2).value.length xc52)]]) hc67 rfl ⟨⟨_, _, _, _, rfl, ((r32.mono le44).mono le66), ((r33.mono le44).mono le66), rfl, ((r34.mono le44).mono le66)⟩, ⟨_, _, _, _, rfl, (r53.mono le66), (r54.mono le66), rfl, (r55.mono le66)⟩, trivial⟩ (by simp) (by unfold maxLen; simp)
    generalize addF F43 w63 n62 = F68 at *
    have S65 : St W (whole W) w63 F68 [⟨n56, [(.slice xa47 (writeP p2).name.length xc48), (.slice xa49 (writeP p2).key.length xc50), (.bool (writeP p2).gone), (.slice xa51 (writeP p2).value.length xc52)], 67⟩, ⟨n35, [(.slice xa26 (writeP p1).name.length xc27), (.slice xa28 (writeP p1).key.length xc29), (.bool (writeP p1).gone), (.slice xa30 (writeP p1).value.length xc31)], 67⟩, ⟨n5, [(.slice a20 p2.name.length c20), (.slice a21 p2.key.length c21), (.slice a22 p2.value.length c22), (.bool p2.gone)], 70⟩, ⟨n2, [(.slice a10 p1.name.length c10), (.slice a11 p1.key.length c11), (.slice a12 p1.value.length c12), (.bool p1.gone)], 70⟩] [] := S65
    refine stGives S65 rfl (ex_fn (vs := #[(.slice a15 (forestW (writesN l0 20)).length c16), (.slice (some ⟨n62, 0, none⟩) 2 2)]) (map2 rfl rfl) rfl (ent_59 _ _)) (apply_is (S65).sat (R13.mono ((le23.trans le44).trans le66)) r69 okf hwsx hx) ?_
    intro v75 w70 F72 S71 le73 R74
    obtain ⟨_, rfl, r78⟩ := R74
    obtain ⟨a76, c77, rfl, h79, h80⟩ := Sl.shape r78
    unfold maxLen at h80
    simp only [Act.put, List.setIfInBounds_toArray, List.set_cons_succ, List.set_cons_zero]
    have S71 : St W (whole W) w70 F72 [⟨n56, [(.slice xa47 (writeP p2).name.length xc48), (.slice xa49 (writeP p2).key.length xc50), (.bool (writeP p2).gone), (.slice xa51 (writeP p2).value.length xc52)], 67⟩, ⟨n35, [(.slice xa26 (writeP p1).name.length xc27), (.slice xa28 (writeP p1).key.length xc29), (.bool (writeP p1).gone), (.slice xa30 (writeP p1).value.length xc31)], 67⟩, ⟨n5, [(.slice a20 p2.name.length c20), (.slice a21 p2.key.length c21), (.slice a22 p2.value.length c22), (.bool p2.gone)], 70⟩, ⟨n2, [(.slice a10 p1.name.length c10), (.slice a11 p1.key.length c11), (.slice a12 p1.value.length c12), (.bool p1.gone)], 70⟩] [] := S71
    refine do_ rfl (.tuple #[(.slice a76 ([] : Forest).length c77), (.int .i64 11)]) (ex_move _) ?_
    simp only [Act.put, List.setIfInBounds_toArray, List.set_cons_succ, List.set_cons_zero]
    refine do_ rfl (.slice a76 ([] : Forest).length c77) (ex_extract rfl rfl) ?_
    simp only [Act.put, List.setIfInBounds_toArray, List.set_cons_succ, List.set_cons_zero]
    refine do_ rfl (.int .i64 11) (ex_extract rfl rfl) ?_
    simp only [Act.put, List.setIfInBounds_toArray, List.set_cons_succ, List.set_cons_zero]
    refine do_ rfl (.slice a76 ([] : Forest).length c77) (ex_assign _) ?_
    simp only [Act.put, List.setIfInBounds_toArray, List.set_cons_succ, List.set_cons_zero]
    refine do_ rfl (.int .i64 11) (ex_assign _) ?_
    simp only [Act.put, List.setIfInBounds_toArray, List.set_cons_succ, List.set_cons_zero]
    refine wl_nil ?_
    (try simp only [Exit.then, Exit.inBlock, ↓reduceIte, Nat.reduceEqDiff])
    refine hK61 _ _ ?_
    refine wp_seq_k (fun K81 hK81 => ?_)
    have hwsy : ∀ w ∈ [(writeP p2), (writeP p1)], WrOk w := by intro w hw; simp at hw; rcases hw with rfl | rfl; exact writeP_ok _; exact writeP_ok _
    cases ey : applyF (forestW (writesN l0 20)) [(writeP p2), (writeP p1)] with
    | none =>
      have hy := applyE_ok (l := (forestW (writesN l0 20))) (ws := [(writeP p2), (writeP p1)]) hwsy (by simp)
      rw [ey] at hy
      refine region_wl ?_
      refine do_ rfl (.slice a15 (forestW (writesN l0 20)).length c16) (ex_move _) ?_
      simp only [Act.put, List.setIfInBounds_toArray, List.set_cons_succ, List.set_cons_zero]
      refine do_ rfl (.agg #[(.slice xa47 (writeP p2).name.length xc48), (.slice xa49 (writeP p2).key.length xc50), (.bool (writeP p2).gone), (.slice xa51 (writeP p2).value.length xc52)]) (ex_load rfl (loadN (cs := [(.slice xa47 (writeP p2).name.length xc48), (.slice xa49 (writeP p2).key.length xc50), (.bool (writeP p2).gone), (.slice xa51 (writeP p2).value.length xc52)]) Try.underlying67 rfl (size_67) (St.range S71 (i := 0) rfl 0 [(.slice xa47 (writeP p2).name.length xc48), (.slice xa49 (writeP p2).key.length xc50), (.bool (writeP p2).gone), (.slice xa51 (writeP p2).value.length xc52)] (sub_range 0 rfl)))) ?_
      simp only [Act.put, List.setIfInBounds_toArray, List.set_cons_succ, List.set_cons_zero]
      refine do_ rfl (.agg #[(.slice xa26 (writeP p1).name.length xc27), (.slice xa28 (writeP p1).key.length xc29), (.bool (writeP p1).gone), (.slice xa30 (writeP p1).value.length xc31)]) (ex_load rfl (loadN (cs := [(.slice xa26 (writeP p1).name.length xc27), (.slice xa28 (writeP p1).key.length xc29), (.bool (writeP p1).gone), (.slice xa30 (writeP p1).value.length xc31)]) Try.underlying67 rfl (size_67) (St.range S71 (i := 1) rfl 0 [(.slice xa26 (writeP p1).name.length xc27), (.slice xa28 (writeP p1).key.length xc29), (.bool (writeP p1).gone), (.slice xa30 (writeP p1).value.length xc31)] (sub_range 0 rfl)))) ?_
      simp only [Act.put, List.setIfInBounds_toArray, List.set_cons_succ, List.set_cons_zero]
      refine stNew S71 (v := fun n => .slice (some ⟨n, 0, none⟩) 2 2) rfl (ex_lit (ps := #[(0, (.agg #[(.slice xa47 (writeP p2).name.length xc48), (.slice xa49 (writeP p2).key.length xc50), (.bool (writeP p2).gone), (.slice xa51 (writeP p2).value.length xc52)])), (1, (.agg #[(.slice xa26 (writeP p1).name.length xc27), (.slice xa28 (writeP p1).key.length xc29), (.bool (writeP p1).gone), (.slice xa30 (writeP p1).value.length xc31)]))]) (cells := #[(.slice xa47 (writeP p2).name.length xc48), (.slice xa49 (writeP p2).key.length xc50), (.bool (writeP p2).gone), (.slice xa51 (writeP p2).value.length xc52), (.slice xa26 (writeP p1).name.length xc27), (.slice xa28 (writeP p1).key.length xc29), (.bool (writeP p1).gone), (.slice xa30 (writeP p1).value.length xc31)]) (E := 67) (bmap2 rfl rfl) (fun w => by kernel_rfl)) (fun n82 w83 S84 => ?_)
      simp only [Act.put, List.setIfInBounds_toArray, List.set_cons_succ, List.set_cons_zero]
      have S84 : St W (whole W) w83 F72 [⟨n82, [(.slice xa47 (writeP p2).name.length xc48), (.slice xa49 (writeP p2).key.length xc50), (.bool (writeP p2).gone), (.slice xa51 (writeP p2).value.length xc52), (.slice xa26 (writeP p1).name.length xc27), (.slice xa28 (writeP p1).key.length xc29), (.bool (writeP p1).gone), (.slice xa30 (writeP p1).value.length xc31)], 67⟩, ⟨n56, [(.slice xa47 (writeP p2).name.length xc48), (.slice xa49 (writeP p2).key.length xc50), (.bool (writeP p2).gone), (.slice xa51 (writeP p2).value.length xc52)], 67⟩, ⟨n35, [(.slice xa26 (writeP p1).name.length xc27), (.slice xa28 (writeP p1).key.length xc29), (.bool (writeP p1).gone), (.slice xa30 (writeP p1).value.length xc31)], 67⟩, ⟨n5, [(.slice a20 p2.name.length c20), (.slice a21 p2.key.length c21), (.slice a22 p2.value.length c22), (.bool p2.gone)], 70⟩, ⟨n2, [(.slice a10 p1.name.length c10), (.slice a11 p1.key.length c11), (.slice a12 p1.value.length c12), (.bool p1.gone)], 70⟩] [] := S84
      obtain ⟨S85, le86, hc87⟩ := St.freezeBlk S84 (i := 0) rfl
      have r89 : Wrs _ (.slice (some ⟨n82, 0, none⟩) 2 2) [(writeP p2), (writeP p1)] := sl_of_block (R := WrC) (l := [(writeP p2), (writeP p1)]) (el := [[(.slice xa47 (writeP p2).name.length xc48), (.slice xa49 (writeP p2).key.length xc50), (.bool (writeP p2).gone), (.slice xa51 (writeP p2).value.length xc52)], [(.slice xa26 (writeP p1).name.length xc27), (.slice xa28 (writeP p1).key.length xc29), (.bool (writeP p1).gone), (.slice xa30 (writeP p1).value.length xc31)]]) hc87 rfl ⟨⟨_, _, _, _, rfl, ((r53.mono (le66.trans le73)).mono le86), ((r54.mono (le66.trans le73)).mono le86), rfl, ((r55.mono (le66.trans le73)).mono le86)⟩, ⟨_, _, _, _, rfl, ((r32.mono ((le44.trans le66).trans le73)).mono le86), ((r33.mono ((le44.trans le66).trans le73)).mono le86), rfl, ((r34.mono ((le44.trans le66).trans le73)).mono le86)⟩, trivial⟩ (by simp) (by unfold maxLen; simp)
      generalize addF F72 w83 n82 = F88 at *
      have S85 : St W (whole W) w83 F88 [⟨n56, [(.slice xa47 (writeP p2).name.length xc48), (.slice xa49 (writeP p2).key.length xc50), (.bool (writeP p2).gone), (.slice xa51 (writeP p2).value.length xc52)], 67⟩, ⟨n35, [(.slice xa26 (writeP p1).name.length xc27), (.slice xa28 (writeP p1).key.length xc29), (.bool (writeP p1).gone), (.slice xa30 (writeP p1).value.length xc31)], 67⟩, ⟨n5, [(.slice a20 p2.name.length c20), (.slice a21 p2.key.length c21), (.slice a22 p2.value.length c22), (.bool p2.gone)], 70⟩, ⟨n2, [(.slice a10 p1.name.length c10), (.slice a11 p1.key.length c11), (.slice a12 p1.value.length c12), (.bool p1.gone)], 70⟩] [] := S85
      refine stGives S85 rfl (ex_fn (vs := #[(.slice a15 (forestW (writesN l0 20)).length c16), (.slice (some ⟨n82, 0, none⟩) 2 2)]) (map2 rfl rfl) rfl (ent_59 _ _)) (apply_is (S85).sat (R13.mono ((((le23.trans le44).trans le66).trans le73).trans le86)) r89 okf hwsy hy) ?_
      intro v95 w90 F92 S91 le93 R94
      obtain ⟨_, rfl, r98⟩ := R94
      obtain ⟨a96, c97, rfl, h99, h100⟩ := Sl.shape r98
      unfold maxLen at h100
      simp only [Act.put, List.setIfInBounds_toArray, List.set_cons_succ, List.set_cons_zero]
      have S91 : St W (whole W) w90 F92 [⟨n56, [(.slice xa47 (writeP p2).name.length xc48), (.slice xa49 (writeP p2).key.length xc50), (.bool (writeP p2).gone), (.slice xa51 (writeP p2).value.length xc52)], 67⟩, ⟨n35, [(.slice xa26 (writeP p1).name.length xc27), (.slice xa28 (writeP p1).key.length xc29), (.bool (writeP p1).gone), (.slice xa30 (writeP p1).value.length xc31)], 67⟩, ⟨n5, [(.slice a20 p2.name.length c20), (.slice a21 p2.key.length c21), (.slice a22 p2.value.length c22), (.bool p2.gone)], 70⟩, ⟨n2, [(.slice a10 p1.name.length c10), (.slice a11 p1.key.length c11), (.slice a12 p1.value.length c12), (.bool p1.gone)], 70⟩] [] := S91
      refine do_ rfl (.tuple #[(.slice a96 ([] : Forest).length c97), (.int .i64 11)]) (ex_move _) ?_
      simp only [Act.put, List.setIfInBounds_toArray, List.set_cons_succ, List.set_cons_zero]
      refine do_ rfl (.slice a96 ([] : Forest).length c97) (ex_extract rfl rfl) ?_
      simp only [Act.put, List.setIfInBounds_toArray, List.set_cons_succ, List.set_cons_zero]
      refine do_ rfl (.int .i64 11) (ex_extract rfl rfl) ?_
      simp only [Act.put, List.setIfInBounds_toArray, List.set_cons_succ, List.set_cons_zero]
      refine do_ rfl (.slice a96 ([] : Forest).length c97) (ex_assign _) ?_
      simp only [Act.put, List.setIfInBounds_toArray, List.set_cons_succ, List.set_cons_zero]
      refine do_ rfl (.int .i64 11) (ex_assign _) ?_
      simp only [Act.put, List.setIfInBounds_toArray, List.set_cons_succ, List.set_cons_zero]
      refine wl_nil ?_
      (try simp only [Exit.then, Exit.inBlock, ↓reduceIte, Nat.reduceEqDiff])
      refine hK81 _ _ ?_
      refine wp_seq_k (fun K101 hK101 => ?_)
      refine region_wl ?_
      refine do_ rfl (.slice a15 (forestW (writesN l0 20)).length c16) (ex_move _) ?_
      simp only [Act.put, List.setIfInBounds_toArray, List.set_cons_succ, List.set_cons_zero]
      refine stMake (k := 4) (n := 11) (m := 11) S91 rfl i67 (.agg #[(.slice none 0 0), (.slice none 0 0), (.bool false), (.slice none 0 0)]) 80 Try.underlying75 hi67 hz67 hs67 hb67 rfl rfl (by decide) (by decide) (by decide) ?_
      intro g102 w103 S104
      simp only [Act.put, List.setIfInBounds_toArray, List.set_cons_succ, List.set_cons_zero]
      have S104 : St W (whole W) w103 F92 [⟨g102, ((madeCells (Value.agg #[(.slice none 0 0), (.slice none 0 0), (.bool false), (.slice none 0 0)]).cells (11 * 4)).toList), 67⟩, ⟨n56, [(.slice xa47 (writeP p2).name.length xc48), (.slice xa49 (writeP p2).key.length xc50), (.bool (writeP p2).gone), (.slice xa51 (writeP p2).value.length xc52)], 67⟩, ⟨n35, [(.slice xa26 (writeP p1).name.length xc27), (.slice xa28 (writeP p1).key.length xc29), (.bool (writeP p1).gone), (.slice xa30 (writeP p1).value.length xc31)], 67⟩, ⟨n5, [(.slice a20 p2.name.length c20), (.slice a21 p2.key.length c21), (.slice a22 p2.value.length c22), (.bool p2.gone)], 70⟩, ⟨n2, [(.slice a10 p1.name.length c10), (.slice a11 p1.key.length c11), (.slice a12 p1.value.length c12), (.bool p1.gone)], 70⟩] [] := S104
      obtain ⟨S105, le106, hc107⟩ := St.freezeBlk S104 (i := 0) rfl
      have r109 : Wrs _ (.slice (some ⟨g102, 0, none⟩) 11 11) (List.replicate 11 (⟨[], [], false, []⟩ : Wr)) := sl_of_block (R := WrC) (l := (List.replicate 11 (⟨[], [], false, []⟩ : Wr))) hc107 zeros_wr (wrs_zero _) (by intro x hx; rw [List.eq_of_mem_replicate hx]; rfl) (by unfold maxLen; simp)
      generalize addF F92 w103 g102 = F108 at *
      have S105 : St W (whole W) w103 F108 [⟨n56, [(.slice xa47 (writeP p2).name.length xc48), (.slice xa49 (writeP p2).key.length xc50), (.bool (writeP p2).gone), (.slice xa51 (writeP p2).value.length xc52)], 67⟩, ⟨n35, [(.slice xa26 (writeP p1).name.length xc27), (.slice xa28 (writeP p1).key.length xc29), (.bool (writeP p1).gone), (.slice xa30 (writeP p1).value.length xc31)], 67⟩, ⟨n5, [(.slice a20 p2.name.length c20), (.slice a21 p2.key.length c21), (.slice a22 p2.value.length c22), (.bool p2.gone)], 70⟩, ⟨n2, [(.slice a10 p1.name.length c10), (.slice a11 p1.key.length c11), (.slice a12 p1.value.length c12), (.bool p1.gone)], 70⟩] [] := S105
      refine stGives S105 rfl (ex_fn (vs := #[(.slice a15 (forestW (writesN l0 20)).length c16), (.slice (some ⟨g102, 0, none⟩) 11 11)]) (map2 rfl rfl) rfl (ent_59 _ _)) (applyMany_spec _ _ _ _ (forestW (writesN l0 20)) (S105).sat (R13.mono ((((((le23.trans le44).trans le66).trans le73).trans le86).trans le93).trans le106)) r109 okf) ?_
      intro v115 w110 F112 S111 le113 R114
      obtain ⟨_, rfl, r118⟩ := R114
      obtain ⟨a116, c117, rfl, h119, h120⟩ := Sl.shape r118
      unfold maxLen at h120
      simp only [Act.put, List.setIfInBounds_toArray, List.set_cons_succ, List.set_cons_zero]
      have S111 : St W (whole W) w110 F112 [⟨n56, [(.slice xa47 (writeP p2).name.length xc48), (.slice xa49 (writeP p2).key.length xc50), (.bool (writeP p2).gone), (.slice xa51 (writeP p2).value.length xc52)], 67⟩, ⟨n35, [(.slice xa26 (writeP p1).name.length xc27), (.slice xa28 (writeP p1).key.length xc29), (.bool (writeP p1).gone), (.slice xa30 (writeP p1).value.length xc31)], 67⟩, ⟨n5, [(.slice a20 p2.name.length c20), (.slice a21 p2.key.length c21), (.slice a22 p2.value.length c22), (.bool p2.gone)], 70⟩, ⟨n2, [(.slice a10 p1.name.length c10), (.slice a11 p1.key.length c11), (.slice a12 p1.value.length c12), (.bool p1.gone)], 70⟩] [] := S111
      refine do_ rfl (.tuple #[(.slice a116 ([] : Forest).length c117), (.int .i64 1)]) (ex_move _) ?_
      simp only [Act.put, List.setIfInBounds_toArray, List.set_cons_succ, List.set_cons_zero]
      refine do_ rfl (.slice a116 ([] : Forest).length c117) (ex_extract rfl rfl) ?_
      simp only [Act.put, List.setIfInBounds_toArray, List.set_cons_succ, List.set_cons_zero]
      refine do_ rfl (.int .i64 1) (ex_extract rfl rfl) ?_
      simp only [Act.put, List.setIfInBounds_toArray, List.set_cons_succ, List.set_cons_zero]
      refine do_ rfl (.slice a116 ([] : Forest).length c117) (ex_assign _) ?_
      simp only [Act.put, List.setIfInBounds_toArray, List.set_cons_succ, List.set_cons_zero]
      refine do_ rfl (.int .i64 1) (ex_assign _) ?_
      simp only [Act.put, List.setIfInBounds_toArray, List.set_cons_succ, List.set_cons_zero]
      refine wl_nil ?_
      (try simp only [Exit.then, Exit.inBlock, ↓reduceIte, Nat.reduceEqDiff])
      refine hK101 _ _ ?_
      refine wp_seq_k (fun K121 hK121 => ?_)
      refine wp_seq_k (fun K122 hK122 => ?_)
      refine region_wl ?_
      refine do_ rfl (.int .i64 1) (ex_move _) ?_
      simp only [Act.put, List.setIfInBounds_toArray, List.set_cons_succ, List.set_cons_zero]
      refine do_ rfl (.bool false) (ex_neq (b := false) rfl rfl (by decide)) ?_
      simp only [Act.put, List.setIfInBounds_toArray, List.set_cons_succ, List.set_cons_zero]
      refine wl_nil ?_
      (try simp only [Exit.then, Exit.inBlock, ↓reduceIte, Nat.reduceEqDiff])
      refine hK122 _ _ ?_
      refine wp_cond_false rfl ?_
      refine wp_skip ?_
      (try simp only [Exit.then, Exit.inBlock, ↓reduceIte, Nat.reduceEqDiff])
      refine hK121 _ _ ?_
      refine wp_seq_k (fun K123 hK123 => ?_)
      refine wp_seq_k (fun K124 hK124 => ?_)
      by_cases hn : (writeP p1).name = (writeP p2).name
      · by_cases hk : (writeP p1).key = (writeP p2).key
        · refine region_wl ?_
          refine do_ rfl (.pointer (some ⟨n35, 0, none⟩)) (ex_field (q := ⟨n35, 0, none⟩) rfl (fa_67_0 _ _)) ?_
          simp only [Act.put, List.setIfInBounds_toArray, List.set_cons_succ, List.set_cons_zero]
          refine do_ rfl (.slice xa26 (writeP p1).name.length xc27) (ex_load rfl (load1 (nagg_27 _) (St.cell S111 (i := 1) rfl rfl))) ?_
          simp only [Act.put, List.setIfInBounds_toArray, List.set_cons_succ, List.set_cons_zero]
          refine do_ rfl (.pointer (some ⟨n56, 0, none⟩)) (ex_field (q := ⟨n56, 0, none⟩) rfl (fa_67_0 _ _)) ?_
          simp only [Act.put, List.setIfInBounds_toArray, List.set_cons_succ, List.set_cons_zero]
          refine do_ rfl (.slice xa47 (writeP p2).name.length xc48) (ex_load rfl (load1 (nagg_27 _) (St.cell S111 (i := 0) rfl rfl))) ?_
          simp only [Act.put, List.setIfInBounds_toArray, List.set_cons_succ, List.set_cons_zero]
          refine stTells (v := (.bool true)) S111 rfl (ex_fn (vs := #[(.slice xa26 (writeP p1).name.length xc27), (.slice xa47 (writeP p2).name.length xc48)]) (map2 rfl rfl) rfl (ent_46 _ _)) (tells_bool (tells_same (same_spec _ _ _ _ ((writeP p1).name) ((writeP p2).name) (S111).sat (r32.mono ((((((le44.trans le66).trans le73).trans le86).trans le93).trans le106).trans le113)) (r53.mono (((((le66.trans le73).trans le86).trans le93).trans le106).trans le113)))) (beq_iff_eq.2 (hn))) (fun w125 S126 => ?_)
          simp only [Act.put, List.setIfInBounds_toArray, List.set_cons_succ, List.set_cons_zero]
          have S126 : St W (whole W) w125 F112 [⟨n56, [(.slice xa47 (writeP p2).name.length xc48), (.slice xa49 (writeP p2).key.length xc50), (.bool (writeP p2).gone), (.slice xa51 (writeP p2).value.length xc52)], 67⟩, ⟨n35, [(.slice xa26 (writeP p1).name.length xc27), (.slice xa28 (writeP p1).key.length xc29), (.bool (writeP p1).gone), (.slice xa30 (writeP p1).value.length xc31)], 67⟩, ⟨n5, [(.slice a20 p2.name.length c20), (.slice a21 p2.key.length c21), (.slice a22 p2.value.length c22), (.bool p2.gone)], 70⟩, ⟨n2, [(.slice a10 p1.name.length c10), (.slice a11 p1.key.length c11), (.slice a12 p1.value.length c12), (.bool p1.gone)], 70⟩] [] := S126
          refine do_ rfl (.bool true) (ex_move _) ?_
          simp only [Act.put, List.setIfInBounds_toArray, List.set_cons_succ, List.set_cons_zero]
          refine do_ rfl (.pointer (some ⟨n35, 1, none⟩)) (ex_field (q := ⟨n35, 1, none⟩) rfl (fa_67_1 _ _)) ?_
          simp only [Act.put, List.setIfInBounds_toArray, List.set_cons_succ, List.set_cons_zero]
          refine do_ rfl (.slice xa28 (writeP p1).key.length xc29) (ex_load rfl (load1 (nagg_27 _) (St.cell S126 (i := 1) rfl rfl))) ?_
          simp only [Act.put, List.setIfInBounds_toArray, List.set_cons_succ, List.set_cons_zero]
          refine do_ rfl (.pointer (some ⟨n56, 1, none⟩)) (ex_field (q := ⟨n56, 1, none⟩) rfl (fa_67_1 _ _)) ?_
          simp only [Act.put, List.setIfInBounds_toArray, List.set_cons_succ, List.set_cons_zero]
          refine do_ rfl (.slice xa49 (writeP p2).key.length xc50) (ex_load rfl (load1 (nagg_27 _) (St.cell S126 (i := 0) rfl rfl))) ?_
          simp only [Act.put, List.setIfInBounds_toArray, List.set_cons_succ, List.set_cons_zero]
          refine stTells (v := (.bool true)) S126 rfl (ex_fn (vs := #[(.slice xa28 (writeP p1).key.length xc29), (.slice xa49 (writeP p2).key.length xc50)]) (map2 rfl rfl) rfl (ent_46 _ _)) (tells_bool (tells_same (same_spec _ _ _ _ ((writeP p1).key) ((writeP p2).key) (S126).sat (r33.mono ((((((le44.trans le66).trans le73).trans le86).trans le93).trans le106).trans le113)) (r54.mono (((((le66.trans le73).trans le86).trans le93).trans le106).trans le113)))) (beq_iff_eq.2 (hk))) (fun w127 S128 => ?_)
          simp only [Act.put, List.setIfInBounds_toArray, List.set_cons_succ, List.set_cons_zero]
          have S128 : St W (whole W) w127 F112 [⟨n56, [(.slice xa47 (writeP p2).name.length xc48), (.slice xa49 (writeP p2).key.length xc50), (.bool (writeP p2).gone), (.slice xa51 (writeP p2).value.length xc52)], 67⟩, ⟨n35, [(.slice xa26 (writeP p1).name.length xc27), (.slice xa28 (writeP p1).key.length xc29), (.bool (writeP p1).gone), (.slice xa30 (writeP p1).value.length xc31)], 67⟩, ⟨n5, [(.slice a20 p2.name.length c20), (.slice a21 p2.key.length c21), (.slice a22 p2.value.length c22), (.bool p2.gone)], 70⟩, ⟨n2, [(.slice a10 p1.name.length c10), (.slice a11 p1.key.length c11), (.slice a12 p1.value.length c12), (.bool p1.gone)], 70⟩] [] := S128
          refine do_ rfl (.bool true) (ex_pick (b := true) rfl) ?_
          simp only [Act.put, List.setIfInBounds_toArray, List.set_cons_succ, List.set_cons_zero]
          refine do_ rfl (.bool true) (ex_move _) ?_
          simp only [Act.put, List.setIfInBounds_toArray, List.set_cons_succ, List.set_cons_zero]
          refine doN (wanted_no rfl rfl rfl (c := true) rfl (by decide)) ?_
          simp only [Act.put, List.setIfInBounds_toArray, List.set_cons_succ, List.set_cons_zero]
          refine doN (wanted_no rfl rfl rfl (c := true) rfl (by decide)) ?_
          simp only [Act.put, List.setIfInBounds_toArray, List.set_cons_succ, List.set_cons_zero]
          refine do_ rfl (.bool true) (ex_pick (b := true) rfl) ?_
          simp only [Act.put, List.setIfInBounds_toArray, List.set_cons_succ, List.set_cons_zero]
          refine do_ rfl (.bool true) (ex_move _) ?_
          simp only [Act.put, List.setIfInBounds_toArray, List.set_cons_succ, List.set_cons_zero]
          refine doN (wanted_no rfl rfl rfl (c := true) rfl (by decide)) ?_
          simp only [Act.put, List.setIfInBounds_toArray, List.set_cons_succ, List.set_cons_zero]
          refine doN (wanted_no rfl rfl rfl (c := true) rfl (by decide)) ?_
          simp only [Act.put, List.setIfInBounds_toArray, List.set_cons_succ, List.set_cons_zero]
          refine do_ rfl (.bool true) (ex_pick (b := true) rfl) ?_
          simp only [Act.put, List.setIfInBounds_toArray, List.set_cons_succ, List.set_cons_zero]
          refine wl_nil ?_
          (try simp only [Exit.then, Exit.inBlock, ↓reduceIte, Nat.reduceEqDiff])
          refine hK124 _ _ ?_
          refine wp_cond_true rfl ?_
          refine wp_seq_k (fun K129 hK129 => ?_)
          refine region_wl ?_
          refine do_ rfl (.bool true) (ex_assign _) ?_
          simp only [Act.put, List.setIfInBounds_toArray, List.set_cons_succ, List.set_cons_zero]
          refine wl_nil ?_
          (try simp only [Exit.then, Exit.inBlock, ↓reduceIte, Nat.reduceEqDiff])
          refine hK129 _ _ ?_
          refine wp_ret ?_
          (try simp only [Exit.then, Exit.inBlock, ↓reduceIte, Nat.reduceEqDiff])
          refine bodyPost_ret (v := (.bool true)) ?_ rfl ?_
          · exact res_t rfl rfl
          · exact ⟨rfl, S128.gr.below⟩
        · refine region_wl ?_
          refine do_ rfl (.pointer (some ⟨n35, 0, none⟩)) (ex_field (q := ⟨n35, 0, none⟩) rfl (fa_67_0 _ _)) ?_
          simp only [Act.put, List.setIfInBounds_toArray, List.set_cons_succ, List.set_cons_zero]
          refine do_ rfl (.slice xa26 (writeP p1).name.length xc27) (ex_load rfl (load1 (nagg_27 _) (St.cell S111 (i := 1) rfl rfl))) ?_
          simp only [Act.put, List.setIfInBounds_toArray, List.set_cons_succ, List.set_cons_zero]
          refine do_ rfl (.pointer (some ⟨n56, 0, none⟩)) (ex_field (q := ⟨n56, 0, none⟩) rfl (fa_67_0 _ _)) ?_
          simp only [Act.put, List.setIfInBounds_toArray, List.set_cons_succ, List.set_cons_zero]
          refine do_ rfl (.slice xa47 (writeP p2).name.length xc48) (ex_load rfl (load1 (nagg_27 _) (St.cell S111 (i := 0) rfl rfl))) ?_
          simp only [Act.put, List.setIfInBounds_toArray, List.set_cons_succ, List.set_cons_zero]
          refine stTells (v := (.bool true)) S111 rfl (ex_fn (vs := #[(.slice xa26 (writeP p1).name.length xc27), (.slice xa47 (writeP p2).name.length xc48)]) (map2 rfl rfl) rfl (ent_46 _ _)) (tells_bool (tells_same (same_spec _ _ _ _ ((writeP p1).name) ((writeP p2).name) (S111).sat (r32.mono ((((((le44.trans le66).trans le73).trans le86).trans le93).trans le106).trans le113)) (r53.mono (((((le66.trans le73).trans le86).trans le93).trans le106).trans le113)))) (beq_iff_eq.2 (hn))) (fun w130 S131 => ?_)
          simp only [Act.put, List.setIfInBounds_toArray, List.set_cons_succ, List.set_cons_zero]
          have S131 : St W (whole W) w130 F112 [⟨n56, [(.slice xa47 (writeP p2).name.length xc48), (.slice xa49 (writeP p2).key.length xc50), (.bool (writeP p2).gone), (.slice xa51 (writeP p2).value.length xc52)], 67⟩, ⟨n35, [(.slice xa26 (writeP p1).name.length xc27), (.slice xa28 (writeP p1).key.length xc29), (.bool (writeP p1).gone), (.slice xa30 (writeP p1).value.length xc31)], 67⟩, ⟨n5, [(.slice a20 p2.name.length c20), (.slice a21 p2.key.length c21), (.slice a22 p2.value.length c22), (.bool p2.gone)], 70⟩, ⟨n2, [(.slice a10 p1.name.length c10), (.slice a11 p1.key.length c11), (.slice a12 p1.value.length c12), (.bool p1.gone)], 70⟩] [] := S131
          refine do_ rfl (.bool true) (ex_move _) ?_
          simp only [Act.put, List.setIfInBounds_toArray, List.set_cons_succ, List.set_cons_zero]
          refine do_ rfl (.pointer (some ⟨n35, 1, none⟩)) (ex_field (q := ⟨n35, 1, none⟩) rfl (fa_67_1 _ _)) ?_
          simp only [Act.put, List.setIfInBounds_toArray, List.set_cons_succ, List.set_cons_zero]
          refine do_ rfl (.slice xa28 (writeP p1).key.length xc29) (ex_load rfl (load1 (nagg_27 _) (St.cell S131 (i := 1) rfl rfl))) ?_
          simp only [Act.put, List.setIfInBounds_toArray, List.set_cons_succ, List.set_cons_zero]
          refine do_ rfl (.pointer (some ⟨n56, 1, none⟩)) (ex_field (q := ⟨n56, 1, none⟩) rfl (fa_67_1 _ _)) ?_
          simp only [Act.put, List.setIfInBounds_toArray, List.set_cons_succ, List.set_cons_zero]
          refine do_ rfl (.slice xa49 (writeP p2).key.length xc50) (ex_load rfl (load1 (nagg_27 _) (St.cell S131 (i := 0) rfl rfl))) ?_
          simp only [Act.put, List.setIfInBounds_toArray, List.set_cons_succ, List.set_cons_zero]
          refine stTells (v := (.bool false)) S131 rfl (ex_fn (vs := #[(.slice xa28 (writeP p1).key.length xc29), (.slice xa49 (writeP p2).key.length xc50)]) (map2 rfl rfl) rfl (ent_46 _ _)) (tells_bool (tells_same (same_spec _ _ _ _ ((writeP p1).key) ((writeP p2).key) (S131).sat (r33.mono ((((((le44.trans le66).trans le73).trans le86).trans le93).trans le106).trans le113)) (r54.mono (((((le66.trans le73).trans le86).trans le93).trans le106).trans le113)))) (beq_eq_false_iff_ne.2 (hk))) (fun w132 S133 => ?_)
          simp only [Act.put, List.setIfInBounds_toArray, List.set_cons_succ, List.set_cons_zero]
          have S133 : St W (whole W) w132 F112 [⟨n56, [(.slice xa47 (writeP p2).name.length xc48), (.slice xa49 (writeP p2).key.length xc50), (.bool (writeP p2).gone), (.slice xa51 (writeP p2).value.length xc52)], 67⟩, ⟨n35, [(.slice xa26 (writeP p1).name.length xc27), (.slice xa28 (writeP p1).key.length xc29), (.bool (writeP p1).gone), (.slice xa30 (writeP p1).value.length xc31)], 67⟩, ⟨n5, [(.slice a20 p2.name.length c20), (.slice a21 p2.key.length c21), (.slice a22 p2.value.length c22), (.bool p2.gone)], 70⟩, ⟨n2, [(.slice a10 p1.name.length c10), (.slice a11 p1.key.length c11), (.slice a12 p1.value.length c12), (.bool p1.gone)], 70⟩] [] := S133
          refine do_ rfl (.bool false) (ex_pick (b := true) rfl) ?_
          simp only [Act.put, List.setIfInBounds_toArray, List.set_cons_succ, List.set_cons_zero]
          refine do_ rfl (.bool false) (ex_move _) ?_
          simp only [Act.put, List.setIfInBounds_toArray, List.set_cons_succ, List.set_cons_zero]
          refine do_ rfl (.int .i64 11) (ex_move _) ?_
          simp only [Act.put, List.setIfInBounds_toArray, List.set_cons_succ, List.set_cons_zero]
          refine do_ rfl (.bool true) (ex_neq (b := true) rfl rfl (by decide)) ?_
          simp only [Act.put, List.setIfInBounds_toArray, List.set_cons_succ, List.set_cons_zero]
          refine do_ rfl (.bool true) (ex_pick (b := false) rfl) ?_
          simp only [Act.put, List.setIfInBounds_toArray, List.set_cons_succ, List.set_cons_zero]
          refine do_ rfl (.bool true) (ex_move _) ?_
          simp only [Act.put, List.setIfInBounds_toArray, List.set_cons_succ, List.set_cons_zero]
          refine doN (wanted_no rfl rfl rfl (c := true) rfl (by decide)) ?_
          simp only [Act.put, List.setIfInBounds_toArray, List.set_cons_succ, List.set_cons_zero]
          refine doN (wanted_no rfl rfl rfl (c := true) rfl (by decide)) ?_
          simp only [Act.put, List.setIfInBounds_toArray, List.set_cons_succ, List.set_cons_zero]
          refine do_ rfl (.bool true) (ex_pick (b := true) rfl) ?_
          simp only [Act.put, List.setIfInBounds_toArray, List.set_cons_succ, List.set_cons_zero]
          refine wl_nil ?_
          (try simp only [Exit.then, Exit.inBlock, ↓reduceIte, Nat.reduceEqDiff])
          refine hK124 _ _ ?_
          refine wp_cond_true rfl ?_
          refine wp_seq_k (fun K134 hK134 => ?_)
          refine region_wl ?_
          refine do_ rfl (.bool true) (ex_assign _) ?_
          simp only [Act.put, List.setIfInBounds_toArray, List.set_cons_succ, List.set_cons_zero]
          refine wl_nil ?_
          (try simp only [Exit.then, Exit.inBlock, ↓reduceIte, Nat.reduceEqDiff])
          refine hK134 _ _ ?_
          refine wp_ret ?_
          (try simp only [Exit.then, Exit.inBlock, ↓reduceIte, Nat.reduceEqDiff])
          refine bodyPost_ret (v := (.bool true)) ?_ rfl ?_
          · exact res_t rfl rfl
          · exact ⟨rfl, S133.gr.below⟩
      · refine region_wl ?_
        refine do_ rfl (.pointer (some ⟨n35, 0, none⟩)) (ex_field (q := ⟨n35, 0, none⟩) rfl (fa_67_0 _ _)) ?_
        simp only [Act.put, List.setIfInBounds_toArray, List.set_cons_succ, List.set_cons_zero]
        refine do_ rfl (.slice xa26 (writeP p1).name.length xc27) (ex_load rfl (load1 (nagg_27 _) (St.cell S111 (i := 1) rfl rfl))) ?_
        simp only [Act.put, List.setIfInBounds_toArray, List.set_cons_succ, List.set_cons_zero]
        refine do_ rfl (.pointer (some ⟨n56, 0, none⟩)) (ex_field (q := ⟨n56, 0, none⟩) rfl (fa_67_0 _ _)) ?_
        simp only [Act.put, List.setIfInBounds_toArray, List.set_cons_succ, List.set_cons_zero]
        refine do_ rfl (.slice xa47 (writeP p2).name.length xc48) (ex_load rfl (load1 (nagg_27 _) (St.cell S111 (i := 0) rfl rfl))) ?_
        simp only [Act.put, List.setIfInBounds_toArray, List.set_cons_succ, List.set_cons_zero]
        refine stTells (v := (.bool false)) S111 rfl (ex_fn (vs := #[(.slice xa26 (writeP p1).name.length xc27), (.slice xa47 (writeP p2).name.length xc48)]) (map2 rfl rfl) rfl (ent_46 _ _)) (tells_bool (tells_same (same_spec _ _ _ _ ((writeP p1).name) ((writeP p2).name) (S111).sat (r32.mono ((((((le44.trans le66).trans le73).trans le86).trans le93).trans le106).trans le113)) (r53.mono (((((le66.trans le73).trans le86).trans le93).trans le106).trans le113)))) (beq_eq_false_iff_ne.2 (hn))) (fun w135 S136 => ?_)
        simp only [Act.put, List.setIfInBounds_toArray, List.set_cons_succ, List.set_cons_zero]
        have S136 : St W (whole W) w135 F112 [⟨n56, [(.slice xa47 (writeP p2).name.length xc48), (.slice xa49 (writeP p2).key.length xc50), (.bool (writeP p2).gone), (.slice xa51 (writeP p2).value.length xc52)], 67⟩, ⟨n35, [(.slice xa26 (writeP p1).name.length xc27), (.slice xa28 (writeP p1).key.length xc29), (.bool (writeP p1).gone), (.slice xa30 (writeP p1).value.length xc31)], 67⟩, ⟨n5, [(.slice a20 p2.name.length c20), (.slice a21 p2.key.length c21), (.slice a22 p2.value.length c22), (.bool p2.gone)], 70⟩, ⟨n2, [(.slice a10 p1.name.length c10), (.slice a11 p1.key.length c11), (.slice a12 p1.value.length c12), (.bool p1.gone)], 70⟩] [] := S136
        refine do_ rfl (.bool false) (ex_move _) ?_
        simp only [Act.put, List.setIfInBounds_toArray, List.set_cons_succ, List.set_cons_zero]
        refine doN (wanted_no rfl rfl rfl (c := false) rfl (by decide)) ?_
        simp only [Act.put, List.setIfInBounds_toArray, List.set_cons_succ, List.set_cons_zero]
        refine doN (wanted_no rfl rfl rfl (c := false) rfl (by decide)) ?_
        simp only [Act.put, List.setIfInBounds_toArray, List.set_cons_succ, List.set_cons_zero]
        refine doN (wanted_no rfl rfl rfl (c := false) rfl (by decide)) ?_
        simp only [Act.put, List.setIfInBounds_toArray, List.set_cons_succ, List.set_cons_zero]
        refine doN (wanted_no rfl rfl rfl (c := false) rfl (by decide)) ?_
        simp only [Act.put, List.setIfInBounds_toArray, List.set_cons_succ, List.set_cons_zero]
        refine doN (wanted_no rfl rfl rfl (c := false) rfl (by decide)) ?_
        simp only [Act.put, List.setIfInBounds_toArray, List.set_cons_succ, List.set_cons_zero]
        refine do_ rfl (.bool false) (ex_pick (b := false) rfl) ?_
        simp only [Act.put, List.setIfInBounds_toArray, List.set_cons_succ, List.set_cons_zero]
        refine do_ rfl (.bool false) (ex_move _) ?_
        simp only [Act.put, List.setIfInBounds_toArray, List.set_cons_succ, List.set_cons_zero]
        refine do_ rfl (.int .i64 11) (ex_move _) ?_
        simp only [Act.put, List.setIfInBounds_toArray, List.set_cons_succ, List.set_cons_zero]
        refine do_ rfl (.bool true) (ex_neq (b := true) rfl rfl (by decide)) ?_
        simp only [Act.put, List.setIfInBounds_toArray, List.set_cons_succ, List.set_cons_zero]
        refine do_ rfl (.bool true) (ex_pick (b := false) rfl) ?_
        simp only [Act.put, List.setIfInBounds_toArray, List.set_cons_succ, List.set_cons_zero]
        refine do_ rfl (.bool true) (ex_move _) ?_
        simp only [Act.put, List.setIfInBounds_toArray, List.set_cons_succ, List.set_cons_zero]
        refine doN (wanted_no rfl rfl rfl (c := true) rfl (by decide)) ?_
        simp only [Act.put, List.setIfInBounds_toArray, List.set_cons_succ, List.set_cons_zero]
        refine doN (wanted_no rfl rfl rfl (c := true) rfl (by decide)) ?_
        simp only [Act.put, List.setIfInBounds_toArray, List.set_cons_succ, List.set_cons_zero]
        refine do_ rfl (.bool true) (ex_pick (b := true) rfl) ?_
        simp only [Act.put, List.setIfInBounds_toArray, List.set_cons_succ, List.set_cons_zero]
        refine wl_nil ?_
        (try simp only [Exit.then, Exit.inBlock, ↓reduceIte, Nat.reduceEqDiff])
        refine hK124 _ _ ?_
        refine wp_cond_true rfl ?_
        refine wp_seq_k (fun K137 hK137 => ?_)
        refine region_wl ?_
        refine do_ rfl (.bool true) (ex_assign _) ?_
        simp only [Act.put, List.setIfInBounds_toArray, List.set_cons_succ, List.set_cons_zero]
        refine wl_nil ?_
        (try simp only [Exit.then, Exit.inBlock, ↓reduceIte, Nat.reduceEqDiff])
        refine hK137 _ _ ?_
        refine wp_ret ?_
        (try simp only [Exit.then, Exit.inBlock, ↓reduceIte, Nat.reduceEqDiff])
        refine bodyPost_ret (v := (.bool true)) ?_ rfl ?_
        · exact res_t rfl rfl
        · exact ⟨rfl, S136.gr.below⟩
    | some gy =>
      have hy := applyE_ok (l := (forestW (writesN l0 20))) (ws := [(writeP p2), (writeP p1)]) hwsy (by simp)
      rw [ey] at hy
      refine region_wl ?_
      refine do_ rfl (.slice a15 (forestW (writesN l0 20)).length c16) (ex_move _) ?_
      simp only [Act.put, List.setIfInBounds_toArray, List.set_cons_succ, List.set_cons_zero]
      refine do_ rfl (.agg #[(.slice xa47 (writeP p2).name.length xc48), (.slice xa49 (writeP p2).key.length xc50), (.bool (writeP p2).gone), (.slice xa51 (writeP p2).value.length xc52)]) (ex_load rfl (loadN (cs := [(.slice xa47 (writeP p2).name.length xc48), (.slice xa49 (writeP p2).key.length xc50), (.bool (writeP p2).gone), (.slice xa51 (writeP p2).value.length xc52)]) Try.underlying67 rfl (size_67) (St.range S71 (i := 0) rfl 0 [(.slice xa47 (writeP p2).name.length xc48), (.slice xa49 (writeP p2).key.length xc50), (.bool (writeP p2).gone), (.slice xa51 (writeP p2).value.length xc52)] (sub_range 0 rfl)))) ?_
      simp only [Act.put, List.setIfInBounds_toArray, List.set_cons_succ, List.set_cons_zero]
      refine do_ rfl (.agg #[(.slice xa26 (writeP p1).name.length xc27), (.slice xa28 (writeP p1).key.length xc29), (.bool (writeP p1).gone), (.slice xa30 (writeP p1).value.length xc31)]) (ex_load rfl (loadN (cs := [(.slice xa26 (writeP p1).name.length xc27), (.slice xa28 (writeP p1).key.length xc29), (.bool (writeP p1).gone), (.slice xa30 (writeP p1).value.length xc31)]) Try.underlying67 rfl (size_67) (St.range S71 (i := 1) rfl 0 [(.slice xa26 (writeP p1).name.length xc27), (.slice xa28 (writeP p1).key.length xc29), (.bool (writeP p1).gone), (.slice xa30 (writeP p1).value.length xc31)] (sub_range 0 rfl)))) ?_
      simp only [Act.put, List.setIfInBounds_toArray, List.set_cons_succ, List.set_cons_zero]
      refine stNew S71 (v := fun n => .slice (some ⟨n, 0, none⟩) 2 2) rfl (ex_lit (ps := #[(0, (.agg #[(.slice xa47 (writeP p2).name.length xc48), (.slice xa49 (writeP p2).key.length xc50), (.bool (writeP p2).gone), (.slice xa51 (writeP p2).value.length xc52)])), (1, (.agg #[(.slice xa26 (writeP p1).name.length xc27), (.slice xa28 (writeP p1).key.length xc29), (.bool (writeP p1).gone), (.slice xa30 (writeP p1).value.length xc31)]))]) (cells := #[(.slice xa47 (writeP p2).name.length xc48), (.slice xa49 (writeP p2).key.length xc50), (.bool (writeP p2).gone), (.slice xa51 (writeP p2).value.length xc52), (.slice xa26 (writeP p1).name.length xc27), (.slice xa28 (writeP p1).key.length xc29), (.bool (writeP p1).gone), (.slice xa30 (writeP p1).value.length xc31)]) (E := 67) (bmap2 rfl rfl) (fun w => by kernel_rfl)) (fun n138 w139 S140 => ?_)
      simp only [Act.put, List.setIfInBounds_toArray, List.set_cons_succ, List.set_cons_zero]
      have S140 : St W (whole W) w139 F72 [⟨n138, [(.slice xa47 (writeP p2).name.length xc48), (.slice xa49 (writeP p2).key.length xc50), (.bool (writeP p2).gone), (.slice xa51 (writeP p2).value.length xc52), (.slice xa26 (writeP p1).name.length xc27), (.slice xa28 (writeP p1).key.length xc29), (.bool (writeP p1).gone), (.slice xa30 (writeP p1).value.length xc31)], 67⟩, ⟨n56, [(.slice xa47 (writeP p2).name.length xc48), (.slice xa49 (writeP p2).key.length xc50), (.bool (writeP p2).gone), (.slice xa51 (writeP p2).value.length xc52)], 67⟩, ⟨n35, [(.slice xa26 (writeP p1).name.length xc27), (.slice xa28 (writeP p1).key.length xc29), (.bool (writeP p1).gone), (.slice xa30 (writeP p1).value.length xc31)], 67⟩, ⟨n5, [(.slice a20 p2.name.length c20), (.slice a21 p2.key.length c21), (.slice a22 p2.value.length c22), (.bool p2.gone)], 70⟩, ⟨n2, [(.slice a10 p1.name.length c10), (.slice a11 p1.key.length c11), (.slice a12 p1.value.length c12), (.bool p1.gone)], 70⟩] [] := S140
      obtain ⟨S141, le142, hc143⟩ := St.freezeBlk S140 (i := 0) rfl
      have r145 : Wrs _ (.slice (some ⟨n138, 0, none⟩) 2 2) [(writeP p2), (writeP p1)] := sl_of_block (R := WrC) (l := [(writeP p2), (writeP p1)]) (el := [[(.slice xa47 (writeP p2).name.length xc48), (.slice xa49 (writeP p2).key.length xc50), (.bool (writeP p2).gone), (.slice xa51 (writeP p2).value.length xc52)], [(.slice xa26 (writeP p1).name.length xc27), (.slice xa28 (writeP p1).key.length xc29), (.bool (writeP p1).gone), (.slice xa30 (writeP p1).value.length xc31)]]) hc143 rfl ⟨⟨_, _, _, _, rfl, ((r53.mono (le66.trans le73)).mono le142), ((r54.mono (le66.trans le73)).mono le142), rfl, ((r55.mono (le66.trans le73)).mono le142)⟩, ⟨_, _, _, _, rfl, ((r32.mono ((le44.trans le66).trans le73)).mono le142), ((r33.mono ((le44.trans le66).trans le73)).mono le142), rfl, ((r34.mono ((le44.trans le66).trans le73)).mono le142)⟩, trivial⟩ (by simp) (by unfold maxLen; simp)
      generalize addF F72 w139 n138 = F144 at *
      have S141 : St W (whole W) w139 F144 [⟨n56, [(.slice xa47 (writeP p2).name.length xc48), (.slice xa49 (writeP p2).key.length xc50), (.bool (writeP p2).gone), (.slice xa51 (writeP p2).value.length xc52)], 67⟩, ⟨n35, [(.slice xa26 (writeP p1).name.length xc27), (.slice xa28 (writeP p1).key.length xc29), (.bool (writeP p1).gone), (.slice xa30 (writeP p1).value.length xc31)], 67⟩, ⟨n5, [(.slice a20 p2.name.length c20), (.slice a21 p2.key.length c21), (.slice a22 p2.value.length c22), (.bool p2.gone)], 70⟩, ⟨n2, [(.slice a10 p1.name.length c10), (.slice a11 p1.key.length c11), (.slice a12 p1.value.length c12), (.bool p1.gone)], 70⟩] [] := S141
      refine stGives S141 rfl (ex_fn (vs := #[(.slice a15 (forestW (writesN l0 20)).length c16), (.slice (some ⟨n138, 0, none⟩) 2 2)]) (map2 rfl rfl) rfl (ent_59 _ _)) (apply_is (S141).sat (R13.mono ((((le23.trans le44).trans le66).trans le73).trans le142)) r145 okf hwsy hy) ?_
      intro v151 w146 F148 S147 le149 R150
      obtain ⟨_, rfl, r154⟩ := R150
      obtain ⟨a152, c153, rfl, h155, h156⟩ := Sl.shape r154
      unfold maxLen at h156
      have h155 : gy.length ≤ c153 := h155
      have r154 : Tns _ (.slice a152 gy.length c153) gy := r154
      simp only [Act.put, List.setIfInBounds_toArray, List.set_cons_succ, List.set_cons_zero]
      have S147 : St W (whole W) w146 F148 [⟨n56, [(.slice xa47 (writeP p2).name.length xc48), (.slice xa49 (writeP p2).key.length xc50), (.bool (writeP p2).gone), (.slice xa51 (writeP p2).value.length xc52)], 67⟩, ⟨n35, [(.slice xa26 (writeP p1).name.length xc27), (.slice xa28 (writeP p1).key.length xc29), (.bool (writeP p1).gone), (.slice xa30 (writeP p1).value.length xc31)], 67⟩, ⟨n5, [(.slice a20 p2.name.length c20), (.slice a21 p2.key.length c21), (.slice a22 p2.value.length c22), (.bool p2.gone)], 70⟩, ⟨n2, [(.slice a10 p1.name.length c10), (.slice a11 p1.key.length c11), (.slice a12 p1.value.length c12), (.bool p1.gone)], 70⟩] [] := S147
      refine do_ rfl (.tuple #[(.slice a152 gy.length c153), (.int .i64 0)]) (ex_move _) ?_
      simp only [Act.put, List.setIfInBounds_toArray, List.set_cons_succ, List.set_cons_zero]
      refine do_ rfl (.slice a152 gy.length c153) (ex_extract rfl rfl) ?_
      simp only [Act.put, List.setIfInBounds_toArray, List.set_cons_succ, List.set_cons_zero]
      refine do_ rfl (.int .i64 0) (ex_extract rfl rfl) ?_
      simp only [Act.put, List.setIfInBounds_toArray, List.set_cons_succ, List.set_cons_zero]
      refine do_ rfl (.slice a152 gy.length c153) (ex_assign _) ?_
      simp only [Act.put, List.setIfInBounds_toArray, List.set_cons_succ, List.set_cons_zero]
      refine do_ rfl (.int .i64 0) (ex_assign _) ?_
      simp only [Act.put, List.setIfInBounds_toArray, List.set_cons_succ, List.set_cons_zero]
      refine wl_nil ?_
      (try simp only [Exit.then, Exit.inBlock, ↓reduceIte, Nat.reduceEqDiff])
      refine hK81 _ _ ?_
      refine wp_seq_k (fun K157 hK157 => ?_)
      refine region_wl ?_
      refine do_ rfl (.slice a15 (forestW (writesN l0 20)).length c16) (ex_move _) ?_
      simp only [Act.put, List.setIfInBounds_toArray, List.set_cons_succ, List.set_cons_zero]
      refine stMake (k := 4) (n := 11) (m := 11) S147 rfl i67 (.agg #[(.slice none 0 0), (.slice none 0 0), (.bool false), (.slice none 0 0)]) 80 Try.underlying75 hi67 hz67 hs67 hb67 rfl rfl (by decide) (by decide) (by decide) ?_
      intro g158 w159 S160
      simp only [Act.put, List.setIfInBounds_toArray, List.set_cons_succ, List.set_cons_zero]
      have S160 : St W (whole W) w159 F148 [⟨g158, ((madeCells (Value.agg #[(.slice none 0 0), (.slice none 0 0), (.bool false), (.slice none 0 0)]).cells (11 * 4)).toList), 67⟩, ⟨n56, [(.slice xa47 (writeP p2).name.length xc48), (.slice xa49 (writeP p2).key.length xc50), (.bool (writeP p2).gone), (.slice xa51 (writeP p2).value.length xc52)], 67⟩, ⟨n35, [(.slice xa26 (writeP p1).name.length xc27), (.slice xa28 (writeP p1).key.length xc29), (.bool (writeP p1).gone), (.slice xa30 (writeP p1).value.length xc31)], 67⟩, ⟨n5, [(.slice a20 p2.name.length c20), (.slice a21 p2.key.length c21), (.slice a22 p2.value.length c22), (.bool p2.gone)], 70⟩, ⟨n2, [(.slice a10 p1.name.length c10), (.slice a11 p1.key.length c11), (.slice a12 p1.value.length c12), (.bool p1.gone)], 70⟩] [] := S160
      obtain ⟨S161, le162, hc163⟩ := St.freezeBlk S160 (i := 0) rfl
      have r165 : Wrs _ (.slice (some ⟨g158, 0, none⟩) 11 11) (List.replicate 11 (⟨[], [], false, []⟩ : Wr)) := sl_of_block (R := WrC) (l := (List.replicate 11 (⟨[], [], false, []⟩ : Wr))) hc163 zeros_wr (wrs_zero _) (by intro x hx; rw [List.eq_of_mem_replicate hx]; rfl) (by unfold maxLen; simp)
      generalize addF F148 w159 g158 = F164 at *
      have S161 : St W (whole W) w159 F164 [⟨n56, [(.slice xa47 (writeP p2).name.length xc48), (.slice xa49 (writeP p2).key.length xc50), (.bool (writeP p2).gone), (.slice xa51 (writeP p2).value.length xc52)], 67⟩, ⟨n35, [(.slice xa26 (writeP p1).name.length xc27), (.slice xa28 (writeP p1).key.length xc29), (.bool (writeP p1).gone), (.slice xa30 (writeP p1).value.length xc31)], 67⟩, ⟨n5, [(.slice a20 p2.name.length c20), (.slice a21 p2.key.length c21), (.slice a22 p2.value.length c22), (.bool p2.gone)], 70⟩, ⟨n2, [(.slice a10 p1.name.length c10), (.slice a11 p1.key.length c11), (.slice a12 p1.value.length c12), (.bool p1.gone)], 70⟩] [] := S161
      refine stGives S161 rfl (ex_fn (vs := #[(.slice a15 (forestW (writesN l0 20)).length c16), (.slice (some ⟨g158, 0, none⟩) 11 11)]) (map2 rfl rfl) rfl (ent_59 _ _)) (applyMany_spec _ _ _ _ (forestW (writesN l0 20)) (S161).sat (R13.mono ((((((le23.trans le44).trans le66).trans le73).trans le142).trans le149).trans le162)) r165 okf) ?_
      intro v171 w166 F168 S167 le169 R170
      obtain ⟨_, rfl, r174⟩ := R170
      obtain ⟨a172, c173, rfl, h175, h176⟩ := Sl.shape r174
      unfold maxLen at h176
      simp only [Act.put, List.setIfInBounds_toArray, List.set_cons_succ, List.set_cons_zero]
      have S167 : St W (whole W) w166 F168 [⟨n56, [(.slice xa47 (writeP p2).name.length xc48), (.slice xa49 (writeP p2).key.length xc50), (.bool (writeP p2).gone), (.slice xa51 (writeP p2).value.length xc52)], 67⟩, ⟨n35, [(.slice xa26 (writeP p1).name.length xc27), (.slice xa28 (writeP p1).key.length xc29), (.bool (writeP p1).gone), (.slice xa30 (writeP p1).value.length xc31)], 67⟩, ⟨n5, [(.slice a20 p2.name.length c20), (.slice a21 p2.key.length c21), (.slice a22 p2.value.length c22), (.bool p2.gone)], 70⟩, ⟨n2, [(.slice a10 p1.name.length c10), (.slice a11 p1.key.length c11), (.slice a12 p1.value.length c12), (.bool p1.gone)], 70⟩] [] := S167
      refine do_ rfl (.tuple #[(.slice a172 ([] : Forest).length c173), (.int .i64 1)]) (ex_move _) ?_
      simp only [Act.put, List.setIfInBounds_toArray, List.set_cons_succ, List.set_cons_zero]
      refine do_ rfl (.slice a172 ([] : Forest).length c173) (ex_extract rfl rfl) ?_
      simp only [Act.put, List.setIfInBounds_toArray, List.set_cons_succ, List.set_cons_zero]
      refine do_ rfl (.int .i64 1) (ex_extract rfl rfl) ?_
      simp only [Act.put, List.setIfInBounds_toArray, List.set_cons_succ, List.set_cons_zero]
      refine do_ rfl (.slice a172 ([] : Forest).length c173) (ex_assign _) ?_
      simp only [Act.put, List.setIfInBounds_toArray, List.set_cons_succ, List.set_cons_zero]
      refine do_ rfl (.int .i64 1) (ex_assign _) ?_
      simp only [Act.put, List.setIfInBounds_toArray, List.set_cons_succ, List.set_cons_zero]
      refine wl_nil ?_
      (try simp only [Exit.then, Exit.inBlock, ↓reduceIte, Nat.reduceEqDiff])
      refine hK157 _ _ ?_
      refine wp_seq_k (fun K177 hK177 => ?_)
      refine wp_seq_k (fun K178 hK178 => ?_)
      refine region_wl ?_
      refine do_ rfl (.int .i64 1) (ex_move _) ?_
      simp only [Act.put, List.setIfInBounds_toArray, List.set_cons_succ, List.set_cons_zero]
      refine do_ rfl (.bool false) (ex_neq (b := false) rfl rfl (by decide)) ?_
      simp only [Act.put, List.setIfInBounds_toArray, List.set_cons_succ, List.set_cons_zero]
      refine wl_nil ?_
      (try simp only [Exit.then, Exit.inBlock, ↓reduceIte, Nat.reduceEqDiff])
      refine hK178 _ _ ?_
      refine wp_cond_false rfl ?_
      refine wp_skip ?_
      (try simp only [Exit.then, Exit.inBlock, ↓reduceIte, Nat.reduceEqDiff])
      refine hK177 _ _ ?_
      refine wp_seq_k (fun K179 hK179 => ?_)
      refine wp_seq_k (fun K180 hK180 => ?_)
      by_cases hn : (writeP p1).name = (writeP p2).name
      · by_cases hk : (writeP p1).key = (writeP p2).key
        · refine region_wl ?_
          refine do_ rfl (.pointer (some ⟨n35, 0, none⟩)) (ex_field (q := ⟨n35, 0, none⟩) rfl (fa_67_0 _ _)) ?_
          simp only [Act.put, List.setIfInBounds_toArray, List.set_cons_succ, List.set_cons_zero]
          refine do_ rfl (.slice xa26 (writeP p1).name.length xc27) (ex_load rfl (load1 (nagg_27 _) (St.cell S167 (i := 1) rfl rfl))) ?_
          simp only [Act.put, List.setIfInBounds_toArray, List.set_cons_succ, List.set_cons_zero]
          refine do_ rfl (.pointer (some ⟨n56, 0, none⟩)) (ex_field (q := ⟨n56, 0, none⟩) rfl (fa_67_0 _ _)) ?_
          simp only [Act.put, List.setIfInBounds_toArray, List.set_cons_succ, List.set_cons_zero]
          refine do_ rfl (.slice xa47 (writeP p2).name.length xc48) (ex_load rfl (load1 (nagg_27 _) (St.cell S167 (i := 0) rfl rfl))) ?_
          simp only [Act.put, List.setIfInBounds_toArray, List.set_cons_succ, List.set_cons_zero]
          refine stTells (v := (.bool true)) S167 rfl (ex_fn (vs := #[(.slice xa26 (writeP p1).name.length xc27), (.slice xa47 (writeP p2).name.length xc48)]) (map2 rfl rfl) rfl (ent_46 _ _)) (tells_bool (tells_same (same_spec _ _ _ _ ((writeP p1).name) ((writeP p2).name) (S167).sat (r32.mono ((((((le44.trans le66).trans le73).trans le142).trans le149).trans le162).trans le169)) (r53.mono (((((le66.trans le73).trans le142).trans le149).trans le162).trans le169)))) (beq_iff_eq.2 (hn))) (fun w181 S182 => ?_)
          simp only [Act.put, List.setIfInBounds_toArray, List.set_cons_succ, List.set_cons_zero]
          have S182 : St W (whole W) w181 F168 [⟨n56, [(.slice xa47 (writeP p2).name.length xc48), (.slice xa49 (writeP p2).key.length xc50), (.bool (writeP p2).gone), (.slice xa51 (writeP p2).value.length xc52)], 67⟩, ⟨n35, [(.slice xa26 (writeP p1).name.length xc27), (.slice xa28 (writeP p1).key.length xc29), (.bool (writeP p1).gone), (.slice xa30 (writeP p1).value.length xc31)], 67⟩, ⟨n5, [(.slice a20 p2.name.length c20), (.slice a21 p2.key.length c21), (.slice a22 p2.value.length c22), (.bool p2.gone)], 70⟩, ⟨n2, [(.slice a10 p1.name.length c10), (.slice a11 p1.key.length c11), (.slice a12 p1.value.length c12), (.bool p1.gone)], 70⟩] [] := S182
          refine do_ rfl (.bool true) (ex_move _) ?_
          simp only [Act.put, List.setIfInBounds_toArray, List.set_cons_succ, List.set_cons_zero]
          refine do_ rfl (.pointer (some ⟨n35, 1, none⟩)) (ex_field (q := ⟨n35, 1, none⟩) rfl (fa_67_1 _ _)) ?_
          simp only [Act.put, List.setIfInBounds_toArray, List.set_cons_succ, List.set_cons_zero]
          refine do_ rfl (.slice xa28 (writeP p1).key.length xc29) (ex_load rfl (load1 (nagg_27 _) (St.cell S182 (i := 1) rfl rfl))) ?_
          simp only [Act.put, List.setIfInBounds_toArray, List.set_cons_succ, List.set_cons_zero]
          refine do_ rfl (.pointer (some ⟨n56, 1, none⟩)) (ex_field (q := ⟨n56, 1, none⟩) rfl (fa_67_1 _ _)) ?_
          simp only [Act.put, List.setIfInBounds_toArray, List.set_cons_succ, List.set_cons_zero]
          refine do_ rfl (.slice xa49 (writeP p2).key.length xc50) (ex_load rfl (load1 (nagg_27 _) (St.cell S182 (i := 0) rfl rfl))) ?_
          simp only [Act.put, List.setIfInBounds_toArray, List.set_cons_succ, List.set_cons_zero]
          refine stTells (v := (.bool true)) S182 rfl (ex_fn (vs := #[(.slice xa28 (writeP p1).key.length xc29), (.slice xa49 (writeP p2).key.length xc50)]) (map2 rfl rfl) rfl (ent_46 _ _)) (tells_bool (tells_same (same_spec _ _ _ _ ((writeP p1).key) ((writeP p2).key) (S182).sat (r33.mono ((((((le44.trans le66).trans le73).trans le142).trans le149).trans le162).trans le169)) (r54.mono (((((le66.trans le73).trans le142).trans le149).trans le162).trans le169)))) (beq_iff_eq.2 (hk))) (fun w183 S184 => ?_)
          simp only [Act.put, List.setIfInBounds_toArray, List.set_cons_succ, List.set_cons_zero]
          have S184 : St W (whole W) w183 F168 [⟨n56, [(.slice xa47 (writeP p2).name.length xc48), (.slice xa49 (writeP p2).key.length xc50), (.bool (writeP p2).gone), (.slice xa51 (writeP p2).value.length xc52)], 67⟩, ⟨n35, [(.slice xa26 (writeP p1).name.length xc27), (.slice xa28 (writeP p1).key.length xc29), (.bool (writeP p1).gone), (.slice xa30 (writeP p1).value.length xc31)], 67⟩, ⟨n5, [(.slice a20 p2.name.length c20), (.slice a21 p2.key.length c21), (.slice a22 p2.value.length c22), (.bool p2.gone)], 70⟩, ⟨n2, [(.slice a10 p1.name.length c10), (.slice a11 p1.key.length c11), (.slice a12 p1.value.length c12), (.bool p1.gone)], 70⟩] [] := S184
          refine do_ rfl (.bool true) (ex_pick (b := true) rfl) ?_
          simp only [Act.put, List.setIfInBounds_toArray, List.set_cons_succ, List.set_cons_zero]
          refine do_ rfl (.bool true) (ex_move _) ?_
          simp only [Act.put, List.setIfInBounds_toArray, List.set_cons_succ, List.set_cons_zero]
          refine doN (wanted_no rfl rfl rfl (c := true) rfl (by decide)) ?_
          simp only [Act.put, List.setIfInBounds_toArray, List.set_cons_succ, List.set_cons_zero]
          refine doN (wanted_no rfl rfl rfl (c := true) rfl (by decide)) ?_
          simp only [Act.put, List.setIfInBounds_toArray, List.set_cons_succ, List.set_cons_zero]
          refine do_ rfl (.bool true) (ex_pick (b := true) rfl) ?_
          simp only [Act.put, List.setIfInBounds_toArray, List.set_cons_succ, List.set_cons_zero]
          refine do_ rfl (.bool true) (ex_move _) ?_
          simp only [Act.put, List.setIfInBounds_toArray, List.set_cons_succ, List.set_cons_zero]
          refine doN (wanted_no rfl rfl rfl (c := true) rfl (by decide)) ?_
          simp only [Act.put, List.setIfInBounds_toArray, List.set_cons_succ, List.set_cons_zero]
          refine doN (wanted_no rfl rfl rfl (c := true) rfl (by decide)) ?_
          simp only [Act.put, List.setIfInBounds_toArray, List.set_cons_succ, List.set_cons_zero]
          refine do_ rfl (.bool true) (ex_pick (b := true) rfl) ?_
          simp only [Act.put, List.setIfInBounds_toArray, List.set_cons_succ, List.set_cons_zero]
          refine wl_nil ?_
          (try simp only [Exit.then, Exit.inBlock, ↓reduceIte, Nat.reduceEqDiff])
          refine hK180 _ _ ?_
          refine wp_cond_true rfl ?_
          refine wp_seq_k (fun K185 hK185 => ?_)
          refine region_wl ?_
          refine do_ rfl (.bool true) (ex_assign _) ?_
          simp only [Act.put, List.setIfInBounds_toArray, List.set_cons_succ, List.set_cons_zero]
          refine wl_nil ?_
          (try simp only [Exit.then, Exit.inBlock, ↓reduceIte, Nat.reduceEqDiff])
          refine hK185 _ _ ?_
          refine wp_ret ?_
          (try simp only [Exit.then, Exit.inBlock, ↓reduceIte, Nat.reduceEqDiff])
          refine bodyPost_ret (v := (.bool true)) ?_ rfl ?_
          · exact res_t rfl rfl
          · exact ⟨rfl, S184.gr.below⟩
        · refine region_wl ?_
          refine do_ rfl (.pointer (some ⟨n35, 0, none⟩)) (ex_field (q := ⟨n35, 0, none⟩) rfl (fa_67_0 _ _)) ?_
          simp only [Act.put, List.setIfInBounds_toArray, List.set_cons_succ, List.set_cons_zero]
          refine do_ rfl (.slice xa26 (writeP p1).name.length xc27) (ex_load rfl (load1 (nagg_27 _) (St.cell S167 (i := 1) rfl rfl))) ?_
          simp only [Act.put, List.setIfInBounds_toArray, List.set_cons_succ, List.set_cons_zero]
          refine do_ rfl (.pointer (some ⟨n56, 0, none⟩)) (ex_field (q := ⟨n56, 0, none⟩) rfl (fa_67_0 _ _)) ?_
          simp only [Act.put, List.setIfInBounds_toArray, List.set_cons_succ, List.set_cons_zero]
          refine do_ rfl (.slice xa47 (writeP p2).name.length xc48) (ex_load rfl (load1 (nagg_27 _) (St.cell S167 (i := 0) rfl rfl))) ?_
          simp only [Act.put, List.setIfInBounds_toArray, List.set_cons_succ, List.set_cons_zero]
          refine stTells (v := (.bool true)) S167 rfl (ex_fn (vs := #[(.slice xa26 (writeP p1).name.length xc27), (.slice xa47 (writeP p2).name.length xc48)]) (map2 rfl rfl) rfl (ent_46 _ _)) (tells_bool (tells_same (same_spec _ _ _ _ ((writeP p1).name) ((writeP p2).name) (S167).sat (r32.mono ((((((le44.trans le66).trans le73).trans le142).trans le149).trans le162).trans le169)) (r53.mono (((((le66.trans le73).trans le142).trans le149).trans le162).trans le169)))) (beq_iff_eq.2 (hn))) (fun w186 S187 => ?_)
          simp only [Act.put, List.setIfInBounds_toArray, List.set_cons_succ, List.set_cons_zero]
          have S187 : St W (whole W) w186 F168 [⟨n56, [(.slice xa47 (writeP p2).name.length xc48), (.slice xa49 (writeP p2).key.length xc50), (.bool (writeP p2).gone), (.slice xa51 (writeP p2).value.length xc52)], 67⟩, ⟨n35, [(.slice xa26 (writeP p1).name.length xc27), (.slice xa28 (writeP p1).key.length xc29), (.bool (writeP p1).gone), (.slice xa30 (writeP p1).value.length xc31)], 67⟩, ⟨n5, [(.slice a20 p2.name.length c20), (.slice a21 p2.key.length c21), (.slice a22 p2.value.length c22), (.bool p2.gone)], 70⟩, ⟨n2, [(.slice a10 p1.name.length c10), (.slice a11 p1.key.length c11), (.slice a12 p1.value.length c12), (.bool p1.gone)], 70⟩] [] := S187
          refine do_ rfl (.bool true) (ex_move _) ?_
          simp only [Act.put, List.setIfInBounds_toArray, List.set_cons_succ, List.set_cons_zero]
          refine do_ rfl (.pointer (some ⟨n35, 1, none⟩)) (ex_field (q := ⟨n35, 1, none⟩) rfl (fa_67_1 _ _)) ?_
          simp only [Act.put, List.setIfInBounds_toArray, List.set_cons_succ, List.set_cons_zero]
          refine do_ rfl (.slice xa28 (writeP p1).key.length xc29) (ex_load rfl (load1 (nagg_27 _) (St.cell S187 (i := 1) rfl rfl))) ?_
          simp only [Act.put, List.setIfInBounds_toArray, List.set_cons_succ, List.set_cons_zero]
          refine do_ rfl (.pointer (some ⟨n56, 1, none⟩)) (ex_field (q := ⟨n56, 1, none⟩) rfl (fa_67_1 _ _)) ?_
          simp only [Act.put, List.setIfInBounds_toArray, List.set_cons_succ, List.set_cons_zero]
          refine do_ rfl (.slice xa49 (writeP p2).key.length xc50) (ex_load rfl (load1 (nagg_27 _) (St.cell S187 (i := 0) rfl rfl))) ?_
          simp only [Act.put, List.setIfInBounds_toArray, List.set_cons_succ, List.set_cons_zero]
          refine stTells (v := (.bool false)) S187 rfl (ex_fn (vs := #[(.slice xa28 (writeP p1).key.length xc29), (.slice xa49 (writeP p2).key.length xc50)]) (map2 rfl rfl) rfl (ent_46 _ _)) (tells_bool (tells_same (same_spec _ _ _ _ ((writeP p1).key) ((writeP p2).key) (S187).sat (r33.mono ((((((le44.trans le66).trans le73).trans le142).trans le149).trans le162).trans le169)) (r54.mono (((((le66.trans le73).trans le142).trans le149).trans le162).trans le169)))) (beq_eq_false_iff_ne.2 (hk))) (fun w188 S189 => ?_)
          simp only [Act.put, List.setIfInBounds_toArray, List.set_cons_succ, List.set_cons_zero]
          have S189 : St W (whole W) w188 F168 [⟨n56, [(.slice xa47 (writeP p2).name.length xc48), (.slice xa49 (writeP p2).key.length xc50), (.bool (writeP p2).gone), (.slice xa51 (writeP p2).value.length xc52)], 67⟩, ⟨n35, [(.slice xa26 (writeP p1).name.length xc27), (.slice xa28 (writeP p1).key.length xc29), (.bool (writeP p1).gone), (.slice xa30 (writeP p1).value.length xc31)], 67⟩, ⟨n5, [(.slice a20 p2.name.length c20), (.slice a21 p2.key.length c21), (.slice a22 p2.value.length c22), (.bool p2.gone)], 70⟩, ⟨n2, [(.slice a10 p1.name.length c10), (.slice a11 p1.key.length c11), (.slice a12 p1.value.length c12), (.bool p1.gone)], 70⟩] [] := S189
          refine do_ rfl (.bool false) (ex_pick (b := true) rfl) ?_
          simp only [Act.put, List.setIfInBounds_toArray, List.set_cons_succ, List.set_cons_zero]
          refine do_ rfl (.bool false) (ex_move _) ?_
          simp only [Act.put, List.setIfInBounds_toArray, List.set_cons_succ, List.set_cons_zero]
          refine do_ rfl (.int .i64 11) (ex_move _) ?_
          simp only [Act.put, List.setIfInBounds_toArray, List.set_cons_succ, List.set_cons_zero]
          refine do_ rfl (.bool true) (ex_neq (b := true) rfl rfl (by decide)) ?_
          simp only [Act.put, List.setIfInBounds_toArray, List.set_cons_succ, List.set_cons_zero]
          refine do_ rfl (.bool true) (ex_pick (b := false) rfl) ?_
          simp only [Act.put, List.setIfInBounds_toArray, List.set_cons_succ, List.set_cons_zero]
          refine do_ rfl (.bool true) (ex_move _) ?_
          simp only [Act.put, List.setIfInBounds_toArray, List.set_cons_succ, List.set_cons_zero]
          refine doN (wanted_no rfl rfl rfl (c := true) rfl (by decide)) ?_
          simp only [Act.put, List.setIfInBounds_toArray, List.set_cons_succ, List.set_cons_zero]
          refine doN (wanted_no rfl rfl rfl (c := true) rfl (by decide)) ?_
          simp only [Act.put, List.setIfInBounds_toArray, List.set_cons_succ, List.set_cons_zero]
          refine do_ rfl (.bool true) (ex_pick (b := true) rfl) ?_
          simp only [Act.put, List.setIfInBounds_toArray, List.set_cons_succ, List.set_cons_zero]
          refine wl_nil ?_
          (try simp only [Exit.then, Exit.inBlock, ↓reduceIte, Nat.reduceEqDiff])
          refine hK180 _ _ ?_
          refine wp_cond_true rfl ?_
          refine wp_seq_k (fun K190 hK190 => ?_)
          refine region_wl ?_
          refine do_ rfl (.bool true) (ex_assign _) ?_
          simp only [Act.put, List.setIfInBounds_toArray, List.set_cons_succ, List.set_cons_zero]
          refine wl_nil ?_
          (try simp only [Exit.then, Exit.inBlock, ↓reduceIte, Nat.reduceEqDiff])
          refine hK190 _ _ ?_
          refine wp_ret ?_
          (try simp only [Exit.then, Exit.inBlock, ↓reduceIte, Nat.reduceEqDiff])
          refine bodyPost_ret (v := (.bool true)) ?_ rfl ?_
          · exact res_t rfl rfl
          · exact ⟨rfl, S189.gr.below⟩
      · refine region_wl ?_
        refine do_ rfl (.pointer (some ⟨n35, 0, none⟩)) (ex_field (q := ⟨n35, 0, none⟩) rfl (fa_67_0 _ _)) ?_
        simp only [Act.put, List.setIfInBounds_toArray, List.set_cons_succ, List.set_cons_zero]
        refine do_ rfl (.slice xa26 (writeP p1).name.length xc27) (ex_load rfl (load1 (nagg_27 _) (St.cell S167 (i := 1) rfl rfl))) ?_
        simp only [Act.put, List.setIfInBounds_toArray, List.set_cons_succ, List.set_cons_zero]
        refine do_ rfl (.pointer (some ⟨n56, 0, none⟩)) (ex_field (q := ⟨n56, 0, none⟩) rfl (fa_67_0 _ _)) ?_
        simp only [Act.put, List.setIfInBounds_toArray, List.set_cons_succ, List.set_cons_zero]
        refine do_ rfl (.slice xa47 (writeP p2).name.length xc48) (ex_load rfl (load1 (nagg_27 _) (St.cell S167 (i := 0) rfl rfl))) ?_
        simp only [Act.put, List.setIfInBounds_toArray, List.set_cons_succ, List.set_cons_zero]
        refine stTells (v := (.bool false)) S167 rfl (ex_fn (vs := #[(.slice xa26 (writeP p1).name.length xc27), (.slice xa47 (writeP p2).name.length xc48)]) (map2 rfl rfl) rfl (ent_46 _ _)) (tells_bool (tells_same (same_spec _ _ _ _ ((writeP p1).name) ((writeP p2).name) (S167).sat (r32.mono ((((((le44.trans le66).trans le73).trans le142).trans le149).trans le162).trans le169)) (r53.mono (((((le66.trans le73).trans le142).trans le149).trans le162).trans le169)))) (beq_eq_false_iff_ne.2 (hn))) (fun w191 S192 => ?_)
        simp only [Act.put, List.setIfInBounds_toArray, List.set_cons_succ, List.set_cons_zero]
        have S192 : St W (whole W) w191 F168 [⟨n56, [(.slice xa47 (writeP p2).name.length xc48), (.slice xa49 (writeP p2).key.length xc50), (.bool (writeP p2).gone), (.slice xa51 (writeP p2).value.length xc52)], 67⟩, ⟨n35, [(.slice xa26 (writeP p1).name.length xc27), (.slice xa28 (writeP p1).key.length xc29), (.bool (writeP p1).gone), (.slice xa30 (writeP p1).value.length xc31)], 67⟩, ⟨n5, [(.slice a20 p2.name.length c20), (.slice a21 p2.key.length c21), (.slice a22 p2.value.length c22), (.bool p2.gone)], 70⟩, ⟨n2, [(.slice a10 p1.name.length c10), (.slice a11 p1.key.length c11), (.slice a12 p1.value.length c12), (.bool p1.gone)], 70⟩] [] := S192
        refine do_ rfl (.bool false) (ex_move _) ?_
        simp only [Act.put, List.setIfInBounds_toArray, List.set_cons_succ, List.set_cons_zero]
        refine doN (wanted_no rfl rfl rfl (c := false) rfl (by decide)) ?_
        simp only [Act.put, List.setIfInBounds_toArray, List.set_cons_succ, List.set_cons_zero]
        refine doN (wanted_no rfl rfl rfl (c := false) rfl (by decide)) ?_
        simp only [Act.put, List.setIfInBounds_toArray, List.set_cons_succ, List.set_cons_zero]
        refine doN (wanted_no rfl rfl rfl (c := false) rfl (by decide)) ?_
        simp only [Act.put, List.setIfInBounds_toArray, List.set_cons_succ, List.set_cons_zero]
        refine doN (wanted_no rfl rfl rfl (c := false) rfl (by decide)) ?_
        simp only [Act.put, List.setIfInBounds_toArray, List.set_cons_succ, List.set_cons_zero]
        refine doN (wanted_no rfl rfl rfl (c := false) rfl (by decide)) ?_
        simp only [Act.put, List.setIfInBounds_toArray, List.set_cons_succ, List.set_cons_zero]
        refine do_ rfl (.bool false) (ex_pick (b := false) rfl) ?_
        simp only [Act.put, List.setIfInBounds_toArray, List.set_cons_succ, List.set_cons_zero]
        refine do_ rfl (.bool false) (ex_move _) ?_
        simp only [Act.put, List.setIfInBounds_toArray, List.set_cons_succ, List.set_cons_zero]
        refine do_ rfl (.int .i64 11) (ex_move _) ?_
        simp only [Act.put, List.setIfInBounds_toArray, List.set_cons_succ, List.set_cons_zero]
        refine do_ rfl (.bool true) (ex_neq (b := true) rfl rfl (by decide)) ?_
        simp only [Act.put, List.setIfInBounds_toArray, List.set_cons_succ, List.set_cons_zero]
        refine do_ rfl (.bool true) (ex_pick (b := false) rfl) ?_
        simp only [Act.put, List.setIfInBounds_toArray, List.set_cons_succ, List.set_cons_zero]
        refine do_ rfl (.bool true) (ex_move _) ?_
        simp only [Act.put, List.setIfInBounds_toArray, List.set_cons_succ, List.set_cons_zero]
        refine doN (wanted_no rfl rfl rfl (c := true) rfl (by decide)) ?_
        simp only [Act.put, List.setIfInBounds_toArray, List.set_cons_succ, List.set_cons_zero]
        refine doN (wanted_no rfl rfl rfl (c := true) rfl (by decide)) ?_
        simp only [Act.put, List.setIfInBounds_toArray, List.set_cons_succ, List.set_cons_zero]
        refine do_ rfl (.bool true) (ex_pick (b := true) rfl) ?_
        simp only [Act.put, List.setIfInBounds_toArray, List.set_cons_succ, List.set_cons_zero]
        refine wl_nil ?_
        (try simp only [Exit.then, Exit.inBlock, ↓reduceIte, Nat.reduceEqDiff])
        refine hK180 _ _ ?_
        refine wp_cond_true rfl ?_
        refine wp_seq_k (fun K193 hK193 => ?_)
        refine region_wl ?_
        refine do_ rfl (.bool true) (ex_assign _) ?_
        simp only [Act.put, List.setIfInBounds_toArray, List.set_cons_succ, List.set_cons_zero]
        refine wl_nil ?_
        (try simp only [Exit.then, Exit.inBlock, ↓reduceIte, Nat.reduceEqDiff])
        refine hK193 _ _ ?_
        refine wp_ret ?_
        (try simp only [Exit.then, Exit.inBlock, ↓reduceIte, Nat.reduceEqDiff])
        refine bodyPost_ret (v := (.bool true)) ?_ rfl ?_
        · exact res_t rfl rfl
        · exact ⟨rfl, S192.gr.below⟩
  | some gx =>
    have hx := applyE_ok (l := (forestW (writesN l0 20))) (ws := [(writeP p1), (writeP p2)]) hwsx (by simp)
    rw [ex] at hx
    refine region_wl ?_
    refine do_ rfl (.slice a15 (forestW (writesN l0 20)).length c16) (ex_move _) ?_
    simp only [Act.put, List.setIfInBounds_toArray, List.set_cons_succ, List.set_cons_zero]
    refine do_ rfl (.agg #[(.slice xa26 (writeP p1).name.length xc27), (.slice xa28 (writeP p1).key.length xc29), (.bool (writeP p1).gone), (.slice xa30 (writeP p1).value.length xc31)]) (ex_load rfl (loadN (cs := [(.slice xa26 (writeP p1).name.length xc27), (.slice xa28 (writeP p1).key.length xc29), (.bool (writeP p1).gone), (.slice xa30 (writeP p1).value.length xc31)]) Try.underlying67 rfl (size_67) (St.range S60 (i := 1) rfl 0 [(.slice xa26 (writeP p1).name.length xc27), (.slice xa28 (writeP p1).key.length xc29), (.bool (writeP p1).gone), (.slice xa30 (writeP p1).value.length xc31)] (sub_range 0 rfl)))) ?_
    simp only [Act.put, List.setIfInBounds_toArray, List.set_cons_succ, List.set_cons_zero]
    refine do_ rfl (.agg #[(.slice xa47 (writeP p2).name.length xc48), (.slice xa49 (writeP p2).key.length xc50), (.bool (writeP p2).gone), (.slice xa51 (writeP p2).value.length xc52)]) (ex_load rfl (loadN (cs := [(.slice xa47 (writeP p2).name.length xc48), (.slice xa49 (writeP p2).key.length xc50), (.bool (writeP p2).gone), (.slice xa51 (writeP p2).value.length xc52)]) Try.underlying67 rfl (size_67) (St.range S60 (i := 0) rfl 0 [(.slice xa47 (writeP p2).name.length xc48), (.slice xa49 (writeP p2).key.length xc50), (.bool (writeP p2).gone), (.slice xa51 (writeP p2).value.length xc52)] (sub_range 0 rfl)))) ?_
    simp only [Act.put, List.setIfInBounds_toArray, List.set_cons_succ, List.set_cons_zero]
    refine stNew S60 (v := fun n => .slice (some ⟨n, 0, none⟩) 2 2) rfl (ex_lit (ps := #[(0, (.agg #[(.slice xa26 (writeP p1).name.length xc27), (.slice xa28 (writeP p1).key.length xc29), (.bool (writeP p1).gone), (.slice xa30 (writeP p1).value.length xc31)])), (1, (.agg #[(.slice xa47 (writeP p2).name.length xc48), (.slice xa49 (writeP p2).key.length xc50), (.bool (writeP p2).gone), (.slice xa51 (writeP p2).value.length xc52)]))]) (cells := #[(.slice xa26 (writeP p1).name.length xc27), (.slice xa28 (writeP p1).key.length xc29), (.bool (writeP p1).gone), (.slice xa30 (writeP p1).value.length xc31), (.slice xa47 (writeP p2).name.length xc48), (.slice xa49 (writeP p2).key.length xc50), (.bool (writeP p2).gone), (.slice xa51 (writeP p2).value.length xc52)]) (E := 67) (bmap2 rfl rfl) (fun w => by kernel_rfl)) (fun n194 w195 S196 => ?_)
    simp only [Act.put, List.setIfInBounds_toArray, List.set_cons_succ, List.set_cons_zero]
    have S196 : St W (whole W) w195 F43 [⟨n194, [(.slice xa26 (writeP p1).name.length xc27), (.slice xa28 (writeP p1).key.length xc29), (.bool (writeP p1).gone), (.slice xa30 (writeP p1).value.length xc31), (.slice xa47 (writeP p2).name.length xc48), (.slice xa49 (writeP p2).key.length xc50), (.bool (writeP p2).gone), (.slice xa51 (writeP p2).value.length xc52)], 67⟩, ⟨n56, [(.slice xa47 (writeP p2).name.length xc48), (.slice xa49 (writeP p2).key.length xc50), (.bool (writeP p2).gone), (.slice xa51 (writeP p2).value.length xc52)], 67⟩, ⟨n35, [(.slice xa26 (writeP p1).name.length xc27), (.slice xa28 (writeP p1).key.length xc29), (.bool (writeP p1).gone), (.slice xa30 (writeP p1).value.length xc31)], 67⟩, ⟨n5, [(.slice a20 p2.name.length c20), (.slice a21 p2.key.length c21), (.slice a22 p2.value.length c22), (.bool p2.gone)], 70⟩, ⟨n2, [(.slice a10 p1.name.length c10), (.slice a11 p1.key.length c11), (.slice a12 p1.value.length c12), (.bool p1.gone)], 70⟩] [] := S196
    obtain ⟨S197, le198, hc199⟩ := St.freezeBlk S196 (i := 0) rfl
    have r201 : Wrs _ (.slice (some ⟨n194, 0, none⟩) 2 2) [(writeP p1), (writeP p2)] := sl_of_block (R := WrC) (l := [(writeP p1), (writeP p2)]) (el := [[(.slice xa26 (writeP p1).name.length xc27), (.slice xa28 (writeP p1).key.length xc29), (.bool (writeP p1).gone), (.slice xa30 (writeP p1).value.length xc31)], [(.slice xa47 (writeP p2).name.length xc48), (.slice xa49 (writeP p2).key.length xc50), (.bool (writeP p2).gone), (.slice xa51 (writeP p2).value.length xc52)]]) hc199 rfl ⟨⟨_, _, _, _, rfl, ((r32.mono le44).mono le198), ((r33.mono le44).mono le198), rfl, ((r34.mono le44).mono le198)⟩, ⟨_, _, _, _, rfl, (r53.mono le198), (r54.mono le198), rfl, (r55.mono le198)⟩, trivial⟩ (by simp) (by unfold maxLen; simp)
    generalize addF F43 w195 n194 = F200 at *
    have S197 : St W (whole W) w195 F200 [⟨n56, [(.slice xa47 (writeP p2).name.length xc48), (.slice xa49 (writeP p2).key.length xc50), (.bool (writeP p2).gone), (.slice xa51 (writeP p2).value.length xc52)], 67⟩, ⟨n35, [(.slice xa26 (writeP p1).name.length xc27), (.slice xa28 (writeP p1).key.length xc29), (.bool (writeP p1).gone), (.slice xa30 (writeP p1).value.length xc31)], 67⟩, ⟨n5, [(.slice a20 p2.name.length c20), (.slice a21 p2.key.length c21), (.slice a22 p2.value.length c22), (.bool p2.gone)], 70⟩, ⟨n2, [(.slice a10 p1.name.length c10), (.slice a11 p1.key.length c11), (.slice a12 p1.value.length c12), (.bool p1.gone)], 70⟩] [] := S197
    refine stGives S197 rfl (ex_fn (vs := #[(.slice a15 (forestW (writesN l0 20)).length c16), (.slice (some ⟨n194, 0, none⟩) 2 2)]) (map2 rfl rfl) rfl (ent_59 _ _)) (apply_is (S197).sat (R13.mono ((le23.trans le44).trans le198)) r201 okf hwsx hx) ?_
    intro v207 w202 F204 S203 le205 R206
    obtain ⟨_, rfl, r210⟩ := R206
    obtain ⟨a208, c209, rfl, h211, h212⟩ := Sl.shape r210
    unfold maxLen at h212
    have h211 : gx.length ≤ c209 := h211
    have r210 : Tns _ (.slice a208 gx.length c209) gx := r210
    simp only [Act.put, List.setIfInBounds_toArray, List.set_cons_succ, List.set_cons_zero]
    have S203 : St W (whole W) w202 F204 [⟨n56, [(.slice xa47 (writeP p2).name.length xc48), (.slice xa49 (writeP p2).key.length xc50), (.bool (writeP p2).gone), (.slice xa51 (writeP p2).value.length xc52)], 67⟩, ⟨n35, [(.slice xa26 (writeP p1).name.length xc27), (.slice xa28 (writeP p1).key.length xc29), (.bool (writeP p1).gone), (.slice xa30 (writeP p1).value.length xc31)], 67⟩, ⟨n5, [(.slice a20 p2.name.length c20), (.slice a21 p2.key.length c21), (.slice a22 p2.value.length c22), (.bool p2.gone)], 70⟩, ⟨n2, [(.slice a10 p1.name.length c10), (.slice a11 p1.key.length c11), (.slice a12 p1.value.length c12), (.bool p1.gone)], 70⟩] [] := S203
    refine do_ rfl (.tuple #[(.slice a208 gx.length c209), (.int .i64 0)]) (ex_move _) ?_
    simp only [Act.put, List.setIfInBounds_toArray, List.set_cons_succ, List.set_cons_zero]
    refine do_ rfl (.slice a208 gx.length c209) (ex_extract rfl rfl) ?_
    simp only [Act.put, List.setIfInBounds_toArray, List.set_cons_succ, List.set_cons_zero]
    refine do_ rfl (.int .i64 0) (ex_extract rfl rfl) ?_
    simp only [Act.put, List.setIfInBounds_toArray, List.set_cons_succ, List.set_cons_zero]
    refine do_ rfl (.slice a208 gx.length c209) (ex_assign _) ?_
    simp only [Act.put, List.setIfInBounds_toArray, List.set_cons_succ, List.set_cons_zero]
    refine do_ rfl (.int .i64 0) (ex_assign _) ?_
    simp only [Act.put, List.setIfInBounds_toArray, List.set_cons_succ, List.set_cons_zero]
    refine wl_nil ?_
    (try simp only [Exit.then, Exit.inBlock, ↓reduceIte, Nat.reduceEqDiff])
    refine hK61 _ _ ?_
    refine wp_seq_k (fun K213 hK213 => ?_)
    have hwsy : ∀ w ∈ [(writeP p2), (writeP p1)], WrOk w := by intro w hw; simp at hw; rcases hw with rfl | rfl; exact writeP_ok _; exact writeP_ok _
    cases ey : applyF (forestW (writesN l0 20)) [(writeP p2), (writeP p1)] with
    | none =>
      have hy := applyE_ok (l := (forestW (writesN l0 20))) (ws := [(writeP p2), (writeP p1)]) hwsy (by simp)
      rw [ey] at hy
      refine region_wl ?_
      refine do_ rfl (.slice a15 (forestW (writesN l0 20)).length c16) (ex_move _) ?_
      simp only [Act.put, List.setIfInBounds_toArray, List.set_cons_succ, List.set_cons_zero]
      refine do_ rfl (.agg #[(.slice xa47 (writeP p2).name.length xc48), (.slice xa49 (writeP p2).key.length xc50), (.bool (writeP p2).gone), (.slice xa51 (writeP p2).value.length xc52)]) (ex_load rfl (loadN (cs := [(.slice xa47 (writeP p2).name.length xc48), (.slice xa49 (writeP p2).key.length xc50), (.bool (writeP p2).gone), (.slice xa51 (writeP p2).value.length xc52)]) Try.underlying67 rfl (size_67) (St.range S203 (i := 0) rfl 0 [(.slice xa47 (writeP p2).name.length xc48), (.slice xa49 (writeP p2).key.length xc50), (.bool (writeP p2).gone), (.slice xa51 (writeP p2).value.length xc52)] (sub_range 0 rfl)))) ?_
      simp only [Act.put, List.setIfInBounds_toArray, List.set_cons_succ, List.set_cons_zero]
      refine do_ rfl (.agg #[(.slice xa26 (writeP p1).name.length xc27), (.slice xa28 (writeP p1).key.length xc29), (.bool (writeP p1).gone), (.slice xa30 (writeP p1).value.length xc31)]) (ex_load rfl (loadN (cs := [(.slice xa26 (writeP p1).name.length xc27), (.slice xa28 (writeP p1).key.length xc29), (.bool (writeP p1).gone), (.slice xa30 (writeP p1).value.length xc31)]) Try.underlying67 rfl (size_67) (St.range S203 (i := 1) rfl 0 [(.slice xa26 (writeP p1).name.length xc27), (.slice xa28 (writeP p1).key.length xc29), (.bool (writeP p1).gone), (.slice xa30 (writeP p1).value.length xc31)] (sub_range 0 rfl)))) ?_
      simp only [Act.put, List.setIfInBounds_toArray, List.set_cons_succ, List.set_cons_zero]
      refine stNew S203 (v := fun n => .slice (some ⟨n, 0, none⟩) 2 2) rfl (ex_lit (ps := #[(0, (.agg #[(.slice xa47 (writeP p2).name.length xc48), (.slice xa49 (writeP p2).key.length xc50), (.bool (writeP p2).gone), (.slice xa51 (writeP p2).value.length xc52)])), (1, (.agg #[(.slice xa26 (writeP p1).name.length xc27), (.slice xa28 (writeP p1).key.length xc29), (.bool (writeP p1).gone), (.slice xa30 (writeP p1).value.length xc31)]))]) (cells := #[(.slice xa47 (writeP p2).name.length xc48), (.slice xa49 (writeP p2).key.length xc50), (.bool (writeP p2).gone), (.slice xa51 (writeP p2).value.length xc52), (.slice xa26 (writeP p1).name.length xc27), (.slice xa28 (writeP p1).key.length xc29), (.bool (writeP p1).gone), (.slice xa30 (writeP p1).value.length xc31)]) (E := 67) (bmap2 rfl rfl) (fun w => by kernel_rfl)) (fun n214 w215 S216 => ?_)
      simp only [Act.put, List.setIfInBounds_toArray, List.set_cons_succ, List.set_cons_zero]
      have S216 : St W (whole W) w215 F204 [⟨n214, [(.slice xa47 (writeP p2).name.length xc48), (.slice xa49 (writeP p2).key.length xc50), (.bool (writeP p2).gone), (.slice xa51 (writeP p2).value.length xc52), (.slice xa26 (writeP p1).name.length xc27), (.slice xa28 (writeP p1).key.length xc29), (.bool (writeP p1).gone), (.slice xa30 (writeP p1).value.length xc31)], 67⟩, ⟨n56, [(.slice xa47 (writeP p2).name.length xc48), (.slice xa49 (writeP p2).key.length xc50), (.bool (writeP p2).gone), (.slice xa51 (writeP p2).value.length xc52)], 67⟩, ⟨n35, [(.slice xa26 (writeP p1).name.length xc27), (.slice xa28 (writeP p1).key.length xc29), (.bool (writeP p1).gone), (.slice xa30 (writeP p1).value.length xc31)], 67⟩, ⟨n5, [(.slice a20 p2.name.length c20), (.slice a21 p2.key.length c21), (.slice a22 p2.value.length c22), (.bool p2.gone)], 70⟩, ⟨n2, [(.slice a10 p1.name.length c10), (.slice a11 p1.key.length c11), (.slice a12 p1.value.length c12), (.bool p1.gone)], 70⟩] [] := S216
      obtain ⟨S217, le218, hc219⟩ := St.freezeBlk S216 (i := 0) rfl
      have r221 : Wrs _ (.slice (some ⟨n214, 0, none⟩) 2 2) [(writeP p2), (writeP p1)] := sl_of_block (R := WrC) (l := [(writeP p2), (writeP p1)]) (el := [[(.slice xa47 (writeP p2).name.length xc48), (.slice xa49 (writeP p2).key.length xc50), (.bool (writeP p2).gone), (.slice xa51 (writeP p2).value.length xc52)], [(.slice xa26 (writeP p1).name.length xc27), (.slice xa28 (writeP p1).key.length xc29), (.bool (writeP p1).gone), (.slice xa30 (writeP p1).value.length xc31)]]) hc219 rfl ⟨⟨_, _, _, _, rfl, ((r53.mono (le198.trans le205)).mono le218), ((r54.mono (le198.trans le205)).mono le218), rfl, ((r55.mono (le198.trans le205)).mono le218)⟩, ⟨_, _, _, _, rfl, ((r32.mono ((le44.trans le198).trans le205)).mono le218), ((r33.mono ((le44.trans le198).trans le205)).mono le218), rfl, ((r34.mono ((le44.trans le198).trans le205)).mono le218)⟩, trivial⟩ (by simp) (by unfold maxLen; simp)
      generalize addF F204 w215 n214 = F220 at *
      have S217 : St W (whole W) w215 F220 [⟨n56, [(.slice xa47 (writeP p2).name.length xc48), (.slice xa49 (writeP p2).key.length xc50), (.bool (writeP p2).gone), (.slice xa51 (writeP p2).value.length xc52)], 67⟩, ⟨n35, [(.slice xa26 (writeP p1).name.length xc27), (.slice xa28 (writeP p1).key.length xc29), (.bool (writeP p1).gone), (.slice xa30 (writeP p1).value.length xc31)], 67⟩, ⟨n5, [(.slice a20 p2.name.length c20), (.slice a21 p2.key.length c21), (.slice a22 p2.value.length c22), (.bool p2.gone)], 70⟩, ⟨n2, [(.slice a10 p1.name.length c10), (.slice a11 p1.key.length c11), (.slice a12 p1.value.length c12), (.bool p1.gone)], 70⟩] [] := S217
      refine stGives S217 rfl (ex_fn (vs := #[(.slice a15 (forestW (writesN l0 20)).length c16), (.slice (some ⟨n214, 0, none⟩) 2 2)]) (map2 rfl rfl) rfl (ent_59 _ _)) (apply_is (S217).sat (R13.mono ((((le23.trans le44).trans le198).trans le205).trans le218)) r221 okf hwsy hy) ?_
      intro v227 w222 F224 S223 le225 R226
      obtain ⟨_, rfl, r230⟩ := R226
      obtain ⟨a228, c229, rfl, h231, h232⟩ := Sl.shape r230
      unfold maxLen at h232
      simp only [Act.put, List.setIfInBounds_toArray, List.set_cons_succ, List.set_cons_zero]
      have S223 : St W (whole W) w222 F224 [⟨n56, [(.slice xa47 (writeP p2).name.length xc48), (.slice xa49 (writeP p2).key.length xc50), (.bool (writeP p2).gone), (.slice xa51 (writeP p2).value.length xc52)], 67⟩, ⟨n35, [(.slice xa26 (writeP p1).name.length xc27), (.slice xa28 (writeP p1).key.length xc29), (.bool (writeP p1).gone), (.slice xa30 (writeP p1).value.length xc31)], 67⟩, ⟨n5, [(.slice a20 p2.name.length c20), (.slice a21 p2.key.length c21), (.slice a22 p2.value.length c22), (.bool p2.gone)], 70⟩, ⟨n2, [(.slice a10 p1.name.length c10), (.slice a11 p1.key.length c11), (.slice a12 p1.value.length c12), (.bool p1.gone)], 70⟩] [] := S223
      refine do_ rfl (.tuple #[(.slice a228 ([] : Forest).length c229), (.int .i64 11)]) (ex_move _) ?_
      simp only [Act.put, List.setIfInBounds_toArray, List.set_cons_succ, List.set_cons_zero]
      refine do_ rfl (.slice a228 ([] : Forest).length c229) (ex_extract rfl rfl) ?_
      simp only [Act.put, List.setIfInBounds_toArray, List.set_cons_succ, List.set_cons_zero]
      refine do_ rfl (.int .i64 11) (ex_extract rfl rfl) ?_
      simp only [Act.put, List.setIfInBounds_toArray, List.set_cons_succ, List.set_cons_zero]
      refine do_ rfl (.slice a228 ([] : Forest).length c229) (ex_assign _) ?_
      simp only [Act.put, List.setIfInBounds_toArray, List.set_cons_succ, List.set_cons_zero]
      refine do_ rfl (.int .i64 11) (ex_assign _) ?_
      simp only [Act.put, List.setIfInBounds_toArray, List.set_cons_succ, List.set_cons_zero]
      refine wl_nil ?_
      (try simp only [Exit.then, Exit.inBlock, ↓reduceIte, Nat.reduceEqDiff])
      refine hK213 _ _ ?_
      refine wp_seq_k (fun K233 hK233 => ?_)
      refine region_wl ?_
      refine do_ rfl (.slice a15 (forestW (writesN l0 20)).length c16) (ex_move _) ?_
      simp only [Act.put, List.setIfInBounds_toArray, List.set_cons_succ, List.set_cons_zero]
      refine stMake (k := 4) (n := 11) (m := 11) S223 rfl i67 (.agg #[(.slice none 0 0), (.slice none 0 0), (.bool false), (.slice none 0 0)]) 80 Try.underlying75 hi67 hz67 hs67 hb67 rfl rfl (by decide) (by decide) (by decide) ?_
      intro g234 w235 S236
      simp only [Act.put, List.setIfInBounds_toArray, List.set_cons_succ, List.set_cons_zero]
      have S236 : St W (whole W) w235 F224 [⟨g234, ((madeCells (Value.agg #[(.slice none 0 0), (.slice none 0 0), (.bool false), (.slice none 0 0)]).cells (11 * 4)).toList), 67⟩, ⟨n56, [(.slice xa47 (writeP p2).name.length xc48), (.slice xa49 (writeP p2).key.length xc50), (.bool (writeP p2).gone), (.slice xa51 (writeP p2).value.length xc52)], 67⟩, ⟨n35, [(.slice xa26 (writeP p1).name.length xc27), (.slice xa28 (writeP p1).key.length xc29), (.bool (writeP p1).gone), (.slice xa30 (writeP p1).value.length xc31)], 67⟩, ⟨n5, [(.slice a20 p2.name.length c20), (.slice a21 p2.key.length c21), (.slice a22 p2.value.length c22), (.bool p2.gone)], 70⟩, ⟨n2, [(.slice a10 p1.name.length c10), (.slice a11 p1.key.length c11), (.slice a12 p1.value.length c12), (.bool p1.gone)], 70⟩] [] := S236
      obtain ⟨S237, le238, hc239⟩ := St.freezeBlk S236 (i := 0) rfl
      have r241 : Wrs _ (.slice (some ⟨g234, 0, none⟩) 11 11) (List.replicate 11 (⟨[], [], false, []⟩ : Wr)) := sl_of_block (R := WrC) (l := (List.replicate 11 (⟨[], [], false, []⟩ : Wr))) hc239 zeros_wr (wrs_zero _) (by intro x hx; rw [List.eq_of_mem_replicate hx]; rfl) (by unfold maxLen; simp)
      generalize addF F224 w235 g234 = F240 at *
      have S237 : St W (whole W) w235 F240 [⟨n56, [(.slice xa47 (writeP p2).name.length xc48), (.slice xa49 (writeP p2).key.length xc50), (.bool (writeP p2).gone), (.slice xa51 (writeP p2).value.length xc52)], 67⟩, ⟨n35, [(.slice xa26 (writeP p1).name.length xc27), (.slice xa28 (writeP p1).key.length xc29), (.bool (writeP p1).gone), (.slice xa30 (writeP p1).value.length xc31)], 67⟩, ⟨n5, [(.slice a20 p2.name.length c20), (.slice a21 p2.key.length c21), (.slice a22 p2.value.length c22), (.bool p2.gone)], 70⟩, ⟨n2, [(.slice a10 p1.name.length c10), (.slice a11 p1.key.length c11), (.slice a12 p1.value.length c12), (.bool p1.gone)], 70⟩] [] := S237
      refine stGives S237 rfl (ex_fn (vs := #[(.slice a15 (forestW (writesN l0 20)).length c16), (.slice (some ⟨g234, 0, none⟩) 11 11)]) (map2 rfl rfl) rfl (ent_59 _ _)) (applyMany_spec _ _ _ _ (forestW (writesN l0 20)) (S237).sat (R13.mono ((((((le23.trans le44).trans le198).trans le205).trans le218).trans le225).trans le238)) r241 okf) ?_
      intro v247 w242 F244 S243 le245 R246
      obtain ⟨_, rfl, r250⟩ := R246
      obtain ⟨a248, c249, rfl, h251, h252⟩ := Sl.shape r250
      unfold maxLen at h252
      simp only [Act.put, List.setIfInBounds_toArray, List.set_cons_succ, List.set_cons_zero]
      have S243 : St W (whole W) w242 F244 [⟨n56, [(.slice xa47 (writeP p2).name.length xc48), (.slice xa49 (writeP p2).key.length xc50), (.bool (writeP p2).gone), (.slice xa51 (writeP p2).value.length xc52)], 67⟩, ⟨n35, [(.slice xa26 (writeP p1).name.length xc27), (.slice xa28 (writeP p1).key.length xc29), (.bool (writeP p1).gone), (.slice xa30 (writeP p1).value.length xc31)], 67⟩, ⟨n5, [(.slice a20 p2.name.length c20), (.slice a21 p2.key.length c21), (.slice a22 p2.value.length c22), (.bool p2.gone)], 70⟩, ⟨n2, [(.slice a10 p1.name.length c10), (.slice a11 p1.key.length c11), (.slice a12 p1.value.length c12), (.bool p1.gone)], 70⟩] [] := S243
      refine do_ rfl (.tuple #[(.slice a248 ([] : Forest).length c249), (.int .i64 1)]) (ex_move _) ?_
      simp only [Act.put, List.setIfInBounds_toArray, List.set_cons_succ, List.set_cons_zero]
      refine do_ rfl (.slice a248 ([] : Forest).length c249) (ex_extract rfl rfl) ?_
      simp only [Act.put, List.setIfInBounds_toArray, List.set_cons_succ, List.set_cons_zero]
      refine do_ rfl (.int .i64 1) (ex_extract rfl rfl) ?_
      simp only [Act.put, List.setIfInBounds_toArray, List.set_cons_succ, List.set_cons_zero]
      refine do_ rfl (.slice a248 ([] : Forest).length c249) (ex_assign _) ?_
      simp only [Act.put, List.setIfInBounds_toArray, List.set_cons_succ, List.set_cons_zero]
      refine do_ rfl (.int .i64 1) (ex_assign _) ?_
      simp only [Act.put, List.setIfInBounds_toArray, List.set_cons_succ, List.set_cons_zero]
      refine wl_nil ?_
      (try simp only [Exit.then, Exit.inBlock, ↓reduceIte, Nat.reduceEqDiff])
      refine hK233 _ _ ?_
      refine wp_seq_k (fun K253 hK253 => ?_)
      refine wp_seq_k (fun K254 hK254 => ?_)
      refine region_wl ?_
      refine do_ rfl (.int .i64 1) (ex_move _) ?_
      simp only [Act.put, List.setIfInBounds_toArray, List.set_cons_succ, List.set_cons_zero]
      refine do_ rfl (.bool false) (ex_neq (b := false) rfl rfl (by decide)) ?_
      simp only [Act.put, List.setIfInBounds_toArray, List.set_cons_succ, List.set_cons_zero]
      refine wl_nil ?_
      (try simp only [Exit.then, Exit.inBlock, ↓reduceIte, Nat.reduceEqDiff])
      refine hK254 _ _ ?_
      refine wp_cond_false rfl ?_
      refine wp_skip ?_
      (try simp only [Exit.then, Exit.inBlock, ↓reduceIte, Nat.reduceEqDiff])
      refine hK253 _ _ ?_
      refine wp_seq_k (fun K255 hK255 => ?_)
      refine wp_seq_k (fun K256 hK256 => ?_)
      by_cases hn : (writeP p1).name = (writeP p2).name
      · by_cases hk : (writeP p1).key = (writeP p2).key
        · refine region_wl ?_
          refine do_ rfl (.pointer (some ⟨n35, 0, none⟩)) (ex_field (q := ⟨n35, 0, none⟩) rfl (fa_67_0 _ _)) ?_
          simp only [Act.put, List.setIfInBounds_toArray, List.set_cons_succ, List.set_cons_zero]
          refine do_ rfl (.slice xa26 (writeP p1).name.length xc27) (ex_load rfl (load1 (nagg_27 _) (St.cell S243 (i := 1) rfl rfl))) ?_
          simp only [Act.put, List.setIfInBounds_toArray, List.set_cons_succ, List.set_cons_zero]
          refine do_ rfl (.pointer (some ⟨n56, 0, none⟩)) (ex_field (q := ⟨n56, 0, none⟩) rfl (fa_67_0 _ _)) ?_
          simp only [Act.put, List.setIfInBounds_toArray, List.set_cons_succ, List.set_cons_zero]
          refine do_ rfl (.slice xa47 (writeP p2).name.length xc48) (ex_load rfl (load1 (nagg_27 _) (St.cell S243 (i := 0) rfl rfl))) ?_
          simp only [Act.put, List.setIfInBounds_toArray, List.set_cons_succ, List.set_cons_zero]
          refine stTells (v := (.bool true)) S243 rfl (ex_fn (vs := #[(.slice xa26 (writeP p1).name.length xc27), (.slice xa47 (writeP p2).name.length xc48)]) (map2 rfl rfl) rfl (ent_46 _ _)) (tells_bool (tells_same (same_spec _ _ _ _ ((writeP p1).name) ((writeP p2).name) (S243).sat (r32.mono ((((((le44.trans le198).trans le205).trans le218).trans le225).trans le238).trans le245)) (r53.mono (((((le198.trans le205).trans le218).trans le225).trans le238).trans le245)))) (beq_iff_eq.2 (hn))) (fun w257 S258 => ?_)
          simp only [Act.put, List.setIfInBounds_toArray, List.set_cons_succ, List.set_cons_zero]
          have S258 : St W (whole W) w257 F244 [⟨n56, [(.slice xa47 (writeP p2).name.length xc48), (.slice xa49 (writeP p2).key.length xc50), (.bool (writeP p2).gone), (.slice xa51 (writeP p2).value.length xc52)], 67⟩, ⟨n35, [(.slice xa26 (writeP p1).name.length xc27), (.slice xa28 (writeP p1).key.length xc29), (.bool (writeP p1).gone), (.slice xa30 (writeP p1).value.length xc31)], 67⟩, ⟨n5, [(.slice a20 p2.name.length c20), (.slice a21 p2.key.length c21), (.slice a22 p2.value.length c22), (.bool p2.gone)], 70⟩, ⟨n2, [(.slice a10 p1.name.length c10), (.slice a11 p1.key.length c11), (.slice a12 p1.value.length c12), (.bool p1.gone)], 70⟩] [] := S258
          refine do_ rfl (.bool true) (ex_move _) ?_
          simp only [Act.put, List.setIfInBounds_toArray, List.set_cons_succ, List.set_cons_zero]
          refine do_ rfl (.pointer (some ⟨n35, 1, none⟩)) (ex_field (q := ⟨n35, 1, none⟩) rfl (fa_67_1 _ _)) ?_
          simp only [Act.put, List.setIfInBounds_toArray, List.set_cons_succ, List.set_cons_zero]
          refine do_ rfl (.slice xa28 (writeP p1).key.length xc29) (ex_load rfl (load1 (nagg_27 _) (St.cell S258 (i := 1) rfl rfl))) ?_
          simp only [Act.put, List.setIfInBounds_toArray, List.set_cons_succ, List.set_cons_zero]
          refine do_ rfl (.pointer (some ⟨n56, 1, none⟩)) (ex_field (q := ⟨n56, 1, none⟩) rfl (fa_67_1 _ _)) ?_
          simp only [Act.put, List.setIfInBounds_toArray, List.set_cons_succ, List.set_cons_zero]
          refine do_ rfl (.slice xa49 (writeP p2).key.length xc50) (ex_load rfl (load1 (nagg_27 _) (St.cell S258 (i := 0) rfl rfl))) ?_
          simp only [Act.put, List.setIfInBounds_toArray, List.set_cons_succ, List.set_cons_zero]
          refine stTells (v := (.bool true)) S258 rfl (ex_fn (vs := #[(.slice xa28 (writeP p1).key.length xc29), (.slice xa49 (writeP p2).key.length xc50)]) (map2 rfl rfl) rfl (ent_46 _ _)) (tells_bool (tells_same (same_spec _ _ _ _ ((writeP p1).key) ((writeP p2).key) (S258).sat (r33.mono ((((((le44.trans le198).trans le205).trans le218).trans le225).trans le238).trans le245)) (r54.mono (((((le198.trans le205).trans le218).trans le225).trans le238).trans le245)))) (beq_iff_eq.2 (hk))) (fun w259 S260 => ?_)
          simp only [Act.put, List.setIfInBounds_toArray, List.set_cons_succ, List.set_cons_zero]
          have S260 : St W (whole W) w259 F244 [⟨n56, [(.slice xa47 (writeP p2).name.length xc48), (.slice xa49 (writeP p2).key.length xc50), (.bool (writeP p2).gone), (.slice xa51 (writeP p2).value.length xc52)], 67⟩, ⟨n35, [(.slice xa26 (writeP p1).name.length xc27), (.slice xa28 (writeP p1).key.length xc29), (.bool (writeP p1).gone), (.slice xa30 (writeP p1).value.length xc31)], 67⟩, ⟨n5, [(.slice a20 p2.name.length c20), (.slice a21 p2.key.length c21), (.slice a22 p2.value.length c22), (.bool p2.gone)], 70⟩, ⟨n2, [(.slice a10 p1.name.length c10), (.slice a11 p1.key.length c11), (.slice a12 p1.value.length c12), (.bool p1.gone)], 70⟩] [] := S260
          refine do_ rfl (.bool true) (ex_pick (b := true) rfl) ?_
          simp only [Act.put, List.setIfInBounds_toArray, List.set_cons_succ, List.set_cons_zero]
          refine do_ rfl (.bool true) (ex_move _) ?_
          simp only [Act.put, List.setIfInBounds_toArray, List.set_cons_succ, List.set_cons_zero]
          refine doN (wanted_no rfl rfl rfl (c := true) rfl (by decide)) ?_
          simp only [Act.put, List.setIfInBounds_toArray, List.set_cons_succ, List.set_cons_zero]
          refine doN (wanted_no rfl rfl rfl (c := true) rfl (by decide)) ?_
          simp only [Act.put, List.setIfInBounds_toArray, List.set_cons_succ, List.set_cons_zero]
          refine do_ rfl (.bool true) (ex_pick (b := true) rfl) ?_
          simp only [Act.put, List.setIfInBounds_toArray, List.set_cons_succ, List.set_cons_zero]
          refine do_ rfl (.bool true) (ex_move _) ?_
          simp only [Act.put, List.setIfInBounds_toArray, List.set_cons_succ, List.set_cons_zero]
          refine doN (wanted_no rfl rfl rfl (c := true) rfl (by decide)) ?_
          simp only [Act.put, List.setIfInBounds_toArray, List.set_cons_succ, List.set_cons_zero]
          refine doN (wanted_no rfl rfl rfl (c := true) rfl (by decide)) ?_
          simp only [Act.put, List.setIfInBounds_toArray, List.set_cons_succ, List.set_cons_zero]
          refine do_ rfl (.bool true) (ex_pick (b := true) rfl) ?_
          simp only [Act.put, List.setIfInBounds_toArray, List.set_cons_succ, List.set_cons_zero]
          refine wl_nil ?_
          (try simp only [Exit.then, Exit.inBlock, ↓reduceIte, Nat.reduceEqDiff])
          refine hK256 _ _ ?_
          refine wp_cond_true rfl ?_
          refine wp_seq_k (fun K261 hK261 => ?_)
          refine region_wl ?_
          refine do_ rfl (.bool true) (ex_assign _) ?_
          simp only [Act.put, List.setIfInBounds_toArray, List.set_cons_succ, List.set_cons_zero]
          refine wl_nil ?_
          (try simp only [Exit.then, Exit.inBlock, ↓reduceIte, Nat.reduceEqDiff])
          refine hK261 _ _ ?_
          refine wp_ret ?_
          (try simp only [Exit.then, Exit.inBlock, ↓reduceIte, Nat.reduceEqDiff])
          refine bodyPost_ret (v := (.bool true)) ?_ rfl ?_
          · exact res_t rfl rfl
          · exact ⟨rfl, S260.gr.below⟩
        · refine region_wl ?_
          refine do_ rfl (.pointer (some ⟨n35, 0, none⟩)) (ex_field (q := ⟨n35, 0, none⟩) rfl (fa_67_0 _ _)) ?_
          simp only [Act.put, List.setIfInBounds_toArray, List.set_cons_succ, List.set_cons_zero]
          refine do_ rfl (.slice xa26 (writeP p1).name.length xc27) (ex_load rfl (load1 (nagg_27 _) (St.cell S243 (i := 1) rfl rfl))) ?_
          simp only [Act.put, List.setIfInBounds_toArray, List.set_cons_succ, List.set_cons_zero]
          refine do_ rfl (.pointer (some ⟨n56, 0, none⟩)) (ex_field (q := ⟨n56, 0, none⟩) rfl (fa_67_0 _ _)) ?_
          simp only [Act.put, List.setIfInBounds_toArray, List.set_cons_succ, List.set_cons_zero]
          refine do_ rfl (.slice xa47 (writeP p2).name.length xc48) (ex_load rfl (load1 (nagg_27 _) (St.cell S243 (i := 0) rfl rfl))) ?_
          simp only [Act.put, List.setIfInBounds_toArray, List.set_cons_succ, List.set_cons_zero]
          refine stTells (v := (.bool true)) S243 rfl (ex_fn (vs := #[(.slice xa26 (writeP p1).name.length xc27), (.slice xa47 (writeP p2).name.length xc48)]) (map2 rfl rfl) rfl (ent_46 _ _)) (tells_bool (tells_same (same_spec _ _ _ _ ((writeP p1).name) ((writeP p2).name) (S243).sat (r32.mono ((((((le44.trans le198).trans le205).trans le218).trans le225).trans le238).trans le245)) (r53.mono (((((le198.trans le205).trans le218).trans le225).trans le238).trans le245)))) (beq_iff_eq.2 (hn))) (fun w262 S263 => ?_)
          simp only [Act.put, List.setIfInBounds_toArray, List.set_cons_succ, List.set_cons_zero]
          have S263 : St W (whole W) w262 F244 [⟨n56, [(.slice xa47 (writeP p2).name.length xc48), (.slice xa49 (writeP p2).key.length xc50), (.bool (writeP p2).gone), (.slice xa51 (writeP p2).value.length xc52)], 67⟩, ⟨n35, [(.slice xa26 (writeP p1).name.length xc27), (.slice xa28 (writeP p1).key.length xc29), (.bool (writeP p1).gone), (.slice xa30 (writeP p1).value.length xc31)], 67⟩, ⟨n5, [(.slice a20 p2.name.length c20), (.slice a21 p2.key.length c21), (.slice a22 p2.value.length c22), (.bool p2.gone)], 70⟩, ⟨n2, [(.slice a10 p1.name.length c10), (.slice a11 p1.key.length c11), (.slice a12 p1.value.length c12), (.bool p1.gone)], 70⟩] [] := S263
          refine do_ rfl (.bool true) (ex_move _) ?_
          simp only [Act.put, List.setIfInBounds_toArray, List.set_cons_succ, List.set_cons_zero]
          refine do_ rfl (.pointer (some ⟨n35, 1, none⟩)) (ex_field (q := ⟨n35, 1, none⟩) rfl (fa_67_1 _ _)) ?_
          simp only [Act.put, List.setIfInBounds_toArray, List.set_cons_succ, List.set_cons_zero]
          refine do_ rfl (.slice xa28 (writeP p1).key.length xc29) (ex_load rfl (load1 (nagg_27 _) (St.cell S263 (i := 1) rfl rfl))) ?_
          simp only [Act.put, List.setIfInBounds_toArray, List.set_cons_succ, List.set_cons_zero]
          refine do_ rfl (.pointer (some ⟨n56, 1, none⟩)) (ex_field (q := ⟨n56, 1, none⟩) rfl (fa_67_1 _ _)) ?_
          simp only [Act.put, List.setIfInBounds_toArray, List.set_cons_succ, List.set_cons_zero]
          refine do_ rfl (.slice xa49 (writeP p2).key.length xc50) (ex_load rfl (load1 (nagg_27 _) (St.cell S263 (i := 0) rfl rfl))) ?_
          simp only [Act.put, List.setIfInBounds_toArray, List.set_cons_succ, List.set_cons_zero]
          refine stTells (v := (.bool false)) S263 rfl (ex_fn (vs := #[(.slice xa28 (writeP p1).key.length xc29), (.slice xa49 (writeP p2).key.length xc50)]) (map2 rfl rfl) rfl (ent_46 _ _)) (tells_bool (tells_same (same_spec _ _ _ _ ((writeP p1).key) ((writeP p2).key) (S263).sat (r33.mono ((((((le44.trans le198).trans le205).trans le218).trans le225).trans le238).trans le245)) (r54.mono (((((le198.trans le205).trans le218).trans le225).trans le238).trans le245)))) (beq_eq_false_iff_ne.2 (hk))) (fun w264 S265 => ?_)
          simp only [Act.put, List.setIfInBounds_toArray, List.set_cons_succ, List.set_cons_zero]
          have S265 : St W (whole W) w264 F244 [⟨n56, [(.slice xa47 (writeP p2).name.length xc48), (.slice xa49 (writeP p2).key.length xc50), (.bool (writeP p2).gone), (.slice xa51 (writeP p2).value.length xc52)], 67⟩, ⟨n35, [(.slice xa26 (writeP p1).name.length xc27), (.slice xa28 (writeP p1).key.length xc29), (.bool (writeP p1).gone), (.slice xa30 (writeP p1).value.length xc31)], 67⟩, ⟨n5, [(.slice a20 p2.name.length c20), (.slice a21 p2.key.length c21), (.slice a22 p2.value.length c22), (.bool p2.gone)], 70⟩, ⟨n2, [(.slice a10 p1.name.length c10), (.slice a11 p1.key.length c11), (.slice a12 p1.value.length c12), (.bool p1.gone)], 70⟩] [] := S265
          refine do_ rfl (.bool false) (ex_pick (b := true) rfl) ?_
          simp only [Act.put, List.setIfInBounds_toArray, List.set_cons_succ, List.set_cons_zero]
          refine do_ rfl (.bool false) (ex_move _) ?_
          simp only [Act.put, List.setIfInBounds_toArray, List.set_cons_succ, List.set_cons_zero]
          refine do_ rfl (.int .i64 0) (ex_move _) ?_
          simp only [Act.put, List.setIfInBounds_toArray, List.set_cons_succ, List.set_cons_zero]
          refine do_ rfl (.bool false) (ex_neq (b := false) rfl rfl (by decide)) ?_
          simp only [Act.put, List.setIfInBounds_toArray, List.set_cons_succ, List.set_cons_zero]
          refine do_ rfl (.bool false) (ex_pick (b := false) rfl) ?_
          simp only [Act.put, List.setIfInBounds_toArray, List.set_cons_succ, List.set_cons_zero]
          refine do_ rfl (.bool false) (ex_move _) ?_
          simp only [Act.put, List.setIfInBounds_toArray, List.set_cons_succ, List.set_cons_zero]
          refine do_ rfl (.int .i64 11) (ex_move _) ?_
          simp only [Act.put, List.setIfInBounds_toArray, List.set_cons_succ, List.set_cons_zero]
          refine do_ rfl (.bool true) (ex_neq (b := true) rfl rfl (by decide)) ?_
          simp only [Act.put, List.setIfInBounds_toArray, List.set_cons_succ, List.set_cons_zero]
          refine do_ rfl (.bool true) (ex_pick (b := false) rfl) ?_
          simp only [Act.put, List.setIfInBounds_toArray, List.set_cons_succ, List.set_cons_zero]
          refine wl_nil ?_
          (try simp only [Exit.then, Exit.inBlock, ↓reduceIte, Nat.reduceEqDiff])
          refine hK256 _ _ ?_
          refine wp_cond_true rfl ?_
          refine wp_seq_k (fun K266 hK266 => ?_)
          refine region_wl ?_
          refine do_ rfl (.bool true) (ex_assign _) ?_
          simp only [Act.put, List.setIfInBounds_toArray, List.set_cons_succ, List.set_cons_zero]
          refine wl_nil ?_
          (try simp only [Exit.then, Exit.inBlock, ↓reduceIte, Nat.reduceEqDiff])
          refine hK266 _ _ ?_
          refine wp_ret ?_
          (try simp only [Exit.then, Exit.inBlock, ↓reduceIte, Nat.reduceEqDiff])
          refine bodyPost_ret (v := (.bool true)) ?_ rfl ?_
          · exact res_t rfl rfl
          · exact ⟨rfl, S265.gr.below⟩
      · refine region_wl ?_
        refine do_ rfl (.pointer (some ⟨n35, 0, none⟩)) (ex_field (q := ⟨n35, 0, none⟩) rfl (fa_67_0 _ _)) ?_
        simp only [Act.put, List.setIfInBounds_toArray, List.set_cons_succ, List.set_cons_zero]
        refine do_ rfl (.slice xa26 (writeP p1).name.length xc27) (ex_load rfl (load1 (nagg_27 _) (St.cell S243 (i := 1) rfl rfl))) ?_
        simp only [Act.put, List.setIfInBounds_toArray, List.set_cons_succ, List.set_cons_zero]
        refine do_ rfl (.pointer (some ⟨n56, 0, none⟩)) (ex_field (q := ⟨n56, 0, none⟩) rfl (fa_67_0 _ _)) ?_
        simp only [Act.put, List.setIfInBounds_toArray, List.set_cons_succ, List.set_cons_zero]
        refine do_ rfl (.slice xa47 (writeP p2).name.length xc48) (ex_load rfl (load1 (nagg_27 _) (St.cell S243 (i := 0) rfl rfl))) ?_
        simp only [Act.put, List.setIfInBounds_toArray, List.set_cons_succ, List.set_cons_zero]
        refine stTells (v := (.bool false)) S243 rfl (ex_fn (vs := #[(.slice xa26 (writeP p1).name.length xc27), (.slice xa47 (writeP p2).name.length xc48)]) (map2 rfl rfl) rfl (ent_46 _ _)) (tells_bool (tells_same (same_spec _ _ _ _ ((writeP p1).name) ((writeP p2).name) (S243).sat (r32.mono ((((((le44.trans le198).trans le205).trans le218).trans le225).trans le238).trans le245)) (r53.mono (((((le198.trans le205).trans le218).trans le225).trans le238).trans le245)))) (beq_eq_false_iff_ne.2 (hn))) (fun w267 S268 => ?_)
        simp only [Act.put, List.setIfInBounds_toArray, List.set_cons_succ, List.set_cons_zero]
        have S268 : St W (whole W) w267 F244 [⟨n56, [(.slice xa47 (writeP p2).name.length xc48), (.slice xa49 (writeP p2).key.length xc50), (.bool (writeP p2).gone), (.slice xa51 (writeP p2).value.length xc52)], 67⟩, ⟨n35, [(.slice xa26 (writeP p1).name.length xc27), (.slice xa28 (writeP p1).key.length xc29), (.bool (writeP p1).gone), (.slice xa30 (writeP p1).value.length xc31)], 67⟩, ⟨n5, [(.slice a20 p2.name.length c20), (.slice a21 p2.key.length c21), (.slice a22 p2.value.length c22), (.bool p2.gone)], 70⟩, ⟨n2, [(.slice a10 p1.name.length c10), (.slice a11 p1.key.length c11), (.slice a12 p1.value.length c12), (.bool p1.gone)], 70⟩] [] := S268
        refine do_ rfl (.bool false) (ex_move _) ?_
        simp only [Act.put, List.setIfInBounds_toArray, List.set_cons_succ, List.set_cons_zero]
        refine doN (wanted_no rfl rfl rfl (c := false) rfl (by decide)) ?_
        simp only [Act.put, List.setIfInBounds_toArray, List.set_cons_succ, List.set_cons_zero]
        refine doN (wanted_no rfl rfl rfl (c := false) rfl (by decide)) ?_
        simp only [Act.put, List.setIfInBounds_toArray, List.set_cons_succ, List.set_cons_zero]
        refine doN (wanted_no rfl rfl rfl (c := false) rfl (by decide)) ?_
        simp only [Act.put, List.setIfInBounds_toArray, List.set_cons_succ, List.set_cons_zero]
        refine doN (wanted_no rfl rfl rfl (c := false) rfl (by decide)) ?_
        simp only [Act.put, List.setIfInBounds_toArray, List.set_cons_succ, List.set_cons_zero]
        refine doN (wanted_no rfl rfl rfl (c := false) rfl (by decide)) ?_
        simp only [Act.put, List.setIfInBounds_toArray, List.set_cons_succ, List.set_cons_zero]
        refine do_ rfl (.bool false) (ex_pick (b := false) rfl) ?_
        simp only [Act.put, List.setIfInBounds_toArray, List.set_cons_succ, List.set_cons_zero]
        refine do_ rfl (.bool false) (ex_move _) ?_
        simp only [Act.put, List.setIfInBounds_toArray, List.set_cons_succ, List.set_cons_zero]
        refine do_ rfl (.int .i64 0) (ex_move _) ?_
        simp only [Act.put, List.setIfInBounds_toArray, List.set_cons_succ, List.set_cons_zero]
        refine do_ rfl (.bool false) (ex_neq (b := false) rfl rfl (by decide)) ?_
        simp only [Act.put, List.setIfInBounds_toArray, List.set_cons_succ, List.set_cons_zero]
        refine do_ rfl (.bool false) (ex_pick (b := false) rfl) ?_
        simp only [Act.put, List.setIfInBounds_toArray, List.set_cons_succ, List.set_cons_zero]
        refine do_ rfl (.bool false) (ex_move _) ?_
        simp only [Act.put, List.setIfInBounds_toArray, List.set_cons_succ, List.set_cons_zero]
        refine do_ rfl (.int .i64 11) (ex_move _) ?_
        simp only [Act.put, List.setIfInBounds_toArray, List.set_cons_succ, List.set_cons_zero]
        refine do_ rfl (.bool true) (ex_neq (b := true) rfl rfl (by decide)) ?_
        simp only [Act.put, List.setIfInBounds_toArray, List.set_cons_succ, List.set_cons_zero]
        refine do_ rfl (.bool true) (ex_pick (b := false) rfl) ?_
        simp only [Act.put, List.setIfInBounds_toArray, List.set_cons_succ, List.set_cons_zero]
        refine wl_nil ?_
        (try simp only [Exit.then, Exit.inBlock, ↓reduceIte, Nat.reduceEqDiff])
        refine hK256 _ _ ?_
        refine wp_cond_true rfl ?_
        refine wp_seq_k (fun K269 hK269 => ?_)
        refine region_wl ?_
        refine do_ rfl (.bool true) (ex_assign _) ?_
        simp only [Act.put, List.setIfInBounds_toArray, List.set_cons_succ, List.set_cons_zero]
        refine wl_nil ?_
        (try simp only [Exit.then, Exit.inBlock, ↓reduceIte, Nat.reduceEqDiff])
        refine hK269 _ _ ?_
        refine wp_ret ?_
        (try simp only [Exit.then, Exit.inBlock, ↓reduceIte, Nat.reduceEqDiff])
        refine bodyPost_ret (v := (.bool true)) ?_ rfl ?_
        · exact res_t rfl rfl
        · exact ⟨rfl, S268.gr.below⟩
    | some gy =>
      have hy := applyE_ok (l := (forestW (writesN l0 20))) (ws := [(writeP p2), (writeP p1)]) hwsy (by simp)
      rw [ey] at hy
      refine region_wl ?_
      refine do_ rfl (.slice a15 (forestW (writesN l0 20)).length c16) (ex_move _) ?_
      simp only [Act.put, List.setIfInBounds_toArray, List.set_cons_succ, List.set_cons_zero]
      refine do_ rfl (.agg #[(.slice xa47 (writeP p2).name.length xc48), (.slice xa49 (writeP p2).key.length xc50), (.bool (writeP p2).gone), (.slice xa51 (writeP p2).value.length xc52)]) (ex_load rfl (loadN (cs := [(.slice xa47 (writeP p2).name.length xc48), (.slice xa49 (writeP p2).key.length xc50), (.bool (writeP p2).gone), (.slice xa51 (writeP p2).value.length xc52)]) Try.underlying67 rfl (size_67) (St.range S203 (i := 0) rfl 0 [(.slice xa47 (writeP p2).name.length xc48), (.slice xa49 (writeP p2).key.length xc50), (.bool (writeP p2).gone), (.slice xa51 (writeP p2).value.length xc52)] (sub_range 0 rfl)))) ?_
      simp only [Act.put, List.setIfInBounds_toArray, List.set_cons_succ, List.set_cons_zero]
      refine do_ rfl (.agg #[(.slice xa26 (writeP p1).name.length xc27), (.slice xa28 (writeP p1).key.length xc29), (.bool (writeP p1).gone), (.slice xa30 (writeP p1).value.length xc31)]) (ex_load rfl (loadN (cs := [(.slice xa26 (writeP p1).name.length xc27), (.slice xa28 (writeP p1).key.length xc29), (.bool (writeP p1).gone), (.slice xa30 (writeP p1).value.length xc31)]) Try.underlying67 rfl (size_67) (St.range S203 (i := 1) rfl 0 [(.slice xa26 (writeP p1).name.length xc27), (.slice xa28 (writeP p1).key.length xc29), (.bool (writeP p1).gone), (.slice xa30 (writeP p1).value.length xc31)] (sub_range 0 rfl)))) ?_
      simp only [Act.put, List.setIfInBounds_toArray, List.set_cons_succ, List.set_cons_zero]
      refine stNew S203 (v := fun n => .slice (some ⟨n, 0, none⟩) 2 2) rfl (ex_lit (ps := #[(0, (.agg #[(.slice xa47 (writeP p2).name.length xc48), (.slice xa49 (writeP p2).key.length xc50), (.bool (writeP p2).gone), (.slice xa51 (writeP p2).value.length xc52)])), (1, (.agg #[(.slice xa26 (writeP p1).name.length xc27), (.slice xa28 (writeP p1).key.length xc29), (.bool (writeP p1).gone), (.slice xa30 (writeP p1).value.length xc31)]))]) (cells := #[(.slice xa47 (writeP p2).name.length xc48), (.slice xa49 (writeP p2).key.length xc50), (.bool (writeP p2).gone), (.slice xa51 (writeP p2).value.length xc52), (.slice xa26 (writeP p1).name.length xc27), (.slice xa28 (writeP p1).key.length xc29), (.bool (writeP p1).gone), (.slice xa30 (writeP p1).value.length xc31)]) (E := 67) (bmap2 rfl rfl) (fun w => by kernel_rfl)) (fun n270 w271 S272 => ?_)
      simp only [Act.put, List.setIfInBounds_toArray, List.set_cons_succ, List.set_cons_zero]
      have S272 : St W (whole W) w271 F204 [⟨n270, [(.slice xa47 (writeP p2).name.length xc48), (.slice xa49 (writeP p2).key.length xc50), (.bool (writeP p2).gone), (.slice xa51 (writeP p2).value.length xc52), (.slice xa26 (writeP p1).name.length xc27), (.slice xa28 (writeP p1).key.length xc29), (.bool (writeP p1).gone), (.slice xa30 (writeP p1).value.length xc31)], 67⟩, ⟨n56, [(.slice xa47 (writeP p2).name.length xc48), (.slice xa49 (writeP p2).key.length xc50), (.bool (writeP p2).gone), (.slice xa51 (writeP p2).value.length xc52)], 67⟩, ⟨n35, [(.slice xa26 (writeP p1).name.length xc27), (.slice xa28 (writeP p1).key.length xc29), (.bool (writeP p1).gone), (.slice xa30 (writeP p1).value.length xc31)], 67⟩, ⟨n5, [(.slice a20 p2.name.length c20), (.slice a21 p2.key.length c21), (.slice a22 p2.value.length c22), (.bool p2.gone)], 70⟩, ⟨n2, [(.slice a10 p1.name.length c10), (.slice a11 p1.key.length c11), (.slice a12 p1.value.length c12), (.bool p1.gone)], 70⟩] [] := S272
      obtain ⟨S273, le274, hc275⟩ := St.freezeBlk S272 (i := 0) rfl
      have r277 : Wrs _ (.slice (some ⟨n270, 0, none⟩) 2 2) [(writeP p2), (writeP p1)] := sl_of_block (R := WrC) (l := [(writeP p2), (writeP p1)]) (el := [[(.slice xa47 (writeP p2).name.length xc48), (.slice xa49 (writeP p2).key.length xc50), (.bool (writeP p2).gone), (.slice xa51 (writeP p2).value.length xc52)], [(.slice xa26 (writeP p1).name.length xc27), (.slice xa28 (writeP p1).key.length xc29), (.bool (writeP p1).gone), (.slice xa30 (writeP p1).value.length xc31)]]) hc275 rfl ⟨⟨_, _, _, _, rfl, ((r53.mono (le198.trans le205)).mono le274), ((r54.mono (le198.trans le205)).mono le274), rfl, ((r55.mono (le198.trans le205)).mono le274)⟩, ⟨_, _, _, _, rfl, ((r32.mono ((le44.trans le198).trans le205)).mono le274), ((r33.mono ((le44.trans le198).trans le205)).mono le274), rfl, ((r34.mono ((le44.trans le198).trans le205)).mono le274)⟩, trivial⟩ (by simp) (by unfold maxLen; simp)
      generalize addF F204 w271 n270 = F276 at *
      have S273 : St W (whole W) w271 F276 [⟨n56, [(.slice xa47 (writeP p2).name.length xc48), (.slice xa49 (writeP p2).key.length xc50), (.bool (writeP p2).gone), (.slice xa51 (writeP p2).value.length xc52)], 67⟩, ⟨n35, [(.slice xa26 (writeP p1).name.length xc27), (.slice xa28 (writeP p1).key.length xc29), (.bool (writeP p1).gone), (.slice xa30 (writeP p1).value.length xc31)], 67⟩, ⟨n5, [(.slice a20 p2.name.length c20), (.slice a21 p2.key.length c21), (.slice a22 p2.value.length c22), (.bool p2.gone)], 70⟩, ⟨n2, [(.slice a10 p1.name.length c10), (.slice a11 p1.key.length c11), (.slice a12 p1.value.length c12), (.bool p1.gone)], 70⟩] [] := S273
      refine stGives S273 rfl (ex_fn (vs := #[(.slice a15 (forestW (writesN l0 20)).length c16), (.slice (some ⟨n270, 0, none⟩) 2 2)]) (map2 rfl rfl) rfl (ent_59 _ _)) (apply_is (S273).sat (R13.mono ((((le23.trans le44).trans le198).trans le205).trans le274)) r277 okf hwsy hy) ?_
      intro v283 w278 F280 S279 le281 R282
      obtain ⟨_, rfl, r286⟩ := R282
      obtain ⟨a284, c285, rfl, h287, h288⟩ := Sl.shape r286
      unfold maxLen at h288
      have h287 : gy.length ≤ c285 := h287
      have r286 : Tns _ (.slice a284 gy.length c285) gy := r286
      simp only [Act.put, List.setIfInBounds_toArray, List.set_cons_succ, List.set_cons_zero]
      have S279 : St W (whole W) w278 F280 [⟨n56, [(.slice xa47 (writeP p2).name.length xc48), (.slice xa49 (writeP p2).key.length xc50), (.bool (writeP p2).gone), (.slice xa51 (writeP p2).value.length xc52)], 67⟩, ⟨n35, [(.slice xa26 (writeP p1).name.length xc27), (.slice xa28 (writeP p1).key.length xc29), (.bool (writeP p1).gone), (.slice xa30 (writeP p1).value.length xc31)], 67⟩, ⟨n5, [(.slice a20 p2.name.length c20), (.slice a21 p2.key.length c21), (.slice a22 p2.value.length c22), (.bool p2.gone)], 70⟩, ⟨n2, [(.slice a10 p1.name.length c10), (.slice a11 p1.key.length c11), (.slice a12 p1.value.length c12), (.bool p1.gone)], 70⟩] [] := S279
      refine do_ rfl (.tuple #[(.slice a284 gy.length c285), (.int .i64 0)]) (ex_move _) ?_
      simp only [Act.put, List.setIfInBounds_toArray, List.set_cons_succ, List.set_cons_zero]
      refine do_ rfl (.slice a284 gy.length c285) (ex_extract rfl rfl) ?_
      simp only [Act.put, List.setIfInBounds_toArray, List.set_cons_succ, List.set_cons_zero]
      refine do_ rfl (.int .i64 0) (ex_extract rfl rfl) ?_
      simp only [Act.put, List.setIfInBounds_toArray, List.set_cons_succ, List.set_cons_zero]
      refine do_ rfl (.slice a284 gy.length c285) (ex_assign _) ?_
      simp only [Act.put, List.setIfInBounds_toArray, List.set_cons_succ, List.set_cons_zero]
      refine do_ rfl (.int .i64 0) (ex_assign _) ?_
      simp only [Act.put, List.setIfInBounds_toArray, List.set_cons_succ, List.set_cons_zero]
      refine wl_nil ?_
      (try simp only [Exit.then, Exit.inBlock, ↓reduceIte, Nat.reduceEqDiff])
      refine hK213 _ _ ?_
      refine wp_seq_k (fun K289 hK289 => ?_)
      refine region_wl ?_
      refine do_ rfl (.slice a15 (forestW (writesN l0 20)).length c16) (ex_move _) ?_
      simp only [Act.put, List.setIfInBounds_toArray, List.set_cons_succ, List.set_cons_zero]
      refine stMake (k := 4) (n := 11) (m := 11) S279 rfl i67 (.agg #[(.slice none 0 0), (.slice none 0 0), (.bool false), (.slice none 0 0)]) 80 Try.underlying75 hi67 hz67 hs67 hb67 rfl rfl (by decide) (by decide) (by decide) ?_
      intro g290 w291 S292
      simp only [Act.put, List.setIfInBounds_toArray, List.set_cons_succ, List.set_cons_zero]
      have S292 : St W (whole W) w291 F280 [⟨g290, ((madeCells (Value.agg #[(.slice none 0 0), (.slice none 0 0), (.bool false), (.slice none 0 0)]).cells (11 * 4)).toList), 67⟩, ⟨n56, [(.slice xa47 (writeP p2).name.length xc48), (.slice xa49 (writeP p2).key.length xc50), (.bool (writeP p2).gone), (.slice xa51 (writeP p2).value.length xc52)], 67⟩, ⟨n35, [(.slice xa26 (writeP p1).name.length xc27), (.slice xa28 (writeP p1).key.length xc29), (.bool (writeP p1).gone), (.slice xa30 (writeP p1).value.length xc31)], 67⟩, ⟨n5, [(.slice a20 p2.name.length c20), (.slice a21 p2.key.length c21), (.slice a22 p2.value.length c22), (.bool p2.gone)], 70⟩, ⟨n2, [(.slice a10 p1.name.length c10), (.slice a11 p1.key.length c11), (.slice a12 p1.value.length c12), (.bool p1.gone)], 70⟩] [] := S292
      obtain ⟨S293, le294, hc295⟩ := St.freezeBlk S292 (i := 0) rfl
      have r297 : Wrs _ (.slice (some ⟨g290, 0, none⟩) 11 11) (List.replicate 11 (⟨[], [], false, []⟩ : Wr)) := sl_of_block (R := WrC) (l := (List.replicate 11 (⟨[], [], false, []⟩ : Wr))) hc295 zeros_wr (wrs_zero _) (by intro x hx; rw [List.eq_of_mem_replicate hx]; rfl) (by unfold maxLen; simp)
      generalize addF F280 w291 g290 = F296 at *
      have S293 : St W (whole W) w291 F296 [⟨n56, [(.slice xa47 (writeP p2).name.length xc48), (.slice xa49 (writeP p2).key.length xc50), (.bool (writeP p2).gone), (.slice xa51 (writeP p2).value.length xc52)], 67⟩, ⟨n35, [(.slice xa26 (writeP p1).name.length xc27), (.slice xa28 (writeP p1).key.length xc29), (.bool (writeP p1).gone), (.slice xa30 (writeP p1).value.length xc31)], 67⟩, ⟨n5, [(.slice a20 p2.name.length c20), (.slice a21 p2.key.length c21), (.slice a22 p2.value.length c22), (.bool p2.gone)], 70⟩, ⟨n2, [(.slice a10 p1.name.length c10), (.slice a11 p1.key.length c11), (.slice a12 p1.value.length c12), (.bool p1.gone)], 70⟩] [] := S293
      refine stGives S293 rfl (ex_fn (vs := #[(.slice a15 (forestW (writesN l0 20)).length c16), (.slice (some ⟨g290, 0, none⟩) 11 11)]) (map2 rfl rfl) rfl (ent_59 _ _)) (applyMany_spec _ _ _ _ (forestW (writesN l0 20)) (S293).sat (R13.mono ((((((le23.trans le44).trans le198).trans le205).trans le274).trans le281).trans le294)) r297 okf) ?_
      intro v303 w298 F300 S299 le301 R302
      obtain ⟨_, rfl, r306⟩ := R302
      obtain ⟨a304, c305, rfl, h307, h308⟩ := Sl.shape r306
      unfold maxLen at h308
      simp only [Act.put, List.setIfInBounds_toArray, List.set_cons_succ, List.set_cons_zero]
      have S299 : St W (whole W) w298 F300 [⟨n56, [(.slice xa47 (writeP p2).name.length xc48), (.slice xa49 (writeP p2).key.length xc50), (.bool (writeP p2).gone), (.slice xa51 (writeP p2).value.length xc52)], 67⟩, ⟨n35, [(.slice xa26 (writeP p1).name.length xc27), (.slice xa28 (writeP p1).key.length xc29), (.bool (writeP p1).gone), (.slice xa30 (writeP p1).value.length xc31)], 67⟩, ⟨n5, [(.slice a20 p2.name.length c20), (.slice a21 p2.key.length c21), (.slice a22 p2.value.length c22), (.bool p2.gone)], 70⟩, ⟨n2, [(.slice a10 p1.name.length c10), (.slice a11 p1.key.length c11), (.slice a12 p1.value.length c12), (.bool p1.gone)], 70⟩] [] := S299
      refine do_ rfl (.tuple #[(.slice a304 ([] : Forest).length c305), (.int .i64 1)]) (ex_move _) ?_
      simp only [Act.put, List.setIfInBounds_toArray, List.set_cons_succ, List.set_cons_zero]
      refine do_ rfl (.slice a304 ([] : Forest).length c305) (ex_extract rfl rfl) ?_
      simp only [Act.put, List.setIfInBounds_toArray, List.set_cons_succ, List.set_cons_zero]
      refine do_ rfl (.int .i64 1) (ex_extract rfl rfl) ?_
      simp only [Act.put, List.setIfInBounds_toArray, List.set_cons_succ, List.set_cons_zero]
      refine do_ rfl (.slice a304 ([] : Forest).length c305) (ex_assign _) ?_
      simp only [Act.put, List.setIfInBounds_toArray, List.set_cons_succ, List.set_cons_zero]
      refine do_ rfl (.int .i64 1) (ex_assign _) ?_
      simp only [Act.put, List.setIfInBounds_toArray, List.set_cons_succ, List.set_cons_zero]
      refine wl_nil ?_
      (try simp only [Exit.then, Exit.inBlock, ↓reduceIte, Nat.reduceEqDiff])
      refine hK289 _ _ ?_
      refine wp_seq_k (fun K309 hK309 => ?_)
      refine wp_seq_k (fun K310 hK310 => ?_)
      refine region_wl ?_
      refine do_ rfl (.int .i64 1) (ex_move _) ?_
      simp only [Act.put, List.setIfInBounds_toArray, List.set_cons_succ, List.set_cons_zero]
      refine do_ rfl (.bool false) (ex_neq (b := false) rfl rfl (by decide)) ?_
      simp only [Act.put, List.setIfInBounds_toArray, List.set_cons_succ, List.set_cons_zero]
      refine wl_nil ?_
      (try simp only [Exit.then, Exit.inBlock, ↓reduceIte, Nat.reduceEqDiff])
      refine hK310 _ _ ?_
      refine wp_cond_false rfl ?_
      refine wp_skip ?_
      (try simp only [Exit.then, Exit.inBlock, ↓reduceIte, Nat.reduceEqDiff])
      refine hK309 _ _ ?_
      refine wp_seq_k (fun K311 hK311 => ?_)
      refine wp_seq_k (fun K312 hK312 => ?_)
      by_cases hn : (writeP p1).name = (writeP p2).name
      · by_cases hk : (writeP p1).key = (writeP p2).key
        · refine region_wl ?_
          refine do_ rfl (.pointer (some ⟨n35, 0, none⟩)) (ex_field (q := ⟨n35, 0, none⟩) rfl (fa_67_0 _ _)) ?_
          simp only [Act.put, List.setIfInBounds_toArray, List.set_cons_succ, List.set_cons_zero]
          refine do_ rfl (.slice xa26 (writeP p1).name.length xc27) (ex_load rfl (load1 (nagg_27 _) (St.cell S299 (i := 1) rfl rfl))) ?_
          simp only [Act.put, List.setIfInBounds_toArray, List.set_cons_succ, List.set_cons_zero]
          refine do_ rfl (.pointer (some ⟨n56, 0, none⟩)) (ex_field (q := ⟨n56, 0, none⟩) rfl (fa_67_0 _ _)) ?_
          simp only [Act.put, List.setIfInBounds_toArray, List.set_cons_succ, List.set_cons_zero]
          refine do_ rfl (.slice xa47 (writeP p2).name.length xc48) (ex_load rfl (load1 (nagg_27 _) (St.cell S299 (i := 0) rfl rfl))) ?_
          simp only [Act.put, List.setIfInBounds_toArray, List.set_cons_succ, List.set_cons_zero]
          refine stTells (v := (.bool true)) S299 rfl (ex_fn (vs := #[(.slice xa26 (writeP p1).name.length xc27), (.slice xa47 (writeP p2).name.length xc48)]) (map2 rfl rfl) rfl (ent_46 _ _)) (tells_bool (tells_same (same_spec _ _ _ _ ((writeP p1).name) ((writeP p2).name) (S299).sat (r32.mono ((((((le44.trans le198).trans le205).trans le274).trans le281).trans le294).trans le301)) (r53.mono (((((le198.trans le205).trans le274).trans le281).trans le294).trans le301)))) (beq_iff_eq.2 (hn))) (fun w313 S314 => ?_)
          simp only [Act.put, List.setIfInBounds_toArray, List.set_cons_succ, List.set_cons_zero]
          have S314 : St W (whole W) w313 F300 [⟨n56, [(.slice xa47 (writeP p2).name.length xc48), (.slice xa49 (writeP p2).key.length xc50), (.bool (writeP p2).gone), (.slice xa51 (writeP p2).value.length xc52)], 67⟩, ⟨n35, [(.slice xa26 (writeP p1).name.length xc27), (.slice xa28 (writeP p1).key.length xc29), (.bool (writeP p1).gone), (.slice xa30 (writeP p1).value.length xc31)], 67⟩, ⟨n5, [(.slice a20 p2.name.length c20), (.slice a21 p2.key.length c21), (.slice a22 p2.value.length c22), (.bool p2.gone)], 70⟩, ⟨n2, [(.slice a10 p1.name.length c10), (.slice a11 p1.key.length c11), (.slice a12 p1.value.length c12), (.bool p1.gone)], 70⟩] [] := S314
          refine do_ rfl (.bool true) (ex_move _) ?_
          simp only [Act.put, List.setIfInBounds_toArray, List.set_cons_succ, List.set_cons_zero]
          refine do_ rfl (.pointer (some ⟨n35, 1, none⟩)) (ex_field (q := ⟨n35, 1, none⟩) rfl (fa_67_1 _ _)) ?_
          simp only [Act.put, List.setIfInBounds_toArray, List.set_cons_succ, List.set_cons_zero]
          refine do_ rfl (.slice xa28 (writeP p1).key.length xc29) (ex_load rfl (load1 (nagg_27 _) (St.cell S314 (i := 1) rfl rfl))) ?_
          simp only [Act.put, List.setIfInBounds_toArray, List.set_cons_succ, List.set_cons_zero]
          refine do_ rfl (.pointer (some ⟨n56, 1, none⟩)) (ex_field (q := ⟨n56, 1, none⟩) rfl (fa_67_1 _ _)) ?_
          simp only [Act.put, List.setIfInBounds_toArray, List.set_cons_succ, List.set_cons_zero]
          refine do_ rfl (.slice xa49 (writeP p2).key.length xc50) (ex_load rfl (load1 (nagg_27 _) (St.cell S314 (i := 0) rfl rfl))) ?_
          simp only [Act.put, List.setIfInBounds_toArray, List.set_cons_succ, List.set_cons_zero]
          refine stTells (v := (.bool true)) S314 rfl (ex_fn (vs := #[(.slice xa28 (writeP p1).key.length xc29), (.slice xa49 (writeP p2).key.length xc50)]) (map2 rfl rfl) rfl (ent_46 _ _)) (tells_bool (tells_same (same_spec _ _ _ _ ((writeP p1).key) ((writeP p2).key) (S314).sat (r33.mono ((((((le44.trans le198).trans le205).trans le274).trans le281).trans le294).trans le301)) (r54.mono (((((le198.trans le205).trans le274).trans le281).trans le294).trans le301)))) (beq_iff_eq.2 (hk))) (fun w315 S316 => ?_)
          simp only [Act.put, List.setIfInBounds_toArray, List.set_cons_succ, List.set_cons_zero]
          have S316 : St W (whole W) w315 F300 [⟨n56, [(.slice xa47 (writeP p2).name.length xc48), (.slice xa49 (writeP p2).key.length xc50), (.bool (writeP p2).gone), (.slice xa51 (writeP p2).value.length xc52)], 67⟩, ⟨n35, [(.slice xa26 (writeP p1).name.length xc27), (.slice xa28 (writeP p1).key.length xc29), (.bool (writeP p1).gone), (.slice xa30 (writeP p1).value.length xc31)], 67⟩, ⟨n5, [(.slice a20 p2.name.length c20), (.slice a21 p2.key.length c21), (.slice a22 p2.value.length c22), (.bool p2.gone)], 70⟩, ⟨n2, [(.slice a10 p1.name.length c10), (.slice a11 p1.key.length c11), (.slice a12 p1.value.length c12), (.bool p1.gone)], 70⟩] [] := S316
          refine do_ rfl (.bool true) (ex_pick (b := true) rfl) ?_
          simp only [Act.put, List.setIfInBounds_toArray, List.set_cons_succ, List.set_cons_zero]
          refine do_ rfl (.bool true) (ex_move _) ?_
          simp only [Act.put, List.setIfInBounds_toArray, List.set_cons_succ, List.set_cons_zero]
          refine doN (wanted_no rfl rfl rfl (c := true) rfl (by decide)) ?_
          simp only [Act.put, List.setIfInBounds_toArray, List.set_cons_succ, List.set_cons_zero]
          refine doN (wanted_no rfl rfl rfl (c := true) rfl (by decide)) ?_
          simp only [Act.put, List.setIfInBounds_toArray, List.set_cons_succ, List.set_cons_zero]
          refine do_ rfl (.bool true) (ex_pick (b := true) rfl) ?_
          simp only [Act.put, List.setIfInBounds_toArray, List.set_cons_succ, List.set_cons_zero]
          refine do_ rfl (.bool true) (ex_move _) ?_
          simp only [Act.put, List.setIfInBounds_toArray, List.set_cons_succ, List.set_cons_zero]
          refine doN (wanted_no rfl rfl rfl (c := true) rfl (by decide)) ?_
          simp only [Act.put, List.setIfInBounds_toArray, List.set_cons_succ, List.set_cons_zero]
          refine doN (wanted_no rfl rfl rfl (c := true) rfl (by decide)) ?_
          simp only [Act.put, List.setIfInBounds_toArray, List.set_cons_succ, List.set_cons_zero]
          refine do_ rfl (.bool true) (ex_pick (b := true) rfl) ?_
          simp only [Act.put, List.setIfInBounds_toArray, List.set_cons_succ, List.set_cons_zero]
          refine wl_nil ?_
          (try simp only [Exit.then, Exit.inBlock, ↓reduceIte, Nat.reduceEqDiff])
          refine hK312 _ _ ?_
          refine wp_cond_true rfl ?_
          refine wp_seq_k (fun K317 hK317 => ?_)
          refine region_wl ?_
          refine do_ rfl (.bool true) (ex_assign _) ?_
          simp only [Act.put, List.setIfInBounds_toArray, List.set_cons_succ, List.set_cons_zero]
          refine wl_nil ?_
          (try simp only [Exit.then, Exit.inBlock, ↓reduceIte, Nat.reduceEqDiff])
          refine hK317 _ _ ?_
          refine wp_ret ?_
          (try simp only [Exit.then, Exit.inBlock, ↓reduceIte, Nat.reduceEqDiff])
          refine bodyPost_ret (v := (.bool true)) ?_ rfl ?_
          · exact res_t rfl rfl
          · exact ⟨rfl, S316.gr.below⟩
        · refine region_wl ?_
          refine do_ rfl (.pointer (some ⟨n35, 0, none⟩)) (ex_field (q := ⟨n35, 0, none⟩) rfl (fa_67_0 _ _)) ?_
          simp only [Act.put, List.setIfInBounds_toArray, List.set_cons_succ, List.set_cons_zero]
          refine do_ rfl (.slice xa26 (writeP p1).name.length xc27) (ex_load rfl (load1 (nagg_27 _) (St.cell S299 (i := 1) rfl rfl))) ?_
          simp only [Act.put, List.setIfInBounds_toArray, List.set_cons_succ, List.set_cons_zero]
          refine do_ rfl (.pointer (some ⟨n56, 0, none⟩)) (ex_field (q := ⟨n56, 0, none⟩) rfl (fa_67_0 _ _)) ?_
          simp only [Act.put, List.setIfInBounds_toArray, List.set_cons_succ, List.set_cons_zero]
          refine do_ rfl (.slice xa47 (writeP p2).name.length xc48) (ex_load rfl (load1 (nagg_27 _) (St.cell S299 (i := 0) rfl rfl))) ?_
          simp only [Act.put, List.setIfInBounds_toArray, List.set_cons_succ, List.set_cons_zero]
          refine stTells (v := (.bool true)) S299 rfl (ex_fn (vs := #[(.slice xa26 (writeP p1).name.length xc27), (.slice xa47 (writeP p2).name.length xc48)]) (map2 rfl rfl) rfl (ent_46 _ _)) (tells_bool (tells_same (same_spec _ _ _ _ ((writeP p1).name) ((writeP p2).name) (S299).sat (r32.mono ((((((le44.trans le198).trans le205).trans le274).trans le281).trans le294).trans le301)) (r53.mono (((((le198.trans le205).trans le274).trans le281).trans le294).trans le301)))) (beq_iff_eq.2 (hn))) (fun w318 S319 => ?_)
          simp only [Act.put, List.setIfInBounds_toArray, List.set_cons_succ, List.set_cons_zero]
          have S319 : St W (whole W) w318 F300 [⟨n56, [(.slice xa47 (writeP p2).name.length xc48), (.slice xa49 (writeP p2).key.length xc50), (.bool (writeP p2).gone), (.slice xa51 (writeP p2).value.length xc52)], 67⟩, ⟨n35, [(.slice xa26 (writeP p1).name.length xc27), (.slice xa28 (writeP p1).key.length xc29), (.bool (writeP p1).gone), (.slice xa30 (writeP p1).value.length xc31)], 67⟩, ⟨n5, [(.slice a20 p2.name.length c20), (.slice a21 p2.key.length c21), (.slice a22 p2.value.length c22), (.bool p2.gone)], 70⟩, ⟨n2, [(.slice a10 p1.name.length c10), (.slice a11 p1.key.length c11), (.slice a12 p1.value.length c12), (.bool p1.gone)], 70⟩] [] := S319
          refine do_ rfl (.bool true) (ex_move _) ?_
          simp only [Act.put, List.setIfInBounds_toArray, List.set_cons_succ, List.set_cons_zero]
          refine do_ rfl (.pointer (some ⟨n35, 1, none⟩)) (ex_field (q := ⟨n35, 1, none⟩) rfl (fa_67_1 _ _)) ?_
          simp only [Act.put, List.setIfInBounds_toArray, List.set_cons_succ, List.set_cons_zero]
          refine do_ rfl (.slice xa28 (writeP p1).key.length xc29) (ex_load rfl (load1 (nagg_27 _) (St.cell S319 (i := 1) rfl rfl))) ?_
          simp only [Act.put, List.setIfInBounds_toArray, List.set_cons_succ, List.set_cons_zero]
          refine do_ rfl (.pointer (some ⟨n56, 1, none⟩)) (ex_field (q := ⟨n56, 1, none⟩) rfl (fa_67_1 _ _)) ?_
          simp only [Act.put, List.setIfInBounds_toArray, List.set_cons_succ, List.set_cons_zero]
          refine do_ rfl (.slice xa49 (writeP p2).key.length xc50) (ex_load rfl (load1 (nagg_27 _) (St.cell S319 (i := 0) rfl rfl))) ?_
          simp only [Act.put, List.setIfInBounds_toArray, List.set_cons_succ, List.set_cons_zero]
          refine stTells (v := (.bool false)) S319 rfl (ex_fn (vs := #[(.slice xa28 (writeP p1).key.length xc29), (.slice xa49 (writeP p2).key.length xc50)]) (map2 rfl rfl) rfl (ent_46 _ _)) (tells_bool (tells_same (same_spec _ _ _ _ ((writeP p1).key) ((writeP p2).key) (S319).sat (r33.mono ((((((le44.trans le198).trans le205).trans le274).trans le281).trans le294).trans le301)) (r54.mono (((((le198.trans le205).trans le274).trans le281).trans le294).trans le301)))) (beq_eq_false_iff_ne.2 (hk))) (fun w320 S321 => ?_)
          simp only [Act.put, List.setIfInBounds_toArray, List.set_cons_succ, List.set_cons_zero]
          have S321 : St W (whole W) w320 F300 [⟨n56, [(.slice xa47 (writeP p2).name.length xc48), (.slice xa49 (writeP p2).key.length xc50), (.bool (writeP p2).gone), (.slice xa51 (writeP p2).value.length xc52)], 67⟩, ⟨n35, [(.slice xa26 (writeP p1).name.length xc27), (.slice xa28 (writeP p1).key.length xc29), (.bool (writeP p1).gone), (.slice xa30 (writeP p1).value.length xc31)], 67⟩, ⟨n5, [(.slice a20 p2.name.length c20), (.slice a21 p2.key.length c21), (.slice a22 p2.value.length c22), (.bool p2.gone)], 70⟩, ⟨n2, [(.slice a10 p1.name.length c10), (.slice a11 p1.key.length c11), (.slice a12 p1.value.length c12), (.bool p1.gone)], 70⟩] [] := S321
          refine do_ rfl (.bool false) (ex_pick (b := true) rfl) ?_
          simp only [Act.put, List.setIfInBounds_toArray, List.set_cons_succ, List.set_cons_zero]
          refine do_ rfl (.bool false) (ex_move _) ?_
          simp only [Act.put, List.setIfInBounds_toArray, List.set_cons_succ, List.set_cons_zero]
          refine do_ rfl (.int .i64 0) (ex_move _) ?_
          simp only [Act.put, List.setIfInBounds_toArray, List.set_cons_succ, List.set_cons_zero]
          refine do_ rfl (.bool false) (ex_neq (b := false) rfl rfl (by decide)) ?_
          simp only [Act.put, List.setIfInBounds_toArray, List.set_cons_succ, List.set_cons_zero]
          refine do_ rfl (.bool false) (ex_pick (b := false) rfl) ?_
          simp only [Act.put, List.setIfInBounds_toArray, List.set_cons_succ, List.set_cons_zero]
          refine do_ rfl (.bool false) (ex_move _) ?_
          simp only [Act.put, List.setIfInBounds_toArray, List.set_cons_succ, List.set_cons_zero]
          refine do_ rfl (.int .i64 0) (ex_move _) ?_
          simp only [Act.put, List.setIfInBounds_toArray, List.set_cons_succ, List.set_cons_zero]
          refine do_ rfl (.bool false) (ex_neq (b := false) rfl rfl (by decide)) ?_
          simp only [Act.put, List.setIfInBounds_toArray, List.set_cons_succ, List.set_cons_zero]
          refine do_ rfl (.bool false) (ex_pick (b := false) rfl) ?_
          simp only [Act.put, List.setIfInBounds_toArray, List.set_cons_succ, List.set_cons_zero]
          refine wl_nil ?_
          (try simp only [Exit.then, Exit.inBlock, ↓reduceIte, Nat.reduceEqDiff])
          refine hK312 _ _ ?_
          refine wp_cond_false rfl ?_
          refine wp_skip ?_
          (try simp only [Exit.then, Exit.inBlock, ↓reduceIte, Nat.reduceEqDiff])
          refine hK311 _ _ ?_
          refine wp_seq_k (fun K322 hK322 => ?_)
          refine region_wl ?_
          refine do_ rfl (.slice a208 gx.length c209) (ex_move _) ?_
          simp only [Act.put, List.setIfInBounds_toArray, List.set_cons_succ, List.set_cons_zero]
          refine do_ rfl (.slice a284 gy.length c285) (ex_move _) ?_
          simp only [Act.put, List.setIfInBounds_toArray, List.set_cons_succ, List.set_cons_zero]
          refine stTells (v := (.bool true)) S321 rfl (ex_fn (vs := #[(.slice a208 gx.length c209), (.slice a284 gy.length c285)]) (map2 rfl rfl) rfl (ent_60 _ _)) (tells_bool (sameForest_spec _ _ _ _ gx gy (S321).sat (r210.mono (((le274.trans le281).trans le294).trans le301)) (r286.mono (le294.trans le301)) (by have := ForestOk.len (applyF_ok60 okf hwsx ex); omega) (fun t ht => by have := (ForestOk.tree (applyF_ok60 okf hwsx ex) t ht).len; omega)) (decide_eq_true (apply_comm okf (writeP_ok p1) (writeP_ok p2) ex ey (fun h => hk h.2)))) (fun w323 S324 => ?_)
          simp only [Act.put, List.setIfInBounds_toArray, List.set_cons_succ, List.set_cons_zero]
          have S324 : St W (whole W) w323 F300 [⟨n56, [(.slice xa47 (writeP p2).name.length xc48), (.slice xa49 (writeP p2).key.length xc50), (.bool (writeP p2).gone), (.slice xa51 (writeP p2).value.length xc52)], 67⟩, ⟨n35, [(.slice xa26 (writeP p1).name.length xc27), (.slice xa28 (writeP p1).key.length xc29), (.bool (writeP p1).gone), (.slice xa30 (writeP p1).value.length xc31)], 67⟩, ⟨n5, [(.slice a20 p2.name.length c20), (.slice a21 p2.key.length c21), (.slice a22 p2.value.length c22), (.bool p2.gone)], 70⟩, ⟨n2, [(.slice a10 p1.name.length c10), (.slice a11 p1.key.length c11), (.slice a12 p1.value.length c12), (.bool p1.gone)], 70⟩] [] := S324
          refine do_ rfl (.bool true) (ex_assign _) ?_
          simp only [Act.put, List.setIfInBounds_toArray, List.set_cons_succ, List.set_cons_zero]
          refine wl_nil ?_
          (try simp only [Exit.then, Exit.inBlock, ↓reduceIte, Nat.reduceEqDiff])
          refine hK322 _ _ ?_
          refine wp_ret ?_
          (try simp only [Exit.then, Exit.inBlock, ↓reduceIte, Nat.reduceEqDiff])
          refine bodyPost_ret (v := (.bool true)) ?_ rfl ?_
          · exact res_t rfl rfl
          · exact ⟨rfl, S324.gr.below⟩
      · refine region_wl ?_
        refine do_ rfl (.pointer (some ⟨n35, 0, none⟩)) (ex_field (q := ⟨n35, 0, none⟩) rfl (fa_67_0 _ _)) ?_
        simp only [Act.put, List.setIfInBounds_toArray, List.set_cons_succ, List.set_cons_zero]
        refine do_ rfl (.slice xa26 (writeP p1).name.length xc27) (ex_load rfl (load1 (nagg_27 _) (St.cell S299 (i := 1) rfl rfl))) ?_
        simp only [Act.put, List.setIfInBounds_toArray, List.set_cons_succ, List.set_cons_zero]
        refine do_ rfl (.pointer (some ⟨n56, 0, none⟩)) (ex_field (q := ⟨n56, 0, none⟩) rfl (fa_67_0 _ _)) ?_
        simp only [Act.put, List.setIfInBounds_toArray, List.set_cons_succ, List.set_cons_zero]
        refine do_ rfl (.slice xa47 (writeP p2).name.length xc48) (ex_load rfl (load1 (nagg_27 _) (St.cell S299 (i := 0) rfl rfl))) ?_
        simp only [Act.put, List.setIfInBounds_toArray, List.set_cons_succ, List.set_cons_zero]
        refine stTells (v := (.bool false)) S299 rfl (ex_fn (vs := #[(.slice xa26 (writeP p1).name.length xc27), (.slice xa47 (writeP p2).name.length xc48)]) (map2 rfl rfl) rfl (ent_46 _ _)) (tells_bool (tells_same (same_spec _ _ _ _ ((writeP p1).name) ((writeP p2).name) (S299).sat (r32.mono ((((((le44.trans le198).trans le205).trans le274).trans le281).trans le294).trans le301)) (r53.mono (((((le198.trans le205).trans le274).trans le281).trans le294).trans le301)))) (beq_eq_false_iff_ne.2 (hn))) (fun w325 S326 => ?_)
        simp only [Act.put, List.setIfInBounds_toArray, List.set_cons_succ, List.set_cons_zero]
        have S326 : St W (whole W) w325 F300 [⟨n56, [(.slice xa47 (writeP p2).name.length xc48), (.slice xa49 (writeP p2).key.length xc50), (.bool (writeP p2).gone), (.slice xa51 (writeP p2).value.length xc52)], 67⟩, ⟨n35, [(.slice xa26 (writeP p1).name.length xc27), (.slice xa28 (writeP p1).key.length xc29), (.bool (writeP p1).gone), (.slice xa30 (writeP p1).value.length xc31)], 67⟩, ⟨n5, [(.slice a20 p2.name.length c20), (.slice a21 p2.key.length c21), (.slice a22 p2.value.length c22), (.bool p2.gone)], 70⟩, ⟨n2, [(.slice a10 p1.name.length c10), (.slice a11 p1.key.length c11), (.slice a12 p1.value.length c12), (.bool p1.gone)], 70⟩] [] := S326
        refine do_ rfl (.bool false) (ex_move _) ?_
        simp only [Act.put, List.setIfInBounds_toArray, List.set_cons_succ, List.set_cons_zero]
        refine doN (wanted_no rfl rfl rfl (c := false) rfl (by decide)) ?_
        simp only [Act.put, List.setIfInBounds_toArray, List.set_cons_succ, List.set_cons_zero]
        refine doN (wanted_no rfl rfl rfl (c := false) rfl (by decide)) ?_
        simp only [Act.put, List.setIfInBounds_toArray, List.set_cons_succ, List.set_cons_zero]
        refine doN (wanted_no rfl rfl rfl (c := false) rfl (by decide)) ?_
        simp only [Act.put, List.setIfInBounds_toArray, List.set_cons_succ, List.set_cons_zero]
        refine doN (wanted_no rfl rfl rfl (c := false) rfl (by decide)) ?_
        simp only [Act.put, List.setIfInBounds_toArray, List.set_cons_succ, List.set_cons_zero]
        refine doN (wanted_no rfl rfl rfl (c := false) rfl (by decide)) ?_
        simp only [Act.put, List.setIfInBounds_toArray, List.set_cons_succ, List.set_cons_zero]
        refine do_ rfl (.bool false) (ex_pick (b := false) rfl) ?_
        simp only [Act.put, List.setIfInBounds_toArray, List.set_cons_succ, List.set_cons_zero]
        refine do_ rfl (.bool false) (ex_move _) ?_
        simp only [Act.put, List.setIfInBounds_toArray, List.set_cons_succ, List.set_cons_zero]
        refine do_ rfl (.int .i64 0) (ex_move _) ?_
        simp only [Act.put, List.setIfInBounds_toArray, List.set_cons_succ, List.set_cons_zero]
        refine do_ rfl (.bool false) (ex_neq (b := false) rfl rfl (by decide)) ?_
        simp only [Act.put, List.setIfInBounds_toArray, List.set_cons_succ, List.set_cons_zero]
        refine do_ rfl (.bool false) (ex_pick (b := false) rfl) ?_
        simp only [Act.put, List.setIfInBounds_toArray, List.set_cons_succ, List.set_cons_zero]
        refine do_ rfl (.bool false) (ex_move _) ?_
        simp only [Act.put, List.setIfInBounds_toArray, List.set_cons_succ, List.set_cons_zero]
        refine do_ rfl (.int .i64 0) (ex_move _) ?_
        simp only [Act.put, List.setIfInBounds_toArray, List.set_cons_succ, List.set_cons_zero]
        refine do_ rfl (.bool false) (ex_neq (b := false) rfl rfl (by decide)) ?_
        simp only [Act.put, List.setIfInBounds_toArray, List.set_cons_succ, List.set_cons_zero]
        refine do_ rfl (.bool false) (ex_pick (b := false) rfl) ?_
        simp only [Act.put, List.setIfInBounds_toArray, List.set_cons_succ, List.set_cons_zero]
        refine wl_nil ?_
        (try simp only [Exit.then, Exit.inBlock, ↓reduceIte, Nat.reduceEqDiff])
        refine hK312 _ _ ?_
        refine wp_cond_false rfl ?_
        refine wp_skip ?_
        (try simp only [Exit.then, Exit.inBlock, ↓reduceIte, Nat.reduceEqDiff])
        refine hK311 _ _ ?_
        refine wp_seq_k (fun K327 hK327 => ?_)
        refine region_wl ?_
        refine do_ rfl (.slice a208 gx.length c209) (ex_move _) ?_
        simp only [Act.put, List.setIfInBounds_toArray, List.set_cons_succ, List.set_cons_zero]
        refine do_ rfl (.slice a284 gy.length c285) (ex_move _) ?_
        simp only [Act.put, List.setIfInBounds_toArray, List.set_cons_succ, List.set_cons_zero]
        refine stTells (v := (.bool true)) S326 rfl (ex_fn (vs := #[(.slice a208 gx.length c209), (.slice a284 gy.length c285)]) (map2 rfl rfl) rfl (ent_60 _ _)) (tells_bool (sameForest_spec _ _ _ _ gx gy (S326).sat (r210.mono (((le274.trans le281).trans le294).trans le301)) (r286.mono (le294.trans le301)) (by have := ForestOk.len (applyF_ok60 okf hwsx ex); omega) (fun t ht => by have := (ForestOk.tree (applyF_ok60 okf hwsx ex) t ht).len; omega)) (decide_eq_true (apply_comm okf (writeP_ok p1) (writeP_ok p2) ex ey (fun h => hn h.1)))) (fun w328 S329 => ?_)
        simp only [Act.put, List.setIfInBounds_toArray, List.set_cons_succ, List.set_cons_zero]
        have S329 : St W (whole W) w328 F300 [⟨n56, [(.slice xa47 (writeP p2).name.length xc48), (.slice xa49 (writeP p2).key.length xc50), (.bool (writeP p2).gone), (.slice xa51 (writeP p2).value.length xc52)], 67⟩, ⟨n35, [(.slice xa26 (writeP p1).name.length xc27), (.slice xa28 (writeP p1).key.length xc29), (.bool (writeP p1).gone), (.slice xa30 (writeP p1).value.length xc31)], 67⟩, ⟨n5, [(.slice a20 p2.name.length c20), (.slice a21 p2.key.length c21), (.slice a22 p2.value.length c22), (.bool p2.gone)], 70⟩, ⟨n2, [(.slice a10 p1.name.length c10), (.slice a11 p1.key.length c11), (.slice a12 p1.value.length c12), (.bool p1.gone)], 70⟩] [] := S329
        refine do_ rfl (.bool true) (ex_assign _) ?_
        simp only [Act.put, List.setIfInBounds_toArray, List.set_cons_succ, List.set_cons_zero]
        refine wl_nil ?_
        (try simp only [Exit.then, Exit.inBlock, ↓reduceIte, Nat.reduceEqDiff])
        refine hK327 _ _ ?_
        refine wp_ret ?_
        (try simp only [Exit.then, Exit.inBlock, ↓reduceIte, Nat.reduceEqDiff])
        refine bodyPost_ret (v := (.bool true)) ?_ rfl ?_
        · exact res_t rfl rfl
        · exact ⟨rfl, S329.gr.below⟩
end Go.Proofs.Yteefnnnbbmbmcaa
