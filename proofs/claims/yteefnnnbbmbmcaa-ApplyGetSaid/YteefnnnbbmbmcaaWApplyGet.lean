/- Walk of ApplyGet -/
import Derived.Test.YteefnnnbbmbmcaaK6
namespace Go.Proofs.Yteefnnnbbmbmcaa
open Go.RowKit
set_option maxRecDepth 100000
set_option linter.unusedVariables false
set_option linter.unusedSimpArgs false
set_option maxHeartbeats 8000000 in
theorem applyGet_walk (W : World) (v0 : Value) (l0 : List Pl) (z0 : Pls (whole W) v0 l0) (p1 : Pl) (v10 : Value) (z10 : Bs (whole W) v10 p1.name) (v11 : Value) (z11 : Bs (whole W) v11 p1.key) (v12 : Value) (z12 : Bs (whole W) v12 p1.value) (p2 : Pl) (v20 : Value) (z20 : Bs (whole W) v20 p2.name) (v21 : Value) (z21 : Bs (whole W) v21 p2.key) (v22 : Value) (z22 : Bs (whole W) v22 p2.value) :
    Calls Try.prog 21 #[v0, .agg #[v10, v11, v12, .bool p1.gone], .agg #[v20, v21, v22, .bool p2.gone]] W (Tells W (.bool true)) := by
  obtain ⟨a0, c0, rfl, q0, q0'⟩ := Sl.shape z0
  obtain ⟨a10, c10, rfl, _⟩ := z10.shape
  obtain ⟨a11, c11, rfl, _⟩ := z11.shape
  obtain ⟨a12, c12, rfl, _⟩ := z12.shape
  obtain ⟨a20, c20, rfl, _⟩ := z20.shape
  obtain ⟨a21, c21, rfl, _⟩ := z21.shape
  obtain ⟨a22, c22, rfl, _⟩ := z22.shape
  have okf30 : ForestOk 30 (forestW (writesN l0 30)) := (forestW_ok (writesN_ok l0 30)).mono (writesN_len l0 30)
  have okf := okf30.mono (show 30 ≤ 60 by omega)
  have S := St.start (Sat.whole W)
  go_enter Try.func21, Try.ntmps21
  refine wp_seq_k (fun K1 hK1 => ?_)
  refine region_wl ?_
  refine stNew S (v := fun n => .pointer (some ⟨n, 0, none⟩)) rfl (ex_box (v := (.agg #[(.slice a10 p1.name.length c10), (.slice a11 p1.key.length c11), (.slice a12 p1.value.length c12), (.bool p1.gone)])) rfl) (fun n2 w3 S4 => ?_)
  simp only [Act.put, List.setIfInBounds_toArray, List.set_cons_succ, List.set_cons_zero]
  have S4 : St W (whole W) w3 (whole W) [⟨n2, [(.slice a10 p1.name.length c10), (.slice a11 p1.key.length c11), (.slice a12 p1.value.length c12), (.bool p1.gone)], 70⟩] [] := S4
  refine stNew S4 (v := fun n => .pointer (some ⟨n, 0, none⟩)) rfl (ex_box (v := (.agg #[(.slice a20 p2.name.length c20), (.slice a21 p2.key.length c21), (.slice a22 p2.value.length c22), (.bool p2.gone)])) rfl) (fun n5 w6 S7 => ?_)
  simp only [Act.put, List.setIfInBounds_toArray, List.set_cons_succ, List.set_cons_zero]
  have S7 : St W (whole W) w6 (whole W) [⟨n5, [(.slice a20 p2.name.length c20), (.slice a21 p2.key.length c21), (.slice a22 p2.value.length c22), (.bool p2.gone)], 70⟩, ⟨n2, [(.slice a10 p1.name.length c10), (.slice a11 p1.key.length c11), (.slice a12 p1.value.length c12), (.bool p1.gone)], 70⟩] [] := S7
  refine do_ rfl (.bool false) (ex_assign _) ?_
  simp only [Act.put, List.setIfInBounds_toArray, List.set_cons_succ, List.set_cons_zero]
  refine wl_nil ?_
  (try simp only [Exit.then, Exit.inBlock, ↓reduceIte, Nat.reduceEqDiff])
  refine hK1 _ _ ?_
  refine wp_seq_k (fun K8 hK8 => ?_)
  refine region_wl ?_
  refine do_ rfl (.slice a0 l0.length c0) (ex_move _) ?_
  simp only [Act.put, List.setIfInBounds_toArray, List.set_cons_succ, List.set_cons_zero]
  refine stGives S7 rfl (ex_fn (vs := #[(.slice a0 l0.length c0), (.int .i64 30)]) (map2 rfl rfl) rfl (ent_57 _ _)) (forest_spec _ _ _ l0 30 (S7).sat z0 (by omega)) ?_
  intro v14 w9 F11 S10 le12 R13
  obtain ⟨a15, c16, rfl, h17, h18⟩ := Sl.shape R13
  unfold maxLen at h18
  have R13 : Tns _ (.slice a15 (forestW (writesN l0 30)).length c16) (forestW (writesN l0 30)) := R13
  simp only [Act.put, List.setIfInBounds_toArray, List.set_cons_succ, List.set_cons_zero]
  have S10 : St W (whole W) w9 F11 [⟨n5, [(.slice a20 p2.name.length c20), (.slice a21 p2.key.length c21), (.slice a22 p2.value.length c22), (.bool p2.gone)], 70⟩, ⟨n2, [(.slice a10 p1.name.length c10), (.slice a11 p1.key.length c11), (.slice a12 p1.value.length c12), (.bool p1.gone)], 70⟩] [] := S10
  refine do_ rfl (.slice a15 (forestW (writesN l0 30)).length c16) (ex_assign _) ?_
  simp only [Act.put, List.setIfInBounds_toArray, List.set_cons_succ, List.set_cons_zero]
  refine wl_nil ?_
  (try simp only [Exit.then, Exit.inBlock, ↓reduceIte, Nat.reduceEqDiff])
  refine hK8 _ _ ?_
  refine wp_seq_k (fun K19 hK19 => ?_)
  refine region_wl ?_
  refine do_ rfl (.agg #[(.slice a10 p1.name.length c10), (.slice a11 p1.key.length c11), (.slice a12 p1.value.length c12), (.bool p1.gone)]) (ex_load rfl (loadN (cs := [(.slice a10 p1.name.length c10), (.slice a11 p1.key.length c11), (.slice a12 p1.value.length c12), (.bool p1.gone)]) Try.underlying70 rfl (size_70) (St.range S10 (i := 1) rfl 0 [(.slice a10 p1.name.length c10), (.slice a11 p1.key.length c11), (.slice a12 p1.value.length c12), (.bool p1.gone)] (sub_range 0 rfl)))) ?_
  simp only [Act.put, List.setIfInBounds_toArray, List.set_cons_succ, List.set_cons_zero]
  refine stGives S10 rfl (ex_fn (vs := #[(.agg #[(.slice a10 p1.name.length c10), (.slice a11 p1.key.length c11), (.slice a12 p1.value.length c12), (.bool p1.gone)])]) (map1 rfl) rfl (ent_56 _ _)) (keepWrite_spec _ _ _ p1 (S10).sat ⟨_, _, _, _, _, _, rfl, (z10.mono le12), (z11.mono le12), (z12.mono le12)⟩) ?_
  intro v25 w20 F22 S21 le23 R24
  obtain ⟨xa26, xc27, xa28, xc29, xa30, xc31, rfl, r32, r33, r34⟩ := R24
  simp only [Act.put, List.setIfInBounds_toArray, List.set_cons_succ, List.set_cons_zero]
  have S21 : St W (whole W) w20 F22 [⟨n5, [(.slice a20 p2.name.length c20), (.slice a21 p2.key.length c21), (.slice a22 p2.value.length c22), (.bool p2.gone)], 70⟩, ⟨n2, [(.slice a10 p1.name.length c10), (.slice a11 p1.key.length c11), (.slice a12 p1.value.length c12), (.bool p1.gone)], 70⟩] [] := S21
  refine stNew S21 (v := fun n => .pointer (some ⟨n, 0, none⟩)) rfl (ex_alloc (zero_67 _)) (fun n35 w36 S37 => ?_)
  simp only [Act.put, List.setIfInBounds_toArray, List.set_cons_succ, List.set_cons_zero]
  have S37 : St W (whole W) w36 F22 [⟨n35, [(.slice none 0 0), (.slice none 0 0), (.bool false), (.slice none 0 0)], 67⟩, ⟨n5, [(.slice a20 p2.name.length c20), (.slice a21 p2.key.length c21), (.slice a22 p2.value.length c22), (.bool p2.gone)], 70⟩, ⟨n2, [(.slice a10 p1.name.length c10), (.slice a11 p1.key.length c11), (.slice a12 p1.value.length c12), (.bool p1.gone)], 70⟩] [] := S37
  refine stStore (i := 0) (v := (.agg #[(.slice xa26 (writeP p1).name.length xc27), (.slice xa28 (writeP p1).key.length xc29), (.bool (writeP p1).gone), (.slice xa30 (writeP p1).value.length xc31)])) S37 rfl rfl rfl rfl (size_67) (allc4 rfl rfl rfl rfl) (Nat.le_of_ble_eq_true rfl) (fun w38 S39 => ?_)
  simp only [Act.put, List.setIfInBounds_toArray, List.set_cons_succ, List.set_cons_zero]
  have S39 : St W (whole W) w38 F22 [⟨n35, [(.slice xa26 (writeP p1).name.length xc27), (.slice xa28 (writeP p1).key.length xc29), (.bool (writeP p1).gone), (.slice xa30 (writeP p1).value.length xc31)], 67⟩, ⟨n5, [(.slice a20 p2.name.length c20), (.slice a21 p2.key.length c21), (.slice a22 p2.value.length c22), (.bool p2.gone)], 70⟩, ⟨n2, [(.slice a10 p1.name.length c10), (.slice a11 p1.key.length c11), (.slice a12 p1.value.length c12), (.bool p1.gone)], 70⟩] [] := S39
  refine wl_nil ?_
  (try simp only [Exit.then, Exit.inBlock, ↓reduceIte, Nat.reduceEqDiff])
  refine hK19 _ _ ?_
  refine wp_seq_k (fun K40 hK40 => ?_)
  refine region_wl ?_
  refine do_ rfl (.agg #[(.slice a20 p2.name.length c20), (.slice a21 p2.key.length c21), (.slice a22 p2.value.length c22), (.bool p2.gone)]) (ex_load rfl (loadN (cs := [(.slice a20 p2.name.length c20), (.slice a21 p2.key.length c21), (.slice a22 p2.value.length c22), (.bool p2.gone)]) Try.underlying70 rfl (size_70) (St.range S39 (i := 1) rfl 0 [(.slice a20 p2.name.length c20), (.slice a21 p2.key.length c21), (.slice a22 p2.value.length c22), (.bool p2.gone)] (sub_range 0 rfl)))) ?_
  simp only [Act.put, List.setIfInBounds_toArray, List.set_cons_succ, List.set_cons_zero]
  refine stGives S39 rfl (ex_fn (vs := #[(.agg #[(.slice a20 p2.name.length c20), (.slice a21 p2.key.length c21), (.slice a22 p2.value.length c22), (.bool p2.gone)])]) (map1 rfl) rfl (ent_56 _ _)) (keepWrite_spec _ _ _ p2 (S39).sat ⟨_, _, _, _, _, _, rfl, (z20.mono (le12.trans le23)), (z21.mono (le12.trans le23)), (z22.mono (le12.trans le23))⟩) ?_
  intro v46 w41 F43 S42 le44 R45
  obtain ⟨xa47, xc48, xa49, xc50, xa51, xc52, rfl, r53, r54, r55⟩ := R45
  simp only [Act.put, List.setIfInBounds_toArray, List.set_cons_succ, List.set_cons_zero]
  have S42 : St W (whole W) w41 F43 [⟨n35, [(.slice xa26 (writeP p1).name.length xc27), (.slice xa28 (writeP p1).key.length xc29), (.bool (writeP p1).gone), (.slice xa30 (writeP p1).value.length xc31)], 67⟩, ⟨n5, [(.slice a20 p2.name.length c20), (.slice a21 p2.key.length c21), (.slice a22 p2.value.length c22), (.bool p2.gone)], 70⟩, ⟨n2, [(.slice a10 p1.name.length c10), (.slice a11 p1.key.length c11), (.slice a12 p1.value.length c12), (.bool p1.gone)], 70⟩] [] := S42
  refine stNew S42 (v := fun n => .pointer (some ⟨n, 0, none⟩)) rfl (ex_alloc (zero_67 _)) (fun n56 w57 S58 => ?_)
  simp only [Act.put, List.setIfInBounds_toArray, List.set_cons_succ, List.set_cons_zero]
  have S58 : St W (whole W) w57 F43 [⟨n56, [(.slice none 0 0), (.slice none 0 0), (.bool false), (.slice none 0 0)], 67⟩, ⟨n35, [(.slice xa26 (writeP p1).name.length xc27), (.slice xa28 (writeP p1).key.length xc29), (.bool (writeP p1).gone), (.slice xa30 (writeP p1).value.length xc31)], 67⟩, ⟨n5, [(.slice a20 p2.name.length c20), (.slice a21 p2.key.length c21), (.slice a22 p2.value.length c22), (.bool p2.gone)], 70⟩, ⟨n2, [(.slice a10 p1.name.length c10), (.slice a11 p1.key.length c11), (.slice a12 p1.value.length c12), (.bool p1.gone)], 70⟩] [] := S58
  refine stStore (i := 0) (v := (.agg #[(.slice xa47 (writeP p2).name.length xc48), (.slice xa49 (writeP p2).key.length xc50), (.bool (writeP p2).gone), (.slice xa51 (writeP p2).value.length xc52)])) S58 rfl rfl rfl rfl (size_67) (allc4 rfl rfl rfl rfl) (Nat.le_of_ble_eq_true rfl) (fun w59 S60 => ?_)
  simp only [Act.put, List.setIfInBounds_toArray, List.set_cons_succ, List.set_cons_zero]
  have S60 : St W (whole W) w59 F43 [⟨n56, [(.slice xa47 (writeP p2).name.length xc48), (.slice xa49 (writeP p2).key.length xc50), (.bool (writeP p2).gone), (.slice xa51 (writeP p2).value.length xc52)], 67⟩, ⟨n35, [(.slice xa26 (writeP p1).name.length xc27), (.slice xa28 (writeP p1).key.length xc29), (.bool (writeP p1).gone), (.slice xa30 (writeP p1).value.length xc31)], 67⟩, ⟨n5, [(.slice a20 p2.name.length c20), (.slice a21 p2.key.length c21), (.slice a22 p2.value.length c22), (.bool p2.gone)], 70⟩, ⟨n2, [(.slice a10 p1.name.length c10), (.slice a11 p1.key.length c11), (.slice a12 p1.value.length c12), (.bool p1.gone)], 70⟩] [] := S60
  refine wl_nil ?_
  (try simp only [Exit.then, Exit.inBlock, ↓reduceIte, Nat.reduceEqDiff])
  refine hK40 _ _ ?_
  refine wp_seq_k (fun K61 hK61 => ?_)
  cases hwf : writeF (forestW (writesN l0 30)) (writeP p1) with
  | none =>
    have hae := applyE_one (l := (forestW (writesN l0 30))) (writeP_ok p1)
    rw [hwf] at hae
    refine region_wl ?_
    refine do_ rfl (.slice a15 (forestW (writesN l0 30)).length c16) (ex_move _) ?_
    simp only [Act.put, List.setIfInBounds_toArray, List.set_cons_succ, List.set_cons_zero]
    refine do_ rfl (.agg #[(.slice xa26 (writeP p1).name.length xc27), (.slice xa28 (writeP p1).key.length xc29), (.bool (writeP p1).gone), (.slice xa30 (writeP p1).value.length xc31)]) (ex_load rfl (loadN (cs := [(.slice xa26 (writeP p1).name.length xc27), (.slice xa28 (writeP p1).key.length xc29), (.bool (writeP p1).gone), (.slice xa30 (writeP p1).value.length xc31)]) Try.underlying67 rfl (size_67) (St.range S60 (i := 1) rfl 0 [(.slice xa26 (writeP p1).name.length xc27), (.slice xa28 (writeP p1).key.length xc29), (.bool (writeP p1).gone), (.slice xa30 (writeP p1).value.length xc31)] (sub_range 0 rfl)))) ?_
    simp only [Act.put, List.setIfInBounds_toArray, List.set_cons_succ, List.set_cons_zero]
    refine stNew S60 (v := fun n => .slice (some ⟨n, 0, none⟩) 1 1) rfl (ex_lit (ps := #[(0, (.agg #[(.slice xa26 (writeP p1).name.length xc27), (.slice xa28 (writeP p1).key.length xc29), (.bool (writeP p1).gone), (.slice xa30 (writeP p1).value.length xc31)]))]) (cells := #[(.slice xa26 (writeP p1).name.length xc27), (.slice xa28 (writeP p1).key.length xc29), (.bool (writeP p1).gone), (.slice xa30 (writeP p1).value.length xc31)]) (E := 67) (bmap1 rfl) (fun w => by kernel_rfl)) (fun n62 w63 S64 => ?_)
    simp only [Act.put, List.setIfInBounds_toArray, List.set_cons_succ, List.set_cons_zero]
    have S64 : St W (whole W) w63 F43 [⟨n62, [(.slice xa26 (writeP p1).name.length xc27), (.slice xa28 (writeP p1).key.length xc29), (.bool (writeP p1).gone), (.slice xa30 (writeP p1).value.length xc31)], 67⟩, ⟨n56, [(.slice xa47 (writeP p2).name.length xc48), (.slice xa49 (writeP p2).key.length xc50), (.bool (writeP p2).gone), (.slice xa51 (writeP p2).value.length xc52)], 67⟩, ⟨n35, [(.slice xa26 (writeP p1).name.length xc27), (.slice xa28 (writeP p1).key.length xc29), (.bool (writeP p1).gone), (.slice xa30 (writeP p1).value.length xc31)], 67⟩, ⟨n5, [(.slice a20 p2.name.length c20), (.slice a21 p2.key.length c21), (.slice a22 p2.value.length c22), (.bool p2.gone)], 70⟩, ⟨n2, [(.slice a10 p1.name.length c10), (.slice a11 p1.key.length c11), (.slice a12 p1.value.length c12), (.bool p1.gone)], 70⟩] [] := S64
    obtain ⟨S65, le66, hc67⟩ := St.freezeBlk S64 (i := 0) rfl
    have r69 : Wrs _ (.slice (some ⟨n62, 0, none⟩) 1 1) [(writeP p1)] := sl_of_block (R := WrC) (l := [(writeP p1)]) (el := [[(.slice xa26 (writeP p1).name.length xc27), (.slice xa28 (writeP p1).key.length xc29), (.bool (writeP p1).gone), (.slice xa30 (writeP p1).value.length xc31)]]) hc67 rfl ⟨⟨_, _, _, _, rfl, ((r32.mono le44).mono le66), ((r33.mono le44).mono le66), rfl, ((r34.mono le44).mono le66)⟩, trivial⟩ (by simp) (by unfold maxLen; simp)
    generalize addF F43 w63 n62 = F68 at *
    have S65 : St W (whole W) w63 F68 [⟨n56, [(.slice xa47 (writeP p2).name.length xc48), (.slice xa49 (writeP p2).key.length xc50), (.bool (writeP p2).gone), (.slice xa51 (writeP p2).value.length xc52)], 67⟩, ⟨n35, [(.slice xa26 (writeP p1).name.length xc27), (.slice xa28 (writeP p1).key.length xc29), (.bool (writeP p1).gone), (.slice xa30 (writeP p1).value.length xc31)], 67⟩, ⟨n5, [(.slice a20 p2.name.length c20), (.slice a21 p2.key.length c21), (.slice a22 p2.value.length c22), (.bool p2.gone)], 70⟩, ⟨n2, [(.slice a10 p1.name.length c10), (.slice a11 p1.key.length c11), (.slice a12 p1.value.length c12), (.bool p1.gone)], 70⟩] [] := S65
    refine stGives S65 rfl (ex_fn (vs := #[(.slice a15 (forestW (writesN l0 30)).length c16), (.slice (some ⟨n62, 0, none⟩) 1 1)]) (map2 rfl rfl) rfl (ent_59 _ _)) (apply_is (S65).sat (R13.mono ((le23.trans le44).trans le66)) r69 okf (by simpa using writeP_ok p1) hae) ?_
    intro v75 w70 F72 S71 le73 R74
    obtain ⟨_, rfl, r78⟩ := R74
    obtain ⟨a76, c77, rfl, h79, h80⟩ := Sl.shape r78
    unfold maxLen at h80
    simp only [Act.put, List.setIfInBounds_toArray, List.set_cons_succ, List.set_cons_zero]
    have S71 : St W (whole W) w70 F72 [⟨n56, [(.slice xa47 (writeP p2).name.length xc48), (.slice xa49 (writeP p2).key.length xc50), (.bool (writeP p2).gone), (.slice xa51 (writeP p2).value.length xc52)], 67⟩, ⟨n35, [(.slice xa26 (writeP p1).name.length xc27), (.slice xa28 (writeP p1).key.length xc29), (.bool (writeP p1).gone), (.slice xa30 (writeP p1).value.length xc31)], 67⟩, ⟨n5, [(.slice a20 p2.name.length c20), (.slice a21 p2.key.length c21), (.slice a22 p2.value.length c22), (.bool p2.gone)], 70⟩, ⟨n2, [(.slice a10 p1.name.length c10), (.slice a11 p1.key.length c11), (.slice a12 p1.value.length c12), (.bool p1.gone)], 70⟩] [] := S71
    refine do_ rfl (.tuple #[(.slice a76 ([] : Forest).length c77), (.int .i64 11)]) (ex_move _) ?_
    simp only [Act.put, List.setIfInBounds_toArray, List.set_cons_succ, List.set_cons_zero]
    refine do_ rfl (.slice a76 ([] : Forest).length c77) (ex_extract rfl rfl) ?_
    simp only [Act.put, List.setIfInBounds_toArray, List.set_cons_succ, List.set_cons_zero]
    refine do_ rfl (.int .i64 11) (ex_extract rfl rfl) ?_
    simp only [Act.put, List.setIfInBounds_toArray, List.set_cons_succ, List.set_cons_zero]
    refine do_ rfl (.slice a76 ([] : Forest).length c77) (ex_assign _) ?_
    simp only [Act.put, List.setIfInBounds_toArray, List.set_cons_succ, List.set_cons_zero]
    refine do_ rfl (.int .i64 11) (ex_assign _) ?_
    simp only [Act.put, List.setIfInBounds_toArray, List.set_cons_succ, List.set_cons_zero]
    refine wl_nil ?_
    (try simp only [Exit.then, Exit.inBlock, ↓reduceIte, Nat.reduceEqDiff])
    refine hK61 _ _ ?_
    refine wp_seq_k (fun K81 hK81 => ?_)
    refine wp_seq_k (fun K82 hK82 => ?_)
    refine region_wl ?_
    refine do_ rfl (.int .i64 11) (ex_move _) ?_
    simp only [Act.put, List.setIfInBounds_toArray, List.set_cons_succ, List.set_cons_zero]
    refine do_ rfl (.bool true) (ex_eql (b := true) rfl rfl (by decide)) ?_
    simp only [Act.put, List.setIfInBounds_toArray, List.set_cons_succ, List.set_cons_zero]
    refine wl_nil ?_
    (try simp only [Exit.then, Exit.inBlock, ↓reduceIte, Nat.reduceEqDiff])
    refine hK82 _ _ ?_
    refine wp_cond_true rfl ?_
    refine wp_seq_k (fun K83 hK83 => ?_)
    refine region_wl ?_
    refine do_ rfl (.slice a15 (forestW (writesN l0 30)).length c16) (ex_move _) ?_
    simp only [Act.put, List.setIfInBounds_toArray, List.set_cons_succ, List.set_cons_zero]
    refine do_ rfl (.int .i64 (((forestW (writesN l0 30)).length : Nat) : Int)) (ex_len Try.underlying73 rfl) ?_
    simp only [Act.put, List.setIfInBounds_toArray, List.set_cons_succ, List.set_cons_zero]
    refine do_ rfl (.bool true) (ex_eql (m := (((forestW (writesN l0 30)).length : Nat) : Int)) (n := (8 : Int)) (b := true) rfl rfl (beq_iff_eq.2 (by have h := (writeF_none okf30 (writeP_ok p1) (by omega) hwf).1; omega))) ?_
    simp only [Act.put, List.setIfInBounds_toArray, List.set_cons_succ, List.set_cons_zero]
    refine do_ rfl (.bool true) (ex_assign _) ?_
    simp only [Act.put, List.setIfInBounds_toArray, List.set_cons_succ, List.set_cons_zero]
    refine wl_nil ?_
    (try simp only [Exit.then, Exit.inBlock, ↓reduceIte, Nat.reduceEqDiff])
    refine hK83 _ _ ?_
    refine wp_ret ?_
    (try simp only [Exit.then, Exit.inBlock, ↓reduceIte, Nat.reduceEqDiff])
    refine bodyPost_ret (v := (.bool true)) ?_ rfl ?_
    · exact res_t rfl rfl
    · exact ⟨rfl, S71.gr.below⟩
  | some g =>
    have hae := applyE_one (l := (forestW (writesN l0 30))) (writeP_ok p1)
    rw [hwf] at hae
    have okg := writeF_ok60 okf (writeP_ok p1) hwf
    have hget := getF_writeF okf hwf
    have hx : getF g (writeP p1).name (writeP p1).key = if (writeP p1).gone = true then none else some (writeP p1).value := by rw [hget, if_pos ⟨rfl, rfl⟩]
    refine region_wl ?_
    refine do_ rfl (.slice a15 (forestW (writesN l0 30)).length c16) (ex_move _) ?_
    simp only [Act.put, List.setIfInBounds_toArray, List.set_cons_succ, List.set_cons_zero]
    refine do_ rfl (.agg #[(.slice xa26 (writeP p1).name.length xc27), (.slice xa28 (writeP p1).key.length xc29), (.bool (writeP p1).gone), (.slice xa30 (writeP p1).value.length xc31)]) (ex_load rfl (loadN (cs := [(.slice xa26 (writeP p1).name.length xc27), (.slice xa28 (writeP p1).key.length xc29), (.bool (writeP p1).gone), (.slice xa30 (writeP p1).value.length xc31)]) Try.underlying67 rfl (size_67) (St.range S60 (i := 1) rfl 0 [(.slice xa26 (writeP p1).name.length xc27), (.slice xa28 (writeP p1).key.length xc29), (.bool (writeP p1).gone), (.slice xa30 (writeP p1).value.length xc31)] (sub_range 0 rfl)))) ?_
    simp only [Act.put, List.setIfInBounds_toArray, List.set_cons_succ, List.set_cons_zero]
    refine stNew S60 (v := fun n => .slice (some ⟨n, 0, none⟩) 1 1) rfl (ex_lit (ps := #[(0, (.agg #[(.slice xa26 (writeP p1).name.length xc27), (.slice xa28 (writeP p1).key.length xc29), (.bool (writeP p1).gone), (.slice xa30 (writeP p1).value.length xc31)]))]) (cells := #[(.slice xa26 (writeP p1).name.length xc27), (.slice xa28 (writeP p1).key.length xc29), (.bool (writeP p1).gone), (.slice xa30 (writeP p1).value.length xc31)]) (E := 67) (bmap1 rfl) (fun w => by kernel_rfl)) (fun n84 w85 S86 => ?_)
    simp only [Act.put, List.setIfInBounds_toArray, List.set_cons_succ, List.set_cons_zero]
    have S86 : St W (whole W) w85 F43 [⟨n84, [(.slice xa26 (writeP p1).name.length xc27), (.slice xa28 (writeP p1).key.length xc29), (.bool (writeP p1).gone), (.slice xa30 (writeP p1).value.length xc31)], 67⟩, ⟨n56, [(.slice xa47 (writeP p2).name.length xc48), (.slice xa49 (writeP p2).key.length xc50), (.bool (writeP p2).gone), (.slice xa51 (writeP p2).value.length xc52)], 67⟩, ⟨n35, [(.slice xa26 (writeP p1).name.length xc27), (.slice xa28 (writeP p1).key.length xc29), (.bool (writeP p1).gone), (.slice xa30 (writeP p1).value.length xc31)], 67⟩, ⟨n5, [(.slice a20 p2.name.length c20), (.slice a21 p2.key.length c21), (.slice a22 p2.value.length c22), (.bool p2.gone)], 70⟩, ⟨n2, [(.slice a10 p1.name.length c10), (.slice a11 p1.key.length c11), (.slice a12 p1.value.length c12), (.bool p1.gone)], 70⟩] [] := S86
    obtain ⟨S87, le88, hc89⟩ := St.freezeBlk S86 (i := 0) rfl
    have r91 : Wrs _ (.slice (some ⟨n84, 0, none⟩) 1 1) [(writeP p1)] := sl_of_block (R := WrC) (l := [(writeP p1)]) (el := [[(.slice xa26 (writeP p1).name.length xc27), (.slice xa28 (writeP p1).key.length xc29), (.bool (writeP p1).gone), (.slice xa30 (writeP p1).value.length xc31)]]) hc89 rfl ⟨⟨_, _, _, _, rfl, ((r32.mono le44).mono le88), ((r33.mono le44).mono le88), rfl, ((r34.mono le44).mono le88)⟩, trivial⟩ (by simp) (by unfold maxLen; simp)
    generalize addF F43 w85 n84 = F90 at *
    have S87 : St W (whole W) w85 F90 [⟨n56, [(.slice xa47 (writeP p2).name.length xc48), (.slice xa49 (writeP p2).key.length xc50), (.bool (writeP p2).gone), (.slice xa51 (writeP p2).value.length xc52)], 67⟩, ⟨n35, [(.slice xa26 (writeP p1).name.length xc27), (.slice xa28 (writeP p1).key.length xc29), (.bool (writeP p1).gone), (.slice xa30 (writeP p1).value.length xc31)], 67⟩, ⟨n5, [(.slice a20 p2.name.length c20), (.slice a21 p2.key.length c21), (.slice a22 p2.value.length c22), (.bool p2.gone)], 70⟩, ⟨n2, [(.slice a10 p1.name.length c10), (.slice a11 p1.key.length c11), (.slice a12 p1.value.length c12), (.bool p1.gone)], 70⟩] [] := S87
    refine stGives S87 rfl (ex_fn (vs := #[(.slice a15 (forestW (writesN l0 30)).length c16), (.slice (some ⟨n84, 0, none⟩) 1 1)]) (map2 rfl rfl) rfl (ent_59 _ _)) (apply_is (S87).sat (R13.mono ((le23.trans le44).trans le88)) r91 okf (by simpa using writeP_ok p1) hae) ?_
    intro v97 w92 F94 S93 le95 R96
    obtain ⟨_, rfl, r100⟩ := R96
    obtain ⟨a98, c99, rfl, h101, h102⟩ := Sl.shape r100
    unfold maxLen at h102
    have h101 : g.length ≤ c99 := h101
    have r100 : Tns _ (.slice a98 g.length c99) g := r100
    simp only [Act.put, List.setIfInBounds_toArray, List.set_cons_succ, List.set_cons_zero]
    have S93 : St W (whole W) w92 F94 [⟨n56, [(.slice xa47 (writeP p2).name.length xc48), (.slice xa49 (writeP p2).key.length xc50), (.bool (writeP p2).gone), (.slice xa51 (writeP p2).value.length xc52)], 67⟩, ⟨n35, [(.slice xa26 (writeP p1).name.length xc27), (.slice xa28 (writeP p1).key.length xc29), (.bool (writeP p1).gone), (.slice xa30 (writeP p1).value.length xc31)], 67⟩, ⟨n5, [(.slice a20 p2.name.length c20), (.slice a21 p2.key.length c21), (.slice a22 p2.value.length c22), (.bool p2.gone)], 70⟩, ⟨n2, [(.slice a10 p1.name.length c10), (.slice a11 p1.key.length c11), (.slice a12 p1.value.length c12), (.bool p1.gone)], 70⟩] [] := S93
    refine do_ rfl (.tuple #[(.slice a98 g.length c99), (.int .i64 0)]) (ex_move _) ?_
    simp only [Act.put, List.setIfInBounds_toArray, List.set_cons_succ, List.set_cons_zero]
    refine do_ rfl (.slice a98 g.length c99) (ex_extract rfl rfl) ?_
    simp only [Act.put, List.setIfInBounds_toArray, List.set_cons_succ, List.set_cons_zero]
    refine do_ rfl (.int .i64 0) (ex_extract rfl rfl) ?_
    simp only [Act.put, List.setIfInBounds_toArray, List.set_cons_succ, List.set_cons_zero]
    refine do_ rfl (.slice a98 g.length c99) (ex_assign _) ?_
    simp only [Act.put, List.setIfInBounds_toArray, List.set_cons_succ, List.set_cons_zero]
    refine do_ rfl (.int .i64 0) (ex_assign _) ?_
    simp only [Act.put, List.setIfInBounds_toArray, List.set_cons_succ, List.set_cons_zero]
    refine wl_nil ?_
    (try simp only [Exit.then, Exit.inBlock, ↓reduceIte, Nat.reduceEqDiff])
    refine hK61 _ _ ?_
    refine wp_seq_k (fun K103 hK103 => ?_)
    refine wp_seq_k (fun K104 hK104 => ?_)
    refine region_wl ?_
    refine do_ rfl (.int .i64 0) (ex_move _) ?_
    simp only [Act.put, List.setIfInBounds_toArray, List.set_cons_succ, List.set_cons_zero]
    refine do_ rfl (.bool false) (ex_eql (b := false) rfl rfl (by decide)) ?_
    simp only [Act.put, List.setIfInBounds_toArray, List.set_cons_succ, List.set_cons_zero]
    refine wl_nil ?_
    (try simp only [Exit.then, Exit.inBlock, ↓reduceIte, Nat.reduceEqDiff])
    refine hK104 _ _ ?_
    refine wp_cond_false rfl ?_
    refine wp_skip ?_
    (try simp only [Exit.then, Exit.inBlock, ↓reduceIte, Nat.reduceEqDiff])
    refine hK103 _ _ ?_
    refine wp_seq_k (fun K105 hK105 => ?_)
    refine region_wl ?_
    refine do_ rfl (.slice a98 g.length c99) (ex_move _) ?_
    simp only [Act.put, List.setIfInBounds_toArray, List.set_cons_succ, List.set_cons_zero]
    refine do_ rfl (.pointer (some ⟨n35, 0, none⟩)) (ex_field (q := ⟨n35, 0, none⟩) rfl (fa_67_0 _ _)) ?_
    simp only [Act.put, List.setIfInBounds_toArray, List.set_cons_succ, List.set_cons_zero]
    refine do_ rfl (.slice xa26 (writeP p1).name.length xc27) (ex_load rfl (load1 (nagg_27 _) (St.cell S93 (i := 1) rfl rfl))) ?_
    simp only [Act.put, List.setIfInBounds_toArray, List.set_cons_succ, List.set_cons_zero]
    refine do_ rfl (.pointer (some ⟨n35, 1, none⟩)) (ex_field (q := ⟨n35, 1, none⟩) rfl (fa_67_1 _ _)) ?_
    simp only [Act.put, List.setIfInBounds_toArray, List.set_cons_succ, List.set_cons_zero]
    refine do_ rfl (.slice xa28 (writeP p1).key.length xc29) (ex_load rfl (load1 (nagg_27 _) (St.cell S93 (i := 1) rfl rfl))) ?_
    simp only [Act.put, List.setIfInBounds_toArray, List.set_cons_succ, List.set_cons_zero]
    refine stGives S93 rfl (ex_fn (vs := #[(.slice a98 g.length c99), (.slice xa26 (writeP p1).name.length xc27), (.slice xa28 (writeP p1).key.length xc29)]) (map3 rfl rfl rfl) rfl (ent_62 _ _)) (getF_spec _ _ _ _ _ g ((writeP p1).name) ((writeP p1).key) (S93).sat r100 (r32.mono ((le44.trans le88).trans le95)) (r33.mono ((le44.trans le88).trans le95)) okg (WrOk.name (writeP_ok p1)) ⟨WrOk.key1 (writeP_ok p1), WrOk.key2 (writeP_ok p1)⟩) ?_
    intro v111 w106 F108 S107 le109 R110
    obtain ⟨_, rfl, a112, c113, rfl, r114⟩ := R110
    have r114 : Bs _ (.slice a112 ((getF g ((writeP p1).name) ((writeP p1).key)).getD []).length c113) ((getF g ((writeP p1).name) ((writeP p1).key)).getD []) := r114
    simp only [Act.put, List.setIfInBounds_toArray, List.set_cons_succ, List.set_cons_zero]
    have S107 : St W (whole W) w106 F108 [⟨n56, [(.slice xa47 (writeP p2).name.length xc48), (.slice xa49 (writeP p2).key.length xc50), (.bool (writeP p2).gone), (.slice xa51 (writeP p2).value.length xc52)], 67⟩, ⟨n35, [(.slice xa26 (writeP p1).name.length xc27), (.slice xa28 (writeP p1).key.length xc29), (.bool (writeP p1).gone), (.slice xa30 (writeP p1).value.length xc31)], 67⟩, ⟨n5, [(.slice a20 p2.name.length c20), (.slice a21 p2.key.length c21), (.slice a22 p2.value.length c22), (.bool p2.gone)], 70⟩, ⟨n2, [(.slice a10 p1.name.length c10), (.slice a11 p1.key.length c11), (.slice a12 p1.value.length c12), (.bool p1.gone)], 70⟩] [] := S107
    refine do_ rfl (.tuple #[(.agg #[(.bool (getF g ((writeP p1).name) ((writeP p1).key)).isSome), (.slice a112 ((getF g ((writeP p1).name) ((writeP p1).key)).getD []).length c113)]), (.int .i64 0)]) (ex_move _) ?_
    simp only [Act.put, List.setIfInBounds_toArray, List.set_cons_succ, List.set_cons_zero]
    refine do_ rfl (.agg #[(.bool (getF g ((writeP p1).name) ((writeP p1).key)).isSome), (.slice a112 ((getF g ((writeP p1).name) ((writeP p1).key)).getD []).length c113)]) (ex_extract rfl rfl) ?_
    simp only [Act.put, List.setIfInBounds_toArray, List.set_cons_succ, List.set_cons_zero]
    refine do_ rfl (.int .i64 0) (ex_extract rfl rfl) ?_
    simp only [Act.put, List.setIfInBounds_toArray, List.set_cons_succ, List.set_cons_zero]
    refine stNew S107 (v := fun n => .pointer (some ⟨n, 0, none⟩)) rfl (ex_alloc (zero_53 _)) (fun n115 w116 S117 => ?_)
    simp only [Act.put, List.setIfInBounds_toArray, List.set_cons_succ, List.set_cons_zero]
    have S117 : St W (whole W) w116 F108 [⟨n115, [(.bool false), (.slice none 0 0)], 53⟩, ⟨n56, [(.slice xa47 (writeP p2).name.length xc48), (.slice xa49 (writeP p2).key.length xc50), (.bool (writeP p2).gone), (.slice xa51 (writeP p2).value.length xc52)], 67⟩, ⟨n35, [(.slice xa26 (writeP p1).name.length xc27), (.slice xa28 (writeP p1).key.length xc29), (.bool (writeP p1).gone), (.slice xa30 (writeP p1).value.length xc31)], 67⟩, ⟨n5, [(.slice a20 p2.name.length c20), (.slice a21 p2.key.length c21), (.slice a22 p2.value.length c22), (.bool p2.gone)], 70⟩, ⟨n2, [(.slice a10 p1.name.length c10), (.slice a11 p1.key.length c11), (.slice a12 p1.value.length c12), (.bool p1.gone)], 70⟩] [] := S117
    refine stStore (i := 0) (v := (.agg #[(.bool (getF g ((writeP p1).name) ((writeP p1).key)).isSome), (.slice a112 ((getF g ((writeP p1).name) ((writeP p1).key)).getD []).length c113)])) S117 rfl rfl rfl rfl (size_53) (allc2 rfl rfl) (Nat.le_of_ble_eq_true rfl) (fun w118 S119 => ?_)
    simp only [Act.put, List.setIfInBounds_toArray, List.set_cons_succ, List.set_cons_zero]
    have S119 : St W (whole W) w118 F108 [⟨n115, [(.bool (getF g ((writeP p1).name) ((writeP p1).key)).isSome), (.slice a112 ((getF g ((writeP p1).name) ((writeP p1).key)).getD []).length c113)], 53⟩, ⟨n56, [(.slice xa47 (writeP p2).name.length xc48), (.slice xa49 (writeP p2).key.length xc50), (.bool (writeP p2).gone), (.slice xa51 (writeP p2).value.length xc52)], 67⟩, ⟨n35, [(.slice xa26 (writeP p1).name.length xc27), (.slice xa28 (writeP p1).key.length xc29), (.bool (writeP p1).gone), (.slice xa30 (writeP p1).value.length xc31)], 67⟩, ⟨n5, [(.slice a20 p2.name.length c20), (.slice a21 p2.key.length c21), (.slice a22 p2.value.length c22), (.bool p2.gone)], 70⟩, ⟨n2, [(.slice a10 p1.name.length c10), (.slice a11 p1.key.length c11), (.slice a12 p1.value.length c12), (.bool p1.gone)], 70⟩] [] := S119
    refine do_ rfl (.int .i64 0) (ex_assign _) ?_
    simp only [Act.put, List.setIfInBounds_toArray, List.set_cons_succ, List.set_cons_zero]
    refine wl_nil ?_
    (try simp only [Exit.then, Exit.inBlock, ↓reduceIte, Nat.reduceEqDiff])
    refine hK105 _ _ ?_
    refine wp_seq_k (fun K120 hK120 => ?_)
    refine region_wl ?_
    refine do_ rfl (.slice a98 g.length c99) (ex_move _) ?_
    simp only [Act.put, List.setIfInBounds_toArray, List.set_cons_succ, List.set_cons_zero]
    refine do_ rfl (.pointer (some ⟨n56, 0, none⟩)) (ex_field (q := ⟨n56, 0, none⟩) rfl (fa_67_0 _ _)) ?_
    simp only [Act.put, List.setIfInBounds_toArray, List.set_cons_succ, List.set_cons_zero]
    refine do_ rfl (.slice xa47 (writeP p2).name.length xc48) (ex_load rfl (load1 (nagg_27 _) (St.cell S119 (i := 1) rfl rfl))) ?_
    simp only [Act.put, List.setIfInBounds_toArray, List.set_cons_succ, List.set_cons_zero]
    refine do_ rfl (.pointer (some ⟨n56, 1, none⟩)) (ex_field (q := ⟨n56, 1, none⟩) rfl (fa_67_1 _ _)) ?_
    simp only [Act.put, List.setIfInBounds_toArray, List.set_cons_succ, List.set_cons_zero]
    refine do_ rfl (.slice xa49 (writeP p2).key.length xc50) (ex_load rfl (load1 (nagg_27 _) (St.cell S119 (i := 1) rfl rfl))) ?_
    simp only [Act.put, List.setIfInBounds_toArray, List.set_cons_succ, List.set_cons_zero]
    refine stGives S119 rfl (ex_fn (vs := #[(.slice a98 g.length c99), (.slice xa47 (writeP p2).name.length xc48), (.slice xa49 (writeP p2).key.length xc50)]) (map3 rfl rfl rfl) rfl (ent_62 _ _)) (getF_spec _ _ _ _ _ g ((writeP p2).name) ((writeP p2).key) (S119).sat (r100.mono le109) (r53.mono ((le88.trans le95).trans le109)) (r54.mono ((le88.trans le95).trans le109)) okg (WrOk.name (writeP_ok p2)) ⟨WrOk.key1 (writeP_ok p2), WrOk.key2 (writeP_ok p2)⟩) ?_
    intro v126 w121 F123 S122 le124 R125
    obtain ⟨_, rfl, a127, c128, rfl, r129⟩ := R125
    have r129 : Bs _ (.slice a127 ((getF g ((writeP p2).name) ((writeP p2).key)).getD []).length c128) ((getF g ((writeP p2).name) ((writeP p2).key)).getD []) := r129
    simp only [Act.put, List.setIfInBounds_toArray, List.set_cons_succ, List.set_cons_zero]
    have S122 : St W (whole W) w121 F123 [⟨n115, [(.bool (getF g ((writeP p1).name) ((writeP p1).key)).isSome), (.slice a112 ((getF g ((writeP p1).name) ((writeP p1).key)).getD []).length c113)], 53⟩, ⟨n56, [(.slice xa47 (writeP p2).name.length xc48), (.slice xa49 (writeP p2).key.length xc50), (.bool (writeP p2).gone), (.slice xa51 (writeP p2).value.length xc52)], 67⟩, ⟨n35, [(.slice xa26 (writeP p1).name.length xc27), (.slice xa28 (writeP p1).key.length xc29), (.bool (writeP p1).gone), (.slice xa30 (writeP p1).value.length xc31)], 67⟩, ⟨n5, [(.slice a20 p2.name.length c20), (.slice a21 p2.key.length c21), (.slice a22 p2.value.length c22), (.bool p2.gone)], 70⟩, ⟨n2, [(.slice a10 p1.name.length c10), (.slice a11 p1.key.length c11), (.slice a12 p1.value.length c12), (.bool p1.gone)], 70⟩] [] := S122
    refine do_ rfl (.tuple #[(.agg #[(.bool (getF g ((writeP p2).name) ((writeP p2).key)).isSome), (.slice a127 ((getF g ((writeP p2).name) ((writeP p2).key)).getD []).length c128)]), (.int .i64 0)]) (ex_move _) ?_
    simp only [Act.put, List.setIfInBounds_toArray, List.set_cons_succ, List.set_cons_zero]
    refine do_ rfl (.agg #[(.bool (getF g ((writeP p2).name) ((writeP p2).key)).isSome), (.slice a127 ((getF g ((writeP p2).name) ((writeP p2).key)).getD []).length c128)]) (ex_extract rfl rfl) ?_
    simp only [Act.put, List.setIfInBounds_toArray, List.set_cons_succ, List.set_cons_zero]
    refine do_ rfl (.int .i64 0) (ex_extract rfl rfl) ?_
    simp only [Act.put, List.setIfInBounds_toArray, List.set_cons_succ, List.set_cons_zero]
    refine stNew S122 (v := fun n => .pointer (some ⟨n, 0, none⟩)) rfl (ex_alloc (zero_53 _)) (fun n130 w131 S132 => ?_)
    simp only [Act.put, List.setIfInBounds_toArray, List.set_cons_succ, List.set_cons_zero]
    have S132 : St W (whole W) w131 F123 [⟨n130, [(.bool false), (.slice none 0 0)], 53⟩, ⟨n115, [(.bool (getF g ((writeP p1).name) ((writeP p1).key)).isSome), (.slice a112 ((getF g ((writeP p1).name) ((writeP p1).key)).getD []).length c113)], 53⟩, ⟨n56, [(.slice xa47 (writeP p2).name.length xc48), (.slice xa49 (writeP p2).key.length xc50), (.bool (writeP p2).gone), (.slice xa51 (writeP p2).value.length xc52)], 67⟩, ⟨n35, [(.slice xa26 (writeP p1).name.length xc27), (.slice xa28 (writeP p1).key.length xc29), (.bool (writeP p1).gone), (.slice xa30 (writeP p1).value.length xc31)], 67⟩, ⟨n5, [(.slice a20 p2.name.length c20), (.slice a21 p2.key.length c21), (.slice a22 p2.value.length c22), (.bool p2.gone)], 70⟩, ⟨n2, [(.slice a10 p1.name.length c10), (.slice a11 p1.key.length c11), (.slice a12 p1.value.length c12), (.bool p1.gone)], 70⟩] [] := S132
    refine stStore (i := 0) (v := (.agg #[(.bool (getF g ((writeP p2).name) ((writeP p2).key)).isSome), (.slice a127 ((getF g ((writeP p2).name) ((writeP p2).key)).getD []).length c128)])) S132 rfl rfl rfl rfl (size_53) (allc2 rfl rfl) (Nat.le_of_ble_eq_true rfl) (fun w133 S134 => ?_)
    simp only [Act.put, List.setIfInBounds_toArray, List.set_cons_succ, List.set_cons_zero]
    have S134 : St W (whole W) w133 F123 [⟨n130, [(.bool (getF g ((writeP p2).name) ((writeP p2).key)).isSome), (.slice a127 ((getF g ((writeP p2).name) ((writeP p2).key)).getD []).length c128)], 53⟩, ⟨n115, [(.bool (getF g ((writeP p1).name) ((writeP p1).key)).isSome), (.slice a112 ((getF g ((writeP p1).name) ((writeP p1).key)).getD []).length c113)], 53⟩, ⟨n56, [(.slice xa47 (writeP p2).name.length xc48), (.slice xa49 (writeP p2).key.length xc50), (.bool (writeP p2).gone), (.slice xa51 (writeP p2).value.length xc52)], 67⟩, ⟨n35, [(.slice xa26 (writeP p1).name.length xc27), (.slice xa28 (writeP p1).key.length xc29), (.bool (writeP p1).gone), (.slice xa30 (writeP p1).value.length xc31)], 67⟩, ⟨n5, [(.slice a20 p2.name.length c20), (.slice a21 p2.key.length c21), (.slice a22 p2.value.length c22), (.bool p2.gone)], 70⟩, ⟨n2, [(.slice a10 p1.name.length c10), (.slice a11 p1.key.length c11), (.slice a12 p1.value.length c12), (.bool p1.gone)], 70⟩] [] := S134
    refine do_ rfl (.int .i64 0) (ex_assign _) ?_
    simp only [Act.put, List.setIfInBounds_toArray, List.set_cons_succ, List.set_cons_zero]
    refine wl_nil ?_
    (try simp only [Exit.then, Exit.inBlock, ↓reduceIte, Nat.reduceEqDiff])
    refine hK120 _ _ ?_
    refine wp_seq_k (fun K135 hK135 => ?_)
    refine region_wl ?_
    refine do_ rfl (.slice a15 (forestW (writesN l0 30)).length c16) (ex_move _) ?_
    simp only [Act.put, List.setIfInBounds_toArray, List.set_cons_succ, List.set_cons_zero]
    refine do_ rfl (.pointer (some ⟨n56, 0, none⟩)) (ex_field (q := ⟨n56, 0, none⟩) rfl (fa_67_0 _ _)) ?_
    simp only [Act.put, List.setIfInBounds_toArray, List.set_cons_succ, List.set_cons_zero]
    refine do_ rfl (.slice xa47 (writeP p2).name.length xc48) (ex_load rfl (load1 (nagg_27 _) (St.cell S134 (i := 2) rfl rfl))) ?_
    simp only [Act.put, List.setIfInBounds_toArray, List.set_cons_succ, List.set_cons_zero]
    refine do_ rfl (.pointer (some ⟨n56, 1, none⟩)) (ex_field (q := ⟨n56, 1, none⟩) rfl (fa_67_1 _ _)) ?_
    simp only [Act.put, List.setIfInBounds_toArray, List.set_cons_succ, List.set_cons_zero]
    refine do_ rfl (.slice xa49 (writeP p2).key.length xc50) (ex_load rfl (load1 (nagg_27 _) (St.cell S134 (i := 2) rfl rfl))) ?_
    simp only [Act.put, List.setIfInBounds_toArray, List.set_cons_succ, List.set_cons_zero]
    refine stGives S134 rfl (ex_fn (vs := #[(.slice a15 (forestW (writesN l0 30)).length c16), (.slice xa47 (writeP p2).name.length xc48), (.slice xa49 (writeP p2).key.length xc50)]) (map3 rfl rfl rfl) rfl (ent_62 _ _)) (getF_spec _ _ _ _ _ (forestW (writesN l0 30)) ((writeP p2).name) ((writeP p2).key) (S134).sat (R13.mono (((((le23.trans le44).trans le88).trans le95).trans le109).trans le124)) (r53.mono (((le88.trans le95).trans le109).trans le124)) (r54.mono (((le88.trans le95).trans le109).trans le124)) okf (WrOk.name (writeP_ok p2)) ⟨WrOk.key1 (writeP_ok p2), WrOk.key2 (writeP_ok p2)⟩) ?_
    intro v141 w136 F138 S137 le139 R140
    obtain ⟨_, rfl, a142, c143, rfl, r144⟩ := R140
    have r144 : Bs _ (.slice a142 ((getF (forestW (writesN l0 30)) ((writeP p2).name) ((writeP p2).key)).getD []).length c143) ((getF (forestW (writesN l0 30)) ((writeP p2).name) ((writeP p2).key)).getD []) := r144
    simp only [Act.put, List.setIfInBounds_toArray, List.set_cons_succ, List.set_cons_zero]
    have S137 : St W (whole W) w136 F138 [⟨n130, [(.bool (getF g ((writeP p2).name) ((writeP p2).key)).isSome), (.slice a127 ((getF g ((writeP p2).name) ((writeP p2).key)).getD []).length c128)], 53⟩, ⟨n115, [(.bool (getF g ((writeP p1).name) ((writeP p1).key)).isSome), (.slice a112 ((getF g ((writeP p1).name) ((writeP p1).key)).getD []).length c113)], 53⟩, ⟨n56, [(.slice xa47 (writeP p2).name.length xc48), (.slice xa49 (writeP p2).key.length xc50), (.bool (writeP p2).gone), (.slice xa51 (writeP p2).value.length xc52)], 67⟩, ⟨n35, [(.slice xa26 (writeP p1).name.length xc27), (.slice xa28 (writeP p1).key.length xc29), (.bool (writeP p1).gone), (.slice xa30 (writeP p1).value.length xc31)], 67⟩, ⟨n5, [(.slice a20 p2.name.length c20), (.slice a21 p2.key.length c21), (.slice a22 p2.value.length c22), (.bool p2.gone)], 70⟩, ⟨n2, [(.slice a10 p1.name.length c10), (.slice a11 p1.key.length c11), (.slice a12 p1.value.length c12), (.bool p1.gone)], 70⟩] [] := S137
    refine do_ rfl (.tuple #[(.agg #[(.bool (getF (forestW (writesN l0 30)) ((writeP p2).name) ((writeP p2).key)).isSome), (.slice a142 ((getF (forestW (writesN l0 30)) ((writeP p2).name) ((writeP p2).key)).getD []).length c143)]), (.int .i64 0)]) (ex_move _) ?_
    simp only [Act.put, List.setIfInBounds_toArray, List.set_cons_succ, List.set_cons_zero]
    refine do_ rfl (.agg #[(.bool (getF (forestW (writesN l0 30)) ((writeP p2).name) ((writeP p2).key)).isSome), (.slice a142 ((getF (forestW (writesN l0 30)) ((writeP p2).name) ((writeP p2).key)).getD []).length c143)]) (ex_extract rfl rfl) ?_
    simp only [Act.put, List.setIfInBounds_toArray, List.set_cons_succ, List.set_cons_zero]
    refine do_ rfl (.int .i64 0) (ex_extract rfl rfl) ?_
    simp only [Act.put, List.setIfInBounds_toArray, List.set_cons_succ, List.set_cons_zero]
    refine stNew S137 (v := fun n => .pointer (some ⟨n, 0, none⟩)) rfl (ex_alloc (zero_53 _)) (fun n145 w146 S147 => ?_)
    simp only [Act.put, List.setIfInBounds_toArray, List.set_cons_succ, List.set_cons_zero]
    have S147 : St W (whole W) w146 F138 [⟨n145, [(.bool false), (.slice none 0 0)], 53⟩, ⟨n130, [(.bool (getF g ((writeP p2).name) ((writeP p2).key)).isSome), (.slice a127 ((getF g ((writeP p2).name) ((writeP p2).key)).getD []).length c128)], 53⟩, ⟨n115, [(.bool (getF g ((writeP p1).name) ((writeP p1).key)).isSome), (.slice a112 ((getF g ((writeP p1).name) ((writeP p1).key)).getD []).length c113)], 53⟩, ⟨n56, [(.slice xa47 (writeP p2).name.length xc48), (.slice xa49 (writeP p2).key.length xc50), (.bool (writeP p2).gone), (.slice xa51 (writeP p2).value.length xc52)], 67⟩, ⟨n35, [(.slice xa26 (writeP p1).name.length xc27), (.slice xa28 (writeP p1).key.length xc29), (.bool (writeP p1).gone), (.slice xa30 (writeP p1).value.length xc31)], 67⟩, ⟨n5, [(.slice a20 p2.name.length c20), (.slice a21 p2.key.length c21), (.slice a22 p2.value.length c22), (.bool p2.gone)], 70⟩, ⟨n2, [(.slice a10 p1.name.length c10), (.slice a11 p1.key.length c11), (.slice a12 p1.value.length c12), (.bool p1.gone)], 70⟩] [] := S147
    refine stStore (i := 0) (v := (.agg #[(.bool (getF (forestW (writesN l0 30)) ((writeP p2).name) ((writeP p2).key)).isSome), (.slice a142 ((getF (forestW (writesN l0 30)) ((writeP p2).name) ((writeP p2).key)).getD []).length c143)])) S147 rfl rfl rfl rfl (size_53) (allc2 rfl rfl) (Nat.le_of_ble_eq_true rfl) (fun w148 S149 => ?_)
    simp only [Act.put, List.setIfInBounds_toArray, List.set_cons_succ, List.set_cons_zero]
    have S149 : St W (whole W) w148 F138 [⟨n145, [(.bool (getF (forestW (writesN l0 30)) ((writeP p2).name) ((writeP p2).key)).isSome), (.slice a142 ((getF (forestW (writesN l0 30)) ((writeP p2).name) ((writeP p2).key)).getD []).length c143)], 53⟩, ⟨n130, [(.bool (getF g ((writeP p2).name) ((writeP p2).key)).isSome), (.slice a127 ((getF g ((writeP p2).name) ((writeP p2).key)).getD []).length c128)], 53⟩, ⟨n115, [(.bool (getF g ((writeP p1).name) ((writeP p1).key)).isSome), (.slice a112 ((getF g ((writeP p1).name) ((writeP p1).key)).getD []).length c113)], 53⟩, ⟨n56, [(.slice xa47 (writeP p2).name.length xc48), (.slice xa49 (writeP p2).key.length xc50), (.bool (writeP p2).gone), (.slice xa51 (writeP p2).value.length xc52)], 67⟩, ⟨n35, [(.slice xa26 (writeP p1).name.length xc27), (.slice xa28 (writeP p1).key.length xc29), (.bool (writeP p1).gone), (.slice xa30 (writeP p1).value.length xc31)], 67⟩, ⟨n5, [(.slice a20 p2.name.length c20), (.slice a21 p2.key.length c21), (.slice a22 p2.value.length c22), (.bool p2.gone)], 70⟩, ⟨n2, [(.slice a10 p1.name.length c10), (.slice a11 p1.key.length c11), (.slice a12 p1.value.length c12), (.bool p1.gone)], 70⟩] [] := S149
    refine do_ rfl (.int .i64 0) (ex_assign _) ?_
    simp only [Act.put, List.setIfInBounds_toArray, List.set_cons_succ, List.set_cons_zero]
    refine wl_nil ?_
    (try simp only [Exit.then, Exit.inBlock, ↓reduceIte, Nat.reduceEqDiff])
    refine hK135 _ _ ?_
    refine wp_seq_k (fun K150 hK150 => ?_)
    refine wp_seq_k (fun K151 hK151 => ?_)
    refine region_wl ?_
    refine do_ rfl (.int .i64 0) (ex_move _) ?_
    simp only [Act.put, List.setIfInBounds_toArray, List.set_cons_succ, List.set_cons_zero]
    refine do_ rfl (.bool false) (ex_neq (b := false) rfl rfl (by decide)) ?_
    simp only [Act.put, List.setIfInBounds_toArray, List.set_cons_succ, List.set_cons_zero]
    refine do_ rfl (.bool false) (ex_move _) ?_
    simp only [Act.put, List.setIfInBounds_toArray, List.set_cons_succ, List.set_cons_zero]
    refine do_ rfl (.int .i64 0) (ex_move _) ?_
    simp only [Act.put, List.setIfInBounds_toArray, List.set_cons_succ, List.set_cons_zero]
    refine do_ rfl (.bool false) (ex_neq (b := false) rfl rfl (by decide)) ?_
    simp only [Act.put, List.setIfInBounds_toArray, List.set_cons_succ, List.set_cons_zero]
    refine do_ rfl (.bool false) (ex_pick (b := false) rfl) ?_
    simp only [Act.put, List.setIfInBounds_toArray, List.set_cons_succ, List.set_cons_zero]
    refine do_ rfl (.bool false) (ex_move _) ?_
    simp only [Act.put, List.setIfInBounds_toArray, List.set_cons_succ, List.set_cons_zero]
    refine do_ rfl (.int .i64 0) (ex_move _) ?_
    simp only [Act.put, List.setIfInBounds_toArray, List.set_cons_succ, List.set_cons_zero]
    refine do_ rfl (.bool false) (ex_neq (b := false) rfl rfl (by decide)) ?_
    simp only [Act.put, List.setIfInBounds_toArray, List.set_cons_succ, List.set_cons_zero]
    refine do_ rfl (.bool false) (ex_pick (b := false) rfl) ?_
    simp only [Act.put, List.setIfInBounds_toArray, List.set_cons_succ, List.set_cons_zero]
    refine do_ rfl (.bool false) (ex_move _) ?_
    simp only [Act.put, List.setIfInBounds_toArray, List.set_cons_succ, List.set_cons_zero]
    refine do_ rfl (.int .i64 0) (ex_move _) ?_
    simp only [Act.put, List.setIfInBounds_toArray, List.set_cons_succ, List.set_cons_zero]
    refine do_ rfl (.bool false) (ex_neq (b := false) rfl rfl (by decide)) ?_
    simp only [Act.put, List.setIfInBounds_toArray, List.set_cons_succ, List.set_cons_zero]
    refine do_ rfl (.bool false) (ex_pick (b := false) rfl) ?_
    simp only [Act.put, List.setIfInBounds_toArray, List.set_cons_succ, List.set_cons_zero]
    refine do_ rfl (.bool false) (ex_move _) ?_
    simp only [Act.put, List.setIfInBounds_toArray, List.set_cons_succ, List.set_cons_zero]
    refine do_ rfl (.slice a98 g.length c99) (ex_move _) ?_
    simp only [Act.put, List.setIfInBounds_toArray, List.set_cons_succ, List.set_cons_zero]
    refine stTells (v := (.int .i64 0)) S149 rfl (ex_fn (vs := #[(.slice a98 g.length c99)]) (map1 rfl) rfl (ent_61 _ _)) (forestCheckOk_spec _ _ _ g (S149).sat (r100.mono ((le109.trans le124).trans le139)) okg) (fun w152 S153 => ?_)
    simp only [Act.put, List.setIfInBounds_toArray, List.set_cons_succ, List.set_cons_zero]
    have S153 : St W (whole W) w152 F138 [⟨n145, [(.bool (getF (forestW (writesN l0 30)) ((writeP p2).name) ((writeP p2).key)).isSome), (.slice a142 ((getF (forestW (writesN l0 30)) ((writeP p2).name) ((writeP p2).key)).getD []).length c143)], 53⟩, ⟨n130, [(.bool (getF g ((writeP p2).name) ((writeP p2).key)).isSome), (.slice a127 ((getF g ((writeP p2).name) ((writeP p2).key)).getD []).length c128)], 53⟩, ⟨n115, [(.bool (getF g ((writeP p1).name) ((writeP p1).key)).isSome), (.slice a112 ((getF g ((writeP p1).name) ((writeP p1).key)).getD []).length c113)], 53⟩, ⟨n56, [(.slice xa47 (writeP p2).name.length xc48), (.slice xa49 (writeP p2).key.length xc50), (.bool (writeP p2).gone), (.slice xa51 (writeP p2).value.length xc52)], 67⟩, ⟨n35, [(.slice xa26 (writeP p1).name.length xc27), (.slice xa28 (writeP p1).key.length xc29), (.bool (writeP p1).gone), (.slice xa30 (writeP p1).value.length xc31)], 67⟩, ⟨n5, [(.slice a20 p2.name.length c20), (.slice a21 p2.key.length c21), (.slice a22 p2.value.length c22), (.bool p2.gone)], 70⟩, ⟨n2, [(.slice a10 p1.name.length c10), (.slice a11 p1.key.length c11), (.slice a12 p1.value.length c12), (.bool p1.gone)], 70⟩] [] := S153
    refine do_ rfl (.bool false) (ex_neq (b := false) rfl rfl (by decide)) ?_
    simp only [Act.put, List.setIfInBounds_toArray, List.set_cons_succ, List.set_cons_zero]
    refine do_ rfl (.bool false) (ex_pick (b := false) rfl) ?_
    simp only [Act.put, List.setIfInBounds_toArray, List.set_cons_succ, List.set_cons_zero]
    refine do_ rfl (.bool false) (ex_move _) ?_
    simp only [Act.put, List.setIfInBounds_toArray, List.set_cons_succ, List.set_cons_zero]
    refine do_ rfl (.pointer (some ⟨n115, 0, none⟩)) (ex_field (q := ⟨n115, 0, none⟩) rfl (fa_53_0 _ _)) ?_
    simp only [Act.put, List.setIfInBounds_toArray, List.set_cons_succ, List.set_cons_zero]
    refine do_ rfl (.bool (getF g ((writeP p1).name) ((writeP p1).key)).isSome) (ex_load rfl (load1 (nagg_4 _) (St.cell S153 (i := 2) rfl rfl))) ?_
    simp only [Act.put, List.setIfInBounds_toArray, List.set_cons_succ, List.set_cons_zero]
    refine do_ rfl (.pointer (some ⟨n35, 2, none⟩)) (ex_field (q := ⟨n35, 2, none⟩) rfl (fa_67_2 _ _)) ?_
    simp only [Act.put, List.setIfInBounds_toArray, List.set_cons_succ, List.set_cons_zero]
    refine do_ rfl (.bool (writeP p1).gone) (ex_load rfl (load1 (nagg_4 _) (St.cell S153 (i := 4) rfl rfl))) ?_
    simp only [Act.put, List.setIfInBounds_toArray, List.set_cons_succ, List.set_cons_zero]
    refine do_ rfl (.bool false) (ex_eqlB Try.underlying4 rfl rfl (by rw [hx]; cases (writeP p1).gone <;> rfl)) ?_
    simp only [Act.put, List.setIfInBounds_toArray, List.set_cons_succ, List.set_cons_zero]
    refine do_ rfl (.bool false) (ex_pick (b := false) rfl) ?_
    simp only [Act.put, List.setIfInBounds_toArray, List.set_cons_succ, List.set_cons_zero]
    refine do_ rfl (.bool false) (ex_move _) ?_
    simp only [Act.put, List.setIfInBounds_toArray, List.set_cons_succ, List.set_cons_zero]
    refine do_ rfl (.pointer (some ⟨n115, 1, none⟩)) (ex_field (q := ⟨n115, 1, none⟩) rfl (fa_53_1 _ _)) ?_
    simp only [Act.put, List.setIfInBounds_toArray, List.set_cons_succ, List.set_cons_zero]
    refine do_ rfl (.slice a112 ((getF g ((writeP p1).name) ((writeP p1).key)).getD []).length c113) (ex_load rfl (load1 (nagg_27 _) (St.cell S153 (i := 2) rfl rfl))) ?_
    simp only [Act.put, List.setIfInBounds_toArray, List.set_cons_succ, List.set_cons_zero]
    refine do_ rfl (.pointer (some ⟨n35, 3, none⟩)) (ex_field (q := ⟨n35, 3, none⟩) rfl (fa_67_3 _ _)) ?_
    simp only [Act.put, List.setIfInBounds_toArray, List.set_cons_succ, List.set_cons_zero]
    refine do_ rfl (.slice xa30 (writeP p1).value.length xc31) (ex_load rfl (load1 (nagg_27 _) (St.cell S153 (i := 4) rfl rfl))) ?_
    simp only [Act.put, List.setIfInBounds_toArray, List.set_cons_succ, List.set_cons_zero]
    refine stTells (v := (.bool true)) S153 rfl (ex_fn (vs := #[(.slice a112 ((getF g ((writeP p1).name) ((writeP p1).key)).getD []).length c113), (.slice xa30 (writeP p1).value.length xc31)]) (map2 rfl rfl) rfl (ent_46 _ _)) (tells_bool (tells_same (same_spec _ _ _ _ ((getF g ((writeP p1).name) ((writeP p1).key)).getD []) ((writeP p1).value) (S153).sat (r114.mono (le124.trans le139)) (r34.mono (((((le44.trans le88).trans le95).trans le109).trans le124).trans le139)))) (beq_iff_eq.2 (by rw [hx]; by_cases hg : (writeP p1).gone = true; (rw [if_pos hg, WrOk.gone (writeP_ok p1) hg]; rfl); (rw [if_neg hg]; rfl)))) (fun w154 S155 => ?_)
    simp only [Act.put, List.setIfInBounds_toArray, List.set_cons_succ, List.set_cons_zero]
    have S155 : St W (whole W) w154 F138 [⟨n145, [(.bool (getF (forestW (writesN l0 30)) ((writeP p2).name) ((writeP p2).key)).isSome), (.slice a142 ((getF (forestW (writesN l0 30)) ((writeP p2).name) ((writeP p2).key)).getD []).length c143)], 53⟩, ⟨n130, [(.bool (getF g ((writeP p2).name) ((writeP p2).key)).isSome), (.slice a127 ((getF g ((writeP p2).name) ((writeP p2).key)).getD []).length c128)], 53⟩, ⟨n115, [(.bool (getF g ((writeP p1).name) ((writeP p1).key)).isSome), (.slice a112 ((getF g ((writeP p1).name) ((writeP p1).key)).getD []).length c113)], 53⟩, ⟨n56, [(.slice xa47 (writeP p2).name.length xc48), (.slice xa49 (writeP p2).key.length xc50), (.bool (writeP p2).gone), (.slice xa51 (writeP p2).value.length xc52)], 67⟩, ⟨n35, [(.slice xa26 (writeP p1).name.length xc27), (.slice xa28 (writeP p1).key.length xc29), (.bool (writeP p1).gone), (.slice xa30 (writeP p1).value.length xc31)], 67⟩, ⟨n5, [(.slice a20 p2.name.length c20), (.slice a21 p2.key.length c21), (.slice a22 p2.value.length c22), (.bool p2.gone)], 70⟩, ⟨n2, [(.slice a10 p1.name.length c10), (.slice a11 p1.key.length c11), (.slice a12 p1.value.length c12), (.bool p1.gone)], 70⟩] [] := S155
    refine do_ rfl (.bool false) (ex_not (b := true) rfl rfl) ?_
    simp only [Act.put, List.setIfInBounds_toArray, List.set_cons_succ, List.set_cons_zero]
    refine do_ rfl (.bool false) (ex_pick (b := false) rfl) ?_
    simp only [Act.put, List.setIfInBounds_toArray, List.set_cons_succ, List.set_cons_zero]
    refine wl_nil ?_
    (try simp only [Exit.then, Exit.inBlock, ↓reduceIte, Nat.reduceEqDiff])
    refine hK151 _ _ ?_
    refine wp_cond_false rfl ?_
    refine wp_skip ?_
    (try simp only [Exit.then, Exit.inBlock, ↓reduceIte, Nat.reduceEqDiff])
    refine hK150 _ _ ?_
    refine wp_seq_k (fun K156 hK156 => ?_)
    by_cases hn : (writeP p1).name = (writeP p2).name
    · by_cases hk : (writeP p1).key = (writeP p2).key
      · refine region_wl ?_
        refine do_ rfl (.pointer (some ⟨n35, 0, none⟩)) (ex_field (q := ⟨n35, 0, none⟩) rfl (fa_67_0 _ _)) ?_
        simp only [Act.put, List.setIfInBounds_toArray, List.set_cons_succ, List.set_cons_zero]
        refine do_ rfl (.slice xa26 (writeP p1).name.length xc27) (ex_load rfl (load1 (nagg_27 _) (St.cell S155 (i := 4) rfl rfl))) ?_
        simp only [Act.put, List.setIfInBounds_toArray, List.set_cons_succ, List.set_cons_zero]
        refine do_ rfl (.pointer (some ⟨n56, 0, none⟩)) (ex_field (q := ⟨n56, 0, none⟩) rfl (fa_67_0 _ _)) ?_
        simp only [Act.put, List.setIfInBounds_toArray, List.set_cons_succ, List.set_cons_zero]
        refine do_ rfl (.slice xa47 (writeP p2).name.length xc48) (ex_load rfl (load1 (nagg_27 _) (St.cell S155 (i := 3) rfl rfl))) ?_
        simp only [Act.put, List.setIfInBounds_toArray, List.set_cons_succ, List.set_cons_zero]
        refine stTells (v := (.bool true)) S155 rfl (ex_fn (vs := #[(.slice xa26 (writeP p1).name.length xc27), (.slice xa47 (writeP p2).name.length xc48)]) (map2 rfl rfl) rfl (ent_46 _ _)) (tells_bool (tells_same (same_spec _ _ _ _ ((writeP p1).name) ((writeP p2).name) (S155).sat (r32.mono (((((le44.trans le88).trans le95).trans le109).trans le124).trans le139)) (r53.mono ((((le88.trans le95).trans le109).trans le124).trans le139)))) (beq_iff_eq.2 (hn))) (fun w157 S158 => ?_)
        simp only [Act.put, List.setIfInBounds_toArray, List.set_cons_succ, List.set_cons_zero]
        have S158 : St W (whole W) w157 F138 [⟨n145, [(.bool (getF (forestW (writesN l0 30)) ((writeP p2).name) ((writeP p2).key)).isSome), (.slice a142 ((getF (forestW (writesN l0 30)) ((writeP p2).name) ((writeP p2).key)).getD []).length c143)], 53⟩, ⟨n130, [(.bool (getF g ((writeP p2).name) ((writeP p2).key)).isSome), (.slice a127 ((getF g ((writeP p2).name) ((writeP p2).key)).getD []).length c128)], 53⟩, ⟨n115, [(.bool (getF g ((writeP p1).name) ((writeP p1).key)).isSome), (.slice a112 ((getF g ((writeP p1).name) ((writeP p1).key)).getD []).length c113)], 53⟩, ⟨n56, [(.slice xa47 (writeP p2).name.length xc48), (.slice xa49 (writeP p2).key.length xc50), (.bool (writeP p2).gone), (.slice xa51 (writeP p2).value.length xc52)], 67⟩, ⟨n35, [(.slice xa26 (writeP p1).name.length xc27), (.slice xa28 (writeP p1).key.length xc29), (.bool (writeP p1).gone), (.slice xa30 (writeP p1).value.length xc31)], 67⟩, ⟨n5, [(.slice a20 p2.name.length c20), (.slice a21 p2.key.length c21), (.slice a22 p2.value.length c22), (.bool p2.gone)], 70⟩, ⟨n2, [(.slice a10 p1.name.length c10), (.slice a11 p1.key.length c11), (.slice a12 p1.value.length c12), (.bool p1.gone)], 70⟩] [] := S158
        refine do_ rfl (.bool true) (ex_move _) ?_
        simp only [Act.put, List.setIfInBounds_toArray, List.set_cons_succ, List.set_cons_zero]
        refine do_ rfl (.pointer (some ⟨n35, 1, none⟩)) (ex_field (q := ⟨n35, 1, none⟩) rfl (fa_67_1 _ _)) ?_
        simp only [Act.put, List.setIfInBounds_toArray, List.set_cons_succ, List.set_cons_zero]
        refine do_ rfl (.slice xa28 (writeP p1).key.length xc29) (ex_load rfl (load1 (nagg_27 _) (St.cell S158 (i := 4) rfl rfl))) ?_
        simp only [Act.put, List.setIfInBounds_toArray, List.set_cons_succ, List.set_cons_zero]
        refine do_ rfl (.pointer (some ⟨n56, 1, none⟩)) (ex_field (q := ⟨n56, 1, none⟩) rfl (fa_67_1 _ _)) ?_
        simp only [Act.put, List.setIfInBounds_toArray, List.set_cons_succ, List.set_cons_zero]
        refine do_ rfl (.slice xa49 (writeP p2).key.length xc50) (ex_load rfl (load1 (nagg_27 _) (St.cell S158 (i := 3) rfl rfl))) ?_
        simp only [Act.put, List.setIfInBounds_toArray, List.set_cons_succ, List.set_cons_zero]
        refine stTells (v := (.bool true)) S158 rfl (ex_fn (vs := #[(.slice xa28 (writeP p1).key.length xc29), (.slice xa49 (writeP p2).key.length xc50)]) (map2 rfl rfl) rfl (ent_46 _ _)) (tells_bool (tells_same (same_spec _ _ _ _ ((writeP p1).key) ((writeP p2).key) (S158).sat (r33.mono (((((le44.trans le88).trans le95).trans le109).trans le124).trans le139)) (r54.mono ((((le88.trans le95).trans le109).trans le124).trans le139)))) (beq_iff_eq.2 (hk))) (fun w159 S160 => ?_)
        simp only [Act.put, List.setIfInBounds_toArray, List.set_cons_succ, List.set_cons_zero]
        have S160 : St W (whole W) w159 F138 [⟨n145, [(.bool (getF (forestW (writesN l0 30)) ((writeP p2).name) ((writeP p2).key)).isSome), (.slice a142 ((getF (forestW (writesN l0 30)) ((writeP p2).name) ((writeP p2).key)).getD []).length c143)], 53⟩, ⟨n130, [(.bool (getF g ((writeP p2).name) ((writeP p2).key)).isSome), (.slice a127 ((getF g ((writeP p2).name) ((writeP p2).key)).getD []).length c128)], 53⟩, ⟨n115, [(.bool (getF g ((writeP p1).name) ((writeP p1).key)).isSome), (.slice a112 ((getF g ((writeP p1).name) ((writeP p1).key)).getD []).length c113)], 53⟩, ⟨n56, [(.slice xa47 (writeP p2).name.length xc48), (.slice xa49 (writeP p2).key.length xc50), (.bool (writeP p2).gone), (.slice xa51 (writeP p2).value.length xc52)], 67⟩, ⟨n35, [(.slice xa26 (writeP p1).name.length xc27), (.slice xa28 (writeP p1).key.length xc29), (.bool (writeP p1).gone), (.slice xa30 (writeP p1).value.length xc31)], 67⟩, ⟨n5, [(.slice a20 p2.name.length c20), (.slice a21 p2.key.length c21), (.slice a22 p2.value.length c22), (.bool p2.gone)], 70⟩, ⟨n2, [(.slice a10 p1.name.length c10), (.slice a11 p1.key.length c11), (.slice a12 p1.value.length c12), (.bool p1.gone)], 70⟩] [] := S160
        refine do_ rfl (.bool true) (ex_pick (b := true) rfl) ?_
        simp only [Act.put, List.setIfInBounds_toArray, List.set_cons_succ, List.set_cons_zero]
        refine do_ rfl (.bool true) (ex_move _) ?_
        simp only [Act.put, List.setIfInBounds_toArray, List.set_cons_succ, List.set_cons_zero]
        refine doN (wanted_no rfl rfl rfl (c := true) rfl (by decide)) ?_
        simp only [Act.put, List.setIfInBounds_toArray, List.set_cons_succ, List.set_cons_zero]
        refine doN (wanted_no rfl rfl rfl (c := true) rfl (by decide)) ?_
        simp only [Act.put, List.setIfInBounds_toArray, List.set_cons_succ, List.set_cons_zero]
        refine doN (wanted_no rfl rfl rfl (c := true) rfl (by decide)) ?_
        simp only [Act.put, List.setIfInBounds_toArray, List.set_cons_succ, List.set_cons_zero]
        refine doN (wanted_no rfl rfl rfl (c := true) rfl (by decide)) ?_
        simp only [Act.put, List.setIfInBounds_toArray, List.set_cons_succ, List.set_cons_zero]
        refine doN (wanted_no rfl rfl rfl (c := true) rfl (by decide)) ?_
        simp only [Act.put, List.setIfInBounds_toArray, List.set_cons_succ, List.set_cons_zero]
        refine doN (wanted_no rfl rfl rfl (c := true) rfl (by decide)) ?_
        simp only [Act.put, List.setIfInBounds_toArray, List.set_cons_succ, List.set_cons_zero]
        refine doN (wanted_un rfl rfl rfl rfl) ?_
        simp only [Act.put, List.setIfInBounds_toArray, List.set_cons_succ, List.set_cons_zero]
        refine doN (wanted_un rfl rfl rfl rfl) ?_
        simp only [Act.put, List.setIfInBounds_toArray, List.set_cons_succ, List.set_cons_zero]
        refine doN (wanted_un rfl rfl rfl rfl) ?_
        simp only [Act.put, List.setIfInBounds_toArray, List.set_cons_succ, List.set_cons_zero]
        refine doN (wanted_un rfl rfl rfl rfl) ?_
        simp only [Act.put, List.setIfInBounds_toArray, List.set_cons_succ, List.set_cons_zero]
        refine doN (wanted_un rfl rfl rfl rfl) ?_
        simp only [Act.put, List.setIfInBounds_toArray, List.set_cons_succ, List.set_cons_zero]
        refine doN (wanted_no rfl rfl rfl (c := true) rfl (by decide)) ?_
        simp only [Act.put, List.setIfInBounds_toArray, List.set_cons_succ, List.set_cons_zero]
        refine do_ rfl (.bool true) (ex_pick (b := true) rfl) ?_
        simp only [Act.put, List.setIfInBounds_toArray, List.set_cons_succ, List.set_cons_zero]
        refine do_ rfl (.bool true) (ex_assign _) ?_
        simp only [Act.put, List.setIfInBounds_toArray, List.set_cons_succ, List.set_cons_zero]
        refine wl_nil ?_
        (try simp only [Exit.then, Exit.inBlock, ↓reduceIte, Nat.reduceEqDiff])
        refine hK156 _ _ ?_
        refine wp_ret ?_
        (try simp only [Exit.then, Exit.inBlock, ↓reduceIte, Nat.reduceEqDiff])
        refine bodyPost_ret (v := (.bool true)) ?_ rfl ?_
        · exact res_t rfl rfl
        · exact ⟨rfl, S160.gr.below⟩
      · have hy : getF g (writeP p2).name (writeP p2).key = getF (forestW (writesN l0 30)) (writeP p2).name (writeP p2).key := by rw [hget, if_neg (fun h => hk h.2)]
        refine region_wl ?_
        refine do_ rfl (.pointer (some ⟨n35, 0, none⟩)) (ex_field (q := ⟨n35, 0, none⟩) rfl (fa_67_0 _ _)) ?_
        simp only [Act.put, List.setIfInBounds_toArray, List.set_cons_succ, List.set_cons_zero]
        refine do_ rfl (.slice xa26 (writeP p1).name.length xc27) (ex_load rfl (load1 (nagg_27 _) (St.cell S155 (i := 4) rfl rfl))) ?_
        simp only [Act.put, List.setIfInBounds_toArray, List.set_cons_succ, List.set_cons_zero]
        refine do_ rfl (.pointer (some ⟨n56, 0, none⟩)) (ex_field (q := ⟨n56, 0, none⟩) rfl (fa_67_0 _ _)) ?_
        simp only [Act.put, List.setIfInBounds_toArray, List.set_cons_succ, List.set_cons_zero]
        refine do_ rfl (.slice xa47 (writeP p2).name.length xc48) (ex_load rfl (load1 (nagg_27 _) (St.cell S155 (i := 3) rfl rfl))) ?_
        simp only [Act.put, List.setIfInBounds_toArray, List.set_cons_succ, List.set_cons_zero]
        refine stTells (v := (.bool true)) S155 rfl (ex_fn (vs := #[(.slice xa26 (writeP p1).name.length xc27), (.slice xa47 (writeP p2).name.length xc48)]) (map2 rfl rfl) rfl (ent_46 _ _)) (tells_bool (tells_same (same_spec _ _ _ _ ((writeP p1).name) ((writeP p2).name) (S155).sat (r32.mono (((((le44.trans le88).trans le95).trans le109).trans le124).trans le139)) (r53.mono ((((le88.trans le95).trans le109).trans le124).trans le139)))) (beq_iff_eq.2 (hn))) (fun w161 S162 => ?_)
        simp only [Act.put, List.setIfInBounds_toArray, List.set_cons_succ, List.set_cons_zero]
        have S162 : St W (whole W) w161 F138 [⟨n145, [(.bool (getF (forestW (writesN l0 30)) ((writeP p2).name) ((writeP p2).key)).isSome), (.slice a142 ((getF (forestW (writesN l0 30)) ((writeP p2).name) ((writeP p2).key)).getD []).length c143)], 53⟩, ⟨n130, [(.bool (getF g ((writeP p2).name) ((writeP p2).key)).isSome), (.slice a127 ((getF g ((writeP p2).name) ((writeP p2).key)).getD []).length c128)], 53⟩, ⟨n115, [(.bool (getF g ((writeP p1).name) ((writeP p1).key)).isSome), (.slice a112 ((getF g ((writeP p1).name) ((writeP p1).key)).getD []).length c113)], 53⟩, ⟨n56, [(.slice xa47 (writeP p2).name.length xc48), (.slice xa49 (writeP p2).key.length xc50), (.bool (writeP p2).gone), (.slice xa51 (writeP p2).value.length xc52)], 67⟩, ⟨n35, [(.slice xa26 (writeP p1).name.length xc27), (.slice xa28 (writeP p1).key.length xc29), (.bool (writeP p1).gone), (.slice xa30 (writeP p1).value.length xc31)], 67⟩, ⟨n5, [(.slice a20 p2.name.length c20), (.slice a21 p2.key.length c21), (.slice a22 p2.value.length c22), (.bool p2.gone)], 70⟩, ⟨n2, [(.slice a10 p1.name.length c10), (.slice a11 p1.key.length c11), (.slice a12 p1.value.length c12), (.bool p1.gone)], 70⟩] [] := S162
        refine do_ rfl (.bool true) (ex_move _) ?_
        simp only [Act.put, List.setIfInBounds_toArray, List.set_cons_succ, List.set_cons_zero]
        refine do_ rfl (.pointer (some ⟨n35, 1, none⟩)) (ex_field (q := ⟨n35, 1, none⟩) rfl (fa_67_1 _ _)) ?_
        simp only [Act.put, List.setIfInBounds_toArray, List.set_cons_succ, List.set_cons_zero]
        refine do_ rfl (.slice xa28 (writeP p1).key.length xc29) (ex_load rfl (load1 (nagg_27 _) (St.cell S162 (i := 4) rfl rfl))) ?_
        simp only [Act.put, List.setIfInBounds_toArray, List.set_cons_succ, List.set_cons_zero]
        refine do_ rfl (.pointer (some ⟨n56, 1, none⟩)) (ex_field (q := ⟨n56, 1, none⟩) rfl (fa_67_1 _ _)) ?_
        simp only [Act.put, List.setIfInBounds_toArray, List.set_cons_succ, List.set_cons_zero]
        refine do_ rfl (.slice xa49 (writeP p2).key.length xc50) (ex_load rfl (load1 (nagg_27 _) (St.cell S162 (i := 3) rfl rfl))) ?_
        simp only [Act.put, List.setIfInBounds_toArray, List.set_cons_succ, List.set_cons_zero]
        refine stTells (v := (.bool false)) S162 rfl (ex_fn (vs := #[(.slice xa28 (writeP p1).key.length xc29), (.slice xa49 (writeP p2).key.length xc50)]) (map2 rfl rfl) rfl (ent_46 _ _)) (tells_bool (tells_same (same_spec _ _ _ _ ((writeP p1).key) ((writeP p2).key) (S162).sat (r33.mono (((((le44.trans le88).trans le95).trans le109).trans le124).trans le139)) (r54.mono ((((le88.trans le95).trans le109).trans le124).trans le139)))) (beq_eq_false_iff_ne.2 (hk))) (fun w163 S164 => ?_)
        simp only [Act.put, List.setIfInBounds_toArray, List.set_cons_succ, List.set_cons_zero]
        have S164 : St W (whole W) w163 F138 [⟨n145, [(.bool (getF (forestW (writesN l0 30)) ((writeP p2).name) ((writeP p2).key)).isSome), (.slice a142 ((getF (forestW (writesN l0 30)) ((writeP p2).name) ((writeP p2).key)).getD []).length c143)], 53⟩, ⟨n130, [(.bool (getF g ((writeP p2).name) ((writeP p2).key)).isSome), (.slice a127 ((getF g ((writeP p2).name) ((writeP p2).key)).getD []).length c128)], 53⟩, ⟨n115, [(.bool (getF g ((writeP p1).name) ((writeP p1).key)).isSome), (.slice a112 ((getF g ((writeP p1).name) ((writeP p1).key)).getD []).length c113)], 53⟩, ⟨n56, [(.slice xa47 (writeP p2).name.length xc48), (.slice xa49 (writeP p2).key.length xc50), (.bool (writeP p2).gone), (.slice xa51 (writeP p2).value.length xc52)], 67⟩, ⟨n35, [(.slice xa26 (writeP p1).name.length xc27), (.slice xa28 (writeP p1).key.length xc29), (.bool (writeP p1).gone), (.slice xa30 (writeP p1).value.length xc31)], 67⟩, ⟨n5, [(.slice a20 p2.name.length c20), (.slice a21 p2.key.length c21), (.slice a22 p2.value.length c22), (.bool p2.gone)], 70⟩, ⟨n2, [(.slice a10 p1.name.length c10), (.slice a11 p1.key.length c11), (.slice a12 p1.value.length c12), (.bool p1.gone)], 70⟩] [] := S164
        refine do_ rfl (.bool false) (ex_pick (b := true) rfl) ?_
        simp only [Act.put, List.setIfInBounds_toArray, List.set_cons_succ, List.set_cons_zero]
        refine do_ rfl (.bool false) (ex_move _) ?_
        simp only [Act.put, List.setIfInBounds_toArray, List.set_cons_succ, List.set_cons_zero]
        refine do_ rfl (.pointer (some ⟨n130, 0, none⟩)) (ex_field (q := ⟨n130, 0, none⟩) rfl (fa_53_0 _ _)) ?_
        simp only [Act.put, List.setIfInBounds_toArray, List.set_cons_succ, List.set_cons_zero]
        refine do_ rfl (.bool (getF g ((writeP p2).name) ((writeP p2).key)).isSome) (ex_load rfl (load1 (nagg_4 _) (St.cell S164 (i := 1) rfl rfl))) ?_
        simp only [Act.put, List.setIfInBounds_toArray, List.set_cons_succ, List.set_cons_zero]
        refine do_ rfl (.pointer (some ⟨n145, 0, none⟩)) (ex_field (q := ⟨n145, 0, none⟩) rfl (fa_53_0 _ _)) ?_
        simp only [Act.put, List.setIfInBounds_toArray, List.set_cons_succ, List.set_cons_zero]
        refine do_ rfl (.bool (getF (forestW (writesN l0 30)) ((writeP p2).name) ((writeP p2).key)).isSome) (ex_load rfl (load1 (nagg_4 _) (St.cell S164 (i := 0) rfl rfl))) ?_
        simp only [Act.put, List.setIfInBounds_toArray, List.set_cons_succ, List.set_cons_zero]
        refine do_ rfl (.bool true) (ex_eqlB Try.underlying4 rfl rfl (by rw [hy]; simp)) ?_
        simp only [Act.put, List.setIfInBounds_toArray, List.set_cons_succ, List.set_cons_zero]
        refine do_ rfl (.bool true) (ex_move _) ?_
        simp only [Act.put, List.setIfInBounds_toArray, List.set_cons_succ, List.set_cons_zero]
        refine do_ rfl (.pointer (some ⟨n130, 1, none⟩)) (ex_field (q := ⟨n130, 1, none⟩) rfl (fa_53_1 _ _)) ?_
        simp only [Act.put, List.setIfInBounds_toArray, List.set_cons_succ, List.set_cons_zero]
        refine do_ rfl (.slice a127 ((getF g ((writeP p2).name) ((writeP p2).key)).getD []).length c128) (ex_load rfl (load1 (nagg_27 _) (St.cell S164 (i := 1) rfl rfl))) ?_
        simp only [Act.put, List.setIfInBounds_toArray, List.set_cons_succ, List.set_cons_zero]
        refine do_ rfl (.pointer (some ⟨n145, 1, none⟩)) (ex_field (q := ⟨n145, 1, none⟩) rfl (fa_53_1 _ _)) ?_
        simp only [Act.put, List.setIfInBounds_toArray, List.set_cons_succ, List.set_cons_zero]
        refine do_ rfl (.slice a142 ((getF (forestW (writesN l0 30)) ((writeP p2).name) ((writeP p2).key)).getD []).length c143) (ex_load rfl (load1 (nagg_27 _) (St.cell S164 (i := 0) rfl rfl))) ?_
        simp only [Act.put, List.setIfInBounds_toArray, List.set_cons_succ, List.set_cons_zero]
        refine stTells (v := (.bool true)) S164 rfl (ex_fn (vs := #[(.slice a127 ((getF g ((writeP p2).name) ((writeP p2).key)).getD []).length c128), (.slice a142 ((getF (forestW (writesN l0 30)) ((writeP p2).name) ((writeP p2).key)).getD []).length c143)]) (map2 rfl rfl) rfl (ent_46 _ _)) (tells_bool (tells_same (same_spec _ _ _ _ ((getF g ((writeP p2).name) ((writeP p2).key)).getD []) ((getF (forestW (writesN l0 30)) ((writeP p2).name) ((writeP p2).key)).getD []) (S164).sat (r129.mono le139) r144)) (beq_iff_eq.2 (by rw [hy]))) (fun w165 S166 => ?_)
        simp only [Act.put, List.setIfInBounds_toArray, List.set_cons_succ, List.set_cons_zero]
        have S166 : St W (whole W) w165 F138 [⟨n145, [(.bool (getF (forestW (writesN l0 30)) ((writeP p2).name) ((writeP p2).key)).isSome), (.slice a142 ((getF (forestW (writesN l0 30)) ((writeP p2).name) ((writeP p2).key)).getD []).length c143)], 53⟩, ⟨n130, [(.bool (getF g ((writeP p2).name) ((writeP p2).key)).isSome), (.slice a127 ((getF g ((writeP p2).name) ((writeP p2).key)).getD []).length c128)], 53⟩, ⟨n115, [(.bool (getF g ((writeP p1).name) ((writeP p1).key)).isSome), (.slice a112 ((getF g ((writeP p1).name) ((writeP p1).key)).getD []).length c113)], 53⟩, ⟨n56, [(.slice xa47 (writeP p2).name.length xc48), (.slice xa49 (writeP p2).key.length xc50), (.bool (writeP p2).gone), (.slice xa51 (writeP p2).value.length xc52)], 67⟩, ⟨n35, [(.slice xa26 (writeP p1).name.length xc27), (.slice xa28 (writeP p1).key.length xc29), (.bool (writeP p1).gone), (.slice xa30 (writeP p1).value.length xc31)], 67⟩, ⟨n5, [(.slice a20 p2.name.length c20), (.slice a21 p2.key.length c21), (.slice a22 p2.value.length c22), (.bool p2.gone)], 70⟩, ⟨n2, [(.slice a10 p1.name.length c10), (.slice a11 p1.key.length c11), (.slice a12 p1.value.length c12), (.bool p1.gone)], 70⟩] [] := S166
        refine do_ rfl (.bool true) (ex_pick (b := true) rfl) ?_
        simp only [Act.put, List.setIfInBounds_toArray, List.set_cons_succ, List.set_cons_zero]
        refine do_ rfl (.bool true) (ex_pick (b := false) rfl) ?_
        simp only [Act.put, List.setIfInBounds_toArray, List.set_cons_succ, List.set_cons_zero]
        refine do_ rfl (.bool true) (ex_assign _) ?_
        simp only [Act.put, List.setIfInBounds_toArray, List.set_cons_succ, List.set_cons_zero]
        refine wl_nil ?_
        (try simp only [Exit.then, Exit.inBlock, ↓reduceIte, Nat.reduceEqDiff])
        refine hK156 _ _ ?_
        refine wp_ret ?_
        (try simp only [Exit.then, Exit.inBlock, ↓reduceIte, Nat.reduceEqDiff])
        refine bodyPost_ret (v := (.bool true)) ?_ rfl ?_
        · exact res_t rfl rfl
        · exact ⟨rfl, S166.gr.below⟩
    · have hy : getF g (writeP p2).name (writeP p2).key = getF (forestW (writesN l0 30)) (writeP p2).name (writeP p2).key := by rw [hget, if_neg (fun h => hn h.1)]
      refine region_wl ?_
      refine do_ rfl (.pointer (some ⟨n35, 0, none⟩)) (ex_field (q := ⟨n35, 0, none⟩) rfl (fa_67_0 _ _)) ?_
      simp only [Act.put, List.setIfInBounds_toArray, List.set_cons_succ, List.set_cons_zero]
      refine do_ rfl (.slice xa26 (writeP p1).name.length xc27) (ex_load rfl (load1 (nagg_27 _) (St.cell S155 (i := 4) rfl rfl))) ?_
      simp only [Act.put, List.setIfInBounds_toArray, List.set_cons_succ, List.set_cons_zero]
      refine do_ rfl (.pointer (some ⟨n56, 0, none⟩)) (ex_field (q := ⟨n56, 0, none⟩) rfl (fa_67_0 _ _)) ?_
      simp only [Act.put, List.setIfInBounds_toArray, List.set_cons_succ, List.set_cons_zero]
      refine do_ rfl (.slice xa47 (writeP p2).name.length xc48) (ex_load rfl (load1 (nagg_27 _) (St.cell S155 (i := 3) rfl rfl))) ?_
      simp only [Act.put, List.setIfInBounds_toArray, List.set_cons_succ, List.set_cons_zero]
      refine stTells (v := (.bool false)) S155 rfl (ex_fn (vs := #[(.slice xa26 (writeP p1).name.length xc27), (.slice xa47 (writeP p2).name.length xc48)]) (map2 rfl rfl) rfl (ent_46 _ _)) (tells_bool (tells_same (same_spec _ _ _ _ ((writeP p1).name) ((writeP p2).name) (S155).sat (r32.mono (((((le44.trans le88).trans le95).trans le109).trans le124).trans le139)) (r53.mono ((((le88.trans le95).trans le109).trans le124).trans le139)))) (beq_eq_false_iff_ne.2 (hn))) (fun w167 S168 => ?_)
      simp only [Act.put, List.setIfInBounds_toArray, List.set_cons_succ, List.set_cons_zero]
      have S168 : St W (whole W) w167 F138 [⟨n145, [(.bool (getF (forestW (writesN l0 30)) ((writeP p2).name) ((writeP p2).key)).isSome), (.slice a142 ((getF (forestW (writesN l0 30)) ((writeP p2).name) ((writeP p2).key)).getD []).length c143)], 53⟩, ⟨n130, [(.bool (getF g ((writeP p2).name) ((writeP p2).key)).isSome), (.slice a127 ((getF g ((writeP p2).name) ((writeP p2).key)).getD []).length c128)], 53⟩, ⟨n115, [(.bool (getF g ((writeP p1).name) ((writeP p1).key)).isSome), (.slice a112 ((getF g ((writeP p1).name) ((writeP p1).key)).getD []).length c113)], 53⟩, ⟨n56, [(.slice xa47 (writeP p2).name.length xc48), (.slice xa49 (writeP p2).key.length xc50), (.bool (writeP p2).gone), (.slice xa51 (writeP p2).value.length xc52)], 67⟩, ⟨n35, [(.slice xa26 (writeP p1).name.length xc27), (.slice xa28 (writeP p1).key.length xc29), (.bool (writeP p1).gone), (.slice xa30 (writeP p1).value.length xc31)], 67⟩, ⟨n5, [(.slice a20 p2.name.length c20), (.slice a21 p2.key.length c21), (.slice a22 p2.value.length c22), (.bool p2.gone)], 70⟩, ⟨n2, [(.slice a10 p1.name.length c10), (.slice a11 p1.key.length c11), (.slice a12 p1.value.length c12), (.bool p1.gone)], 70⟩] [] := S168
      refine do_ rfl (.bool false) (ex_move _) ?_
      simp only [Act.put, List.setIfInBounds_toArray, List.set_cons_succ, List.set_cons_zero]
      refine doN (wanted_no rfl rfl rfl (c := false) rfl (by decide)) ?_
      simp only [Act.put, List.setIfInBounds_toArray, List.set_cons_succ, List.set_cons_zero]
      refine doN (wanted_no rfl rfl rfl (c := false) rfl (by decide)) ?_
      simp only [Act.put, List.setIfInBounds_toArray, List.set_cons_succ, List.set_cons_zero]
      refine doN (wanted_no rfl rfl rfl (c := false) rfl (by decide)) ?_
      simp only [Act.put, List.setIfInBounds_toArray, List.set_cons_succ, List.set_cons_zero]
      refine doN (wanted_no rfl rfl rfl (c := false) rfl (by decide)) ?_
      simp only [Act.put, List.setIfInBounds_toArray, List.set_cons_succ, List.set_cons_zero]
      refine doN (wanted_no rfl rfl rfl (c := false) rfl (by decide)) ?_
      simp only [Act.put, List.setIfInBounds_toArray, List.set_cons_succ, List.set_cons_zero]
      refine do_ rfl (.bool false) (ex_pick (b := false) rfl) ?_
      simp only [Act.put, List.setIfInBounds_toArray, List.set_cons_succ, List.set_cons_zero]
      refine do_ rfl (.bool false) (ex_move _) ?_
      simp only [Act.put, List.setIfInBounds_toArray, List.set_cons_succ, List.set_cons_zero]
      refine do_ rfl (.pointer (some ⟨n130, 0, none⟩)) (ex_field (q := ⟨n130, 0, none⟩) rfl (fa_53_0 _ _)) ?_
      simp only [Act.put, List.setIfInBounds_toArray, List.set_cons_succ, List.set_cons_zero]
      refine do_ rfl (.bool (getF g ((writeP p2).name) ((writeP p2).key)).isSome) (ex_load rfl (load1 (nagg_4 _) (St.cell S168 (i := 1) rfl rfl))) ?_
      simp only [Act.put, List.setIfInBounds_toArray, List.set_cons_succ, List.set_cons_zero]
      refine do_ rfl (.pointer (some ⟨n145, 0, none⟩)) (ex_field (q := ⟨n145, 0, none⟩) rfl (fa_53_0 _ _)) ?_
      simp only [Act.put, List.setIfInBounds_toArray, List.set_cons_succ, List.set_cons_zero]
      refine do_ rfl (.bool (getF (forestW (writesN l0 30)) ((writeP p2).name) ((writeP p2).key)).isSome) (ex_load rfl (load1 (nagg_4 _) (St.cell S168 (i := 0) rfl rfl))) ?_
      simp only [Act.put, List.setIfInBounds_toArray, List.set_cons_succ, List.set_cons_zero]
      refine do_ rfl (.bool true) (ex_eqlB Try.underlying4 rfl rfl (by rw [hy]; simp)) ?_
      simp only [Act.put, List.setIfInBounds_toArray, List.set_cons_succ, List.set_cons_zero]
      refine do_ rfl (.bool true) (ex_move _) ?_
      simp only [Act.put, List.setIfInBounds_toArray, List.set_cons_succ, List.set_cons_zero]
      refine do_ rfl (.pointer (some ⟨n130, 1, none⟩)) (ex_field (q := ⟨n130, 1, none⟩) rfl (fa_53_1 _ _)) ?_
      simp only [Act.put, List.setIfInBounds_toArray, List.set_cons_succ, List.set_cons_zero]
      refine do_ rfl (.slice a127 ((getF g ((writeP p2).name) ((writeP p2).key)).getD []).length c128) (ex_load rfl (load1 (nagg_27 _) (St.cell S168 (i := 1) rfl rfl))) ?_
      simp only [Act.put, List.setIfInBounds_toArray, List.set_cons_succ, List.set_cons_zero]
      refine do_ rfl (.pointer (some ⟨n145, 1, none⟩)) (ex_field (q := ⟨n145, 1, none⟩) rfl (fa_53_1 _ _)) ?_
      simp only [Act.put, List.setIfInBounds_toArray, List.set_cons_succ, List.set_cons_zero]
      refine do_ rfl (.slice a142 ((getF (forestW (writesN l0 30)) ((writeP p2).name) ((writeP p2).key)).getD []).length c143) (ex_load rfl (load1 (nagg_27 _) (St.cell S168 (i := 0) rfl rfl))) ?_
      simp only [Act.put, List.setIfInBounds_toArray, List.set_cons_succ, List.set_cons_zero]
      refine stTells (v := (.bool true)) S168 rfl (ex_fn (vs := #[(.slice a127 ((getF g ((writeP p2).name) ((writeP p2).key)).getD []).length c128), (.slice a142 ((getF (forestW (writesN l0 30)) ((writeP p2).name) ((writeP p2).key)).getD []).length c143)]) (map2 rfl rfl) rfl (ent_46 _ _)) (tells_bool (tells_same (same_spec _ _ _ _ ((getF g ((writeP p2).name) ((writeP p2).key)).getD []) ((getF (forestW (writesN l0 30)) ((writeP p2).name) ((writeP p2).key)).getD []) (S168).sat (r129.mono le139) r144)) (beq_iff_eq.2 (by rw [hy]))) (fun w169 S170 => ?_)
      simp only [Act.put, List.setIfInBounds_toArray, List.set_cons_succ, List.set_cons_zero]
      have S170 : St W (whole W) w169 F138 [⟨n145, [(.bool (getF (forestW (writesN l0 30)) ((writeP p2).name) ((writeP p2).key)).isSome), (.slice a142 ((getF (forestW (writesN l0 30)) ((writeP p2).name) ((writeP p2).key)).getD []).length c143)], 53⟩, ⟨n130, [(.bool (getF g ((writeP p2).name) ((writeP p2).key)).isSome), (.slice a127 ((getF g ((writeP p2).name) ((writeP p2).key)).getD []).length c128)], 53⟩, ⟨n115, [(.bool (getF g ((writeP p1).name) ((writeP p1).key)).isSome), (.slice a112 ((getF g ((writeP p1).name) ((writeP p1).key)).getD []).length c113)], 53⟩, ⟨n56, [(.slice xa47 (writeP p2).name.length xc48), (.slice xa49 (writeP p2).key.length xc50), (.bool (writeP p2).gone), (.slice xa51 (writeP p2).value.length xc52)], 67⟩, ⟨n35, [(.slice xa26 (writeP p1).name.length xc27), (.slice xa28 (writeP p1).key.length xc29), (.bool (writeP p1).gone), (.slice xa30 (writeP p1).value.length xc31)], 67⟩, ⟨n5, [(.slice a20 p2.name.length c20), (.slice a21 p2.key.length c21), (.slice a22 p2.value.length c22), (.bool p2.gone)], 70⟩, ⟨n2, [(.slice a10 p1.name.length c10), (.slice a11 p1.key.length c11), (.slice a12 p1.value.length c12), (.bool p1.gone)], 70⟩] [] := S170
      refine do_ rfl (.bool true) (ex_pick (b := true) rfl) ?_
      simp only [Act.put, List.setIfInBounds_toArray, List.set_cons_succ, List.set_cons_zero]
      refine do_ rfl (.bool true) (ex_pick (b := false) rfl) ?_
      simp only [Act.put, List.setIfInBounds_toArray, List.set_cons_succ, List.set_cons_zero]
      refine do_ rfl (.bool true) (ex_assign _) ?_
      simp only [Act.put, List.setIfInBounds_toArray, List.set_cons_succ, List.set_cons_zero]
      refine wl_nil ?_
      (try simp only [Exit.then, Exit.inBlock, ↓reduceIte, Nat.reduceEqDiff])
      refine hK156 _ _ ?_
      refine wp_ret ?_
      (try simp only [Exit.then, Exit.inBlock, ↓reduceIte, Nat.reduceEqDiff])
      refine bodyPost_ret (v := (.bool true)) ?_ rfl ?_
      · exact res_t rfl rfl
      · exact ⟨rfl, S170.gr.below⟩
end Go.Proofs.Yteefnnnbbmbmcaa
