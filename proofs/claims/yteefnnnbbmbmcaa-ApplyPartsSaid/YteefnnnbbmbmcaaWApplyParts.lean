/- Walk of ApplyParts -/
import Derived.Test.YteefnnnbbmbmcaaK6
namespace Go.Proofs.Yteefnnnbbmbmcaa
open Go.RowKit
set_option maxRecDepth 100000
set_option linter.unusedVariables false
set_option linter.unusedSimpArgs false
theorem applyZero_spec (F : Fz) (w : World) (v u : Value) (l : Forest) (hs : Sat w F) (hv : Tns F v l) (hw : Wrs F u [(⟨[], [], false, []⟩ : Wr)]) (ok1 : ForestOk 60 l) :
    Calls Try.prog 59 #[v, u] w (Gives w F (TnsE [] 1)) := by
  have := apply_spec F w v u l _ hs hv hw ok1 (fun r hr => by rw [List.mem_singleton.1 hr]; simp)
  have he : applyE l [(⟨[], [], false, []⟩ : Wr)] = (1, []) := by
    unfold applyE
    rw [if_neg (by simp), wr_bad (by decide)]
    rfl
  rwa [he] at this
set_option maxHeartbeats 8000000 in
theorem applyParts_walk (W : World) (v0 : Value) (l0 : List Pl) (z0 : Pls (whole W) v0 l0) (v1 : Value) (l1 : List Pl) (z1 : Pls (whole W) v1 l1) (v2 : Value) (l2 : List Pl) (z2 : Pls (whole W) v2 l2) :
    Calls Try.prog 17 #[v0, v1, v2] W (Tells W (.bool true)) := by
  obtain ⟨a0, c0, rfl, q0, q0'⟩ := Sl.shape z0
  obtain ⟨a1, c1, rfl, q1, q1'⟩ := Sl.shape z1
  obtain ⟨a2, c2, rfl, q2, q2'⟩ := Sl.shape z2
  have okf : ForestOk 60 (forestW (writesN l0 20)) := (forestW_ok (writesN_ok l0 20)).mono (by have := writesN_len l0 20; omega)
  obtain ⟨i67, hi67, hz67, hs67, hb67⟩ := info_parts info_67
  have S := St.start (Sat.whole W)
  go_enter Try.func17, Try.ntmps17
  refine wp_seq_k (fun K1 hK1 => ?_)
  refine region_wl ?_
  refine do_ rfl (.bool false) (ex_assign _) ?_
  simp only [Act.put, List.setIfInBounds_toArray, List.set_cons_succ, List.set_cons_zero]
  refine wl_nil ?_
  (try simp only [Exit.then, Exit.inBlock, ↓reduceIte, Nat.reduceEqDiff])
  refine hK1 _ _ ?_
  refine wp_seq_k (fun K2 hK2 => ?_)
  refine region_wl ?_
  refine do_ rfl (.slice a0 l0.length c0) (ex_move _) ?_
  simp only [Act.put, List.setIfInBounds_toArray, List.set_cons_succ, List.set_cons_zero]
  refine stGives S rfl (ex_fn (vs := #[(.slice a0 l0.length c0), (.int .i64 20)]) (map2 rfl rfl) rfl (ent_57 _ _)) (forest_spec _ _ _ l0 20 (S).sat z0 (by omega)) ?_
  intro v8 w3 F5 S4 le6 R7
  obtain ⟨a9, c10, rfl, h11, h12⟩ := Sl.shape R7
  unfold maxLen at h12
  have R7 : Tns _ (.slice a9 (forestW (writesN l0 20)).length c10) (forestW (writesN l0 20)) := R7
  simp only [Act.put, List.setIfInBounds_toArray, List.set_cons_succ, List.set_cons_zero]
  have S4 : St W (whole W) w3 F5 [] [] := S4
  refine do_ rfl (.slice a9 (forestW (writesN l0 20)).length c10) (ex_assign _) ?_
  simp only [Act.put, List.setIfInBounds_toArray, List.set_cons_succ, List.set_cons_zero]
  refine wl_nil ?_
  (try simp only [Exit.then, Exit.inBlock, ↓reduceIte, Nat.reduceEqDiff])
  refine hK2 _ _ ?_
  refine wp_seq_k (fun K13 hK13 => ?_)
  refine region_wl ?_
  refine do_ rfl (.slice a1 l1.length c1) (ex_move _) ?_
  simp only [Act.put, List.setIfInBounds_toArray, List.set_cons_succ, List.set_cons_zero]
  refine stGives S4 rfl (ex_fn (vs := #[(.slice a1 l1.length c1), (.int .i64 5)]) (map2 rfl rfl) rfl (ent_58 _ _)) (writes_spec _ _ _ l1 5 (S4).sat (z1.mono le6) (by omega)) ?_
  intro v19 w14 F16 S15 le17 R18
  obtain ⟨a20, c21, rfl, h22, h23⟩ := Sl.shape R18
  unfold maxLen at h23
  simp only [Act.put, List.setIfInBounds_toArray, List.set_cons_succ, List.set_cons_zero]
  have S15 : St W (whole W) w14 F16 [] [] := S15
  refine do_ rfl (.slice a20 (writesN l1 5).length c21) (ex_assign _) ?_
  simp only [Act.put, List.setIfInBounds_toArray, List.set_cons_succ, List.set_cons_zero]
  refine wl_nil ?_
  (try simp only [Exit.then, Exit.inBlock, ↓reduceIte, Nat.reduceEqDiff])
  refine hK13 _ _ ?_
  refine wp_seq_k (fun K24 hK24 => ?_)
  refine region_wl ?_
  refine do_ rfl (.slice a2 l2.length c2) (ex_move _) ?_
  simp only [Act.put, List.setIfInBounds_toArray, List.set_cons_succ, List.set_cons_zero]
  refine stGives S15 rfl (ex_fn (vs := #[(.slice a2 l2.length c2), (.int .i64 5)]) (map2 rfl rfl) rfl (ent_58 _ _)) (writes_spec _ _ _ l2 5 (S15).sat (z2.mono (le6.trans le17)) (by omega)) ?_
  intro v30 w25 F27 S26 le28 R29
  obtain ⟨a31, c32, rfl, h33, h34⟩ := Sl.shape R29
  unfold maxLen at h34
  simp only [Act.put, List.setIfInBounds_toArray, List.set_cons_succ, List.set_cons_zero]
  have S26 : St W (whole W) w25 F27 [] [] := S26
  refine do_ rfl (.slice a31 (writesN l2 5).length c32) (ex_assign _) ?_
  simp only [Act.put, List.setIfInBounds_toArray, List.set_cons_succ, List.set_cons_zero]
  refine wl_nil ?_
  (try simp only [Exit.then, Exit.inBlock, ↓reduceIte, Nat.reduceEqDiff])
  refine hK24 _ _ ?_
  refine wp_seq_k (fun K35 hK35 => ?_)
  have S36 := St.addNil S26 4 WrC WrC.mono 67 W.heap.size
  have hlx := writesN_len l1 5
  have hly := writesN_len l2 5
  have hwx := writesN_ok l1 5
  have hwy := writesN_ok l2 5
  have hwa : ∀ w ∈ (([] ++ (writesN l1 5)) ++ (writesN l2 5)), WrOk w := by intro w hw; rw [List.nil_append] at hw; rcases List.mem_append.1 hw with h | h; exact hwx w h; exact hwy w h
  have hla : (([] ++ (writesN l1 5)) ++ (writesN l2 5)).length ≤ 10 := by rw [List.nil_append, List.length_append]; omega
  have ha := applyE_ok (l := (forestW (writesN l0 20))) hwa hla
  have hX := applyE_ok (l := (forestW (writesN l0 20))) hwx (by omega)
  rw [List.nil_append, applyF_append] at ha
  rw [← List.nil_append (writesN l1 5)] at ha
  cases hex : applyF (forestW (writesN l0 20)) (writesN l1 5) with
  | none =>
    simp only [List.nil_append] at ha hex
    rw [hex] at ha hX
    replace ha : applyE (forestW (writesN l0 20)) (([] ++ (writesN l1 5)) ++ (writesN l2 5)) = (11, []) := by rw [List.nil_append]; exact ha
    refine region_wl ?_
    refine do_ rfl (.slice a9 (forestW (writesN l0 20)).length c10) (ex_move _) ?_
    simp only [Act.put, List.setIfInBounds_toArray, List.set_cons_succ, List.set_cons_zero]
    refine do_ rfl (.slice a20 (writesN l1 5).length c21) (ex_move _) ?_
    simp only [Act.put, List.setIfInBounds_toArray, List.set_cons_succ, List.set_cons_zero]
    refine stAppendS (r := 0) (u := (.slice a20 (writesN l1 5).length c21)) S36 rfl i67 (.agg #[(.slice none 0 0), (.slice none 0 0), (.bool false), (.slice none 0 0)]) 80 Try.underlying75 hi67 hz67 hs67 hb67 rfl (by decide) rfl rfl rfl (Sl.toW (R18.mono le28) (S36).sat) (fun F cs p h => WrC.oneCell h) (Nat.le_refl _) S36.gr.below.size (by unfold maxLen; simp only [List.length_append, List.length_nil]; have := writesN_len l1 5; have := writesN_len l2 5; omega) (by simp only [List.length_append, List.length_nil]; have := writesN_len l1 5; have := writesN_len l2 5; omega) ?_
    intro v37 w38 S39 hn40
    simp only [Act.put, List.setIfInBounds_toArray, List.set_cons_succ, List.set_cons_zero]
    have S39 : St W (whole W) w38 F27 [] [ownP 4 WrC WrC.mono 67 W.heap.size v37 ([] ++ (writesN l1 5))] := S39
    refine do_ rfl (.slice a31 (writesN l2 5).length c32) (ex_move _) ?_
    simp only [Act.put, List.setIfInBounds_toArray, List.set_cons_succ, List.set_cons_zero]
    refine stAppendS (r := 0) (u := (.slice a31 (writesN l2 5).length c32)) S39 rfl i67 (.agg #[(.slice none 0 0), (.slice none 0 0), (.bool false), (.slice none 0 0)]) 80 Try.underlying75 hi67 hz67 hs67 hb67 rfl (by decide) rfl rfl rfl (Sl.toW R29 (S39).sat) (fun F cs p h => WrC.oneCell h) (Nat.le_refl _) S39.gr.below.size (by unfold maxLen; simp only [List.length_append, List.length_nil]; have := writesN_len l1 5; have := writesN_len l2 5; omega) (by simp only [List.length_append, List.length_nil]; have := writesN_len l1 5; have := writesN_len l2 5; omega) ?_
    intro v41 w42 S43 hn44
    simp only [Act.put, List.setIfInBounds_toArray, List.set_cons_succ, List.set_cons_zero]
    have S43 : St W (whole W) w42 F27 [] [ownP 4 WrC WrC.mono 67 W.heap.size v41 (([] ++ (writesN l1 5)) ++ (writesN l2 5))] := S43
    obtain ⟨F45, S46, le47, hv48⟩ := St.freeze S43 (i := 0) rfl (Nat.le_refl _)
    have S46 : St W (whole W) w42 F45 [] [] := S46
    have hv48 : Wrs _ v41 (([] ++ (writesN l1 5)) ++ (writesN l2 5)) := hv48
    obtain ⟨a49, c50, rfl, h51, h52⟩ := Sl.shape hv48
    unfold maxLen at h52
    refine stGives S46 rfl (ex_fn (vs := #[(.slice a9 (forestW (writesN l0 20)).length c10), (.slice a49 (([] ++ (writesN l1 5)) ++ (writesN l2 5)).length c50)]) (map2 rfl rfl) rfl (ent_59 _ _)) (apply_is (S46).sat (R7.mono ((le17.trans le28).trans le47)) hv48 okf hwa ha) ?_
    intro v58 w53 F55 S54 le56 R57
    obtain ⟨_, rfl, r61⟩ := R57
    obtain ⟨a59, c60, rfl, h62, h63⟩ := Sl.shape r61
    unfold maxLen at h63
    simp only [Act.put, List.setIfInBounds_toArray, List.set_cons_succ, List.set_cons_zero]
    have S54 : St W (whole W) w53 F55 [] [] := S54
    refine do_ rfl (.tuple #[(.slice a59 ([] : Forest).length c60), (.int .i64 11)]) (ex_move _) ?_
    simp only [Act.put, List.setIfInBounds_toArray, List.set_cons_succ, List.set_cons_zero]
    refine do_ rfl (.slice a59 ([] : Forest).length c60) (ex_extract rfl rfl) ?_
    simp only [Act.put, List.setIfInBounds_toArray, List.set_cons_succ, List.set_cons_zero]
    refine do_ rfl (.int .i64 11) (ex_extract rfl rfl) ?_
    simp only [Act.put, List.setIfInBounds_toArray, List.set_cons_succ, List.set_cons_zero]
    refine do_ rfl (.slice a59 ([] : Forest).length c60) (ex_assign _) ?_
    simp only [Act.put, List.setIfInBounds_toArray, List.set_cons_succ, List.set_cons_zero]
    refine do_ rfl (.int .i64 11) (ex_assign _) ?_
    simp only [Act.put, List.setIfInBounds_toArray, List.set_cons_succ, List.set_cons_zero]
    refine wl_nil ?_
    (try simp only [Exit.then, Exit.inBlock, ↓reduceIte, Nat.reduceEqDiff])
    refine hK35 _ _ ?_
    refine wp_seq_k (fun K64 hK64 => ?_)
    refine region_wl ?_
    refine do_ rfl (.slice a9 (forestW (writesN l0 20)).length c10) (ex_move _) ?_
    simp only [Act.put, List.setIfInBounds_toArray, List.set_cons_succ, List.set_cons_zero]
    refine do_ rfl (.slice a20 (writesN l1 5).length c21) (ex_move _) ?_
    simp only [Act.put, List.setIfInBounds_toArray, List.set_cons_succ, List.set_cons_zero]
    refine stGives S54 rfl (ex_fn (vs := #[(.slice a9 (forestW (writesN l0 20)).length c10), (.slice a20 (writesN l1 5).length c21)]) (map2 rfl rfl) rfl (ent_59 _ _)) (apply_is (S54).sat (R7.mono (((le17.trans le28).trans le47).trans le56)) (R18.mono ((le28.trans le47).trans le56)) okf hwx hX) ?_
    intro v70 w65 F67 S66 le68 R69
    obtain ⟨_, rfl, r73⟩ := R69
    obtain ⟨a71, c72, rfl, h74, h75⟩ := Sl.shape r73
    unfold maxLen at h75
    simp only [Act.put, List.setIfInBounds_toArray, List.set_cons_succ, List.set_cons_zero]
    have S66 : St W (whole W) w65 F67 [] [] := S66
    refine do_ rfl (.tuple #[(.slice a71 ([] : Forest).length c72), (.int .i64 11)]) (ex_move _) ?_
    simp only [Act.put, List.setIfInBounds_toArray, List.set_cons_succ, List.set_cons_zero]
    refine do_ rfl (.slice a71 ([] : Forest).length c72) (ex_extract rfl rfl) ?_
    simp only [Act.put, List.setIfInBounds_toArray, List.set_cons_succ, List.set_cons_zero]
    refine do_ rfl (.int .i64 11) (ex_extract rfl rfl) ?_
    simp only [Act.put, List.setIfInBounds_toArray, List.set_cons_succ, List.set_cons_zero]
    refine do_ rfl (.slice a71 ([] : Forest).length c72) (ex_assign _) ?_
    simp only [Act.put, List.setIfInBounds_toArray, List.set_cons_succ, List.set_cons_zero]
    refine do_ rfl (.int .i64 11) (ex_assign _) ?_
    simp only [Act.put, List.setIfInBounds_toArray, List.set_cons_succ, List.set_cons_zero]
    refine wl_nil ?_
    (try simp only [Exit.then, Exit.inBlock, ↓reduceIte, Nat.reduceEqDiff])
    refine hK64 _ _ ?_
    refine wp_seq_k (fun K76 hK76 => ?_)
    refine wp_seq_k (fun K77 hK77 => ?_)
    refine region_wl ?_
    refine do_ rfl (.int .i64 11) (ex_move _) ?_
    simp only [Act.put, List.setIfInBounds_toArray, List.set_cons_succ, List.set_cons_zero]
    refine do_ rfl (.bool true) (ex_neq (b := true) rfl rfl (by decide)) ?_
    simp only [Act.put, List.setIfInBounds_toArray, List.set_cons_succ, List.set_cons_zero]
    refine wl_nil ?_
    (try simp only [Exit.then, Exit.inBlock, ↓reduceIte, Nat.reduceEqDiff])
    refine hK77 _ _ ?_
    refine wp_cond_true rfl ?_
    refine wp_seq_k (fun K78 hK78 => ?_)
    refine region_wl ?_
    refine do_ rfl (.int .i64 11) (ex_move _) ?_
    simp only [Act.put, List.setIfInBounds_toArray, List.set_cons_succ, List.set_cons_zero]
    refine do_ rfl (.int .i64 11) (ex_move _) ?_
    simp only [Act.put, List.setIfInBounds_toArray, List.set_cons_succ, List.set_cons_zero]
    refine do_ rfl (.bool true) (ex_eql (b := true) rfl rfl (by decide)) ?_
    simp only [Act.put, List.setIfInBounds_toArray, List.set_cons_succ, List.set_cons_zero]
    refine do_ rfl (.bool true) (ex_move _) ?_
    simp only [Act.put, List.setIfInBounds_toArray, List.set_cons_succ, List.set_cons_zero]
    refine do_ rfl (.int .i64 11) (ex_move _) ?_
    simp only [Act.put, List.setIfInBounds_toArray, List.set_cons_succ, List.set_cons_zero]
    refine do_ rfl (.bool true) (ex_eql (b := true) rfl rfl (by decide)) ?_
    simp only [Act.put, List.setIfInBounds_toArray, List.set_cons_succ, List.set_cons_zero]
    refine do_ rfl (.bool true) (ex_pick (b := true) rfl) ?_
    simp only [Act.put, List.setIfInBounds_toArray, List.set_cons_succ, List.set_cons_zero]
    refine do_ rfl (.bool true) (ex_assign _) ?_
    simp only [Act.put, List.setIfInBounds_toArray, List.set_cons_succ, List.set_cons_zero]
    refine wl_nil ?_
    (try simp only [Exit.then, Exit.inBlock, ↓reduceIte, Nat.reduceEqDiff])
    refine hK78 _ _ ?_
    refine wp_ret ?_
    (try simp only [Exit.then, Exit.inBlock, ↓reduceIte, Nat.reduceEqDiff])
    refine bodyPost_ret (v := (.bool true)) ?_ rfl ?_
    · exact res_t rfl rfl
    · exact ⟨rfl, S66.gr.below⟩
  | some gh =>
    simp only [List.nil_append] at ha hex
    rw [hex] at ha hX
    have okh := applyF_ok60 okf hwx hex
    have hY := applyE_ok (l := gh) hwy (by omega)
    simp only at ha
    cases hey : applyF gh (writesN l2 5) with
    | none =>
      rw [hey] at ha hY
      replace ha : applyE (forestW (writesN l0 20)) (([] ++ (writesN l1 5)) ++ (writesN l2 5)) = (11, []) := by rw [List.nil_append]; exact ha
      refine region_wl ?_
      refine do_ rfl (.slice a9 (forestW (writesN l0 20)).length c10) (ex_move _) ?_
      simp only [Act.put, List.setIfInBounds_toArray, List.set_cons_succ, List.set_cons_zero]
      refine do_ rfl (.slice a20 (writesN l1 5).length c21) (ex_move _) ?_
      simp only [Act.put, List.setIfInBounds_toArray, List.set_cons_succ, List.set_cons_zero]
      refine stAppendS (r := 0) (u := (.slice a20 (writesN l1 5).length c21)) S36 rfl i67 (.agg #[(.slice none 0 0), (.slice none 0 0), (.bool false), (.slice none 0 0)]) 80 Try.underlying75 hi67 hz67 hs67 hb67 rfl (by decide) rfl rfl rfl (Sl.toW (R18.mono le28) (S36).sat) (fun F cs p h => WrC.oneCell h) (Nat.le_refl _) S36.gr.below.size (by unfold maxLen; simp only [List.length_append, List.length_nil]; have := writesN_len l1 5; have := writesN_len l2 5; omega) (by simp only [List.length_append, List.length_nil]; have := writesN_len l1 5; have := writesN_len l2 5; omega) ?_
      intro v79 w80 S81 hn82
      simp only [Act.put, List.setIfInBounds_toArray, List.set_cons_succ, List.set_cons_zero]
      have S81 : St W (whole W) w80 F27 [] [ownP 4 WrC WrC.mono 67 W.heap.size v79 ([] ++ (writesN l1 5))] := S81
      refine do_ rfl (.slice a31 (writesN l2 5).length c32) (ex_move _) ?_
      simp only [Act.put, List.setIfInBounds_toArray, List.set_cons_succ, List.set_cons_zero]
      refine stAppendS (r := 0) (u := (.slice a31 (writesN l2 5).length c32)) S81 rfl i67 (.agg #[(.slice none 0 0), (.slice none 0 0), (.bool false), (.slice none 0 0)]) 80 Try.underlying75 hi67 hz67 hs67 hb67 rfl (by decide) rfl rfl rfl (Sl.toW R29 (S81).sat) (fun F cs p h => WrC.oneCell h) (Nat.le_refl _) S81.gr.below.size (by unfold maxLen; simp only [List.length_append, List.length_nil]; have := writesN_len l1 5; have := writesN_len l2 5; omega) (by simp only [List.length_append, List.length_nil]; have := writesN_len l1 5; have := writesN_len l2 5; omega) ?_
      intro v83 w84 S85 hn86
      simp only [Act.put, List.setIfInBounds_toArray, List.set_cons_succ, List.set_cons_zero]
      have S85 : St W (whole W) w84 F27 [] [ownP 4 WrC WrC.mono 67 W.heap.size v83 (([] ++ (writesN l1 5)) ++ (writesN l2 5))] := S85
      obtain ⟨F87, S88, le89, hv90⟩ := St.freeze S85 (i := 0) rfl (Nat.le_refl _)
      have S88 : St W (whole W) w84 F87 [] [] := S88
      have hv90 : Wrs _ v83 (([] ++ (writesN l1 5)) ++ (writesN l2 5)) := hv90
      obtain ⟨a91, c92, rfl, h93, h94⟩ := Sl.shape hv90
      unfold maxLen at h94
      refine stGives S88 rfl (ex_fn (vs := #[(.slice a9 (forestW (writesN l0 20)).length c10), (.slice a91 (([] ++ (writesN l1 5)) ++ (writesN l2 5)).length c92)]) (map2 rfl rfl) rfl (ent_59 _ _)) (apply_is (S88).sat (R7.mono ((le17.trans le28).trans le89)) hv90 okf hwa ha) ?_
      intro v100 w95 F97 S96 le98 R99
      obtain ⟨_, rfl, r103⟩ := R99
      obtain ⟨a101, c102, rfl, h104, h105⟩ := Sl.shape r103
      unfold maxLen at h105
      simp only [Act.put, List.setIfInBounds_toArray, List.set_cons_succ, List.set_cons_zero]
      have S96 : St W (whole W) w95 F97 [] [] := S96
      refine do_ rfl (.tuple #[(.slice a101 ([] : Forest).length c102), (.int .i64 11)]) (ex_move _) ?_
      simp only [Act.put, List.setIfInBounds_toArray, List.set_cons_succ, List.set_cons_zero]
      refine do_ rfl (.slice a101 ([] : Forest).length c102) (ex_extract rfl rfl) ?_
      simp only [Act.put, List.setIfInBounds_toArray, List.set_cons_succ, List.set_cons_zero]
      refine do_ rfl (.int .i64 11) (ex_extract rfl rfl) ?_
      simp only [Act.put, List.setIfInBounds_toArray, List.set_cons_succ, List.set_cons_zero]
      refine do_ rfl (.slice a101 ([] : Forest).length c102) (ex_assign _) ?_
      simp only [Act.put, List.setIfInBounds_toArray, List.set_cons_succ, List.set_cons_zero]
      refine do_ rfl (.int .i64 11) (ex_assign _) ?_
      simp only [Act.put, List.setIfInBounds_toArray, List.set_cons_succ, List.set_cons_zero]
      refine wl_nil ?_
      (try simp only [Exit.then, Exit.inBlock, ↓reduceIte, Nat.reduceEqDiff])
      refine hK35 _ _ ?_
      refine wp_seq_k (fun K106 hK106 => ?_)
      refine region_wl ?_
      refine do_ rfl (.slice a9 (forestW (writesN l0 20)).length c10) (ex_move _) ?_
      simp only [Act.put, List.setIfInBounds_toArray, List.set_cons_succ, List.set_cons_zero]
      refine do_ rfl (.slice a20 (writesN l1 5).length c21) (ex_move _) ?_
      simp only [Act.put, List.setIfInBounds_toArray, List.set_cons_succ, List.set_cons_zero]
      refine stGives S96 rfl (ex_fn (vs := #[(.slice a9 (forestW (writesN l0 20)).length c10), (.slice a20 (writesN l1 5).length c21)]) (map2 rfl rfl) rfl (ent_59 _ _)) (apply_is (S96).sat (R7.mono (((le17.trans le28).trans le89).trans le98)) (R18.mono ((le28.trans le89).trans le98)) okf hwx hX) ?_
      intro v112 w107 F109 S108 le110 R111
      obtain ⟨_, rfl, r115⟩ := R111
      obtain ⟨a113, c114, rfl, h116, h117⟩ := Sl.shape r115
      unfold maxLen at h117
      have h116 : gh.length ≤ c114 := h116
      have r115 : Tns _ (.slice a113 gh.length c114) gh := r115
      simp only [Act.put, List.setIfInBounds_toArray, List.set_cons_succ, List.set_cons_zero]
      have S108 : St W (whole W) w107 F109 [] [] := S108
      refine do_ rfl (.tuple #[(.slice a113 gh.length c114), (.int .i64 0)]) (ex_move _) ?_
      simp only [Act.put, List.setIfInBounds_toArray, List.set_cons_succ, List.set_cons_zero]
      refine do_ rfl (.slice a113 gh.length c114) (ex_extract rfl rfl) ?_
      simp only [Act.put, List.setIfInBounds_toArray, List.set_cons_succ, List.set_cons_zero]
      refine do_ rfl (.int .i64 0) (ex_extract rfl rfl) ?_
      simp only [Act.put, List.setIfInBounds_toArray, List.set_cons_succ, List.set_cons_zero]
      refine do_ rfl (.slice a113 gh.length c114) (ex_assign _) ?_
      simp only [Act.put, List.setIfInBounds_toArray, List.set_cons_succ, List.set_cons_zero]
      refine do_ rfl (.int .i64 0) (ex_assign _) ?_
      simp only [Act.put, List.setIfInBounds_toArray, List.set_cons_succ, List.set_cons_zero]
      refine wl_nil ?_
      (try simp only [Exit.then, Exit.inBlock, ↓reduceIte, Nat.reduceEqDiff])
      refine hK106 _ _ ?_
      refine wp_seq_k (fun K118 hK118 => ?_)
      refine wp_seq_k (fun K119 hK119 => ?_)
      refine region_wl ?_
      refine do_ rfl (.int .i64 0) (ex_move _) ?_
      simp only [Act.put, List.setIfInBounds_toArray, List.set_cons_succ, List.set_cons_zero]
      refine do_ rfl (.bool false) (ex_neq (b := false) rfl rfl (by decide)) ?_
      simp only [Act.put, List.setIfInBounds_toArray, List.set_cons_succ, List.set_cons_zero]
      refine wl_nil ?_
      (try simp only [Exit.then, Exit.inBlock, ↓reduceIte, Nat.reduceEqDiff])
      refine hK119 _ _ ?_
      refine wp_cond_false rfl ?_
      refine wp_skip ?_
      (try simp only [Exit.then, Exit.inBlock, ↓reduceIte, Nat.reduceEqDiff])
      refine hK118 _ _ ?_
      refine wp_seq_k (fun K120 hK120 => ?_)
      refine region_wl ?_
      refine do_ rfl (.slice a113 gh.length c114) (ex_move _) ?_
      simp only [Act.put, List.setIfInBounds_toArray, List.set_cons_succ, List.set_cons_zero]
      refine do_ rfl (.slice a31 (writesN l2 5).length c32) (ex_move _) ?_
      simp only [Act.put, List.setIfInBounds_toArray, List.set_cons_succ, List.set_cons_zero]
      refine stGives S108 rfl (ex_fn (vs := #[(.slice a113 gh.length c114), (.slice a31 (writesN l2 5).length c32)]) (map2 rfl rfl) rfl (ent_59 _ _)) (apply_is (S108).sat r115 (R29.mono ((le89.trans le98).trans le110)) okh hwy hY) ?_
      intro v126 w121 F123 S122 le124 R125
      obtain ⟨_, rfl, r129⟩ := R125
      obtain ⟨a127, c128, rfl, h130, h131⟩ := Sl.shape r129
      unfold maxLen at h131
      simp only [Act.put, List.setIfInBounds_toArray, List.set_cons_succ, List.set_cons_zero]
      have S122 : St W (whole W) w121 F123 [] [] := S122
      refine do_ rfl (.tuple #[(.slice a127 ([] : Forest).length c128), (.int .i64 11)]) (ex_move _) ?_
      simp only [Act.put, List.setIfInBounds_toArray, List.set_cons_succ, List.set_cons_zero]
      refine do_ rfl (.slice a127 ([] : Forest).length c128) (ex_extract rfl rfl) ?_
      simp only [Act.put, List.setIfInBounds_toArray, List.set_cons_succ, List.set_cons_zero]
      refine do_ rfl (.int .i64 11) (ex_extract rfl rfl) ?_
      simp only [Act.put, List.setIfInBounds_toArray, List.set_cons_succ, List.set_cons_zero]
      refine do_ rfl (.slice a127 ([] : Forest).length c128) (ex_assign _) ?_
      simp only [Act.put, List.setIfInBounds_toArray, List.set_cons_succ, List.set_cons_zero]
      refine do_ rfl (.int .i64 11) (ex_assign _) ?_
      simp only [Act.put, List.setIfInBounds_toArray, List.set_cons_succ, List.set_cons_zero]
      refine wl_nil ?_
      (try simp only [Exit.then, Exit.inBlock, ↓reduceIte, Nat.reduceEqDiff])
      refine hK120 _ _ ?_
      refine wp_seq_k (fun K132 hK132 => ?_)
      refine region_wl ?_
      refine do_ rfl (.slice a9 (forestW (writesN l0 20)).length c10) (ex_move _) ?_
      simp only [Act.put, List.setIfInBounds_toArray, List.set_cons_succ, List.set_cons_zero]
      refine do_ rfl (.agg #[(.slice none 0 0), (.slice none 0 0), (.bool false), (.slice none 0 0)]) (ex_build (ps := #[]) (bmap0) (by kernel_rfl)) ?_
      simp only [Act.put, List.setIfInBounds_toArray, List.set_cons_succ, List.set_cons_zero]
      refine stNew S122 (v := fun n => .slice (some ⟨n, 0, none⟩) 1 1) rfl (ex_lit (ps := #[(0, (.agg #[(.slice none 0 0), (.slice none 0 0), (.bool false), (.slice none 0 0)]))]) (cells := #[(.slice none 0 0), (.slice none 0 0), (.bool false), (.slice none 0 0)]) (E := 67) (bmap1 rfl) (fun w => by kernel_rfl)) (fun n133 w134 S135 => ?_)
      simp only [Act.put, List.setIfInBounds_toArray, List.set_cons_succ, List.set_cons_zero]
      have S135 : St W (whole W) w134 F123 [⟨n133, [(.slice none 0 0), (.slice none 0 0), (.bool false), (.slice none 0 0)], 67⟩] [] := S135
      obtain ⟨S136, le137, hc138⟩ := St.freezeBlk S135 (i := 0) rfl
      have r140 : Wrs _ (.slice (some ⟨n133, 0, none⟩) 1 1) [(⟨[], [], false, []⟩ : Wr)] := sl_of_block (R := WrC) (l := [(⟨[], [], false, []⟩ : Wr)]) (el := [[(.slice none 0 0), (.slice none 0 0), (.bool false), (.slice none 0 0)]]) hc138 rfl ⟨⟨_, _, _, _, rfl, Bs.nil _, Bs.nil _, rfl, Bs.nil _⟩, trivial⟩ (by simp) (by unfold maxLen; simp)
      generalize addF F123 w134 n133 = F139 at *
      have S136 : St W (whole W) w134 F139 [] [] := S136
      refine stGives S136 rfl (ex_fn (vs := #[(.slice a9 (forestW (writesN l0 20)).length c10), (.slice (some ⟨n133, 0, none⟩) 1 1)]) (map2 rfl rfl) rfl (ent_59 _ _)) (applyZero_spec _ _ _ _ (forestW (writesN l0 20)) (S136).sat (R7.mono ((((((le17.trans le28).trans le89).trans le98).trans le110).trans le124).trans le137)) r140 okf) ?_
      intro v146 w141 F143 S142 le144 R145
      obtain ⟨_, rfl, r149⟩ := R145
      obtain ⟨a147, c148, rfl, h150, h151⟩ := Sl.shape r149
      unfold maxLen at h151
      simp only [Act.put, List.setIfInBounds_toArray, List.set_cons_succ, List.set_cons_zero]
      have S142 : St W (whole W) w141 F143 [] [] := S142
      refine do_ rfl (.tuple #[(.slice a147 ([] : Forest).length c148), (.int .i64 1)]) (ex_move _) ?_
      simp only [Act.put, List.setIfInBounds_toArray, List.set_cons_succ, List.set_cons_zero]
      refine do_ rfl (.slice a147 ([] : Forest).length c148) (ex_extract rfl rfl) ?_
      simp only [Act.put, List.setIfInBounds_toArray, List.set_cons_succ, List.set_cons_zero]
      refine do_ rfl (.int .i64 1) (ex_extract rfl rfl) ?_
      simp only [Act.put, List.setIfInBounds_toArray, List.set_cons_succ, List.set_cons_zero]
      refine do_ rfl (.slice a147 ([] : Forest).length c148) (ex_assign _) ?_
      simp only [Act.put, List.setIfInBounds_toArray, List.set_cons_succ, List.set_cons_zero]
      refine do_ rfl (.int .i64 1) (ex_assign _) ?_
      simp only [Act.put, List.setIfInBounds_toArray, List.set_cons_succ, List.set_cons_zero]
      refine wl_nil ?_
      (try simp only [Exit.then, Exit.inBlock, ↓reduceIte, Nat.reduceEqDiff])
      refine hK132 _ _ ?_
      refine wp_seq_k (fun K152 hK152 => ?_)
      refine region_wl ?_
      refine do_ rfl (.int .i64 11) (ex_move _) ?_
      simp only [Act.put, List.setIfInBounds_toArray, List.set_cons_succ, List.set_cons_zero]
      refine do_ rfl (.int .i64 11) (ex_move _) ?_
      simp only [Act.put, List.setIfInBounds_toArray, List.set_cons_succ, List.set_cons_zero]
      refine do_ rfl (.bool true) (ex_eql (b := true) rfl rfl (by decide)) ?_
      simp only [Act.put, List.setIfInBounds_toArray, List.set_cons_succ, List.set_cons_zero]
      refine do_ rfl (.bool true) (ex_move _) ?_
      simp only [Act.put, List.setIfInBounds_toArray, List.set_cons_succ, List.set_cons_zero]
      refine do_ rfl (.slice a101 ([] : Forest).length c102) (ex_move _) ?_
      simp only [Act.put, List.setIfInBounds_toArray, List.set_cons_succ, List.set_cons_zero]
      refine do_ rfl (.slice a127 ([] : Forest).length c128) (ex_move _) ?_
      simp only [Act.put, List.setIfInBounds_toArray, List.set_cons_succ, List.set_cons_zero]
      refine stTells (v := (.bool true)) S142 rfl (ex_fn (vs := #[(.slice a101 ([] : Forest).length c102), (.slice a127 ([] : Forest).length c128)]) (map2 rfl rfl) rfl (ent_60 _ _)) (tells_bool (sameForest_spec _ _ _ _ [] [] (S142).sat (r103.mono (((le110.trans le124).trans le137).trans le144)) (r129.mono (le137.trans le144)) (by have := ForestOk.len (ForestOk.nil 60); omega) (fun t ht => by have := (ForestOk.tree (ForestOk.nil 60) t ht).len; omega)) (decide_eq_true (rfl))) (fun w153 S154 => ?_)
      simp only [Act.put, List.setIfInBounds_toArray, List.set_cons_succ, List.set_cons_zero]
      have S154 : St W (whole W) w153 F143 [] [] := S154
      refine do_ rfl (.bool true) (ex_pick (b := true) rfl) ?_
      simp only [Act.put, List.setIfInBounds_toArray, List.set_cons_succ, List.set_cons_zero]
      refine do_ rfl (.bool true) (ex_move _) ?_
      simp only [Act.put, List.setIfInBounds_toArray, List.set_cons_succ, List.set_cons_zero]
      refine do_ rfl (.int .i64 1) (ex_move _) ?_
      simp only [Act.put, List.setIfInBounds_toArray, List.set_cons_succ, List.set_cons_zero]
      refine do_ rfl (.bool true) (ex_eql (b := true) rfl rfl (by decide)) ?_
      simp only [Act.put, List.setIfInBounds_toArray, List.set_cons_succ, List.set_cons_zero]
      refine do_ rfl (.bool true) (ex_pick (b := true) rfl) ?_
      simp only [Act.put, List.setIfInBounds_toArray, List.set_cons_succ, List.set_cons_zero]
      refine do_ rfl (.bool true) (ex_assign _) ?_
      simp only [Act.put, List.setIfInBounds_toArray, List.set_cons_succ, List.set_cons_zero]
      refine wl_nil ?_
      (try simp only [Exit.then, Exit.inBlock, ↓reduceIte, Nat.reduceEqDiff])
      refine hK152 _ _ ?_
      refine wp_ret ?_
      (try simp only [Exit.then, Exit.inBlock, ↓reduceIte, Nat.reduceEqDiff])
      refine bodyPost_ret (v := (.bool true)) ?_ rfl ?_
      · exact res_t rfl rfl
      · exact ⟨rfl, S154.gr.below⟩
    | some gt =>
      rw [hey] at ha hY
      have okt := applyF_ok60 okh hwy hey
      replace ha : applyE (forestW (writesN l0 20)) (([] ++ (writesN l1 5)) ++ (writesN l2 5)) = (0, gt) := by rw [List.nil_append]; exact ha
      refine region_wl ?_
      refine do_ rfl (.slice a9 (forestW (writesN l0 20)).length c10) (ex_move _) ?_
      simp only [Act.put, List.setIfInBounds_toArray, List.set_cons_succ, List.set_cons_zero]
      refine do_ rfl (.slice a20 (writesN l1 5).length c21) (ex_move _) ?_
      simp only [Act.put, List.setIfInBounds_toArray, List.set_cons_succ, List.set_cons_zero]
      refine stAppendS (r := 0) (u := (.slice a20 (writesN l1 5).length c21)) S36 rfl i67 (.agg #[(.slice none 0 0), (.slice none 0 0), (.bool false), (.slice none 0 0)]) 80 Try.underlying75 hi67 hz67 hs67 hb67 rfl (by decide) rfl rfl rfl (Sl.toW (R18.mono le28) (S36).sat) (fun F cs p h => WrC.oneCell h) (Nat.le_refl _) S36.gr.below.size (by unfold maxLen; simp only [List.length_append, List.length_nil]; have := writesN_len l1 5; have := writesN_len l2 5; omega) (by simp only [List.length_append, List.length_nil]; have := writesN_len l1 5; have := writesN_len l2 5; omega) ?_
      intro v155 w156 S157 hn158
      simp only [Act.put, List.setIfInBounds_toArray, List.set_cons_succ, List.set_cons_zero]
      have S157 : St W (whole W) w156 F27 [] [ownP 4 WrC WrC.mono 67 W.heap.size v155 ([] ++ (writesN l1 5))] := S157
      refine do_ rfl (.slice a31 (writesN l2 5).length c32) (ex_move _) ?_
      simp only [Act.put, List.setIfInBounds_toArray, List.set_cons_succ, List.set_cons_zero]
      refine stAppendS (r := 0) (u := (.slice a31 (writesN l2 5).length c32)) S157 rfl i67 (.agg #[(.slice none 0 0), (.slice none 0 0), (.bool false), (.slice none 0 0)]) 80 Try.underlying75 hi67 hz67 hs67 hb67 rfl (by decide) rfl rfl rfl (Sl.toW R29 (S157).sat) (fun F cs p h => WrC.oneCell h) (Nat.le_refl _) S157.gr.below.size (by unfold maxLen; simp only [List.length_append, List.length_nil]; have := writesN_len l1 5; have := writesN_len l2 5; omega) (by simp only [List.length_append, List.length_nil]; have := writesN_len l1 5; have := writesN_len l2 5; omega) ?_
      intro v159 w160 S161 hn162
      simp only [Act.put, List.setIfInBounds_toArray, List.set_cons_succ, List.set_cons_zero]
      have S161 : St W (whole W) w160 F27 [] [ownP 4 WrC WrC.mono 67 W.heap.size v159 (([] ++ (writesN l1 5)) ++ (writesN l2 5))] := S161
      obtain ⟨F163, S164, le165, hv166⟩ := St.freeze S161 (i := 0) rfl (Nat.le_refl _)
      have S164 : St W (whole W) w160 F163 [] [] := S164
      have hv166 : Wrs _ v159 (([] ++ (writesN l1 5)) ++ (writesN l2 5)) := hv166
      obtain ⟨a167, c168, rfl, h169, h170⟩ := Sl.shape hv166
      unfold maxLen at h170
      refine stGives S164 rfl (ex_fn (vs := #[(.slice a9 (forestW (writesN l0 20)).length c10), (.slice a167 (([] ++ (writesN l1 5)) ++ (writesN l2 5)).length c168)]) (map2 rfl rfl) rfl (ent_59 _ _)) (apply_is (S164).sat (R7.mono ((le17.trans le28).trans le165)) hv166 okf hwa ha) ?_
      intro v176 w171 F173 S172 le174 R175
      obtain ⟨_, rfl, r179⟩ := R175
      obtain ⟨a177, c178, rfl, h180, h181⟩ := Sl.shape r179
      unfold maxLen at h181
      have h180 : gt.length ≤ c178 := h180
      have r179 : Tns _ (.slice a177 gt.length c178) gt := r179
      simp only [Act.put, List.setIfInBounds_toArray, List.set_cons_succ, List.set_cons_zero]
      have S172 : St W (whole W) w171 F173 [] [] := S172
      refine do_ rfl (.tuple #[(.slice a177 gt.length c178), (.int .i64 0)]) (ex_move _) ?_
      simp only [Act.put, List.setIfInBounds_toArray, List.set_cons_succ, List.set_cons_zero]
      refine do_ rfl (.slice a177 gt.length c178) (ex_extract rfl rfl) ?_
      simp only [Act.put, List.setIfInBounds_toArray, List.set_cons_succ, List.set_cons_zero]
      refine do_ rfl (.int .i64 0) (ex_extract rfl rfl) ?_
      simp only [Act.put, List.setIfInBounds_toArray, List.set_cons_succ, List.set_cons_zero]
      refine do_ rfl (.slice a177 gt.length c178) (ex_assign _) ?_
      simp only [Act.put, List.setIfInBounds_toArray, List.set_cons_succ, List.set_cons_zero]
      refine do_ rfl (.int .i64 0) (ex_assign _) ?_
      simp only [Act.put, List.setIfInBounds_toArray, List.set_cons_succ, List.set_cons_zero]
      refine wl_nil ?_
      (try simp only [Exit.then, Exit.inBlock, ↓reduceIte, Nat.reduceEqDiff])
      refine hK35 _ _ ?_
      refine wp_seq_k (fun K182 hK182 => ?_)
      refine region_wl ?_
      refine do_ rfl (.slice a9 (forestW (writesN l0 20)).length c10) (ex_move _) ?_
      simp only [Act.put, List.setIfInBounds_toArray, List.set_cons_succ, List.set_cons_zero]
      refine do_ rfl (.slice a20 (writesN l1 5).length c21) (ex_move _) ?_
      simp only [Act.put, List.setIfInBounds_toArray, List.set_cons_succ, List.set_cons_zero]
      refine stGives S172 rfl (ex_fn (vs := #[(.slice a9 (forestW (writesN l0 20)).length c10), (.slice a20 (writesN l1 5).length c21)]) (map2 rfl rfl) rfl (ent_59 _ _)) (apply_is (S172).sat (R7.mono (((le17.trans le28).trans le165).trans le174)) (R18.mono ((le28.trans le165).trans le174)) okf hwx hX) ?_
      intro v188 w183 F185 S184 le186 R187
      obtain ⟨_, rfl, r191⟩ := R187
      obtain ⟨a189, c190, rfl, h192, h193⟩ := Sl.shape r191
      unfold maxLen at h193
      have h192 : gh.length ≤ c190 := h192
      have r191 : Tns _ (.slice a189 gh.length c190) gh := r191
      simp only [Act.put, List.setIfInBounds_toArray, List.set_cons_succ, List.set_cons_zero]
      have S184 : St W (whole W) w183 F185 [] [] := S184
      refine do_ rfl (.tuple #[(.slice a189 gh.length c190), (.int .i64 0)]) (ex_move _) ?_
      simp only [Act.put, List.setIfInBounds_toArray, List.set_cons_succ, List.set_cons_zero]
      refine do_ rfl (.slice a189 gh.length c190) (ex_extract rfl rfl) ?_
      simp only [Act.put, List.setIfInBounds_toArray, List.set_cons_succ, List.set_cons_zero]
      refine do_ rfl (.int .i64 0) (ex_extract rfl rfl) ?_
      simp only [Act.put, List.setIfInBounds_toArray, List.set_cons_succ, List.set_cons_zero]
      refine do_ rfl (.slice a189 gh.length c190) (ex_assign _) ?_
      simp only [Act.put, List.setIfInBounds_toArray, List.set_cons_succ, List.set_cons_zero]
      refine do_ rfl (.int .i64 0) (ex_assign _) ?_
      simp only [Act.put, List.setIfInBounds_toArray, List.set_cons_succ, List.set_cons_zero]
      refine wl_nil ?_
      (try simp only [Exit.then, Exit.inBlock, ↓reduceIte, Nat.reduceEqDiff])
      refine hK182 _ _ ?_
      refine wp_seq_k (fun K194 hK194 => ?_)
      refine wp_seq_k (fun K195 hK195 => ?_)
      refine region_wl ?_
      refine do_ rfl (.int .i64 0) (ex_move _) ?_
      simp only [Act.put, List.setIfInBounds_toArray, List.set_cons_succ, List.set_cons_zero]
      refine do_ rfl (.bool false) (ex_neq (b := false) rfl rfl (by decide)) ?_
      simp only [Act.put, List.setIfInBounds_toArray, List.set_cons_succ, List.set_cons_zero]
      refine wl_nil ?_
      (try simp only [Exit.then, Exit.inBlock, ↓reduceIte, Nat.reduceEqDiff])
      refine hK195 _ _ ?_
      refine wp_cond_false rfl ?_
      refine wp_skip ?_
      (try simp only [Exit.then, Exit.inBlock, ↓reduceIte, Nat.reduceEqDiff])
      refine hK194 _ _ ?_
      refine wp_seq_k (fun K196 hK196 => ?_)
      refine region_wl ?_
      refine do_ rfl (.slice a189 gh.length c190) (ex_move _) ?_
      simp only [Act.put, List.setIfInBounds_toArray, List.set_cons_succ, List.set_cons_zero]
      refine do_ rfl (.slice a31 (writesN l2 5).length c32) (ex_move _) ?_
      simp only [Act.put, List.setIfInBounds_toArray, List.set_cons_succ, List.set_cons_zero]
      refine stGives S184 rfl (ex_fn (vs := #[(.slice a189 gh.length c190), (.slice a31 (writesN l2 5).length c32)]) (map2 rfl rfl) rfl (ent_59 _ _)) (apply_is (S184).sat r191 (R29.mono ((le165.trans le174).trans le186)) okh hwy hY) ?_
      intro v202 w197 F199 S198 le200 R201
      obtain ⟨_, rfl, r205⟩ := R201
      obtain ⟨a203, c204, rfl, h206, h207⟩ := Sl.shape r205
      unfold maxLen at h207
      have h206 : gt.length ≤ c204 := h206
      have r205 : Tns _ (.slice a203 gt.length c204) gt := r205
      simp only [Act.put, List.setIfInBounds_toArray, List.set_cons_succ, List.set_cons_zero]
      have S198 : St W (whole W) w197 F199 [] [] := S198
      refine do_ rfl (.tuple #[(.slice a203 gt.length c204), (.int .i64 0)]) (ex_move _) ?_
      simp only [Act.put, List.setIfInBounds_toArray, List.set_cons_succ, List.set_cons_zero]
      refine do_ rfl (.slice a203 gt.length c204) (ex_extract rfl rfl) ?_
      simp only [Act.put, List.setIfInBounds_toArray, List.set_cons_succ, List.set_cons_zero]
      refine do_ rfl (.int .i64 0) (ex_extract rfl rfl) ?_
      simp only [Act.put, List.setIfInBounds_toArray, List.set_cons_succ, List.set_cons_zero]
      refine do_ rfl (.slice a203 gt.length c204) (ex_assign _) ?_
      simp only [Act.put, List.setIfInBounds_toArray, List.set_cons_succ, List.set_cons_zero]
      refine do_ rfl (.int .i64 0) (ex_assign _) ?_
      simp only [Act.put, List.setIfInBounds_toArray, List.set_cons_succ, List.set_cons_zero]
      refine wl_nil ?_
      (try simp only [Exit.then, Exit.inBlock, ↓reduceIte, Nat.reduceEqDiff])
      refine hK196 _ _ ?_
      refine wp_seq_k (fun K208 hK208 => ?_)
      refine region_wl ?_
      refine do_ rfl (.slice a9 (forestW (writesN l0 20)).length c10) (ex_move _) ?_
      simp only [Act.put, List.setIfInBounds_toArray, List.set_cons_succ, List.set_cons_zero]
      refine do_ rfl (.agg #[(.slice none 0 0), (.slice none 0 0), (.bool false), (.slice none 0 0)]) (ex_build (ps := #[]) (bmap0) (by kernel_rfl)) ?_
      simp only [Act.put, List.setIfInBounds_toArray, List.set_cons_succ, List.set_cons_zero]
      refine stNew S198 (v := fun n => .slice (some ⟨n, 0, none⟩) 1 1) rfl (ex_lit (ps := #[(0, (.agg #[(.slice none 0 0), (.slice none 0 0), (.bool false), (.slice none 0 0)]))]) (cells := #[(.slice none 0 0), (.slice none 0 0), (.bool false), (.slice none 0 0)]) (E := 67) (bmap1 rfl) (fun w => by kernel_rfl)) (fun n209 w210 S211 => ?_)
      simp only [Act.put, List.setIfInBounds_toArray, List.set_cons_succ, List.set_cons_zero]
      have S211 : St W (whole W) w210 F199 [⟨n209, [(.slice none 0 0), (.slice none 0 0), (.bool false), (.slice none 0 0)], 67⟩] [] := S211
      obtain ⟨S212, le213, hc214⟩ := St.freezeBlk S211 (i := 0) rfl
      have r216 : Wrs _ (.slice (some ⟨n209, 0, none⟩) 1 1) [(⟨[], [], false, []⟩ : Wr)] := sl_of_block (R := WrC) (l := [(⟨[], [], false, []⟩ : Wr)]) (el := [[(.slice none 0 0), (.slice none 0 0), (.bool false), (.slice none 0 0)]]) hc214 rfl ⟨⟨_, _, _, _, rfl, Bs.nil _, Bs.nil _, rfl, Bs.nil _⟩, trivial⟩ (by simp) (by unfold maxLen; simp)
      generalize addF F199 w210 n209 = F215 at *
      have S212 : St W (whole W) w210 F215 [] [] := S212
      refine stGives S212 rfl (ex_fn (vs := #[(.slice a9 (forestW (writesN l0 20)).length c10), (.slice (some ⟨n209, 0, none⟩) 1 1)]) (map2 rfl rfl) rfl (ent_59 _ _)) (applyZero_spec _ _ _ _ (forestW (writesN l0 20)) (S212).sat (R7.mono ((((((le17.trans le28).trans le165).trans le174).trans le186).trans le200).trans le213)) r216 okf) ?_
      intro v222 w217 F219 S218 le220 R221
      obtain ⟨_, rfl, r225⟩ := R221
      obtain ⟨a223, c224, rfl, h226, h227⟩ := Sl.shape r225
      unfold maxLen at h227
      simp only [Act.put, List.setIfInBounds_toArray, List.set_cons_succ, List.set_cons_zero]
      have S218 : St W (whole W) w217 F219 [] [] := S218
      refine do_ rfl (.tuple #[(.slice a223 ([] : Forest).length c224), (.int .i64 1)]) (ex_move _) ?_
      simp only [Act.put, List.setIfInBounds_toArray, List.set_cons_succ, List.set_cons_zero]
      refine do_ rfl (.slice a223 ([] : Forest).length c224) (ex_extract rfl rfl) ?_
      simp only [Act.put, List.setIfInBounds_toArray, List.set_cons_succ, List.set_cons_zero]
      refine do_ rfl (.int .i64 1) (ex_extract rfl rfl) ?_
      simp only [Act.put, List.setIfInBounds_toArray, List.set_cons_succ, List.set_cons_zero]
      refine do_ rfl (.slice a223 ([] : Forest).length c224) (ex_assign _) ?_
      simp only [Act.put, List.setIfInBounds_toArray, List.set_cons_succ, List.set_cons_zero]
      refine do_ rfl (.int .i64 1) (ex_assign _) ?_
      simp only [Act.put, List.setIfInBounds_toArray, List.set_cons_succ, List.set_cons_zero]
      refine wl_nil ?_
      (try simp only [Exit.then, Exit.inBlock, ↓reduceIte, Nat.reduceEqDiff])
      refine hK208 _ _ ?_
      refine wp_seq_k (fun K228 hK228 => ?_)
      refine region_wl ?_
      refine do_ rfl (.int .i64 0) (ex_move _) ?_
      simp only [Act.put, List.setIfInBounds_toArray, List.set_cons_succ, List.set_cons_zero]
      refine do_ rfl (.int .i64 0) (ex_move _) ?_
      simp only [Act.put, List.setIfInBounds_toArray, List.set_cons_succ, List.set_cons_zero]
      refine do_ rfl (.bool true) (ex_eql (b := true) rfl rfl (by decide)) ?_
      simp only [Act.put, List.setIfInBounds_toArray, List.set_cons_succ, List.set_cons_zero]
      refine do_ rfl (.bool true) (ex_move _) ?_
      simp only [Act.put, List.setIfInBounds_toArray, List.set_cons_succ, List.set_cons_zero]
      refine do_ rfl (.slice a177 gt.length c178) (ex_move _) ?_
      simp only [Act.put, List.setIfInBounds_toArray, List.set_cons_succ, List.set_cons_zero]
      refine do_ rfl (.slice a203 gt.length c204) (ex_move _) ?_
      simp only [Act.put, List.setIfInBounds_toArray, List.set_cons_succ, List.set_cons_zero]
      refine stTells (v := (.bool true)) S218 rfl (ex_fn (vs := #[(.slice a177 gt.length c178), (.slice a203 gt.length c204)]) (map2 rfl rfl) rfl (ent_60 _ _)) (tells_bool (sameForest_spec _ _ _ _ gt gt (S218).sat (r179.mono (((le186.trans le200).trans le213).trans le220)) (r205.mono (le213.trans le220)) (by have := ForestOk.len okt; omega) (fun t ht => by have := (ForestOk.tree okt t ht).len; omega)) (decide_eq_true (rfl))) (fun w229 S230 => ?_)
      simp only [Act.put, List.setIfInBounds_toArray, List.set_cons_succ, List.set_cons_zero]
      have S230 : St W (whole W) w229 F219 [] [] := S230
      refine do_ rfl (.bool true) (ex_pick (b := true) rfl) ?_
      simp only [Act.put, List.setIfInBounds_toArray, List.set_cons_succ, List.set_cons_zero]
      refine do_ rfl (.bool true) (ex_move _) ?_
      simp only [Act.put, List.setIfInBounds_toArray, List.set_cons_succ, List.set_cons_zero]
      refine do_ rfl (.int .i64 1) (ex_move _) ?_
      simp only [Act.put, List.setIfInBounds_toArray, List.set_cons_succ, List.set_cons_zero]
      refine do_ rfl (.bool true) (ex_eql (b := true) rfl rfl (by decide)) ?_
      simp only [Act.put, List.setIfInBounds_toArray, List.set_cons_succ, List.set_cons_zero]
      refine do_ rfl (.bool true) (ex_pick (b := true) rfl) ?_
      simp only [Act.put, List.setIfInBounds_toArray, List.set_cons_succ, List.set_cons_zero]
      refine do_ rfl (.bool true) (ex_assign _) ?_
      simp only [Act.put, List.setIfInBounds_toArray, List.set_cons_succ, List.set_cons_zero]
      refine wl_nil ?_
      (try simp only [Exit.then, Exit.inBlock, ↓reduceIte, Nat.reduceEqDiff])
      refine hK228 _ _ ?_
      refine wp_ret ?_
      (try simp only [Exit.then, Exit.inBlock, ↓reduceIte, Nat.reduceEqDiff])
      refine bodyPost_ret (v := (.bool true)) ?_ rfl ?_
      · exact res_t rfl rfl
      · exact ⟨rfl, S230.gr.below⟩
end Go.Proofs.Yteefnnnbbmbmcaa
