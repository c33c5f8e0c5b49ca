/- Walks: slices.BinarySearchFunc at tenants, forest.find, pairs, Check, checked -/
import Derived.Test.YteefnnnbbmbmcaaP12
import Derived.Test.YteefnnnbbmbmcaaK3
import Derived.Test.YteefnnnbbmbmcaaN1
namespace Go.Proofs.Yteefnnnbbmbmcaa
open Go.RowKit
set_option maxRecDepth 100000
set_option linter.unusedVariables false
set_option linter.unusedSimpArgs false
set_option maxHeartbeats 8000000 in
theorem findCmp_spec (F : Fz) (w : World) (v u : Value) (t : By × List Pr) (k : By) (hs : Sat w F) (hv : TnV F v t) (hu : Bs F u k) :
    Calls Try.prog 135 #[v, u] w (Tells w (.int .i64 (cmpL t.1 k))) := by
  obtain ⟨x0, y0, x1, y1, rfl, h0, h1⟩ := hv
  obtain ⟨a2, c2, rfl, _⟩ := hu.shape
  have S := St.start hs
  go_enter Try.func135, Try.ntmps135
  refine wp_seq_k (fun K1 hK1 => ?_)
  refine region_wl ?_
  refine stNew S (v := fun n => .pointer (some ⟨n, 0, none⟩)) rfl (ex_box (v := (.agg #[(.slice x0 t.1.length y0), (.slice x1 t.2.length y1)])) rfl) (fun n2 w3 S4 => ?_)
  simp only [Act.put, List.setIfInBounds_toArray, List.set_cons_succ, List.set_cons_zero]
  have S4 : St w F w3 F [⟨n2, [(.slice x0 t.1.length y0), (.slice x1 t.2.length y1)], 83⟩] [] := S4
  refine do_ rfl (.int .i64 0) (ex_assign _) ?_
  simp only [Act.put, List.setIfInBounds_toArray, List.set_cons_succ, List.set_cons_zero]
  refine wl_nil ?_
  (try simp only [Exit.then, Exit.inBlock, ↓reduceIte, Nat.reduceEqDiff])
  refine hK1 _ _ ?_
  refine wp_seq_k (fun K5 hK5 => ?_)
  refine region_wl ?_
  refine do_ rfl (.pointer (some ⟨n2, 0, none⟩)) (ex_field (q := ⟨n2, 0, none⟩) rfl (fa_83_0 _ _)) ?_
  simp only [Act.put, List.setIfInBounds_toArray, List.set_cons_succ, List.set_cons_zero]
  refine do_ rfl (.slice x0 t.1.length y0) (ex_load rfl (load1 (nagg_27 _) (St.cell S4 (i := 0) rfl rfl))) ?_
  simp only [Act.put, List.setIfInBounds_toArray, List.set_cons_succ, List.set_cons_zero]
  refine do_ rfl (.slice a2 k.length c2) (ex_move _) ?_
  simp only [Act.put, List.setIfInBounds_toArray, List.set_cons_succ, List.set_cons_zero]
  refine stTells (v := (.int .i64 (cmpL t.1 k))) S4 rfl (ex_fn (vs := #[(.slice x0 t.1.length y0), (.slice a2 k.length c2)]) (map2 rfl rfl) rfl (ent_95 _ _)) (bytesCompare_spec _ _ _ _ t.1 k (S4).sat h0 hu) (fun w6 S7 => ?_)
  simp only [Act.put, List.setIfInBounds_toArray, List.set_cons_succ, List.set_cons_zero]
  have S7 : St w F w6 F [⟨n2, [(.slice x0 t.1.length y0), (.slice x1 t.2.length y1)], 83⟩] [] := S7
  refine do_ rfl (.int .i64 (cmpL t.1 k)) (ex_assign _) ?_
  simp only [Act.put, List.setIfInBounds_toArray, List.set_cons_succ, List.set_cons_zero]
  refine wl_nil ?_
  (try simp only [Exit.then, Exit.inBlock, ↓reduceIte, Nat.reduceEqDiff])
  refine hK5 _ _ ?_
  refine wp_ret ?_
  (try simp only [Exit.then, Exit.inBlock, ↓reduceIte, Nat.reduceEqDiff])
  refine bodyPost_ret (v := (.int .i64 (cmpL t.1 k))) ?_ rfl ?_
  · exact res_t rfl rfl
  · exact ⟨rfl, S7.gr.below⟩
set_option maxHeartbeats 8000000 in
theorem bsearchT_spec (F : Fz) (w : World) (v u : Value) (l : Forest) (k : By) (hs : Sat w F) (hv : Tns F v l) (hu : Bs F u k) (hr : Rise l) (hl : l.length ≤ 1000000) :
    Calls Try.prog 134 #[v, u, .func (.func 135) #[] #[]] w (Tells w (.tuple #[.int .i64 (posT l k : Nat), .bool (hasT l k)])) := by
  obtain ⟨a, c, rfl, hc1, hc2⟩ := Sl.shape hv
  obtain ⟨a2, c2, rfl, _⟩ := hu.shape
  unfold maxLen at hc2
  have S := St.start hs
  go_enter Try.func134, Try.ntmps134
  refine wp_seq_k (fun K1 hK1 => ?_)
  refine region_wl ?_
  refine do_ rfl (.int .i64 0) (ex_assign _) ?_
  simp only [Act.put, List.setIfInBounds_toArray, List.set_cons_succ, List.set_cons_zero]
  refine do_ rfl (.bool false) (ex_assign _) ?_
  simp only [Act.put, List.setIfInBounds_toArray, List.set_cons_succ, List.set_cons_zero]
  refine wl_nil ?_
  (try simp only [Exit.then, Exit.inBlock, ↓reduceIte, Nat.reduceEqDiff])
  refine hK1 _ _ ?_
  refine wp_seq_k (fun K2 hK2 => ?_)
  refine region_wl ?_
  refine do_ rfl (.slice a l.length c) (ex_move _) ?_
  simp only [Act.put, List.setIfInBounds_toArray, List.set_cons_succ, List.set_cons_zero]
  refine do_ rfl (.int .i64 ((l.length : Nat) : Int)) (ex_len Try.underlying73 rfl) ?_
  simp only [Act.put, List.setIfInBounds_toArray, List.set_cons_succ, List.set_cons_zero]
  refine do_ rfl (.int .i64 ((l.length : Nat) : Int)) (ex_assign _) ?_
  simp only [Act.put, List.setIfInBounds_toArray, List.set_cons_succ, List.set_cons_zero]
  refine wl_nil ?_
  (try simp only [Exit.then, Exit.inBlock, ↓reduceIte, Nat.reduceEqDiff])
  refine hK2 _ _ ?_
  refine wp_seq_k (fun K3 hK3 => ?_)
  refine region_wl ?_
  refine do_ rfl (.int .i64 ((l.length : Nat) : Int)) (ex_move _) ?_
  simp only [Act.put, List.setIfInBounds_toArray, List.set_cons_succ, List.set_cons_zero]
  refine do_ rfl (.int .i64 0) (ex_assign _) ?_
  simp only [Act.put, List.setIfInBounds_toArray, List.set_cons_succ, List.set_cons_zero]
  refine do_ rfl (.int .i64 ((l.length : Nat) : Int)) (ex_assign _) ?_
  simp only [Act.put, List.setIfInBounds_toArray, List.set_cons_succ, List.set_cons_zero]
  refine wl_nil ?_
  (try simp only [Exit.then, Exit.inBlock, ↓reduceIte, Nat.reduceEqDiff])
  refine hK3 _ _ ?_
  refine wp_seq_k (fun K4 hK4 => ?_)
  refine wp_block ?_
  refine wp_loop_g (fun mm aa w6 => ∃ (i : Nat) (j : Nat) (u5 : Nat → Value), mm = j - i ∧ aa = ⟨#[(.slice a l.length c), (.slice a2 k.length c2), (.func (.func 135) #[] #[]), undef, undef, undef, (.int .i64 0), (.bool false), (.int .i64 ((l.length : Nat) : Int)), (.int .i64 ((i : Nat) : Int)), (.int .i64 ((j : Nat) : Int)), (u5 11), (.slice a l.length c), (.int .i64 ((l.length : Nat) : Int)), (.int .i64 ((l.length : Nat) : Int)), (u5 15), (u5 16), (u5 17), (u5 18), (u5 19), (u5 20), (u5 21), (u5 22), (u5 23), (u5 24), (u5 25), (u5 26), (u5 27), (u5 28), (u5 29), (u5 30), (u5 31), (u5 32), (u5 33), (u5 34), undef, undef, undef, undef, undef, undef, undef, undef, undef, undef, undef, undef, undef, undef], []⟩ ∧ St w F w6 F [] [] ∧ (i ≤ j) ∧ (j ≤ l.length) ∧ (i ≤ posT l k) ∧ (posT l k ≤ j)) _ ⟨0, l.length, (slotF [(.slice a l.length c), (.slice a2 k.length c2), (.func (.func 135) #[] #[]), undef, undef, undef, (.int .i64 0), (.bool false), (.int .i64 ((l.length : Nat) : Int)), (.int .i64 0), (.int .i64 ((l.length : Nat) : Int)), undef, (.slice a l.length c), (.int .i64 ((l.length : Nat) : Int)), (.int .i64 ((l.length : Nat) : Int)), undef, undef, undef, undef, undef, undef, undef, undef, undef, undef, undef, undef, undef, undef, undef, undef, undef, undef, undef, undef, undef, undef, undef, undef, undef, undef, undef, undef, undef, undef, undef, undef, undef, undef]), rfl, rfl, S, (by omega), (by omega), (by omega), (posBy_le _ _ _)⟩ ?_
  rintro m7 a8 w9 ⟨i, j, u5, rfl, rfl, S10, hij, hj, hip, hjp⟩ K12 hK12
  refine wp_seq_k (fun K13 hK13 => ?_)
  refine wp_seq_k (fun K14 hK14 => ?_)
  refine region_wl ?_
  refine do_ rfl (.int .i64 ((i : Nat) : Int)) (ex_move _) ?_
  simp only [Act.put, List.setIfInBounds_toArray, List.set_cons_succ, List.set_cons_zero]
  refine do_ rfl (.int .i64 ((j : Nat) : Int)) (ex_move _) ?_
  simp only [Act.put, List.setIfInBounds_toArray, List.set_cons_succ, List.set_cons_zero]
  by_cases hc17 : i < j
  · refine do_ rfl (.bool true) (ex_lss (m := ((i : Nat) : Int)) (n := ((j : Nat) : Int)) (b := true) rfl rfl (decide_eq_true (by omega))) ?_
    simp only [Act.put, List.setIfInBounds_toArray, List.set_cons_succ, List.set_cons_zero]
    refine wl_nil ?_
    (try simp only [Exit.then, Exit.inBlock, ↓reduceIte, Nat.reduceEqDiff])
    refine hK14 _ _ ?_
    refine wp_cond_true rfl ?_
    refine wp_skip ?_
    (try simp only [Exit.then, Exit.inBlock, ↓reduceIte, Nat.reduceEqDiff])
    refine hK13 _ _ ?_
    refine wp_block ?_
    refine wp_seq_k (fun K15 hK15 => ?_)
    refine region_wl ?_
    refine do_ rfl (.int .i64 ((i : Nat) : Int)) (ex_move _) ?_
    simp only [Act.put, List.setIfInBounds_toArray, List.set_cons_succ, List.set_cons_zero]
    refine do_ rfl (.int .i64 ((j : Nat) : Int)) (ex_move _) ?_
    simp only [Act.put, List.setIfInBounds_toArray, List.set_cons_succ, List.set_cons_zero]
    refine do_ rfl (.int .i64 (((i + j) : Nat) : Int)) (ex_add (m := ((i : Nat) : Int)) (n := ((j : Nat) : Int)) (r := (((i + j) : Nat) : Int)) rfl rfl (by omega) (by omega) (by omega)) ?_
    simp only [Act.put, List.setIfInBounds_toArray, List.set_cons_succ, List.set_cons_zero]
    refine do_ rfl (.int .u64 (((i + j) : Nat) : Int)) (ex_convert (v := (.int .i64 (((i + j) : Nat) : Int))) rfl (conv_iu (i + j) (by omega) _)) ?_
    simp only [Act.put, List.setIfInBounds_toArray, List.set_cons_succ, List.set_cons_zero]
    refine do_ rfl (.int .u64 (((i + j) / 2 : Nat) : Int)) (ex_shr (.inl rfl) rfl rfl (shr1_u (i + j) _ _)) ?_
    simp only [Act.put, List.setIfInBounds_toArray, List.set_cons_succ, List.set_cons_zero]
    refine do_ rfl (.int .i64 (((i + j) / 2 : Nat) : Int)) (ex_convert (v := (.int .u64 (((i + j) / 2 : Nat) : Int))) rfl (conv_ui ((i + j) / 2) (by omega) _)) ?_
    simp only [Act.put, List.setIfInBounds_toArray, List.set_cons_succ, List.set_cons_zero]
    refine do_ rfl (.int .i64 (((i + j) / 2 : Nat) : Int)) (ex_assign _) ?_
    simp only [Act.put, List.setIfInBounds_toArray, List.set_cons_succ, List.set_cons_zero]
    refine wl_nil ?_
    (try simp only [Exit.then, Exit.inBlock, ↓reduceIte, Nat.reduceEqDiff])
    refine hK15 _ _ ?_
    refine wp_seq_k (fun K16 hK16 => ?_)
    obtain ⟨t, hp⟩ : ∃ t, l[(i + j) / 2]? = some t := ⟨l[(i + j) / 2], List.getElem?_eq_getElem (by omega)⟩
    obtain ⟨b17, o18, ha19, xa21, xc22, xa25, xc26, c20, c24, r23, r27⟩ := Tns.get hv hp
    refine region_wl ?_
    refine do_ rfl (.func (.func 135) #[] #[]) (ex_move _) ?_
    simp only [Act.put, List.setIfInBounds_toArray, List.set_cons_succ, List.set_cons_zero]
    refine do_ rfl (.slice a l.length c) (ex_move _) ?_
    simp only [Act.put, List.setIfInBounds_toArray, List.set_cons_succ, List.set_cons_zero]
    refine do_ rfl (.int .i64 (((i + j) / 2 : Nat) : Int)) (ex_move _) ?_
    simp only [Act.put, List.setIfInBounds_toArray, List.set_cons_succ, List.set_cons_zero]
    refine do_ rfl (.pointer (some ⟨b17, o18 + ((i + j) / 2) * 2, none⟩)) (ex_at (i := (i + j) / 2) (sz := 2) Try.underlying73 (sizeof_83 _) rfl ha19 rfl (by omega) rfl) ?_
    simp only [Act.put, List.setIfInBounds_toArray, List.set_cons_succ, List.set_cons_zero]
    refine do_ rfl (.agg #[(.slice xa21 t.1.length xc22), (.slice xa25 t.2.length xc26)]) (ex_load rfl (loadN (cs := [(.slice xa21 t.1.length xc22), (.slice xa25 t.2.length xc26)]) Try.underlying83 rfl (size_83) (range2 (St.fz S10 c20) (St.fz S10 c24)))) ?_
    simp only [Act.put, List.setIfInBounds_toArray, List.set_cons_succ, List.set_cons_zero]
    refine do_ rfl (.slice a2 k.length c2) (ex_move _) ?_
    simp only [Act.put, List.setIfInBounds_toArray, List.set_cons_succ, List.set_cons_zero]
    refine stTells (v := (.int .i64 (cmpL t.1 k))) S10 rfl (ex_fv (fs := #[]) (cs := #[]) (vs := #[(.agg #[(.slice xa21 t.1.length xc22), (.slice xa25 t.2.length xc26)]), (.slice a2 k.length c2)]) rfl (vmap (fs := #[]) (cs := #[]) (xs := #[(.agg #[(.slice xa21 t.1.length xc22), (.slice xa25 t.2.length xc26)]), (.slice a2 k.length c2)]) (map2 rfl rfl) (by simp)) (ent_135 _ _)) (findCmp_spec _ _ _ _ t k (S10).sat ⟨_, _, _, _, rfl, r23, r27⟩ hu) (fun w28 S29 => ?_)
    simp only [Act.put, List.setIfInBounds_toArray, List.set_cons_succ, List.set_cons_zero]
    have S29 : St w F w28 F [] [] := S29
    by_cases hc31 : (cmpL t.1 k) < (0 : Int)
    · refine do_ rfl (.bool true) (ex_lss (m := (cmpL t.1 k)) (n := (0 : Int)) (b := true) rfl rfl (decide_eq_true (by omega))) ?_
      simp only [Act.put, List.setIfInBounds_toArray, List.set_cons_succ, List.set_cons_zero]
      refine wl_nil ?_
      (try simp only [Exit.then, Exit.inBlock, ↓reduceIte, Nat.reduceEqDiff])
      refine hK16 _ _ ?_
      refine wp_cond_true rfl ?_
      refine region_wl ?_
      refine do_ rfl (.int .i64 (((i + j) / 2 : Nat) : Int)) (ex_move _) ?_
      simp only [Act.put, List.setIfInBounds_toArray, List.set_cons_succ, List.set_cons_zero]
      refine do_ rfl (.int .i64 ((((i + j) / 2 + 1) : Nat) : Int)) (ex_add (m := (((i + j) / 2 : Nat) : Int)) (n := (1 : Int)) (r := ((((i + j) / 2 + 1) : Nat) : Int)) rfl rfl (by omega) (by omega) (by omega)) ?_
      simp only [Act.put, List.setIfInBounds_toArray, List.set_cons_succ, List.set_cons_zero]
      refine do_ rfl (.int .i64 ((((i + j) / 2 + 1) : Nat) : Int)) (ex_assign _) ?_
      simp only [Act.put, List.setIfInBounds_toArray, List.set_cons_succ, List.set_cons_zero]
      refine wl_nil ?_
      (try simp only [Exit.then, Exit.inBlock, ↓reduceIte, Nat.reduceEqDiff])
      exact hK12 _ _ _ (by omega) ⟨((i + j) / 2 + 1), j, (slotF [(.slice a l.length c), (.slice a2 k.length c2), (.func (.func 135) #[] #[]), undef, undef, undef, (.int .i64 0), (.bool false), (.int .i64 ((l.length : Nat) : Int)), (.int .i64 ((((i + j) / 2 + 1) : Nat) : Int)), (.int .i64 ((j : Nat) : Int)), (.int .i64 (((i + j) / 2 : Nat) : Int)), (.slice a l.length c), (.int .i64 ((l.length : Nat) : Int)), (.int .i64 ((l.length : Nat) : Int)), (.int .i64 ((i : Nat) : Int)), (.int .i64 ((j : Nat) : Int)), (.bool true), (.int .i64 ((i : Nat) : Int)), (.int .i64 ((j : Nat) : Int)), (.int .i64 (((i + j) : Nat) : Int)), (.int .u64 (((i + j) : Nat) : Int)), (.int .u64 (((i + j) / 2 : Nat) : Int)), (.int .i64 (((i + j) / 2 : Nat) : Int)), (.func (.func 135) #[] #[]), (.slice a l.length c), (.int .i64 (((i + j) / 2 : Nat) : Int)), (.pointer (some ⟨b17, o18 + ((i + j) / 2) * 2, none⟩)), (.agg #[(.slice xa21 t.1.length xc22), (.slice xa25 t.2.length xc26)]), (.slice a2 k.length c2), (.int .i64 (cmpL t.1 k)), (.bool true), (.int .i64 (((i + j) / 2 : Nat) : Int)), (.int .i64 ((((i + j) / 2 + 1) : Nat) : Int)), (u5 34), undef, undef, undef, undef, undef, undef, undef, undef, undef, undef, undef, undef, undef, undef]), rfl, rfl, S29, (by have := pos_gt hr hp hc31; omega), (by omega), (pos_gt hr hp hc31), (by omega)⟩
    · refine do_ rfl (.bool false) (ex_lss (m := (cmpL t.1 k)) (n := (0 : Int)) (b := false) rfl rfl (decide_eq_false (by omega))) ?_
      simp only [Act.put, List.setIfInBounds_toArray, List.set_cons_succ, List.set_cons_zero]
      refine wl_nil ?_
      (try simp only [Exit.then, Exit.inBlock, ↓reduceIte, Nat.reduceEqDiff])
      refine hK16 _ _ ?_
      refine wp_cond_false rfl ?_
      refine region_wl ?_
      refine do_ rfl (.int .i64 (((i + j) / 2 : Nat) : Int)) (ex_move _) ?_
      simp only [Act.put, List.setIfInBounds_toArray, List.set_cons_succ, List.set_cons_zero]
      refine do_ rfl (.int .i64 (((i + j) / 2 : Nat) : Int)) (ex_assign _) ?_
      simp only [Act.put, List.setIfInBounds_toArray, List.set_cons_succ, List.set_cons_zero]
      refine wl_nil ?_
      (try simp only [Exit.then, Exit.inBlock, ↓reduceIte, Nat.reduceEqDiff])
      exact hK12 _ _ _ (by omega) ⟨i, (i + j) / 2, (slotF [(.slice a l.length c), (.slice a2 k.length c2), (.func (.func 135) #[] #[]), undef, undef, undef, (.int .i64 0), (.bool false), (.int .i64 ((l.length : Nat) : Int)), (.int .i64 ((i : Nat) : Int)), (.int .i64 (((i + j) / 2 : Nat) : Int)), (.int .i64 (((i + j) / 2 : Nat) : Int)), (.slice a l.length c), (.int .i64 ((l.length : Nat) : Int)), (.int .i64 ((l.length : Nat) : Int)), (.int .i64 ((i : Nat) : Int)), (.int .i64 ((j : Nat) : Int)), (.bool true), (.int .i64 ((i : Nat) : Int)), (.int .i64 ((j : Nat) : Int)), (.int .i64 (((i + j) : Nat) : Int)), (.int .u64 (((i + j) : Nat) : Int)), (.int .u64 (((i + j) / 2 : Nat) : Int)), (.int .i64 (((i + j) / 2 : Nat) : Int)), (.func (.func 135) #[] #[]), (.slice a l.length c), (.int .i64 (((i + j) / 2 : Nat) : Int)), (.pointer (some ⟨b17, o18 + ((i + j) / 2) * 2, none⟩)), (.agg #[(.slice xa21 t.1.length xc22), (.slice xa25 t.2.length xc26)]), (.slice a2 k.length c2), (.int .i64 (cmpL t.1 k)), (.bool false), (u5 32), (u5 33), (.int .i64 (((i + j) / 2 : Nat) : Int)), undef, undef, undef, undef, undef, undef, undef, undef, undef, undef, undef, undef, undef, undef]), rfl, rfl, S29, (by omega), (by omega), (by omega), (pos_le hp hc31)⟩
  · refine do_ rfl (.bool false) (ex_lss (m := ((i : Nat) : Int)) (n := ((j : Nat) : Int)) (b := false) rfl rfl (decide_eq_false (by omega))) ?_
    simp only [Act.put, List.setIfInBounds_toArray, List.set_cons_succ, List.set_cons_zero]
    refine wl_nil ?_
    (try simp only [Exit.then, Exit.inBlock, ↓reduceIte, Nat.reduceEqDiff])
    refine hK14 _ _ ?_
    refine wp_cond_false rfl ?_
    refine wp_exit ?_
    (try simp only [Exit.then, Exit.inBlock, ↓reduceIte, Nat.reduceEqDiff])
    refine hK4 _ _ ?_
    refine wp_seq_k (fun K30 hK30 => ?_)
    have hip2 : posT l k = i := by omega
    by_cases h0 : i < l.length
    · obtain ⟨t, hp⟩ : ∃ t, l[i]? = some t := ⟨l[i], List.getElem?_eq_getElem h0⟩
      obtain ⟨b31, o32, ha33, xa35, xc36, xa39, xc40, c34, c38, r37, r41⟩ := Tns.get hv hp
      refine region_wl ?_
      refine do_ rfl (.int .i64 ((i : Nat) : Int)) (ex_move _) ?_
      simp only [Act.put, List.setIfInBounds_toArray, List.set_cons_succ, List.set_cons_zero]
      refine do_ rfl (.int .i64 ((i : Nat) : Int)) (ex_move _) ?_
      simp only [Act.put, List.setIfInBounds_toArray, List.set_cons_succ, List.set_cons_zero]
      refine do_ rfl (.int .i64 ((l.length : Nat) : Int)) (ex_move _) ?_
      simp only [Act.put, List.setIfInBounds_toArray, List.set_cons_succ, List.set_cons_zero]
      refine do_ rfl (.bool true) (ex_lss (m := ((i : Nat) : Int)) (n := ((l.length : Nat) : Int)) (b := true) rfl rfl (decide_eq_true (by omega))) ?_
      simp only [Act.put, List.setIfInBounds_toArray, List.set_cons_succ, List.set_cons_zero]
      refine do_ rfl (.bool true) (ex_move _) ?_
      simp only [Act.put, List.setIfInBounds_toArray, List.set_cons_succ, List.set_cons_zero]
      refine do_ rfl (.func (.func 135) #[] #[]) (ex_move _) ?_
      simp only [Act.put, List.setIfInBounds_toArray, List.set_cons_succ, List.set_cons_zero]
      refine do_ rfl (.slice a l.length c) (ex_move _) ?_
      simp only [Act.put, List.setIfInBounds_toArray, List.set_cons_succ, List.set_cons_zero]
      refine do_ rfl (.int .i64 ((i : Nat) : Int)) (ex_move _) ?_
      simp only [Act.put, List.setIfInBounds_toArray, List.set_cons_succ, List.set_cons_zero]
      refine do_ rfl (.pointer (some ⟨b31, o32 + i * 2, none⟩)) (ex_at (i := i) (sz := 2) Try.underlying73 (sizeof_83 _) rfl ha33 rfl (by omega) rfl) ?_
      simp only [Act.put, List.setIfInBounds_toArray, List.set_cons_succ, List.set_cons_zero]
      refine do_ rfl (.agg #[(.slice xa35 t.1.length xc36), (.slice xa39 t.2.length xc40)]) (ex_load rfl (loadN (cs := [(.slice xa35 t.1.length xc36), (.slice xa39 t.2.length xc40)]) Try.underlying83 rfl (size_83) (range2 (St.fz S10 c34) (St.fz S10 c38)))) ?_
      simp only [Act.put, List.setIfInBounds_toArray, List.set_cons_succ, List.set_cons_zero]
      refine do_ rfl (.slice a2 k.length c2) (ex_move _) ?_
      simp only [Act.put, List.setIfInBounds_toArray, List.set_cons_succ, List.set_cons_zero]
      refine stTells (v := (.int .i64 (cmpL t.1 k))) S10 rfl (ex_fv (fs := #[]) (cs := #[]) (vs := #[(.agg #[(.slice xa35 t.1.length xc36), (.slice xa39 t.2.length xc40)]), (.slice a2 k.length c2)]) rfl (vmap (fs := #[]) (cs := #[]) (xs := #[(.agg #[(.slice xa35 t.1.length xc36), (.slice xa39 t.2.length xc40)]), (.slice a2 k.length c2)]) (map2 rfl rfl) (by simp)) (ent_135 _ _)) (findCmp_spec _ _ _ _ t k (S10).sat ⟨_, _, _, _, rfl, r37, r41⟩ hu) (fun w42 S43 => ?_)
      simp only [Act.put, List.setIfInBounds_toArray, List.set_cons_succ, List.set_cons_zero]
      have S43 : St w F w42 F [] [] := S43
      by_cases hc47 : (cmpL t.1 k) = (0 : Int)
      · refine do_ rfl (.bool true) (ex_eql (m := (cmpL t.1 k)) (n := (0 : Int)) (b := true) rfl rfl (beq_iff_eq.2 (by omega))) ?_
        simp only [Act.put, List.setIfInBounds_toArray, List.set_cons_succ, List.set_cons_zero]
        refine do_ rfl (.bool true) (ex_pick (b := true) rfl) ?_
        simp only [Act.put, List.setIfInBounds_toArray, List.set_cons_succ, List.set_cons_zero]
        refine do_ rfl (.int .i64 ((i : Nat) : Int)) (ex_assign _) ?_
        simp only [Act.put, List.setIfInBounds_toArray, List.set_cons_succ, List.set_cons_zero]
        refine do_ rfl (.bool true) (ex_assign _) ?_
        simp only [Act.put, List.setIfInBounds_toArray, List.set_cons_succ, List.set_cons_zero]
        refine wl_nil ?_
        (try simp only [Exit.then, Exit.inBlock, ↓reduceIte, Nat.reduceEqDiff])
        refine hK30 _ _ ?_
        refine wp_ret ?_
        (try simp only [Exit.then, Exit.inBlock, ↓reduceIte, Nat.reduceEqDiff])
        refine bodyPost_ret (v := (.tuple #[(.int .i64 ((i : Nat) : Int)), (.bool true)])) ?_ rfl ?_
        · exact res_tt rfl rfl rfl
        · have e2 := has_yes hr (by rw [hip2]; exact hp) hc47
          exact ⟨by rw [e2, hip2], S43.gr.below⟩
      · refine do_ rfl (.bool false) (ex_eql (m := (cmpL t.1 k)) (n := (0 : Int)) (b := false) rfl rfl (beq_eq_false_iff_ne.2 (by omega))) ?_
        simp only [Act.put, List.setIfInBounds_toArray, List.set_cons_succ, List.set_cons_zero]
        refine do_ rfl (.bool false) (ex_pick (b := true) rfl) ?_
        simp only [Act.put, List.setIfInBounds_toArray, List.set_cons_succ, List.set_cons_zero]
        refine do_ rfl (.int .i64 ((i : Nat) : Int)) (ex_assign _) ?_
        simp only [Act.put, List.setIfInBounds_toArray, List.set_cons_succ, List.set_cons_zero]
        refine do_ rfl (.bool false) (ex_assign _) ?_
        simp only [Act.put, List.setIfInBounds_toArray, List.set_cons_succ, List.set_cons_zero]
        refine wl_nil ?_
        (try simp only [Exit.then, Exit.inBlock, ↓reduceIte, Nat.reduceEqDiff])
        refine hK30 _ _ ?_
        refine wp_ret ?_
        (try simp only [Exit.then, Exit.inBlock, ↓reduceIte, Nat.reduceEqDiff])
        refine bodyPost_ret (v := (.tuple #[(.int .i64 ((i : Nat) : Int)), (.bool false)])) ?_ rfl ?_
        · exact res_tt rfl rfl rfl
        · have e2 := has_no hr (by rw [hip2]; exact hp) hc47
          exact ⟨by rw [e2, hip2], S43.gr.below⟩
    · refine region_wl ?_
      refine do_ rfl (.int .i64 ((i : Nat) : Int)) (ex_move _) ?_
      simp only [Act.put, List.setIfInBounds_toArray, List.set_cons_succ, List.set_cons_zero]
      refine do_ rfl (.int .i64 ((i : Nat) : Int)) (ex_move _) ?_
      simp only [Act.put, List.setIfInBounds_toArray, List.set_cons_succ, List.set_cons_zero]
      refine do_ rfl (.int .i64 ((l.length : Nat) : Int)) (ex_move _) ?_
      simp only [Act.put, List.setIfInBounds_toArray, List.set_cons_succ, List.set_cons_zero]
      refine do_ rfl (.bool false) (ex_lss (m := ((i : Nat) : Int)) (n := ((l.length : Nat) : Int)) (b := false) rfl rfl (decide_eq_false (by omega))) ?_
      simp only [Act.put, List.setIfInBounds_toArray, List.set_cons_succ, List.set_cons_zero]
      refine do_ rfl (.bool false) (ex_move _) ?_
      simp only [Act.put, List.setIfInBounds_toArray, List.set_cons_succ, List.set_cons_zero]
      refine doN (wanted_no rfl rfl rfl (c := false) rfl (by decide)) ?_
      simp only [Act.put, List.setIfInBounds_toArray, List.set_cons_succ, List.set_cons_zero]
      refine doN (wanted_no rfl rfl rfl (c := false) rfl (by decide)) ?_
      simp only [Act.put, List.setIfInBounds_toArray, List.set_cons_succ, List.set_cons_zero]
      refine doN (wanted_no rfl rfl rfl (c := false) rfl (by decide)) ?_
      simp only [Act.put, List.setIfInBounds_toArray, List.set_cons_succ, List.set_cons_zero]
      refine doN (wanted_no rfl rfl rfl (c := false) rfl (by decide)) ?_
      simp only [Act.put, List.setIfInBounds_toArray, List.set_cons_succ, List.set_cons_zero]
      refine doN (wanted_no rfl rfl rfl (c := false) rfl (by decide)) ?_
      simp only [Act.put, List.setIfInBounds_toArray, List.set_cons_succ, List.set_cons_zero]
      refine doN (wanted_no rfl rfl rfl (c := false) rfl (by decide)) ?_
      simp only [Act.put, List.setIfInBounds_toArray, List.set_cons_succ, List.set_cons_zero]
      refine doN (wanted_no rfl rfl rfl (c := false) rfl (by decide)) ?_
      simp only [Act.put, List.setIfInBounds_toArray, List.set_cons_succ, List.set_cons_zero]
      refine doN (wanted_no rfl rfl rfl (c := false) rfl (by decide)) ?_
      simp only [Act.put, List.setIfInBounds_toArray, List.set_cons_succ, List.set_cons_zero]
      refine do_ rfl (.bool false) (ex_pick (b := false) rfl) ?_
      simp only [Act.put, List.setIfInBounds_toArray, List.set_cons_succ, List.set_cons_zero]
      refine do_ rfl (.int .i64 ((i : Nat) : Int)) (ex_assign _) ?_
      simp only [Act.put, List.setIfInBounds_toArray, List.set_cons_succ, List.set_cons_zero]
      refine do_ rfl (.bool false) (ex_assign _) ?_
      simp only [Act.put, List.setIfInBounds_toArray, List.set_cons_succ, List.set_cons_zero]
      refine wl_nil ?_
      (try simp only [Exit.then, Exit.inBlock, ↓reduceIte, Nat.reduceEqDiff])
      refine hK30 _ _ ?_
      refine wp_ret ?_
      (try simp only [Exit.then, Exit.inBlock, ↓reduceIte, Nat.reduceEqDiff])
      refine bodyPost_ret (v := (.tuple #[(.int .i64 ((i : Nat) : Int)), (.bool false)])) ?_ rfl ?_
      · exact res_tt rfl rfl rfl
      · have e2 : hasT l k = false := has_end hr (by omega)
        exact ⟨by rw [e2, hip2], S10.gr.below⟩
set_option maxHeartbeats 8000000 in
theorem findT_spec (F : Fz) (w : World) (v u : Value) (l : Forest) (k : By) (hs : Sat w F) (hv : Tns F v l) (hu : Bs F u k) (hr : Rise l) (hl : l.length ≤ 1000000) :
    Calls Try.prog 124 #[v, u] w (Tells w (.tuple #[.int .i64 (posT l k : Nat), .bool (hasT l k)])) := by
  obtain ⟨a, c, rfl, hc1, hc2⟩ := Sl.shape hv
  obtain ⟨a2, c2, rfl, _⟩ := hu.shape
  have S := St.start hs
  go_enter Try.func124, Try.ntmps124
  refine wp_seq_k (fun K1 hK1 => ?_)
  refine region_wl ?_
  refine do_ rfl (.int .i64 0) (ex_assign _) ?_
  simp only [Act.put, List.setIfInBounds_toArray, List.set_cons_succ, List.set_cons_zero]
  refine do_ rfl (.bool false) (ex_assign _) ?_
  simp only [Act.put, List.setIfInBounds_toArray, List.set_cons_succ, List.set_cons_zero]
  refine wl_nil ?_
  (try simp only [Exit.then, Exit.inBlock, ↓reduceIte, Nat.reduceEqDiff])
  refine hK1 _ _ ?_
  refine wp_seq_k (fun K2 hK2 => ?_)
  refine region_wl ?_
  refine do_ rfl (.slice a l.length c) (ex_move _) ?_
  simp only [Act.put, List.setIfInBounds_toArray, List.set_cons_succ, List.set_cons_zero]
  refine do_ rfl (.slice a2 k.length c2) (ex_move _) ?_
  simp only [Act.put, List.setIfInBounds_toArray, List.set_cons_succ, List.set_cons_zero]
  refine stTells (v := (.tuple #[(.int .i64 (((posT l k) : Nat) : Int)), (.bool (hasT l k))])) S rfl (ex_fn (vs := #[(.slice a l.length c), (.slice a2 k.length c2), (.func (.func 135) #[] #[])]) (map3 rfl rfl rfl) rfl (ent_134 _ _)) (bsearchT_spec _ _ _ _ l k (S).sat hv hu hr hl) (fun w3 S4 => ?_)
  simp only [Act.put, List.setIfInBounds_toArray, List.set_cons_succ, List.set_cons_zero]
  have S4 : St w F w3 F [] [] := S4
  refine do_ rfl (.int .i64 (((posT l k) : Nat) : Int)) (ex_extract rfl rfl) ?_
  simp only [Act.put, List.setIfInBounds_toArray, List.set_cons_succ, List.set_cons_zero]
  refine do_ rfl (.bool (hasT l k)) (ex_extract rfl rfl) ?_
  simp only [Act.put, List.setIfInBounds_toArray, List.set_cons_succ, List.set_cons_zero]
  refine do_ rfl (.int .i64 (((posT l k) : Nat) : Int)) (ex_assign _) ?_
  simp only [Act.put, List.setIfInBounds_toArray, List.set_cons_succ, List.set_cons_zero]
  refine do_ rfl (.bool (hasT l k)) (ex_assign _) ?_
  simp only [Act.put, List.setIfInBounds_toArray, List.set_cons_succ, List.set_cons_zero]
  refine wl_nil ?_
  (try simp only [Exit.then, Exit.inBlock, ↓reduceIte, Nat.reduceEqDiff])
  refine hK2 _ _ ?_
  refine wp_ret ?_
  (try simp only [Exit.then, Exit.inBlock, ↓reduceIte, Nat.reduceEqDiff])
  refine bodyPost_ret (v := (.tuple #[(.int .i64 (((posT l k) : Nat) : Int)), (.bool (hasT l k))])) ?_ rfl ?_
  · exact res_tt rfl rfl rfl
  · exact ⟨rfl, S4.gr.below⟩
/-- The tree of a name, where it is found. -/
theorem treeF_has {l : Forest} (hr : Rise l) {k : By} {t : By × List Pr} (h : hasT l k = true) (hp : l[posT l k]? = some t) : treeF l k = t.2 := by
  obtain ⟨hh, rfl⟩ := List.getElem?_eq_some_iff.1 hp
  obtain ⟨_, h2⟩ := (hasBy_at hr).1 h
  have := mem_getT hr (List.getElem_mem hh)
  rw [show l[posT l k].1 = k from h2] at this
  unfold treeF
  rw [this]
  rfl
theorem treeF_not {l : Forest} {k : By} (h : hasT l k = false) : treeF l k = [] := by
  unfold treeF
  rw [get_not (by rw [h]; simp)]
  rfl
theorem hasF_pos {l : Forest} (hr : Rise l) {k : By} (h : hasT l k = true) : posT l k < l.length := ((hasBy_at hr).1 h).1
set_option maxHeartbeats 8000000 in
theorem pairsT_spec (F : Fz) (w : World) (v u : Value) (l : Forest) (k : By) (hs : Sat w F) (hv : Tns F v l) (hu : Bs F u k) (hr : Rise l) (hl : l.length ≤ 1000000) :
    Calls Try.prog 97 #[v, u] w fun e w' => ∃ x, e = .returned x ∧ Below w.heap.size w w' ∧ Prs F x (treeF l k) := by
  obtain ⟨a, c, rfl, hc1, hc2⟩ := Sl.shape hv
  obtain ⟨a2, c2, rfl, _⟩ := hu.shape
  unfold maxLen at hc2
  have S := St.start hs
  go_enter Try.func97, Try.ntmps97
  refine wp_seq_k (fun K1 hK1 => ?_)
  refine region_wl ?_
  refine do_ rfl (.slice none 0 0) (ex_assign _) ?_
  simp only [Act.put, List.setIfInBounds_toArray, List.set_cons_succ, List.set_cons_zero]
  refine wl_nil ?_
  (try simp only [Exit.then, Exit.inBlock, ↓reduceIte, Nat.reduceEqDiff])
  refine hK1 _ _ ?_
  refine wp_seq_k (fun K2 hK2 => ?_)
  refine wp_seq_k (fun K3 hK3 => ?_)
  refine region_wl ?_
  refine do_ rfl (.slice a l.length c) (ex_move _) ?_
  simp only [Act.put, List.setIfInBounds_toArray, List.set_cons_succ, List.set_cons_zero]
  refine do_ rfl (.slice a2 k.length c2) (ex_move _) ?_
  simp only [Act.put, List.setIfInBounds_toArray, List.set_cons_succ, List.set_cons_zero]
  refine stTells (v := (.tuple #[(.int .i64 (((posT l k) : Nat) : Int)), (.bool (hasT l k))])) S rfl (ex_fn (vs := #[(.slice a l.length c), (.slice a2 k.length c2)]) (map2 rfl rfl) rfl (ent_124 _ _)) (findT_spec _ _ _ _ l k (S).sat hv hu hr hl) (fun w4 S5 => ?_)
  simp only [Act.put, List.setIfInBounds_toArray, List.set_cons_succ, List.set_cons_zero]
  have S5 : St w F w4 F [] [] := S5
  refine do_ rfl (.tuple #[(.int .i64 (((posT l k) : Nat) : Int)), (.bool (hasT l k))]) (ex_move _) ?_
  simp only [Act.put, List.setIfInBounds_toArray, List.set_cons_succ, List.set_cons_zero]
  refine do_ rfl (.int .i64 (((posT l k) : Nat) : Int)) (ex_extract rfl rfl) ?_
  simp only [Act.put, List.setIfInBounds_toArray, List.set_cons_succ, List.set_cons_zero]
  refine do_ rfl (.bool (hasT l k)) (ex_extract rfl rfl) ?_
  simp only [Act.put, List.setIfInBounds_toArray, List.set_cons_succ, List.set_cons_zero]
  refine do_ rfl (.int .i64 (((posT l k) : Nat) : Int)) (ex_assign _) ?_
  simp only [Act.put, List.setIfInBounds_toArray, List.set_cons_succ, List.set_cons_zero]
  refine do_ rfl (.bool (hasT l k)) (ex_assign _) ?_
  simp only [Act.put, List.setIfInBounds_toArray, List.set_cons_succ, List.set_cons_zero]
  refine wl_nil ?_
  (try simp only [Exit.then, Exit.inBlock, ↓reduceIte, Nat.reduceEqDiff])
  refine hK3 _ _ ?_
  refine wp_seq_k (fun K6 hK6 => ?_)
  refine region_wl ?_
  refine do_ rfl (.bool (hasT l k)) (ex_move _) ?_
  simp only [Act.put, List.setIfInBounds_toArray, List.set_cons_succ, List.set_cons_zero]
  refine wl_nil ?_
  (try simp only [Exit.then, Exit.inBlock, ↓reduceIte, Nat.reduceEqDiff])
  refine hK6 _ _ ?_
  refine wp_cond_split rfl (fun hc7 => ?_) (fun hc7 => ?_)
  · refine wp_seq_k (fun K8 hK8 => ?_)
    have hpos := hasF_pos hr hc7
    obtain ⟨t, hp⟩ : ∃ t, l[posT l k]? = some t := ⟨l[posT l k], List.getElem?_eq_getElem hpos⟩
    obtain ⟨b9, o10, ha11, xa13, xc14, xa17, xc18, c12, c16, r15, r19⟩ := Tns.get hv hp
    refine region_wl ?_
    refine do_ rfl (.slice a l.length c) (ex_move _) ?_
    simp only [Act.put, List.setIfInBounds_toArray, List.set_cons_succ, List.set_cons_zero]
    refine do_ rfl (.int .i64 (((posT l k) : Nat) : Int)) (ex_move _) ?_
    simp only [Act.put, List.setIfInBounds_toArray, List.set_cons_succ, List.set_cons_zero]
    refine do_ rfl (.pointer (some ⟨b9, o10 + (posT l k) * 2, none⟩)) (ex_at (i := (posT l k)) (sz := 2) Try.underlying73 (sizeof_83 _) rfl ha11 rfl (hpos) rfl) ?_
    simp only [Act.put, List.setIfInBounds_toArray, List.set_cons_succ, List.set_cons_zero]
    refine do_ rfl (.pointer (some ⟨b9, o10 + (posT l k) * 2 + 1, none⟩)) (ex_field (q := ⟨b9, o10 + (posT l k) * 2 + 1, none⟩) rfl (fa_83_1 _ _)) ?_
    simp only [Act.put, List.setIfInBounds_toArray, List.set_cons_succ, List.set_cons_zero]
    refine do_ rfl (.slice xa17 t.2.length xc18) (ex_load rfl (load1 (nagg_44 _) (St.fz S5 c16))) ?_
    simp only [Act.put, List.setIfInBounds_toArray, List.set_cons_succ, List.set_cons_zero]
    refine do_ rfl (.slice xa17 t.2.length xc18) (ex_assign _) ?_
    simp only [Act.put, List.setIfInBounds_toArray, List.set_cons_succ, List.set_cons_zero]
    refine wl_nil ?_
    (try simp only [Exit.then, Exit.inBlock, ↓reduceIte, Nat.reduceEqDiff])
    refine hK8 _ _ ?_
    refine wp_ret ?_
    (try simp only [Exit.then, Exit.inBlock, ↓reduceIte, Nat.reduceEqDiff])
    refine bodyPost_ret (v := (.slice xa17 t.2.length xc18)) ?_ rfl ?_
    · exact res_t rfl rfl
    · exact ⟨_, rfl, S5.gr.below, by rw [treeF_has hr hc7 hp]; exact r19⟩
  · refine wp_skip ?_
    (try simp only [Exit.then, Exit.inBlock, ↓reduceIte, Nat.reduceEqDiff])
    refine hK2 _ _ ?_
    refine wp_seq_k (fun K20 hK20 => ?_)
    refine region_wl ?_
    refine do_ rfl (.slice none 0 0) (ex_assign _) ?_
    simp only [Act.put, List.setIfInBounds_toArray, List.set_cons_succ, List.set_cons_zero]
    refine wl_nil ?_
    (try simp only [Exit.then, Exit.inBlock, ↓reduceIte, Nat.reduceEqDiff])
    refine hK20 _ _ ?_
    refine wp_ret ?_
    (try simp only [Exit.then, Exit.inBlock, ↓reduceIte, Nat.reduceEqDiff])
    refine bodyPost_ret (v := (.slice none 0 0)) ?_ rfl ?_
    · exact res_t rfl rfl
    · exact ⟨_, rfl, S5.gr.below, by rw [treeF_not hc7]; exact Sl.nil _ _ _⟩
set_option maxHeartbeats 8000000 in
theorem forestCheck_spec (F : Fz) (w : World) (v : Value) (l : Forest) (hs : Sat w F) (hv : Tns F v l) :
    Calls Try.prog 61 #[v] w (Tells w (.int .i64 (forestE l))) := by
  obtain ⟨a, c, rfl, hc1, hc2⟩ := Sl.shape hv
  unfold maxLen at hc2
  have S := St.start hs
  go_enter Try.func61, Try.ntmps61
  refine wp_seq_k (fun K1 hK1 => ?_)
  refine region_wl ?_
  refine do_ rfl (.int .i64 0) (ex_assign _) ?_
  simp only [Act.put, List.setIfInBounds_toArray, List.set_cons_succ, List.set_cons_zero]
  refine wl_nil ?_
  (try simp only [Exit.then, Exit.inBlock, ↓reduceIte, Nat.reduceEqDiff])
  refine hK1 _ _ ?_
  refine wp_seq_k (fun K2 hK2 => ?_)
  refine wp_seq_k (fun K3 hK3 => ?_)
  refine region_wl ?_
  refine do_ rfl (.slice a l.length c) (ex_move _) ?_
  simp only [Act.put, List.setIfInBounds_toArray, List.set_cons_succ, List.set_cons_zero]
  refine do_ rfl (.int .i64 ((l.length : Nat) : Int)) (ex_len Try.underlying73 rfl) ?_
  simp only [Act.put, List.setIfInBounds_toArray, List.set_cons_succ, List.set_cons_zero]
  by_cases hc9 : 8 < l.length
  · refine do_ rfl (.bool true) (ex_gtr (m := ((l.length : Nat) : Int)) (n := (8 : Int)) (b := true) rfl rfl (decide_eq_true (by omega))) ?_
    simp only [Act.put, List.setIfInBounds_toArray, List.set_cons_succ, List.set_cons_zero]
    refine wl_nil ?_
    (try simp only [Exit.then, Exit.inBlock, ↓reduceIte, Nat.reduceEqDiff])
    refine hK3 _ _ ?_
    refine wp_cond_true rfl ?_
    refine wp_seq_k (fun K4 hK4 => ?_)
    refine region_wl ?_
    refine do_ rfl (.int .i64 1) (ex_assign _) ?_
    simp only [Act.put, List.setIfInBounds_toArray, List.set_cons_succ, List.set_cons_zero]
    refine wl_nil ?_
    (try simp only [Exit.then, Exit.inBlock, ↓reduceIte, Nat.reduceEqDiff])
    refine hK4 _ _ ?_
    refine wp_ret ?_
    (try simp only [Exit.then, Exit.inBlock, ↓reduceIte, Nat.reduceEqDiff])
    refine bodyPost_ret (v := (.int .i64 1)) ?_ rfl ?_
    · exact res_t rfl rfl
    · exact ⟨by unfold forestE; rw [if_pos (by omega)], S.gr.below⟩
  · refine do_ rfl (.bool false) (ex_gtr (m := ((l.length : Nat) : Int)) (n := (8 : Int)) (b := false) rfl rfl (decide_eq_false (by omega))) ?_
    simp only [Act.put, List.setIfInBounds_toArray, List.set_cons_succ, List.set_cons_zero]
    refine wl_nil ?_
    (try simp only [Exit.then, Exit.inBlock, ↓reduceIte, Nat.reduceEqDiff])
    refine hK3 _ _ ?_
    refine wp_cond_false rfl ?_
    refine wp_skip ?_
    (try simp only [Exit.then, Exit.inBlock, ↓reduceIte, Nat.reduceEqDiff])
    refine hK2 _ _ ?_
    refine wp_seq_k (fun K5 hK5 => ?_)
    refine wp_seq_k (fun K6 hK6 => ?_)
    refine region_wl ?_
    refine do_ rfl (.slice a l.length c) (ex_move _) ?_
    simp only [Act.put, List.setIfInBounds_toArray, List.set_cons_succ, List.set_cons_zero]
    refine do_ rfl (.int .i64 ((l.length : Nat) : Int)) (ex_len Try.underlying73 rfl) ?_
    simp only [Act.put, List.setIfInBounds_toArray, List.set_cons_succ, List.set_cons_zero]
    refine do_ rfl (.int .i64 0) (ex_move _) ?_
    simp only [Act.put, List.setIfInBounds_toArray, List.set_cons_succ, List.set_cons_zero]
    refine wl_nil ?_
    (try simp only [Exit.then, Exit.inBlock, ↓reduceIte, Nat.reduceEqDiff])
    refine hK6 _ _ ?_
    refine wp_block ?_
    refine wp_loop_g (fun mm aa w8 => ∃ (k : Nat) (u7 : Nat → Value), mm = l.length - k ∧ aa = ⟨#[(.slice a l.length c), undef, (u7 2), (u7 3), (u7 4), (u7 5), (u7 6), (.slice a l.length c), (.int .i64 ((l.length : Nat) : Int)), (.bool false), (.slice a l.length c), (.int .i64 ((l.length : Nat) : Int)), (.int .i64 ((k : Nat) : Int)), (u7 13), (u7 14), (u7 15), (u7 16), (u7 17), (u7 18), (u7 19), (u7 20), (u7 21), (u7 22), (u7 23), (u7 24), (u7 25), (u7 26), (u7 27), (u7 28), (u7 29), (u7 30), (u7 31), (u7 32), (u7 33), (u7 34), (u7 35), (u7 36), (u7 37), (u7 38), (u7 39), (u7 40), (u7 41), (u7 42), (u7 43), (u7 44), (u7 45), (u7 46), (u7 47)], []⟩ ∧ St w F w8 F [] [] ∧ (k ≤ l.length) ∧ (forestAt l l.length 0 = forestAt l (l.length - k) k)) _ ⟨0, (slotF [(.slice a l.length c), undef, (.int .i64 0), undef, undef, undef, undef, (.slice a l.length c), (.int .i64 ((l.length : Nat) : Int)), (.bool false), (.slice a l.length c), (.int .i64 ((l.length : Nat) : Int)), (.int .i64 0), undef, undef, undef, undef, undef, undef, undef, undef, undef, undef, undef, undef, undef, undef, undef, undef, undef, undef, undef, undef, undef, undef, undef, undef, undef, undef, undef, undef, undef, undef, undef, undef, undef, undef, undef]), rfl, rfl, S, (by omega), rfl⟩ ?_
    rintro m9 a10 w11 ⟨k, u7, rfl, rfl, S12, hk, hT⟩ K14 hK14
    refine wp_seq_k (fun K15 hK15 => ?_)
    refine region_wl ?_
    by_cases hc13 : k < l.length
    · refine do_ rfl (.bool true) (ex_lss (m := ((k : Nat) : Int)) (n := ((l.length : Nat) : Int)) (b := true) rfl rfl (decide_eq_true (by omega))) ?_
      simp only [Act.put, List.setIfInBounds_toArray, List.set_cons_succ, List.set_cons_zero]
      refine wl_nil ?_
      (try simp only [Exit.then, Exit.inBlock, ↓reduceIte, Nat.reduceEqDiff])
      refine hK15 _ _ ?_
      refine wp_seq_k (fun K16 hK16 => ?_)
      refine wp_cond_true rfl ?_
      refine wp_skip ?_
      (try simp only [Exit.then, Exit.inBlock, ↓reduceIte, Nat.reduceEqDiff])
      refine hK16 _ _ ?_
      refine wp_seq_k (fun K17 hK17 => ?_)
      refine wp_block ?_
      refine wp_seq_k (fun K18 hK18 => ?_)
      obtain ⟨t, hp⟩ : ∃ t, l[k]? = some t := ⟨l[k], List.getElem?_eq_getElem hc13⟩
      obtain ⟨b19, o20, ha21, xa23, xc24, xa27, xc28, c22, c26, r25, r29⟩ := Tns.get hv hp
      refine region_wl ?_
      refine do_ rfl (.int .i64 ((k : Nat) : Int)) (ex_move _) ?_
      simp only [Act.put, List.setIfInBounds_toArray, List.set_cons_succ, List.set_cons_zero]
      refine do_ rfl (.pointer (some ⟨b19, o20 + k * 2, none⟩)) (ex_at (i := k) (sz := 2) Try.underlying73 (sizeof_83 _) rfl ha21 rfl (by omega) rfl) ?_
      simp only [Act.put, List.setIfInBounds_toArray, List.set_cons_succ, List.set_cons_zero]
      refine do_ rfl (.agg #[(.slice xa23 t.1.length xc24), (.slice xa27 t.2.length xc28)]) (ex_load rfl (loadN (cs := [(.slice xa23 t.1.length xc24), (.slice xa27 t.2.length xc28)]) Try.underlying83 rfl (size_83) (range2 (St.fz S12 c22) (St.fz S12 c26)))) ?_
      simp only [Act.put, List.setIfInBounds_toArray, List.set_cons_succ, List.set_cons_zero]
      refine stNew S12 (v := fun n => .pointer (some ⟨n, 0, none⟩)) rfl (ex_alloc (zero_83 _)) (fun n30 w31 S32 => ?_)
      simp only [Act.put, List.setIfInBounds_toArray, List.set_cons_succ, List.set_cons_zero]
      have S32 : St w F w31 F [⟨n30, [(.slice none 0 0), (.slice none 0 0)], 83⟩] [] := S32
      refine do_ rfl (.int .i64 ((k : Nat) : Int)) (ex_assign _) ?_
      simp only [Act.put, List.setIfInBounds_toArray, List.set_cons_succ, List.set_cons_zero]
      refine stStore (i := 0) (v := (.agg #[(.slice xa23 t.1.length xc24), (.slice xa27 t.2.length xc28)])) S32 rfl rfl rfl rfl (size_83) (allc2 rfl rfl) (Nat.le_of_ble_eq_true rfl) (fun w33 S34 => ?_)
      simp only [Act.put, List.setIfInBounds_toArray, List.set_cons_succ, List.set_cons_zero]
      have S34 : St w F w33 F [⟨n30, [(.slice xa23 t.1.length xc24), (.slice xa27 t.2.length xc28)], 83⟩] [] := S34
      refine wl_nil ?_
      (try simp only [Exit.then, Exit.inBlock, ↓reduceIte, Nat.reduceEqDiff])
      refine hK18 _ _ ?_
      refine wp_seq_k (fun K35 hK35 => ?_)
      refine wp_seq_k (fun K36 hK36 => ?_)
      refine region_wl ?_
      refine do_ rfl (.pointer (some ⟨n30, 0, none⟩)) (ex_field (q := ⟨n30, 0, none⟩) rfl (fa_83_0 _ _)) ?_
      simp only [Act.put, List.setIfInBounds_toArray, List.set_cons_succ, List.set_cons_zero]
      refine do_ rfl (.slice xa23 t.1.length xc24) (ex_load rfl (load1 (nagg_27 _) (St.cell S34 (i := 0) rfl rfl))) ?_
      simp only [Act.put, List.setIfInBounds_toArray, List.set_cons_succ, List.set_cons_zero]
      refine stTells (v := (.int .i64 (nameN t.1.length))) S34 rfl (ex_fn (vs := #[(.slice xa23 t.1.length xc24)]) (map1 rfl) rfl (ent_94 _ _)) (tells_same (name_len _ _ _ _)) (fun w37 S38 => ?_)
      simp only [Act.put, List.setIfInBounds_toArray, List.set_cons_succ, List.set_cons_zero]
      have S38 : St w F w37 F [⟨n30, [(.slice xa23 t.1.length xc24), (.slice xa27 t.2.length xc28)], 83⟩] [] := S38
      refine do_ rfl (.int .i64 (nameN t.1.length)) (ex_assign _) ?_
      simp only [Act.put, List.setIfInBounds_toArray, List.set_cons_succ, List.set_cons_zero]
      refine wl_nil ?_
      (try simp only [Exit.then, Exit.inBlock, ↓reduceIte, Nat.reduceEqDiff])
      refine hK36 _ _ ?_
      refine wp_seq_k (fun K39 hK39 => ?_)
      refine region_wl ?_
      refine do_ rfl (.int .i64 (nameN t.1.length)) (ex_move _) ?_
      simp only [Act.put, List.setIfInBounds_toArray, List.set_cons_succ, List.set_cons_zero]
      by_cases hc21 : (nameN t.1.length) = (0 : Int)
      · refine do_ rfl (.bool false) (ex_neq (m := (nameN t.1.length)) (n := (0 : Int)) (b := false) rfl rfl (bne_eq_false_iff_eq.2 (by omega))) ?_
        simp only [Act.put, List.setIfInBounds_toArray, List.set_cons_succ, List.set_cons_zero]
        refine wl_nil ?_
        (try simp only [Exit.then, Exit.inBlock, ↓reduceIte, Nat.reduceEqDiff])
        refine hK39 _ _ ?_
        refine wp_cond_false rfl ?_
        refine wp_skip ?_
        (try simp only [Exit.then, Exit.inBlock, ↓reduceIte, Nat.reduceEqDiff])
        refine hK35 _ _ ?_
        refine wp_seq_k (fun K40 hK40 => ?_)
        refine wp_seq_k (fun K41 hK41 => ?_)
        refine region_wl ?_
        refine do_ rfl (.pointer (some ⟨n30, 1, none⟩)) (ex_field (q := ⟨n30, 1, none⟩) rfl (fa_83_1 _ _)) ?_
        simp only [Act.put, List.setIfInBounds_toArray, List.set_cons_succ, List.set_cons_zero]
        refine do_ rfl (.slice xa27 t.2.length xc28) (ex_load rfl (load1 (nagg_44 _) (St.cell S38 (i := 0) rfl rfl))) ?_
        simp only [Act.put, List.setIfInBounds_toArray, List.set_cons_succ, List.set_cons_zero]
        refine do_ rfl (.int .i64 ((t.2.length : Nat) : Int)) (ex_len Try.underlying44 rfl) ?_
        simp only [Act.put, List.setIfInBounds_toArray, List.set_cons_succ, List.set_cons_zero]
        by_cases hc26 : t.2.length = 0
        · refine do_ rfl (.bool true) (ex_eql (m := ((t.2.length : Nat) : Int)) (n := (0 : Int)) (b := true) rfl rfl (beq_iff_eq.2 (by omega))) ?_
          simp only [Act.put, List.setIfInBounds_toArray, List.set_cons_succ, List.set_cons_zero]
          refine wl_nil ?_
          (try simp only [Exit.then, Exit.inBlock, ↓reduceIte, Nat.reduceEqDiff])
          refine hK41 _ _ ?_
          refine wp_cond_true rfl ?_
          refine wp_seq_k (fun K42 hK42 => ?_)
          refine region_wl ?_
          refine do_ rfl (.int .i64 4) (ex_assign _) ?_
          simp only [Act.put, List.setIfInBounds_toArray, List.set_cons_succ, List.set_cons_zero]
          refine wl_nil ?_
          (try simp only [Exit.then, Exit.inBlock, ↓reduceIte, Nat.reduceEqDiff])
          refine hK42 _ _ ?_
          refine wp_ret ?_
          (try simp only [Exit.then, Exit.inBlock, ↓reduceIte, Nat.reduceEqDiff])
          refine bodyPost_ret (v := (.int .i64 4)) ?_ rfl ?_
          · exact res_t rfl rfl
          · exact ⟨by unfold forestE; rw [if_neg (by omega), hT, forestAt_at hp, if_neg (by omega), if_pos (by omega)], S38.gr.below⟩
        · refine do_ rfl (.bool false) (ex_eql (m := ((t.2.length : Nat) : Int)) (n := (0 : Int)) (b := false) rfl rfl (beq_eq_false_iff_ne.2 (by omega))) ?_
          simp only [Act.put, List.setIfInBounds_toArray, List.set_cons_succ, List.set_cons_zero]
          refine wl_nil ?_
          (try simp only [Exit.then, Exit.inBlock, ↓reduceIte, Nat.reduceEqDiff])
          refine hK41 _ _ ?_
          refine wp_cond_false rfl ?_
          refine wp_skip ?_
          (try simp only [Exit.then, Exit.inBlock, ↓reduceIte, Nat.reduceEqDiff])
          refine hK40 _ _ ?_
          refine wp_seq_k (fun K43 hK43 => ?_)
          refine wp_seq_k (fun K44 hK44 => ?_)
          refine region_wl ?_
          refine do_ rfl (.pointer (some ⟨n30, 1, none⟩)) (ex_field (q := ⟨n30, 1, none⟩) rfl (fa_83_1 _ _)) ?_
          simp only [Act.put, List.setIfInBounds_toArray, List.set_cons_succ, List.set_cons_zero]
          refine do_ rfl (.slice xa27 t.2.length xc28) (ex_load rfl (load1 (nagg_44 _) (St.cell S38 (i := 0) rfl rfl))) ?_
          simp only [Act.put, List.setIfInBounds_toArray, List.set_cons_succ, List.set_cons_zero]
          refine stTells (v := (.int .i64 (treeE t.2))) S38 rfl (ex_fn (vs := #[(.slice xa27 t.2.length xc28)]) (map1 rfl) rfl (ent_54 _ _)) (treeCheck_spec _ _ _ t.2 (S38).sat r29) (fun w45 S46 => ?_)
          simp only [Act.put, List.setIfInBounds_toArray, List.set_cons_succ, List.set_cons_zero]
          have S46 : St w F w45 F [⟨n30, [(.slice xa23 t.1.length xc24), (.slice xa27 t.2.length xc28)], 83⟩] [] := S46
          refine do_ rfl (.int .i64 (treeE t.2)) (ex_assign _) ?_
          simp only [Act.put, List.setIfInBounds_toArray, List.set_cons_succ, List.set_cons_zero]
          refine wl_nil ?_
          (try simp only [Exit.then, Exit.inBlock, ↓reduceIte, Nat.reduceEqDiff])
          refine hK44 _ _ ?_
          refine wp_seq_k (fun K47 hK47 => ?_)
          refine region_wl ?_
          refine do_ rfl (.int .i64 (treeE t.2)) (ex_move _) ?_
          simp only [Act.put, List.setIfInBounds_toArray, List.set_cons_succ, List.set_cons_zero]
          by_cases hc31 : (treeE t.2) = (0 : Int)
          · refine do_ rfl (.bool false) (ex_neq (m := (treeE t.2)) (n := (0 : Int)) (b := false) rfl rfl (bne_eq_false_iff_eq.2 (by omega))) ?_
            simp only [Act.put, List.setIfInBounds_toArray, List.set_cons_succ, List.set_cons_zero]
            refine wl_nil ?_
            (try simp only [Exit.then, Exit.inBlock, ↓reduceIte, Nat.reduceEqDiff])
            refine hK47 _ _ ?_
            refine wp_cond_false rfl ?_
            refine wp_skip ?_
            (try simp only [Exit.then, Exit.inBlock, ↓reduceIte, Nat.reduceEqDiff])
            refine hK43 _ _ ?_
            refine wp_seq_k (fun K48 hK48 => ?_)
            by_cases h0 : 0 < k
            · obtain ⟨q, hq⟩ : ∃ q, l[k - 1]? = some q := ⟨l[k - 1], List.getElem?_eq_getElem (by omega)⟩
              have hqd : l.getD (k - 1) ([], []) = q := by rw [List.getD_eq_getElem?_getD, hq]; rfl
              obtain ⟨b49, o50, ha51, xa53, xc54, xa57, xc58, c52, c56, r55, r59⟩ := Tns.get hv hq
              refine region_gw F 11 [] (by kernel_rfl) (by kernel_rfl) ?_
              simp only [List.take_succ_cons, List.take_zero]
              refine gw_pure rfl rfl (.int .i64 ((k : Nat) : Int)) (fun w60 hCw60 => pureAt_of (ex_move _)) ?_
              simp only [Act.put, List.setIfInBounds_toArray, List.set_cons_succ, List.set_cons_zero]
              refine gw_pure rfl rfl (.bool true) (fun w60 hCw60 => pureAt_of (ex_gtr (m := ((k : Nat) : Int)) (n := (0 : Int)) (b := true) rfl rfl (decide_eq_true (by omega)))) ?_
              simp only [Act.put, List.setIfInBounds_toArray, List.set_cons_succ, List.set_cons_zero]
              refine gw_pure rfl rfl (.bool true) (fun w60 hCw60 => pureAt_of (ex_move _)) ?_
              simp only [Act.put, List.setIfInBounds_toArray, List.set_cons_succ, List.set_cons_zero]
              refine gw_pure rfl rfl (.slice a l.length c) (fun w60 hCw60 => pureAt_of (ex_move _)) ?_
              simp only [Act.put, List.setIfInBounds_toArray, List.set_cons_succ, List.set_cons_zero]
              refine gw_pure rfl rfl (.int .i64 ((k : Nat) : Int)) (fun w60 hCw60 => pureAt_of (ex_move _)) ?_
              simp only [Act.put, List.setIfInBounds_toArray, List.set_cons_succ, List.set_cons_zero]
              refine gw_pure rfl rfl (.int .i64 (((k - 1) : Nat) : Int)) (fun w60 hCw60 => pureAt_of (ex_sub (m := ((k : Nat) : Int)) (n := (1 : Int)) (r := (((k - 1) : Nat) : Int)) rfl rfl (by omega) (by omega) (by omega))) ?_
              simp only [Act.put, List.setIfInBounds_toArray, List.set_cons_succ, List.set_cons_zero]
              refine gw_pure rfl rfl (.pointer (some ⟨b49, o50 + (k - 1) * 2, none⟩)) (fun w60 hCw60 => pureAt_of (ex_at (i := (k - 1)) (sz := 2) Try.underlying73 (sizeof_83 _) rfl ha51 rfl (by omega) rfl)) ?_
              simp only [Act.put, List.setIfInBounds_toArray, List.set_cons_succ, List.set_cons_zero]
              refine gw_pure rfl rfl (.pointer (some ⟨b49, o50 + (k - 1) * 2, none⟩)) (fun w60 hCw60 => pureAt_of (ex_field (q := ⟨b49, o50 + (k - 1) * 2, none⟩) rfl (fa_83_0 _ _))) ?_
              simp only [Act.put, List.setIfInBounds_toArray, List.set_cons_succ, List.set_cons_zero]
              refine gw_pure rfl rfl (.slice xa53 q.1.length xc54) (fun w60 hCw60 => pureAt_of (ex_load rfl (load1 (nagg_27 _) (St.fz (St.tells S46 hCw60) c52)))) ?_
              simp only [Act.put, List.setIfInBounds_toArray, List.set_cons_succ, List.set_cons_zero]
              refine gw_pure rfl rfl (.pointer (some ⟨n30, 0, none⟩)) (fun w60 hCw60 => pureAt_of (ex_field (q := ⟨n30, 0, none⟩) rfl (fa_83_0 _ _))) ?_
              simp only [Act.put, List.setIfInBounds_toArray, List.set_cons_succ, List.set_cons_zero]
              refine gw_pure rfl rfl (.slice xa23 t.1.length xc24) (fun w60 hCw60 => pureAt_of (ex_load rfl (load1 (nagg_27 _) (St.cell (St.tells S46 hCw60) (i := 0) rfl rfl)))) ?_
              simp only [Act.put, List.setIfInBounds_toArray, List.set_cons_succ, List.set_cons_zero]
              refine gw_nil ?_
              intro w61 hC63 hF64
              clear hF64
              have S62 := St.tells S46 hC63
              simp only [List.drop_succ_cons, List.drop_zero]
              have S62 : St w F w61 F [⟨n30, [(.slice xa23 t.1.length xc24), (.slice xa27 t.2.length xc28)], 83⟩] [] := S62
              refine stTells (v := (.int .i64 (cmpL q.1 t.1))) S62 rfl (ex_fn (vs := #[(.slice xa53 q.1.length xc54), (.slice xa23 t.1.length xc24)]) (map2 rfl rfl) rfl (ent_95 _ _)) (bytesCompare_spec _ _ _ _ q.1 t.1 (S62).sat r55 r25) (fun w65 S66 => ?_)
              simp only [Act.put, List.setIfInBounds_toArray, List.set_cons_succ, List.set_cons_zero]
              have S66 : St w F w65 F [⟨n30, [(.slice xa23 t.1.length xc24), (.slice xa27 t.2.length xc28)], 83⟩] [] := S66
              by_cases hc45 : (0 : Int) ≤ (cmpL q.1 t.1)
              · refine do_ rfl (.bool true) (ex_geq (m := (cmpL q.1 t.1)) (n := (0 : Int)) (b := true) rfl rfl (decide_eq_true (by omega))) ?_
                simp only [Act.put, List.setIfInBounds_toArray, List.set_cons_succ, List.set_cons_zero]
                refine do_ rfl (.bool true) (ex_pick (b := true) rfl) ?_
                simp only [Act.put, List.setIfInBounds_toArray, List.set_cons_succ, List.set_cons_zero]
                refine wl_nil ?_
                (try simp only [Exit.then, Exit.inBlock, ↓reduceIte, Nat.reduceEqDiff])
                refine hK48 _ _ ?_
                refine wp_cond_true rfl ?_
                refine wp_seq_k (fun K67 hK67 => ?_)
                refine region_wl ?_
                refine do_ rfl (.int .i64 3) (ex_assign _) ?_
                simp only [Act.put, List.setIfInBounds_toArray, List.set_cons_succ, List.set_cons_zero]
                refine wl_nil ?_
                (try simp only [Exit.then, Exit.inBlock, ↓reduceIte, Nat.reduceEqDiff])
                refine hK67 _ _ ?_
                refine wp_ret ?_
                (try simp only [Exit.then, Exit.inBlock, ↓reduceIte, Nat.reduceEqDiff])
                refine bodyPost_ret (v := (.int .i64 3)) ?_ rfl ?_
                · exact res_t rfl rfl
                · exact ⟨by unfold forestE; rw [if_neg (by omega), hT, forestAt_at hp, if_neg (by omega), if_neg (by omega), if_neg (by omega), if_pos ⟨h0, by rw [hqd]; exact hc45⟩], S66.gr.below⟩
              · refine do_ rfl (.bool false) (ex_geq (m := (cmpL q.1 t.1)) (n := (0 : Int)) (b := false) rfl rfl (decide_eq_false (by omega))) ?_
                simp only [Act.put, List.setIfInBounds_toArray, List.set_cons_succ, List.set_cons_zero]
                refine do_ rfl (.bool false) (ex_pick (b := true) rfl) ?_
                simp only [Act.put, List.setIfInBounds_toArray, List.set_cons_succ, List.set_cons_zero]
                refine wl_nil ?_
                (try simp only [Exit.then, Exit.inBlock, ↓reduceIte, Nat.reduceEqDiff])
                refine hK48 _ _ ?_
                refine wp_cond_false rfl ?_
                refine wp_skip ?_
                (try simp only [Exit.then, Exit.inBlock, ↓reduceIte, Nat.reduceEqDiff])
                refine hK17 _ _ ?_
                refine region_wl ?_
                refine do_ rfl (.int .i64 (((k + 1) : Nat) : Int)) (ex_add (m := ((k : Nat) : Int)) (n := (1 : Int)) (r := (((k + 1) : Nat) : Int)) rfl rfl (by omega) (by omega) (by omega)) ?_
                simp only [Act.put, List.setIfInBounds_toArray, List.set_cons_succ, List.set_cons_zero]
                refine do_ rfl (.int .i64 (((k + 1) : Nat) : Int)) (ex_move _) ?_
                simp only [Act.put, List.setIfInBounds_toArray, List.set_cons_succ, List.set_cons_zero]
                refine wl_nil ?_
                (try simp only [Exit.then, Exit.inBlock, ↓reduceIte, Nat.reduceEqDiff])
                have S66 := St.drop S66 (L' := []) (.cons _ (List.Sublist.refl _))
                exact hK14 _ _ _ (by omega) ⟨(k + 1), (slotF [(.slice a l.length c), undef, (u7 2), (.int .i64 ((k : Nat) : Int)), (.pointer (some ⟨n30, 0, none⟩)), (.int .i64 (nameN t.1.length)), (.int .i64 (treeE t.2)), (.slice a l.length c), (.int .i64 ((l.length : Nat) : Int)), (.bool false), (.slice a l.length c), (.int .i64 ((l.length : Nat) : Int)), (.int .i64 (((k + 1) : Nat) : Int)), (.bool true), (.int .i64 ((k : Nat) : Int)), (.pointer (some ⟨b19, o20 + k * 2, none⟩)), (.agg #[(.slice xa23 t.1.length xc24), (.slice xa27 t.2.length xc28)]), (.pointer (some ⟨n30, 0, none⟩)), (.slice xa23 t.1.length xc24), (.int .i64 (nameN t.1.length)), (.int .i64 (nameN t.1.length)), (.bool false), (u7 22), (.pointer (some ⟨n30, 1, none⟩)), (.slice xa27 t.2.length xc28), (.int .i64 ((t.2.length : Nat) : Int)), (.bool false), (.pointer (some ⟨n30, 1, none⟩)), (.slice xa27 t.2.length xc28), (.int .i64 (treeE t.2)), (.int .i64 (treeE t.2)), (.bool false), (u7 32), (.int .i64 ((k : Nat) : Int)), (.bool true), (.bool true), (.slice a l.length c), (.int .i64 ((k : Nat) : Int)), (.int .i64 (((k - 1) : Nat) : Int)), (.pointer (some ⟨b49, o50 + (k - 1) * 2, none⟩)), (.pointer (some ⟨b49, o50 + (k - 1) * 2, none⟩)), (.slice xa53 q.1.length xc54), (.pointer (some ⟨n30, 0, none⟩)), (.slice xa23 t.1.length xc24), (.int .i64 (cmpL q.1 t.1)), (.bool false), (.bool false), (.int .i64 (((k + 1) : Nat) : Int))]), rfl, rfl, S66, (by omega), (by rw [hT, forestAt_at hp, if_neg (by omega), if_neg (by omega), if_neg (by omega), if_neg (fun h => hc45 (by have := h.2; rw [hqd] at this; exact this))])⟩
            · refine region_gw F 11 [] (by kernel_rfl) (by kernel_rfl) ?_
              simp only [List.take_succ_cons, List.take_zero]
              refine gw_pure rfl rfl (.int .i64 ((k : Nat) : Int)) (fun w68 hCw68 => pureAt_of (ex_move _)) ?_
              simp only [Act.put, List.setIfInBounds_toArray, List.set_cons_succ, List.set_cons_zero]
              refine gw_pure rfl rfl (.bool false) (fun w68 hCw68 => pureAt_of (ex_gtr (m := ((k : Nat) : Int)) (n := (0 : Int)) (b := false) rfl rfl (decide_eq_false (by omega)))) ?_
              simp only [Act.put, List.setIfInBounds_toArray, List.set_cons_succ, List.set_cons_zero]
              refine gw_pure rfl rfl (.bool false) (fun w68 hCw68 => pureAt_of (ex_move _)) ?_
              simp only [Act.put, List.setIfInBounds_toArray, List.set_cons_succ, List.set_cons_zero]
              refine gw_skip (wanted_no rfl rfl rfl (c := false) rfl (by decide)) ?_
              simp only [Act.put, List.setIfInBounds_toArray, List.set_cons_succ, List.set_cons_zero]
              refine gw_skip (wanted_no rfl rfl rfl (c := false) rfl (by decide)) ?_
              simp only [Act.put, List.setIfInBounds_toArray, List.set_cons_succ, List.set_cons_zero]
              refine gw_skip (wanted_no rfl rfl rfl (c := false) rfl (by decide)) ?_
              simp only [Act.put, List.setIfInBounds_toArray, List.set_cons_succ, List.set_cons_zero]
              refine gw_skip (wanted_no rfl rfl rfl (c := false) rfl (by decide)) ?_
              simp only [Act.put, List.setIfInBounds_toArray, List.set_cons_succ, List.set_cons_zero]
              refine gw_skip (wanted_no rfl rfl rfl (c := false) rfl (by decide)) ?_
              simp only [Act.put, List.setIfInBounds_toArray, List.set_cons_succ, List.set_cons_zero]
              refine gw_skip (wanted_no rfl rfl rfl (c := false) rfl (by decide)) ?_
              simp only [Act.put, List.setIfInBounds_toArray, List.set_cons_succ, List.set_cons_zero]
              refine gw_skip (wanted_no rfl rfl rfl (c := false) rfl (by decide)) ?_
              simp only [Act.put, List.setIfInBounds_toArray, List.set_cons_succ, List.set_cons_zero]
              refine gw_skip (wanted_no rfl rfl rfl (c := false) rfl (by decide)) ?_
              simp only [Act.put, List.setIfInBounds_toArray, List.set_cons_succ, List.set_cons_zero]
              refine gw_nil ?_
              intro w69 hC71 hF72
              clear hF72
              have S70 := St.tells S46 hC71
              simp only [List.drop_succ_cons, List.drop_zero]
              have S70 : St w F w69 F [⟨n30, [(.slice xa23 t.1.length xc24), (.slice xa27 t.2.length xc28)], 83⟩] [] := S70
              refine doN (wanted_no rfl rfl rfl (c := false) rfl (by decide)) ?_
              simp only [Act.put, List.setIfInBounds_toArray, List.set_cons_succ, List.set_cons_zero]
              refine doN (wanted_no rfl rfl rfl (c := false) rfl (by decide)) ?_
              simp only [Act.put, List.setIfInBounds_toArray, List.set_cons_succ, List.set_cons_zero]
              refine do_ rfl (.bool false) (ex_pick (b := false) rfl) ?_
              simp only [Act.put, List.setIfInBounds_toArray, List.set_cons_succ, List.set_cons_zero]
              refine wl_nil ?_
              (try simp only [Exit.then, Exit.inBlock, ↓reduceIte, Nat.reduceEqDiff])
              refine hK48 _ _ ?_
              refine wp_cond_false rfl ?_
              refine wp_skip ?_
              (try simp only [Exit.then, Exit.inBlock, ↓reduceIte, Nat.reduceEqDiff])
              refine hK17 _ _ ?_
              refine region_wl ?_
              refine do_ rfl (.int .i64 (((k + 1) : Nat) : Int)) (ex_add (m := ((k : Nat) : Int)) (n := (1 : Int)) (r := (((k + 1) : Nat) : Int)) rfl rfl (by omega) (by omega) (by omega)) ?_
              simp only [Act.put, List.setIfInBounds_toArray, List.set_cons_succ, List.set_cons_zero]
              refine do_ rfl (.int .i64 (((k + 1) : Nat) : Int)) (ex_move _) ?_
              simp only [Act.put, List.setIfInBounds_toArray, List.set_cons_succ, List.set_cons_zero]
              refine wl_nil ?_
              (try simp only [Exit.then, Exit.inBlock, ↓reduceIte, Nat.reduceEqDiff])
              have S70 := St.drop S70 (L' := []) (.cons _ (List.Sublist.refl _))
              exact hK14 _ _ _ (by omega) ⟨(k + 1), (slotF [(.slice a l.length c), undef, (u7 2), (.int .i64 ((k : Nat) : Int)), (.pointer (some ⟨n30, 0, none⟩)), (.int .i64 (nameN t.1.length)), (.int .i64 (treeE t.2)), (.slice a l.length c), (.int .i64 ((l.length : Nat) : Int)), (.bool false), (.slice a l.length c), (.int .i64 ((l.length : Nat) : Int)), (.int .i64 (((k + 1) : Nat) : Int)), (.bool true), (.int .i64 ((k : Nat) : Int)), (.pointer (some ⟨b19, o20 + k * 2, none⟩)), (.agg #[(.slice xa23 t.1.length xc24), (.slice xa27 t.2.length xc28)]), (.pointer (some ⟨n30, 0, none⟩)), (.slice xa23 t.1.length xc24), (.int .i64 (nameN t.1.length)), (.int .i64 (nameN t.1.length)), (.bool false), (u7 22), (.pointer (some ⟨n30, 1, none⟩)), (.slice xa27 t.2.length xc28), (.int .i64 ((t.2.length : Nat) : Int)), (.bool false), (.pointer (some ⟨n30, 1, none⟩)), (.slice xa27 t.2.length xc28), (.int .i64 (treeE t.2)), (.int .i64 (treeE t.2)), (.bool false), (u7 32), (.int .i64 ((k : Nat) : Int)), (.bool false), (.bool false), undef, undef, undef, undef, undef, undef, undef, undef, undef, undef, (.bool false), (.int .i64 (((k + 1) : Nat) : Int))]), rfl, rfl, S70, (by omega), (by rw [hT, forestAt_at hp, if_neg (by omega), if_neg (by omega), if_neg (by omega), if_neg (fun h => h0 h.1)])⟩
          · refine do_ rfl (.bool true) (ex_neq (m := (treeE t.2)) (n := (0 : Int)) (b := true) rfl rfl (bne_iff_ne.2 (by omega))) ?_
            simp only [Act.put, List.setIfInBounds_toArray, List.set_cons_succ, List.set_cons_zero]
            refine wl_nil ?_
            (try simp only [Exit.then, Exit.inBlock, ↓reduceIte, Nat.reduceEqDiff])
            refine hK47 _ _ ?_
            refine wp_cond_true rfl ?_
            refine wp_seq_k (fun K73 hK73 => ?_)
            refine region_wl ?_
            refine do_ rfl (.int .i64 (treeE t.2)) (ex_move _) ?_
            simp only [Act.put, List.setIfInBounds_toArray, List.set_cons_succ, List.set_cons_zero]
            refine do_ rfl (.int .i64 (treeE t.2)) (ex_assign _) ?_
            simp only [Act.put, List.setIfInBounds_toArray, List.set_cons_succ, List.set_cons_zero]
            refine wl_nil ?_
            (try simp only [Exit.then, Exit.inBlock, ↓reduceIte, Nat.reduceEqDiff])
            refine hK73 _ _ ?_
            refine wp_ret ?_
            (try simp only [Exit.then, Exit.inBlock, ↓reduceIte, Nat.reduceEqDiff])
            refine bodyPost_ret (v := (.int .i64 (treeE t.2))) ?_ rfl ?_
            · exact res_t rfl rfl
            · exact ⟨by unfold forestE; rw [if_neg (by omega), hT, forestAt_at hp, if_neg (by omega), if_neg (by omega), if_pos hc31], S46.gr.below⟩
      · refine do_ rfl (.bool true) (ex_neq (m := (nameN t.1.length)) (n := (0 : Int)) (b := true) rfl rfl (bne_iff_ne.2 (by omega))) ?_
        simp only [Act.put, List.setIfInBounds_toArray, List.set_cons_succ, List.set_cons_zero]
        refine wl_nil ?_
        (try simp only [Exit.then, Exit.inBlock, ↓reduceIte, Nat.reduceEqDiff])
        refine hK39 _ _ ?_
        refine wp_cond_true rfl ?_
        refine wp_seq_k (fun K74 hK74 => ?_)
        refine region_wl ?_
        refine do_ rfl (.int .i64 (nameN t.1.length)) (ex_move _) ?_
        simp only [Act.put, List.setIfInBounds_toArray, List.set_cons_succ, List.set_cons_zero]
        refine do_ rfl (.int .i64 (nameN t.1.length)) (ex_assign _) ?_
        simp only [Act.put, List.setIfInBounds_toArray, List.set_cons_succ, List.set_cons_zero]
        refine wl_nil ?_
        (try simp only [Exit.then, Exit.inBlock, ↓reduceIte, Nat.reduceEqDiff])
        refine hK74 _ _ ?_
        refine wp_ret ?_
        (try simp only [Exit.then, Exit.inBlock, ↓reduceIte, Nat.reduceEqDiff])
        refine bodyPost_ret (v := (.int .i64 (nameN t.1.length))) ?_ rfl ?_
        · exact res_t rfl rfl
        · exact ⟨by unfold forestE; rw [if_neg (by omega), hT, forestAt_at hp, if_pos hc21], S38.gr.below⟩
    · refine do_ rfl (.bool false) (ex_lss (m := ((k : Nat) : Int)) (n := ((l.length : Nat) : Int)) (b := false) rfl rfl (decide_eq_false (by omega))) ?_
      simp only [Act.put, List.setIfInBounds_toArray, List.set_cons_succ, List.set_cons_zero]
      refine wl_nil ?_
      (try simp only [Exit.then, Exit.inBlock, ↓reduceIte, Nat.reduceEqDiff])
      refine hK15 _ _ ?_
      refine wp_seq_k (fun K75 hK75 => ?_)
      refine wp_cond_false rfl ?_
      refine wp_exit ?_
      (try simp only [Exit.then, Exit.inBlock, ↓reduceIte, Nat.reduceEqDiff])
      refine hK5 _ _ ?_
      refine wp_seq_k (fun K76 hK76 => ?_)
      refine region_wl ?_
      refine do_ rfl (.int .i64 0) (ex_assign _) ?_
      simp only [Act.put, List.setIfInBounds_toArray, List.set_cons_succ, List.set_cons_zero]
      refine wl_nil ?_
      (try simp only [Exit.then, Exit.inBlock, ↓reduceIte, Nat.reduceEqDiff])
      refine hK76 _ _ ?_
      refine wp_ret ?_
      (try simp only [Exit.then, Exit.inBlock, ↓reduceIte, Nat.reduceEqDiff])
      refine bodyPost_ret (v := (.int .i64 0)) ?_ rfl ?_
      · exact res_t rfl rfl
      · exact ⟨by unfold forestE; rw [if_neg (by omega), hT, forestAt_end (by omega)], S12.gr.below⟩
set_option maxHeartbeats 8000000 in
theorem checkedT_spec (F : Fz) (w : World) (v u : Value) (l : Forest) (k : By) (hs : Sat w F) (hv : Tns F v l) (hu : Bs F u k) (ok1 : ForestOk 60 l) :
    Calls Try.prog 96 #[v, u] w (Tells w (.int .i64 (nameN k.length))) := by
  have ok := forestE_ok.2 ok1
  obtain ⟨a, c, rfl, hc1, hc2⟩ := Sl.shape hv
  obtain ⟨a2, c2, rfl, _⟩ := hu.shape
  have S := St.start hs
  go_enter Try.func96, Try.ntmps96
  refine wp_seq_k (fun K1 hK1 => ?_)
  refine region_wl ?_
  refine do_ rfl (.int .i64 0) (ex_assign _) ?_
  simp only [Act.put, List.setIfInBounds_toArray, List.set_cons_succ, List.set_cons_zero]
  refine wl_nil ?_
  (try simp only [Exit.then, Exit.inBlock, ↓reduceIte, Nat.reduceEqDiff])
  refine hK1 _ _ ?_
  refine wp_seq_k (fun K2 hK2 => ?_)
  refine wp_seq_k (fun K3 hK3 => ?_)
  refine region_wl ?_
  refine do_ rfl (.slice a l.length c) (ex_move _) ?_
  simp only [Act.put, List.setIfInBounds_toArray, List.set_cons_succ, List.set_cons_zero]
  refine stTells (v := (.int .i64 (forestE l))) S rfl (ex_fn (vs := #[(.slice a l.length c)]) (map1 rfl) rfl (ent_61 _ _)) (forestCheck_spec _ _ _ l (S).sat hv) (fun w4 S5 => ?_)
  simp only [Act.put, List.setIfInBounds_toArray, List.set_cons_succ, List.set_cons_zero]
  have S5 : St w F w4 F [] [] := S5
  refine do_ rfl (.int .i64 (forestE l)) (ex_assign _) ?_
  simp only [Act.put, List.setIfInBounds_toArray, List.set_cons_succ, List.set_cons_zero]
  refine wl_nil ?_
  (try simp only [Exit.then, Exit.inBlock, ↓reduceIte, Nat.reduceEqDiff])
  refine hK3 _ _ ?_
  refine wp_seq_k (fun K6 hK6 => ?_)
  refine region_wl ?_
  refine do_ rfl (.int .i64 (forestE l)) (ex_move _) ?_
  simp only [Act.put, List.setIfInBounds_toArray, List.set_cons_succ, List.set_cons_zero]
  refine do_ rfl (.bool false) (ex_neq (m := (forestE l)) (n := (0 : Int)) (b := false) rfl rfl (bne_eq_false_iff_eq.2 (ok))) ?_
  simp only [Act.put, List.setIfInBounds_toArray, List.set_cons_succ, List.set_cons_zero]
  refine wl_nil ?_
  (try simp only [Exit.then, Exit.inBlock, ↓reduceIte, Nat.reduceEqDiff])
  refine hK6 _ _ ?_
  refine wp_cond_false rfl ?_
  refine wp_skip ?_
  (try simp only [Exit.then, Exit.inBlock, ↓reduceIte, Nat.reduceEqDiff])
  refine hK2 _ _ ?_
  refine wp_seq_k (fun K7 hK7 => ?_)
  refine region_wl ?_
  refine do_ rfl (.slice a2 k.length c2) (ex_move _) ?_
  simp only [Act.put, List.setIfInBounds_toArray, List.set_cons_succ, List.set_cons_zero]
  refine stTells (v := (.int .i64 (nameN k.length))) S5 rfl (ex_fn (vs := #[(.slice a2 k.length c2)]) (map1 rfl) rfl (ent_94 _ _)) (tells_same (name_len _ _ _ _)) (fun w8 S9 => ?_)
  simp only [Act.put, List.setIfInBounds_toArray, List.set_cons_succ, List.set_cons_zero]
  have S9 : St w F w8 F [] [] := S9
  refine do_ rfl (.int .i64 (nameN k.length)) (ex_assign _) ?_
  simp only [Act.put, List.setIfInBounds_toArray, List.set_cons_succ, List.set_cons_zero]
  refine wl_nil ?_
  (try simp only [Exit.then, Exit.inBlock, ↓reduceIte, Nat.reduceEqDiff])
  refine hK7 _ _ ?_
  refine wp_ret ?_
  (try simp only [Exit.then, Exit.inBlock, ↓reduceIte, Nat.reduceEqDiff])
  refine bodyPost_ret (v := (.int .i64 (nameN k.length))) ?_ rfl ?_
  · exact res_t rfl rfl
  · exact ⟨rfl, S9.gr.below⟩
end Go.Proofs.Yteefnnnbbmbmcaa
