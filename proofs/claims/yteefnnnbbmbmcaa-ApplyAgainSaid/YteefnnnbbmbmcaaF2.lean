/- Walks: forest.own, write -/
import Derived.Test.YteefnnnbbmbmcaaF1
import Derived.Test.YteefnnnbbmbmcaaT4c
namespace Go.Proofs.Yteefnnnbbmbmcaa
open Go.RowKit
set_option maxRecDepth 100000
set_option linter.unusedVariables false
set_option linter.unusedSimpArgs false
theorem TnC.one (F : Fz) (cs : List Value) (p : By × List Pr) (h : TnC F cs p) : ∀ u ∈ cs, u.oneCell' = true := h.oneCell
theorem ForestOk.small {f : Forest} (h : ForestOk 60 f) {t : By × List Pr} (ht : t ∈ f) : t.1.length ≤ 100000 ∧ t.2.length ≤ 60 ∧ ∀ p ∈ t.2, p.1.length ≤ 100000 ∧ p.2.length ≤ 100000 := by
  have h1 := h.name t ht
  have h2 := h.tree t ht
  exact ⟨by have := h1.2; omega, h2.len, fun p hp => h2.small hp⟩
set_option maxHeartbeats 8000000 in
theorem ownT_spec (F : Fz) (w : World) (v : Value) (l : Forest) (hs : Sat w F) (hv : Tns F v l) (hl : l.length ≤ 100000) (hL : ∀ t ∈ l, t.1.length ≤ 100000 ∧ t.2.length ≤ 60 ∧ ∀ p ∈ t.2, p.1.length ≤ 100000 ∧ p.2.length ≤ 100000) :
    Calls Try.prog 92 #[v] w (GivesO w F 2 TnC 83 l) := by
  obtain ⟨a, c, rfl, hc1, hc2⟩ := Sl.shape hv
  unfold maxLen at hc2
  obtain ⟨i49, hi49, hz49, hs49, hb49⟩ := info_parts info_49
  obtain ⟨i83, hi83, hz83, hs83, hb83⟩ := info_parts info_83
  have S := St.start hs
  go_enter Try.func92, Try.ntmps92
  refine wp_seq_k (fun K1 hK1 => ?_)
  refine region_wl ?_
  refine do_ rfl (.slice none 0 0) (ex_assign _) ?_
  simp only [Act.put, List.setIfInBounds_toArray, List.set_cons_succ, List.set_cons_zero]
  refine wl_nil ?_
  (try simp only [Exit.then, Exit.inBlock, ↓reduceIte, Nat.reduceEqDiff])
  refine hK1 _ _ ?_
  refine wp_seq_k (fun K2 hK2 => ?_)
  refine region_wl ?_
  refine do_ rfl (.slice none 0 0) (ex_assign _) ?_
  simp only [Act.put, List.setIfInBounds_toArray, List.set_cons_succ, List.set_cons_zero]
  refine wl_nil ?_
  (try simp only [Exit.then, Exit.inBlock, ↓reduceIte, Nat.reduceEqDiff])
  refine hK2 _ _ ?_
  refine wp_seq_k (fun K3 hK3 => ?_)
  refine wp_seq_k (fun K4 hK4 => ?_)
  refine region_wl ?_
  refine do_ rfl (.slice a l.length c) (ex_move _) ?_
  simp only [Act.put, List.setIfInBounds_toArray, List.set_cons_succ, List.set_cons_zero]
  refine do_ rfl (.int .i64 ((l.length : Nat) : Int)) (ex_len Try.underlying73 rfl) ?_
  simp only [Act.put, List.setIfInBounds_toArray, List.set_cons_succ, List.set_cons_zero]
  refine do_ rfl (.int .i64 0) (ex_move _) ?_
  simp only [Act.put, List.setIfInBounds_toArray, List.set_cons_succ, List.set_cons_zero]
  refine wl_nil ?_
  (try simp only [Exit.then, Exit.inBlock, ↓reduceIte, Nat.reduceEqDiff])
  refine hK4 _ _ ?_
  refine wp_block ?_
  have S5 := St.addNil S 2 TnC TnC.mono 83 w.heap.size
  refine wp_loop_g (fun mm aa w8 => ∃ (k : Nat) (v : Value) (F6 : Fz) (u7 : Nat → Value), mm = l.length - k ∧ aa = ⟨#[(.slice a l.length c), undef, (.slice none 0 0), v, undef, (u7 5), (u7 6), undef, (u7 8), (.slice a l.length c), (.int .i64 ((l.length : Nat) : Int)), (.int .i64 ((k : Nat) : Int)), (u7 12), (u7 13), (u7 14), (u7 15), (u7 16), (u7 17), (u7 18), (u7 19), (u7 20), (u7 21), (u7 22), (u7 23), (u7 24), (u7 25), (u7 26), (u7 27), (u7 28), (u7 29), (u7 30), (u7 31), (u7 32), (u7 33), (u7 34), (u7 35), (u7 36), (u7 37), (u7 38), (u7 39), (u7 40), (u7 41), (u7 42), (u7 43), undef], []⟩ ∧ St w F w8 F6 [] [ownP 2 TnC TnC.mono 83 w.heap.size v (l.take k)] ∧ Le F F6 ∧ (k ≤ l.length)) _ ⟨0, (.slice none 0 0), F, (slotF [(.slice a l.length c), undef, (.slice none 0 0), (.slice none 0 0), undef, undef, undef, undef, undef, (.slice a l.length c), (.int .i64 ((l.length : Nat) : Int)), (.int .i64 0), undef, undef, undef, undef, undef, undef, undef, undef, undef, undef, undef, undef, undef, undef, undef, undef, undef, undef, undef, undef, undef, undef, undef, undef, undef, undef, undef, undef, undef, undef, undef, undef, undef]), rfl, rfl, S5, Le.refl _, (by omega)⟩ ?_
  rintro m9 a10 w11 ⟨k, v, F6, u7, rfl, rfl, S12, le13, hk⟩ K14 hK14
  refine wp_seq_k (fun K15 hK15 => ?_)
  refine region_wl ?_
  by_cases hc12 : k < l.length
  · refine do_ rfl (.bool true) (ex_lss (m := ((k : Nat) : Int)) (n := ((l.length : Nat) : Int)) (b := true) rfl rfl (decide_eq_true (by omega))) ?_
    simp only [Act.put, List.setIfInBounds_toArray, List.set_cons_succ, List.set_cons_zero]
    refine wl_nil ?_
    (try simp only [Exit.then, Exit.inBlock, ↓reduceIte, Nat.reduceEqDiff])
    refine hK15 _ _ ?_
    refine wp_seq_k (fun K16 hK16 => ?_)
    refine wp_cond_true rfl ?_
    refine wp_skip ?_
    (try simp only [Exit.then, Exit.inBlock, ↓reduceIte, Nat.reduceEqDiff])
    refine hK16 _ _ ?_
    refine wp_seq_k (fun K17 hK17 => ?_)
    refine wp_block ?_
    refine wp_seq_k (fun K18 hK18 => ?_)
    obtain ⟨t, ht⟩ : ∃ t, l[k]? = some t := ⟨l[k], List.getElem?_eq_getElem hc12⟩
    obtain ⟨hs1, hs2, hs3⟩ := hL t (List.mem_of_getElem? ht)
    have htk : (l.take k).length = k := by rw [List.length_take]; omega
    obtain ⟨b19, o20, ha21, xa23, xc24, xa27, xc28, c22, c26, r25, r29⟩ := Tns.get (hv.mono le13) ht
    refine region_wl ?_
    refine do_ rfl (.pointer (some ⟨b19, o20 + k * 2, none⟩)) (ex_at (i := k) (sz := 2) Try.underlying73 (sizeof_83 _) rfl ha21 rfl (by omega) rfl) ?_
    simp only [Act.put, List.setIfInBounds_toArray, List.set_cons_succ, List.set_cons_zero]
    refine do_ rfl (.agg #[(.slice xa23 t.1.length xc24), (.slice xa27 t.2.length xc28)]) (ex_load rfl (loadN (cs := [(.slice xa23 t.1.length xc24), (.slice xa27 t.2.length xc28)]) Try.underlying83 rfl (size_83) (range2 (St.fz S12 c22) (St.fz S12 c26)))) ?_
    simp only [Act.put, List.setIfInBounds_toArray, List.set_cons_succ, List.set_cons_zero]
    refine stNew S12 (v := fun n => .pointer (some ⟨n, 0, none⟩)) rfl (ex_alloc (zero_83 _)) (fun n30 w31 S32 => ?_)
    simp only [Act.put, List.setIfInBounds_toArray, List.set_cons_succ, List.set_cons_zero]
    have S32 : St w F w31 F6 [⟨n30, [(.slice none 0 0), (.slice none 0 0)], 83⟩] [ownP 2 TnC TnC.mono 83 w.heap.size v (l.take k)] := S32
    refine stStore (i := 0) (v := (.agg #[(.slice xa23 t.1.length xc24), (.slice xa27 t.2.length xc28)])) S32 rfl rfl rfl rfl (size_83) (allc2 rfl rfl) (Nat.le_of_ble_eq_true rfl) (fun w33 S34 => ?_)
    simp only [Act.put, List.setIfInBounds_toArray, List.set_cons_succ, List.set_cons_zero]
    have S34 : St w F w33 F6 [⟨n30, [(.slice xa23 t.1.length xc24), (.slice xa27 t.2.length xc28)], 83⟩] [ownP 2 TnC TnC.mono 83 w.heap.size v (l.take k)] := S34
    refine wl_nil ?_
    (try simp only [Exit.then, Exit.inBlock, ↓reduceIte, Nat.reduceEqDiff])
    refine hK18 _ _ ?_
    refine wp_seq_k (fun K35 hK35 => ?_)
    refine region_wl ?_
    refine do_ rfl (.pointer (some ⟨n30, 0, none⟩)) (ex_field (q := ⟨n30, 0, none⟩) rfl (fa_83_0 _ _)) ?_
    simp only [Act.put, List.setIfInBounds_toArray, List.set_cons_succ, List.set_cons_zero]
    refine do_ rfl (.slice xa23 t.1.length xc24) (ex_load rfl (load1 (nagg_27 _) (St.cell S34 (i := 0) rfl rfl))) ?_
    simp only [Act.put, List.setIfInBounds_toArray, List.set_cons_succ, List.set_cons_zero]
    refine stGives S34 rfl (ex_fn (vs := #[(.slice xa23 t.1.length xc24)]) (map1 rfl) rfl (ent_85 _ _)) (clone_spec _ _ _ t.1 (S34).sat r25 (by omega)) ?_
    intro v41 w36 F38 S37 le39 R40
    obtain ⟨xa42, xc43, rfl, _⟩ := R40.shape
    simp only [Act.put, List.setIfInBounds_toArray, List.set_cons_succ, List.set_cons_zero]
    have S37 : St w F w36 F38 [⟨n30, [(.slice xa23 t.1.length xc24), (.slice xa27 t.2.length xc28)], 83⟩] [ownP 2 TnC TnC.mono 83 w.heap.size v (l.take k)] := S37
    refine do_ rfl (.agg #[(.slice xa42 t.1.length xc43), (.slice none 0 0)]) (ex_build (ps := #[(0, (.slice xa42 t.1.length xc43))]) (bmap1 rfl) (by kernel_rfl)) ?_
    simp only [Act.put, List.setIfInBounds_toArray, List.set_cons_succ, List.set_cons_zero]
    refine stNew S37 (v := fun n => .pointer (some ⟨n, 0, none⟩)) rfl (ex_alloc (zero_83 _)) (fun n44 w45 S46 => ?_)
    simp only [Act.put, List.setIfInBounds_toArray, List.set_cons_succ, List.set_cons_zero]
    have S46 : St w F w45 F38 [⟨n44, [(.slice none 0 0), (.slice none 0 0)], 83⟩, ⟨n30, [(.slice xa23 t.1.length xc24), (.slice xa27 t.2.length xc28)], 83⟩] [ownP 2 TnC TnC.mono 83 w.heap.size v (l.take k)] := S46
    refine stStore (i := 0) (v := (.agg #[(.slice xa42 t.1.length xc43), (.slice none 0 0)])) S46 rfl rfl rfl rfl (size_83) (allc2 rfl rfl) (Nat.le_of_ble_eq_true rfl) (fun w47 S48 => ?_)
    simp only [Act.put, List.setIfInBounds_toArray, List.set_cons_succ, List.set_cons_zero]
    have S48 : St w F w47 F38 [⟨n44, [(.slice xa42 t.1.length xc43), (.slice none 0 0)], 83⟩, ⟨n30, [(.slice xa23 t.1.length xc24), (.slice xa27 t.2.length xc28)], 83⟩] [ownP 2 TnC TnC.mono 83 w.heap.size v (l.take k)] := S48
    refine wl_nil ?_
    (try simp only [Exit.then, Exit.inBlock, ↓reduceIte, Nat.reduceEqDiff])
    refine hK35 _ _ ?_
    refine wp_seq_k (fun K49 hK49 => ?_)
    refine wp_seq_k (fun K50 hK50 => ?_)
    refine region_wl ?_
    refine do_ rfl (.pointer (some ⟨n30, 1, none⟩)) (ex_field (q := ⟨n30, 1, none⟩) rfl (fa_83_1 _ _)) ?_
    simp only [Act.put, List.setIfInBounds_toArray, List.set_cons_succ, List.set_cons_zero]
    refine do_ rfl (.slice xa27 t.2.length xc28) (ex_load rfl (load1 (nagg_44 _) (St.cell S48 (i := 1) rfl rfl))) ?_
    simp only [Act.put, List.setIfInBounds_toArray, List.set_cons_succ, List.set_cons_zero]
    refine do_ rfl (.int .i64 ((t.2.length : Nat) : Int)) (ex_len Try.underlying44 rfl) ?_
    simp only [Act.put, List.setIfInBounds_toArray, List.set_cons_succ, List.set_cons_zero]
    refine do_ rfl (.int .i64 0) (ex_move _) ?_
    simp only [Act.put, List.setIfInBounds_toArray, List.set_cons_succ, List.set_cons_zero]
    refine wl_nil ?_
    (try simp only [Exit.then, Exit.inBlock, ↓reduceIte, Nat.reduceEqDiff])
    refine hK50 _ _ ?_
    refine wp_block ?_
    have S51 := St.addNil S48 2 PrC PrC.mono 49 w.heap.size
    refine wp_loop_g (fun mm aa w54 => ∃ (j : Nat) (v2 : Value) (F52 : Fz) (u53 : Nat → Value), mm = t.2.length - j ∧ aa = ⟨#[(.slice a l.length c), undef, (.slice none 0 0), v, undef, (.pointer (some ⟨n30, 0, none⟩)), (.pointer (some ⟨n44, 0, none⟩)), undef, (u53 8), (.slice a l.length c), (.int .i64 ((l.length : Nat) : Int)), (.int .i64 ((k : Nat) : Int)), (.bool true), (.pointer (some ⟨b19, o20 + k * 2, none⟩)), (.agg #[(.slice xa23 t.1.length xc24), (.slice xa27 t.2.length xc28)]), (.pointer (some ⟨n30, 0, none⟩)), (.slice xa23 t.1.length xc24), (.slice xa42 t.1.length xc43), (.agg #[(.slice xa42 t.1.length xc43), (.slice none 0 0)]), (.pointer (some ⟨n30, 1, none⟩)), (.slice xa27 t.2.length xc28), (.int .i64 ((t.2.length : Nat) : Int)), (.int .i64 ((j : Nat) : Int)), (u53 23), (u53 24), (u53 25), (u53 26), (u53 27), (u53 28), (u53 29), (u53 30), (u53 31), (u53 32), (u53 33), (u53 34), (u53 35), (u53 36), (u53 37), (u53 38), (u7 39), (u7 40), (u7 41), (u7 42), (u7 43), undef], []⟩ ∧ St w F w54 F52 [⟨n44, [(.slice xa42 t.1.length xc43), v2], 83⟩, ⟨n30, [(.slice xa23 t.1.length xc24), (.slice xa27 t.2.length xc28)], 83⟩] [ownP 2 PrC PrC.mono 49 w.heap.size v2 (t.2.take j), ownP 2 TnC TnC.mono 83 w.heap.size v (l.take k)] ∧ Le F38 F52 ∧ (j ≤ t.2.length)) _ ⟨0, (.slice none 0 0), F38, (slotF [(.slice a l.length c), undef, (.slice none 0 0), v, undef, (.pointer (some ⟨n30, 0, none⟩)), (.pointer (some ⟨n44, 0, none⟩)), undef, (u7 8), (.slice a l.length c), (.int .i64 ((l.length : Nat) : Int)), (.int .i64 ((k : Nat) : Int)), (.bool true), (.pointer (some ⟨b19, o20 + k * 2, none⟩)), (.agg #[(.slice xa23 t.1.length xc24), (.slice xa27 t.2.length xc28)]), (.pointer (some ⟨n30, 0, none⟩)), (.slice xa23 t.1.length xc24), (.slice xa42 t.1.length xc43), (.agg #[(.slice xa42 t.1.length xc43), (.slice none 0 0)]), (.pointer (some ⟨n30, 1, none⟩)), (.slice xa27 t.2.length xc28), (.int .i64 ((t.2.length : Nat) : Int)), (.int .i64 0), (u7 23), (u7 24), (u7 25), (u7 26), (u7 27), (u7 28), (u7 29), (u7 30), (u7 31), (u7 32), (u7 33), (u7 34), (u7 35), (u7 36), (u7 37), (u7 38), (u7 39), (u7 40), (u7 41), (u7 42), (u7 43), undef]), rfl, rfl, S51, Le.refl _, (by omega)⟩ ?_
    rintro m55 a56 w57 ⟨j, v2, F52, u53, rfl, rfl, S58, le59, hj⟩ K60 hK60
    refine wp_seq_k (fun K61 hK61 => ?_)
    refine region_wl ?_
    by_cases hc23 : j < t.2.length
    · refine do_ rfl (.bool true) (ex_lss (m := ((j : Nat) : Int)) (n := ((t.2.length : Nat) : Int)) (b := true) rfl rfl (decide_eq_true (by omega))) ?_
      simp only [Act.put, List.setIfInBounds_toArray, List.set_cons_succ, List.set_cons_zero]
      refine wl_nil ?_
      (try simp only [Exit.then, Exit.inBlock, ↓reduceIte, Nat.reduceEqDiff])
      refine hK61 _ _ ?_
      refine wp_seq_k (fun K62 hK62 => ?_)
      refine wp_cond_true rfl ?_
      refine wp_skip ?_
      (try simp only [Exit.then, Exit.inBlock, ↓reduceIte, Nat.reduceEqDiff])
      refine hK62 _ _ ?_
      refine wp_seq_k (fun K63 hK63 => ?_)
      refine wp_block ?_
      refine wp_seq_k (fun K64 hK64 => ?_)
      obtain ⟨p, hp⟩ : ∃ p, t.2[j]? = some p := ⟨t.2[j], List.getElem?_eq_getElem hc23⟩
      obtain ⟨hp1, hp2⟩ := hs3 p (List.mem_of_getElem? hp)
      have hpk : (t.2.take j).length = j := by rw [List.length_take]; omega
      obtain ⟨b65, o66, ha67, xa69, xc70, xa73, xc74, c68, c72, r71, r75⟩ := Prs.get (r29.mono (le39.trans le59)) hp
      refine region_wl ?_
      refine do_ rfl (.pointer (some ⟨b65, o66 + j * 2, none⟩)) (ex_at (i := j) (sz := 2) Try.underlying44 (sizeof_49 _) rfl ha67 rfl (by omega) rfl) ?_
      simp only [Act.put, List.setIfInBounds_toArray, List.set_cons_succ, List.set_cons_zero]
      refine do_ rfl (.agg #[(.slice xa69 p.1.length xc70), (.slice xa73 p.2.length xc74)]) (ex_load rfl (loadN (cs := [(.slice xa69 p.1.length xc70), (.slice xa73 p.2.length xc74)]) Try.underlying49 rfl (size_49) (range2 (St.fz S58 c68) (St.fz S58 c72)))) ?_
      simp only [Act.put, List.setIfInBounds_toArray, List.set_cons_succ, List.set_cons_zero]
      refine stNew S58 (v := fun n => .pointer (some ⟨n, 0, none⟩)) rfl (ex_alloc (zero_49 _)) (fun n76 w77 S78 => ?_)
      simp only [Act.put, List.setIfInBounds_toArray, List.set_cons_succ, List.set_cons_zero]
      have S78 : St w F w77 F52 [⟨n76, [(.slice none 0 0), (.slice none 0 0)], 49⟩, ⟨n44, [(.slice xa42 t.1.length xc43), v2], 83⟩, ⟨n30, [(.slice xa23 t.1.length xc24), (.slice xa27 t.2.length xc28)], 83⟩] [ownP 2 PrC PrC.mono 49 w.heap.size v2 (t.2.take j), ownP 2 TnC TnC.mono 83 w.heap.size v (l.take k)] := S78
      refine stStore (i := 0) (v := (.agg #[(.slice xa69 p.1.length xc70), (.slice xa73 p.2.length xc74)])) S78 rfl rfl rfl rfl (size_49) (allc2 rfl rfl) (Nat.le_of_ble_eq_true rfl) (fun w79 S80 => ?_)
      simp only [Act.put, List.setIfInBounds_toArray, List.set_cons_succ, List.set_cons_zero]
      have S80 : St w F w79 F52 [⟨n76, [(.slice xa69 p.1.length xc70), (.slice xa73 p.2.length xc74)], 49⟩, ⟨n44, [(.slice xa42 t.1.length xc43), v2], 83⟩, ⟨n30, [(.slice xa23 t.1.length xc24), (.slice xa27 t.2.length xc28)], 83⟩] [ownP 2 PrC PrC.mono 49 w.heap.size v2 (t.2.take j), ownP 2 TnC TnC.mono 83 w.heap.size v (l.take k)] := S80
      refine wl_nil ?_
      (try simp only [Exit.then, Exit.inBlock, ↓reduceIte, Nat.reduceEqDiff])
      refine hK64 _ _ ?_
      refine region_gw F52 10 [(4, .made (fun F' u => Bs F' u p.1)), (7, .made (fun F' u => Bs F' u p.2)), (8, .made (fun F' u => Pr2V F' u (p.1, p.2))), (9, .made (fun F' u => Prs F' u [(p.1, p.2)]))] (by kernel_rfl) (by kernel_rfl) ?_
      simp only [List.take_succ_cons, List.take_zero]
      refine gw_pure rfl rfl (.pointer (some ⟨n44, 1, none⟩)) (fun w81 hCw81 => pureAt_of (ex_field (q := ⟨n44, 1, none⟩) rfl (fa_83_1 _ _))) ?_
      simp only [Act.put, List.setIfInBounds_toArray, List.set_cons_succ, List.set_cons_zero]
      refine gw_pure rfl rfl v2 (fun w81 hCw81 => pureAt_of (ex_load rfl (load1 (nagg_44 _) (St.cell (St.tells S80 hCw81) (i := 1) rfl rfl)))) ?_
      simp only [Act.put, List.setIfInBounds_toArray, List.set_cons_succ, List.set_cons_zero]
      refine gw_pure rfl rfl (.pointer (some ⟨n76, 0, none⟩)) (fun w81 hCw81 => pureAt_of (ex_field (q := ⟨n76, 0, none⟩) rfl (fa_49_0 _ _))) ?_
      simp only [Act.put, List.setIfInBounds_toArray, List.set_cons_succ, List.set_cons_zero]
      refine gw_pure rfl rfl (.slice xa69 p.1.length xc70) (fun w81 hCw81 => pureAt_of (ex_load rfl (load1 (nagg_27 _) (St.cell (St.tells S80 hCw81) (i := 0) rfl rfl)))) ?_
      simp only [Act.put, List.setIfInBounds_toArray, List.set_cons_succ, List.set_cons_zero]
      refine gw_rel rfl rfl (fun w81 hCw81 hF => does_call (ex_fn (vs := #[(.slice xa69 p.1.length xc70)]) (map1 rfl) rfl (ent_85 _ _)) (call_made S80.sat hCw81 (clone_spec _ _ _ p.1 ((St.tells S80 hCw81)).sat r71 (by omega)))) (fun v82 => ?_)
      simp only [Act.put, List.setIfInBounds_toArray, List.set_cons_succ, List.set_cons_zero]
      refine gw_pure rfl rfl (.pointer (some ⟨n76, 1, none⟩)) (fun w81 hCw81 => pureAt_of (ex_field (q := ⟨n76, 1, none⟩) rfl (fa_49_1 _ _))) ?_
      simp only [Act.put, List.setIfInBounds_toArray, List.set_cons_succ, List.set_cons_zero]
      refine gw_pure rfl rfl (.slice xa73 p.2.length xc74) (fun w81 hCw81 => pureAt_of (ex_load rfl (load1 (nagg_27 _) (St.cell (St.tells S80 hCw81) (i := 0) rfl rfl)))) ?_
      simp only [Act.put, List.setIfInBounds_toArray, List.set_cons_succ, List.set_cons_zero]
      refine gw_rel rfl rfl (fun w81 hCw81 hF => does_call (ex_fn (vs := #[(.slice xa73 p.2.length xc74)]) (map1 rfl) rfl (ent_85 _ _)) (call_made S80.sat hCw81 (clone_spec _ _ _ p.2 ((St.tells S80 hCw81)).sat r75 (by omega)))) (fun v83 => ?_)
      simp only [Act.put, List.setIfInBounds_toArray, List.set_cons_succ, List.set_cons_zero]
      refine gw_rel rfl rfl (fun w81 hCw81 hF_ => ?_) (fun v84 => ?_)
      · obtain ⟨F85, g86, R87⟩ := hF_.get 4 (by kernel_rfl) rfl rfl
        obtain ⟨F90, g91, R92⟩ := hF_.get 7 (by kernel_rfl) rfl rfl
        have hR0 := (R87.mono (both_left F85 F90))
        obtain ⟨xa95, xc96, rfl, _⟩ := hR0.shape
        have hR1 := (R92.mono (both_right g86.sat g91.sat))
        obtain ⟨xa97, xc98, rfl, _⟩ := hR1.shape
        exact does_val (ex_build (bmap2 rfl rfl) (by kernel_rfl)) ⟨(both F85 F90), (g86.both g91), ⟨_, _, _, _, rfl, hR0, hR1⟩⟩ (Below.refl _ _)
      simp only [Act.put, List.setIfInBounds_toArray, List.set_cons_succ, List.set_cons_zero]
      refine gw_rel rfl rfl (fun w81 hCw81 hF_ => ?_) (fun v108 => ?_)
      · obtain ⟨F105, g106, R107⟩ := hF_.get 8 (by kernel_rfl) rfl rfl
        obtain ⟨xa99, xc100, xa102, xc103, rfl, r101, r104⟩ := R107
        exact does_lit (k := 2) (R := PrC) (hR := PrC.mono) (p := (p.1, p.2)) (cs := [.slice xa99 _ xc100, .slice xa102 _ xc103]) (E := 49) g106 ⟨_, _, rfl, r101, r104⟩ rfl (ex_lit (E := 49) (cells := #[.slice xa99 _ xc100, .slice xa102 _ xc103]) (bmap1 rfl) (fun w => by kernel_rfl))
      simp only [Act.put, List.setIfInBounds_toArray, List.set_cons_succ, List.set_cons_zero]
      refine gw_nil ?_
      intro w109 hC111 hF112
      obtain ⟨F113, g114, R115⟩ := hF112.get 9 rfl rfl
      have S110 := St.gives S80 g114
      have le117 : Le _ _ := g114.le S80.sat
      have R118 := R115
      generalize F113 = F116 at *
      obtain ⟨xa119, xc120, rfl, _⟩ := Sl.shape R118
      clear hF112
      simp only [List.drop_succ_cons, List.drop_zero]
      have S110 : St w F w109 F116 [⟨n76, [(.slice xa69 p.1.length xc70), (.slice xa73 p.2.length xc74)], 49⟩, ⟨n44, [(.slice xa42 t.1.length xc43), v2], 83⟩, ⟨n30, [(.slice xa23 t.1.length xc24), (.slice xa27 t.2.length xc28)], 83⟩] [ownP 2 PrC PrC.mono 49 w.heap.size v2 (t.2.take j), ownP 2 TnC TnC.mono 83 w.heap.size v (l.take k)] := S110
      refine stAppendS (r := 0) (u := (.slice xa119 [(p.1, p.2)].length xc120)) S110 rfl i49 (.agg #[(.slice none 0 0), (.slice none 0 0)]) 48 Try.underlying44 hi49 hz49 hs49 hb49 rfl (by decide) rfl rfl rfl (Sl.toW R118 (S110).sat) (fun F cs p h => PrC.one F cs p h) (Nat.le_refl _) S110.gr.below.size (by unfold maxLen; simp only [List.length_take, List.length_cons, List.length_nil]; omega) (by simp only [List.length_take, List.length_cons, List.length_nil]; omega) ?_
      intro v121 w122 S123 hn124
      simp only [Act.put, List.setIfInBounds_toArray, List.set_cons_succ, List.set_cons_zero]
      have S123 : St w F w122 F116 [⟨n76, [(.slice xa69 p.1.length xc70), (.slice xa73 p.2.length xc74)], 49⟩, ⟨n44, [(.slice xa42 t.1.length xc43), v2], 83⟩, ⟨n30, [(.slice xa23 t.1.length xc24), (.slice xa27 t.2.length xc28)], 83⟩] [ownP 2 PrC PrC.mono 49 w.heap.size v121 ((t.2.take j) ++ [(p.1, p.2)]), ownP 2 TnC TnC.mono 83 w.heap.size v (l.take k)] := S123
      obtain ⟨a125, cap126, rfl, h127, h128⟩ := (S123.own (i := 0) rfl).shape
      unfold maxLen at h128
      refine do_ rfl (.pointer (some ⟨n44, 1, none⟩)) (ex_field (q := ⟨n44, 1, none⟩) rfl (fa_83_1 _ _)) ?_
      simp only [Act.put, List.setIfInBounds_toArray, List.set_cons_succ, List.set_cons_zero]
      refine stStore (i := 1) (v := (.slice a125 ((t.2.take j) ++ [(p.1, p.2)]).length cap126)) S123 rfl rfl rfl rfl (size_44) (allc1 rfl) (Nat.le_of_ble_eq_true rfl) (fun w129 S130 => ?_)
      simp only [Act.put, List.setIfInBounds_toArray, List.set_cons_succ, List.set_cons_zero]
      have S130 : St w F w129 F116 [⟨n76, [(.slice xa69 p.1.length xc70), (.slice xa73 p.2.length xc74)], 49⟩, ⟨n44, [(.slice xa42 t.1.length xc43), (.slice a125 ((t.2.take j) ++ [(p.1, p.2)]).length cap126)], 83⟩, ⟨n30, [(.slice xa23 t.1.length xc24), (.slice xa27 t.2.length xc28)], 83⟩] [ownP 2 PrC PrC.mono 49 w.heap.size (.slice a125 ((t.2.take j) ++ [(p.1, p.2)]).length cap126) ((t.2.take j) ++ [(p.1, p.2)]), ownP 2 TnC TnC.mono 83 w.heap.size v (l.take k)] := S130
      refine wl_nil ?_
      (try simp only [Exit.then, Exit.inBlock, ↓reduceIte, Nat.reduceEqDiff])
      refine hK63 _ _ ?_
      refine region_wl ?_
      refine do_ rfl (.int .i64 (((j + 1) : Nat) : Int)) (ex_add (m := ((j : Nat) : Int)) (n := (1 : Int)) (r := (((j + 1) : Nat) : Int)) rfl rfl (by omega) (by omega) (by omega)) ?_
      simp only [Act.put, List.setIfInBounds_toArray, List.set_cons_succ, List.set_cons_zero]
      refine do_ rfl (.int .i64 (((j + 1) : Nat) : Int)) (ex_move _) ?_
      simp only [Act.put, List.setIfInBounds_toArray, List.set_cons_succ, List.set_cons_zero]
      refine wl_nil ?_
      (try simp only [Exit.then, Exit.inBlock, ↓reduceIte, Nat.reduceEqDiff])
      have S130 := St.drop S130 (L' := [⟨n44, [(.slice xa42 t.1.length xc43), (.slice a125 ((t.2.take j) ++ [(p.1, p.2)]).length cap126)], 83⟩, ⟨n30, [(.slice xa23 t.1.length xc24), (.slice xa27 t.2.length xc28)], 83⟩]) (.cons _ (List.Sublist.refl _))
      rw [← take_snoc hp] at S130
      exact hK60 _ _ _ (by omega) ⟨(j + 1), (.slice a125 (t.2.take (j + 1)).length cap126), F116, (slotF [(.slice a l.length c), undef, (.slice none 0 0), v, undef, (.pointer (some ⟨n30, 0, none⟩)), (.pointer (some ⟨n44, 0, none⟩)), undef, (.pointer (some ⟨n76, 0, none⟩)), (.slice a l.length c), (.int .i64 ((l.length : Nat) : Int)), (.int .i64 ((k : Nat) : Int)), (.bool true), (.pointer (some ⟨b19, o20 + k * 2, none⟩)), (.agg #[(.slice xa23 t.1.length xc24), (.slice xa27 t.2.length xc28)]), (.pointer (some ⟨n30, 0, none⟩)), (.slice xa23 t.1.length xc24), (.slice xa42 t.1.length xc43), (.agg #[(.slice xa42 t.1.length xc43), (.slice none 0 0)]), (.pointer (some ⟨n30, 1, none⟩)), (.slice xa27 t.2.length xc28), (.int .i64 ((t.2.length : Nat) : Int)), (.int .i64 (((j + 1) : Nat) : Int)), (.bool true), (.pointer (some ⟨b65, o66 + j * 2, none⟩)), (.agg #[(.slice xa69 p.1.length xc70), (.slice xa73 p.2.length xc74)]), (.pointer (some ⟨n44, 1, none⟩)), v2, (.pointer (some ⟨n76, 0, none⟩)), (.slice xa69 p.1.length xc70), v82, (.pointer (some ⟨n76, 1, none⟩)), (.slice xa73 p.2.length xc74), v83, v84, (.slice xa119 [(p.1, p.2)].length xc120), (.slice a125 ((t.2.take j) ++ [(p.1, p.2)]).length cap126), (.pointer (some ⟨n44, 1, none⟩)), (.int .i64 (((j + 1) : Nat) : Int)), (u7 39), (u7 40), (u7 41), (u7 42), (u7 43), undef]), rfl, rfl, S130, (le59.trans le117), (by omega)⟩
    · refine do_ rfl (.bool false) (ex_lss (m := ((j : Nat) : Int)) (n := ((t.2.length : Nat) : Int)) (b := false) rfl rfl (decide_eq_false (by omega))) ?_
      simp only [Act.put, List.setIfInBounds_toArray, List.set_cons_succ, List.set_cons_zero]
      refine wl_nil ?_
      (try simp only [Exit.then, Exit.inBlock, ↓reduceIte, Nat.reduceEqDiff])
      refine hK61 _ _ ?_
      refine wp_seq_k (fun K131 hK131 => ?_)
      refine wp_cond_false rfl ?_
      refine wp_exit ?_
      (try simp only [Exit.then, Exit.inBlock, ↓reduceIte, Nat.reduceEqDiff])
      refine hK49 _ _ ?_
      have hj2 : t.2.take j = t.2 := List.take_of_length_le (by omega)
      rw [hj2] at S58
      obtain ⟨F132, S133, le134, hv135⟩ := St.freeze S58 (i := 0) rfl (Nat.le_refl _)
      have S133 : St w F w57 F132 [⟨n44, [(.slice xa42 t.1.length xc43), v2], 83⟩, ⟨n30, [(.slice xa23 t.1.length xc24), (.slice xa27 t.2.length xc28)], 83⟩] [ownP 2 TnC TnC.mono 83 w.heap.size v (l.take k)] := S133
      have hv135 : Prs _ v2 t.2 := hv135
      obtain ⟨a136, c137, rfl, h138, h139⟩ := Sl.shape hv135
      unfold maxLen at h139
      refine region_wl ?_
      refine do_ rfl v (ex_move _) ?_
      simp only [Act.put, List.setIfInBounds_toArray, List.set_cons_succ, List.set_cons_zero]
      refine do_ rfl (.agg #[(.slice xa42 t.1.length xc43), (.slice a136 t.2.length c137)]) (ex_load rfl (loadN (cs := [(.slice xa42 t.1.length xc43), (.slice a136 t.2.length c137)]) Try.underlying83 rfl (size_83) (St.range S133 (i := 0) rfl 0 [(.slice xa42 t.1.length xc43), (.slice a136 t.2.length c137)] (sub_range 0 rfl)))) ?_
      simp only [Act.put, List.setIfInBounds_toArray, List.set_cons_succ, List.set_cons_zero]
      refine stNew S133 (v := fun n => .slice (some ⟨n, 0, none⟩) 1 1) rfl (ex_lit (ps := #[(0, (.agg #[(.slice xa42 t.1.length xc43), (.slice a136 t.2.length c137)]))]) (cells := #[(.slice xa42 t.1.length xc43), (.slice a136 t.2.length c137)]) (E := 83) (bmap1 rfl) (fun w => by kernel_rfl)) (fun n140 w141 S142 => ?_)
      simp only [Act.put, List.setIfInBounds_toArray, List.set_cons_succ, List.set_cons_zero]
      have S142 : St w F w141 F132 [⟨n140, [(.slice xa42 t.1.length xc43), (.slice a136 t.2.length c137)], 83⟩, ⟨n44, [(.slice xa42 t.1.length xc43), (.slice a136 t.2.length c137)], 83⟩, ⟨n30, [(.slice xa23 t.1.length xc24), (.slice xa27 t.2.length xc28)], 83⟩] [ownP 2 TnC TnC.mono 83 w.heap.size v (l.take k)] := S142
      refine stPush (i := 0) (r := 0) (p := t) (cs := [(.slice xa42 t.1.length xc43), (.slice a136 t.2.length c137)]) S142 rfl i83 (.agg #[(.slice none 0 0), (.slice none 0 0)]) 48 Try.underlying73 hi83 hz83 hs83 hb83 rfl (by decide) rfl rfl rfl rfl rfl (TnC.oneCell (p := t) ⟨_, _, rfl, (R40.mono (le59.trans le134)), hv135⟩) (⟨_, _, rfl, (R40.mono (le59.trans le134)), hv135⟩) (Nat.le_refl _) S142.gr.below.size (by unfold maxLen; omega) (by omega) ?_
      intro v143 w144 S145 hn146
      simp only [Act.put, List.setIfInBounds_toArray, List.set_cons_succ, List.set_cons_zero]
      have S145 := St.drop S145 (L' := [⟨n44, [(.slice xa42 t.1.length xc43), (.slice a136 t.2.length c137)], 83⟩, ⟨n30, [(.slice xa23 t.1.length xc24), (.slice xa27 t.2.length xc28)], 83⟩]) (.cons _ (List.Sublist.refl _))
      have S145 : St w F w144 F132 [⟨n44, [(.slice xa42 t.1.length xc43), (.slice a136 t.2.length c137)], 83⟩, ⟨n30, [(.slice xa23 t.1.length xc24), (.slice xa27 t.2.length xc28)], 83⟩] [ownP 2 TnC TnC.mono 83 w.heap.size v143 ((l.take k) ++ [t])] := S145
      refine do_ rfl v143 (ex_assign _) ?_
      simp only [Act.put, List.setIfInBounds_toArray, List.set_cons_succ, List.set_cons_zero]
      refine wl_nil ?_
      (try simp only [Exit.then, Exit.inBlock, ↓reduceIte, Nat.reduceEqDiff])
      refine hK17 _ _ ?_
      refine region_wl ?_
      refine do_ rfl (.int .i64 (((k + 1) : Nat) : Int)) (ex_add (m := ((k : Nat) : Int)) (n := (1 : Int)) (r := (((k + 1) : Nat) : Int)) rfl rfl (by omega) (by omega) (by omega)) ?_
      simp only [Act.put, List.setIfInBounds_toArray, List.set_cons_succ, List.set_cons_zero]
      refine do_ rfl (.int .i64 (((k + 1) : Nat) : Int)) (ex_move _) ?_
      simp only [Act.put, List.setIfInBounds_toArray, List.set_cons_succ, List.set_cons_zero]
      refine wl_nil ?_
      (try simp only [Exit.then, Exit.inBlock, ↓reduceIte, Nat.reduceEqDiff])
      have S145 := St.drop S145 (L' := []) (.cons _ (.cons _ (List.Sublist.refl _)))
      rw [← take_snoc ht] at S145
      exact hK14 _ _ _ (by omega) ⟨(k + 1), v143, F132, (slotF [(.slice a l.length c), undef, (.slice none 0 0), v143, undef, (.pointer (some ⟨n30, 0, none⟩)), (.pointer (some ⟨n44, 0, none⟩)), undef, (u53 8), (.slice a l.length c), (.int .i64 ((l.length : Nat) : Int)), (.int .i64 (((k + 1) : Nat) : Int)), (.bool true), (.pointer (some ⟨b19, o20 + k * 2, none⟩)), (.agg #[(.slice xa23 t.1.length xc24), (.slice xa27 t.2.length xc28)]), (.pointer (some ⟨n30, 0, none⟩)), (.slice xa23 t.1.length xc24), (.slice xa42 t.1.length xc43), (.agg #[(.slice xa42 t.1.length xc43), (.slice none 0 0)]), (.pointer (some ⟨n30, 1, none⟩)), (.slice xa27 t.2.length xc28), (.int .i64 ((t.2.length : Nat) : Int)), (.int .i64 ((j : Nat) : Int)), (.bool false), (u53 24), (u53 25), (u53 26), (u53 27), (u53 28), (u53 29), (u53 30), (u53 31), (u53 32), (u53 33), (u53 34), (u53 35), (u53 36), (u53 37), (u53 38), v, (.agg #[(.slice xa42 t.1.length xc43), (.slice a136 t.2.length c137)]), (.slice (some ⟨n140, 0, none⟩) 1 1), v143, (.int .i64 (((k + 1) : Nat) : Int)), undef]), rfl, rfl, S145, (((le13.trans le39).trans le59).trans le134), (by omega)⟩
  · refine do_ rfl (.bool false) (ex_lss (m := ((k : Nat) : Int)) (n := ((l.length : Nat) : Int)) (b := false) rfl rfl (decide_eq_false (by omega))) ?_
    simp only [Act.put, List.setIfInBounds_toArray, List.set_cons_succ, List.set_cons_zero]
    refine wl_nil ?_
    (try simp only [Exit.then, Exit.inBlock, ↓reduceIte, Nat.reduceEqDiff])
    refine hK15 _ _ ?_
    refine wp_seq_k (fun K147 hK147 => ?_)
    refine wp_cond_false rfl ?_
    refine wp_exit ?_
    (try simp only [Exit.then, Exit.inBlock, ↓reduceIte, Nat.reduceEqDiff])
    refine hK3 _ _ ?_
    refine wp_seq_k (fun K148 hK148 => ?_)
    refine region_wl ?_
    refine do_ rfl v (ex_move _) ?_
    simp only [Act.put, List.setIfInBounds_toArray, List.set_cons_succ, List.set_cons_zero]
    refine do_ rfl v (ex_assign _) ?_
    simp only [Act.put, List.setIfInBounds_toArray, List.set_cons_succ, List.set_cons_zero]
    refine wl_nil ?_
    (try simp only [Exit.then, Exit.inBlock, ↓reduceIte, Nat.reduceEqDiff])
    refine hK148 _ _ ?_
    refine wp_ret ?_
    (try simp only [Exit.then, Exit.inBlock, ↓reduceIte, Nat.reduceEqDiff])
    refine bodyPost_ret (v := v) ?_ rfl ?_
    · exact res_t rfl rfl
    · obtain rfl : k = l.length := by omega
      exact ⟨_, _, rfl, S12.gr, by have h := St.own (i := 0) S12 rfl; rwa [List.take_length] at h⟩
end Go.Proofs.Yteefnnnbbmbmcaa
