/- Walks: tree.own, tree.all -/
import Derived.Test.YteefnnnbbmbmcaaB2
import Derived.Test.YteefnnnbbmbmcaaS2
import Derived.Test.YteefnnnbbmbmcaaTY
namespace Go.Proofs.Yteefnnnbbmbmcaa
open Go.RowKit
set_option maxRecDepth 100000
set_option linter.unusedVariables false
set_option linter.unusedSimpArgs false
theorem take_snoc {α : Type} {l : List α} {k : Nat} {p : α} (h : l[k]? = some p) : l.take (k + 1) = l.take k ++ [p] := by
  obtain ⟨hk, rfl⟩ := List.getElem?_eq_some_iff.1 h
  exact List.take_succ_eq_append_getElem hk
set_option maxHeartbeats 400000 in
theorem own2_spec (F : Fz) (w : World) (v : Value) (p : Pr) (hs : Sat w F) (hv : Pr2V F v p) (hk : p.1.length ≤ 100000) (hx : p.2.length ≤ 100000) :
    Calls Try.prog 87 #[v] w (Gives w F fun F' u => Pr2V F' u p) := by
  obtain ⟨x0, y0, x1, y1, rfl, h0, h1⟩ := hv
  have S := St.start hs
  go_enter Try.func87, Try.ntmps87
  refine wp_seq_k (fun K1 hK1 => ?_)
  refine region_wl ?_
  refine stNew S (v := fun n => .pointer (some ⟨n, 0, none⟩)) rfl (ex_box (v := (.agg #[(.slice x0 p.1.length y0), (.slice x1 p.2.length y1)])) rfl) (fun n2 w3 S4 => ?_)
  simp only [Act.put, List.setIfInBounds_toArray, List.set_cons_succ, List.set_cons_zero]
  have S4 : St w F w3 F [⟨n2, [(.slice x0 p.1.length y0), (.slice x1 p.2.length y1)], 49⟩] [] := S4
  refine stNew S4 (v := fun n => .pointer (some ⟨n, 0, none⟩)) rfl (ex_alloc (zero_49 _)) (fun n5 w6 S7 => ?_)
  simp only [Act.put, List.setIfInBounds_toArray, List.set_cons_succ, List.set_cons_zero]
  have S7 : St w F w6 F [⟨n5, [(.slice none 0 0), (.slice none 0 0)], 49⟩, ⟨n2, [(.slice x0 p.1.length y0), (.slice x1 p.2.length y1)], 49⟩] [] := S7
  refine wl_nil ?_
  (try simp only [Exit.then, Exit.inBlock, ↓reduceIte, Nat.reduceEqDiff])
  refine hK1 _ _ ?_
  refine wp_seq_k (fun K8 hK8 => ?_)
  refine region_gw F 5 [(2, .made (fun F' u => Bs F' u p.1))] (by kernel_rfl) (by kernel_rfl) ?_
  simp only [List.take_succ_cons, List.take_zero]
  refine gw_pure rfl rfl (.pointer (some ⟨n2, 0, none⟩)) (fun w9 hCw9 => pureAt_of (ex_field (q := ⟨n2, 0, none⟩) rfl (fa_49_0 _ _))) ?_
  simp only [Act.put, List.setIfInBounds_toArray, List.set_cons_succ, List.set_cons_zero]
  refine gw_pure rfl rfl (.slice x0 p.1.length y0) (fun w9 hCw9 => pureAt_of (ex_load rfl (load1 (nagg_27 _) (St.cell (St.tells S7 hCw9) (i := 1) rfl rfl)))) ?_
  simp only [Act.put, List.setIfInBounds_toArray, List.set_cons_succ, List.set_cons_zero]
  refine gw_rel rfl rfl (fun w9 hCw9 hF => does_call (ex_fn (vs := #[(.slice x0 p.1.length y0)]) (map1 rfl) rfl (ent_85 _ _)) (call_made S7.sat hCw9 (clone_spec _ _ _ p.1 ((St.tells S7 hCw9)).sat h0 (by omega)))) (fun v10 => ?_)
  simp only [Act.put, List.setIfInBounds_toArray, List.set_cons_succ, List.set_cons_zero]
  refine gw_pure rfl rfl (.pointer (some ⟨n2, 1, none⟩)) (fun w9 hCw9 => pureAt_of (ex_field (q := ⟨n2, 1, none⟩) rfl (fa_49_1 _ _))) ?_
  simp only [Act.put, List.setIfInBounds_toArray, List.set_cons_succ, List.set_cons_zero]
  refine gw_pure rfl rfl (.slice x1 p.2.length y1) (fun w9 hCw9 => pureAt_of (ex_load rfl (load1 (nagg_27 _) (St.cell (St.tells S7 hCw9) (i := 1) rfl rfl)))) ?_
  simp only [Act.put, List.setIfInBounds_toArray, List.set_cons_succ, List.set_cons_zero]
  refine gw_nil ?_
  intro w11 hC13 hF14
  obtain ⟨F15, g16, R17⟩ := hF14.get 2 rfl rfl
  have S12 := St.gives S7 g16
  have le19 := g16.le S7.sat
  have R20 := R17
  generalize F15 = F18 at *
  obtain ⟨xa21, xc22, rfl, _⟩ := R20.shape
  clear hF14
  simp only [List.drop_succ_cons, List.drop_zero]
  have S12 : St w F w11 F18 [⟨n5, [(.slice none 0 0), (.slice none 0 0)], 49⟩, ⟨n2, [(.slice x0 p.1.length y0), (.slice x1 p.2.length y1)], 49⟩] [] := S12
  refine stGives S12 rfl (ex_fn (vs := #[(.slice x1 p.2.length y1)]) (map1 rfl) rfl (ent_85 _ _)) (clone_spec _ _ _ p.2 (S12).sat (h1.mono le19) (by omega)) ?_
  intro v28 w23 F25 S24 le26 R27
  obtain ⟨xa29, xc30, rfl, _⟩ := R27.shape
  simp only [Act.put, List.setIfInBounds_toArray, List.set_cons_succ, List.set_cons_zero]
  have S24 : St w F w23 F25 [⟨n5, [(.slice none 0 0), (.slice none 0 0)], 49⟩, ⟨n2, [(.slice x0 p.1.length y0), (.slice x1 p.2.length y1)], 49⟩] [] := S24
  refine do_ rfl (.agg #[(.slice xa21 p.1.length xc22), (.slice xa29 p.2.length xc30)]) (ex_build (ps := #[(0, (.slice xa21 p.1.length xc22)), (1, (.slice xa29 p.2.length xc30))]) (bmap2 rfl rfl) (by kernel_rfl)) ?_
  simp only [Act.put, List.setIfInBounds_toArray, List.set_cons_succ, List.set_cons_zero]
  refine stStore (i := 0) (v := (.agg #[(.slice xa21 p.1.length xc22), (.slice xa29 p.2.length xc30)])) S24 rfl rfl rfl rfl (size_49) (allc2 rfl rfl) (Nat.le_of_ble_eq_true rfl) (fun w31 S32 => ?_)
  simp only [Act.put, List.setIfInBounds_toArray, List.set_cons_succ, List.set_cons_zero]
  have S32 : St w F w31 F25 [⟨n5, [(.slice xa21 p.1.length xc22), (.slice xa29 p.2.length xc30)], 49⟩, ⟨n2, [(.slice x0 p.1.length y0), (.slice x1 p.2.length y1)], 49⟩] [] := S32
  refine wl_nil ?_
  (try simp only [Exit.then, Exit.inBlock, ↓reduceIte, Nat.reduceEqDiff])
  refine hK8 _ _ ?_
  refine wp_ret ?_
  (try simp only [Exit.then, Exit.inBlock, ↓reduceIte, Nat.reduceEqDiff])
  refine bodyPost_ret (v := (.agg #[(.slice xa21 p.1.length xc22), (.slice xa29 p.2.length xc30)])) ?_ rfl ?_
  · exact res_c rfl ⟨_, rfl, loadN (cs := [(.slice xa21 p.1.length xc22), (.slice xa29 p.2.length xc30)]) Try.underlying49 rfl (size_49) (St.range S32 (i := 0) rfl 0 [(.slice xa21 p.1.length xc22), (.slice xa29 p.2.length xc30)] (sub_range 0 rfl))⟩
  · exact ⟨_, _, rfl, S32.gr, ⟨_, _, _, _, rfl, (R20.mono le26), R27⟩⟩
set_option maxHeartbeats 400000 in
theorem all_spec (F : Fz) (w : World) (v : Value) (l : List Pr) (hs : Sat w F) (hv : Prs F v l) (hl : l.length ≤ 100000) (hL : ∀ p ∈ l, p.1.length ≤ 100000 ∧ p.2.length ≤ 100000) :
    Calls Try.prog 83 #[v] w (GivesO w F 2 PrC 49 l) := by
  obtain ⟨a, c, rfl, hc1, hc2⟩ := Sl.shape hv
  unfold maxLen at hc2
  obtain ⟨i49, hi49, hz49, hs49, hb49⟩ := info_parts info_49
  have S := St.start hs
  go_enter Try.func83, Try.ntmps83
  refine wp_seq_k (fun K1 hK1 => ?_)
  refine region_wl ?_
  refine do_ rfl (.slice none 0 0) (ex_assign _) ?_
  simp only [Act.put, List.setIfInBounds_toArray, List.set_cons_succ, List.set_cons_zero]
  refine wl_nil ?_
  (try simp only [Exit.then, Exit.inBlock, ↓reduceIte, Nat.reduceEqDiff])
  refine hK1 _ _ ?_
  refine wp_seq_k (fun K2 hK2 => ?_)
  refine region_wl ?_
  refine do_ rfl (.slice none 0 0) (ex_assign _) ?_
  simp only [Act.put, List.setIfInBounds_toArray, List.set_cons_succ, List.set_cons_zero]
  refine wl_nil ?_
  (try simp only [Exit.then, Exit.inBlock, ↓reduceIte, Nat.reduceEqDiff])
  refine hK2 _ _ ?_
  refine wp_seq_k (fun K3 hK3 => ?_)
  refine wp_seq_k (fun K4 hK4 => ?_)
  refine region_wl ?_
  refine do_ rfl (.slice a l.length c) (ex_move _) ?_
  simp only [Act.put, List.setIfInBounds_toArray, List.set_cons_succ, List.set_cons_zero]
  refine do_ rfl (.int .i64 ((l.length : Nat) : Int)) (ex_len Try.underlying44 rfl) ?_
  simp only [Act.put, List.setIfInBounds_toArray, List.set_cons_succ, List.set_cons_zero]
  refine do_ rfl (.int .i64 0) (ex_move _) ?_
  simp only [Act.put, List.setIfInBounds_toArray, List.set_cons_succ, List.set_cons_zero]
  refine wl_nil ?_
  (try simp only [Exit.then, Exit.inBlock, ↓reduceIte, Nat.reduceEqDiff])
  refine hK4 _ _ ?_
  refine wp_block ?_
  have S5 := St.addNil S 2 PrC PrC.mono 49 w.heap.size
  refine wp_loop_g (fun mm aa w8 => ∃ (k : Nat) (v : Value) (F6 : Fz) (u7 : Nat → Value), mm = l.length - k ∧ aa = ⟨#[(.slice a l.length c), undef, (.slice none 0 0), v, undef, (u7 5), (.slice a l.length c), (.int .i64 ((l.length : Nat) : Int)), (.int .i64 ((k : Nat) : Int)), (u7 9), (u7 10), (u7 11), (u7 12), (u7 13), (u7 14), (u7 15), (u7 16), (u7 17), undef], []⟩ ∧ St w F w8 F6 [] [ownP 2 PrC PrC.mono 49 w.heap.size v (l.take k)] ∧ Le F F6 ∧ (k ≤ l.length)) _ ⟨0, (.slice none 0 0), F, (slotF [(.slice a l.length c), undef, (.slice none 0 0), (.slice none 0 0), undef, undef, (.slice a l.length c), (.int .i64 ((l.length : Nat) : Int)), (.int .i64 0), undef, undef, undef, undef, undef, undef, undef, undef, undef, undef]), rfl, rfl, S5, Le.refl _, (by omega)⟩ ?_
  rintro m9 a10 w11 ⟨k, v, F6, u7, rfl, rfl, S12, le13, hk⟩ K14 hK14
  refine wp_seq_k (fun K15 hK15 => ?_)
  refine region_wl ?_
  by_cases hc9 : k < l.length
  · refine do_ rfl (.bool true) (ex_lss (m := ((k : Nat) : Int)) (n := ((l.length : Nat) : Int)) (b := true) rfl rfl (decide_eq_true (by omega))) ?_
    simp only [Act.put, List.setIfInBounds_toArray, List.set_cons_succ, List.set_cons_zero]
    refine wl_nil ?_
    (try simp only [Exit.then, Exit.inBlock, ↓reduceIte, Nat.reduceEqDiff])
    refine hK15 _ _ ?_
    refine wp_seq_k (fun K16 hK16 => ?_)
    refine wp_cond_true rfl ?_
    refine wp_skip ?_
    (try simp only [Exit.then, Exit.inBlock, ↓reduceIte, Nat.reduceEqDiff])
    refine hK16 _ _ ?_
    refine wp_seq_k (fun K17 hK17 => ?_)
    refine wp_block ?_
    refine wp_seq_k (fun K18 hK18 => ?_)
    refine region_wl ?_
    obtain ⟨p, hp⟩ : ∃ p, l[k]? = some p := ⟨l[k], List.getElem?_eq_getElem hc9⟩
    have hpl := hL p (List.mem_of_getElem? hp)
    have htk : (l.take k).length = k := by rw [List.length_take]; omega
    obtain ⟨b19, o20, ha21, xa23, xc24, xa27, xc28, c22, c26, r25, r29⟩ := Prs.get (hv.mono le13) hp
    refine do_ rfl (.pointer (some ⟨b19, o20 + k * 2, none⟩)) (ex_at (i := k) (sz := 2) Try.underlying44 (sizeof_49 _) rfl ha21 rfl (by omega) rfl) ?_
    simp only [Act.put, List.setIfInBounds_toArray, List.set_cons_succ, List.set_cons_zero]
    refine do_ rfl (.agg #[(.slice xa23 p.1.length xc24), (.slice xa27 p.2.length xc28)]) (ex_load rfl (loadN (cs := [(.slice xa23 p.1.length xc24), (.slice xa27 p.2.length xc28)]) Try.underlying49 rfl (size_49) (range2 (St.fz S12 c22) (St.fz S12 c26)))) ?_
    simp only [Act.put, List.setIfInBounds_toArray, List.set_cons_succ, List.set_cons_zero]
    refine stNew S12 (v := fun n => .pointer (some ⟨n, 0, none⟩)) rfl (ex_alloc (zero_49 _)) (fun n30 w31 S32 => ?_)
    simp only [Act.put, List.setIfInBounds_toArray, List.set_cons_succ, List.set_cons_zero]
    have S32 : St w F w31 F6 [⟨n30, [(.slice none 0 0), (.slice none 0 0)], 49⟩] [ownP 2 PrC PrC.mono 49 w.heap.size v (l.take k)] := S32
    refine stStore (i := 0) (v := (.agg #[(.slice xa23 p.1.length xc24), (.slice xa27 p.2.length xc28)])) S32 rfl rfl rfl rfl (size_49) (allc2 rfl rfl) (Nat.le_of_ble_eq_true rfl) (fun w33 S34 => ?_)
    simp only [Act.put, List.setIfInBounds_toArray, List.set_cons_succ, List.set_cons_zero]
    have S34 : St w F w33 F6 [⟨n30, [(.slice xa23 p.1.length xc24), (.slice xa27 p.2.length xc28)], 49⟩] [ownP 2 PrC PrC.mono 49 w.heap.size v (l.take k)] := S34
    refine wl_nil ?_
    (try simp only [Exit.then, Exit.inBlock, ↓reduceIte, Nat.reduceEqDiff])
    refine hK18 _ _ ?_
    refine region_wl ?_
    refine do_ rfl v (ex_move _) ?_
    simp only [Act.put, List.setIfInBounds_toArray, List.set_cons_succ, List.set_cons_zero]
    refine do_ rfl (.agg #[(.slice xa23 p.1.length xc24), (.slice xa27 p.2.length xc28)]) (ex_load rfl (loadN (cs := [(.slice xa23 p.1.length xc24), (.slice xa27 p.2.length xc28)]) Try.underlying49 rfl (size_49) (St.range S34 (i := 0) rfl 0 [(.slice xa23 p.1.length xc24), (.slice xa27 p.2.length xc28)] (sub_range 0 rfl)))) ?_
    simp only [Act.put, List.setIfInBounds_toArray, List.set_cons_succ, List.set_cons_zero]
    refine stGives S34 rfl (ex_fn (vs := #[(.agg #[(.slice xa23 p.1.length xc24), (.slice xa27 p.2.length xc28)])]) (map1 rfl) rfl (ent_87 _ _)) (own2_spec _ _ _ p (S34).sat ⟨_, _, _, _, rfl, r25, r29⟩ (by omega) (by omega)) ?_
    intro v40 w35 F37 S36 le38 R39
    obtain ⟨xa41, xc42, xa43, xc44, rfl, r45, r46⟩ := R39
    simp only [Act.put, List.setIfInBounds_toArray, List.set_cons_succ, List.set_cons_zero]
    have S36 : St w F w35 F37 [⟨n30, [(.slice xa23 p.1.length xc24), (.slice xa27 p.2.length xc28)], 49⟩] [ownP 2 PrC PrC.mono 49 w.heap.size v (l.take k)] := S36
    refine stNew S36 (v := fun n => .slice (some ⟨n, 0, none⟩) 1 1) rfl (ex_lit (ps := #[(0, (.agg #[(.slice xa41 p.1.length xc42), (.slice xa43 p.2.length xc44)]))]) (cells := #[(.slice xa41 p.1.length xc42), (.slice xa43 p.2.length xc44)]) (E := 49) (bmap1 rfl) (fun w => by kernel_rfl)) (fun n47 w48 S49 => ?_)
    simp only [Act.put, List.setIfInBounds_toArray, List.set_cons_succ, List.set_cons_zero]
    have S49 : St w F w48 F37 [⟨n47, [(.slice xa41 p.1.length xc42), (.slice xa43 p.2.length xc44)], 49⟩, ⟨n30, [(.slice xa23 p.1.length xc24), (.slice xa27 p.2.length xc28)], 49⟩] [ownP 2 PrC PrC.mono 49 w.heap.size v (l.take k)] := S49
    refine stPush (i := 0) (r := 0) (p := p) (cs := [(.slice xa41 p.1.length xc42), (.slice xa43 p.2.length xc44)]) S49 rfl i49 (.agg #[(.slice none 0 0), (.slice none 0 0)]) 48 Try.underlying44 hi49 hz49 hs49 hb49 rfl (by decide) rfl rfl rfl rfl rfl (PrC.oneCell ⟨_, _, rfl, r45, r46⟩) (⟨_, _, rfl, r45, r46⟩) (Nat.le_refl _) S49.gr.below.size (by unfold maxLen; omega) (by omega) ?_
    intro v50 w51 S52 hn53
    simp only [Act.put, List.setIfInBounds_toArray, List.set_cons_succ, List.set_cons_zero]
    have S52 := St.drop S52 (L' := [⟨n30, [(.slice xa23 p.1.length xc24), (.slice xa27 p.2.length xc28)], 49⟩]) (.cons _ (List.Sublist.refl _))
    have S52 : St w F w51 F37 [⟨n30, [(.slice xa23 p.1.length xc24), (.slice xa27 p.2.length xc28)], 49⟩] [ownP 2 PrC PrC.mono 49 w.heap.size v50 ((l.take k) ++ [p])] := S52
    refine do_ rfl v50 (ex_assign _) ?_
    simp only [Act.put, List.setIfInBounds_toArray, List.set_cons_succ, List.set_cons_zero]
    refine wl_nil ?_
    (try simp only [Exit.then, Exit.inBlock, ↓reduceIte, Nat.reduceEqDiff])
    refine hK17 _ _ ?_
    refine region_wl ?_
    refine do_ rfl (.int .i64 (((k + 1) : Nat) : Int)) (ex_add (m := ((k : Nat) : Int)) (n := (1 : Int)) (r := (((k + 1) : Nat) : Int)) rfl rfl (by omega) (by omega) (by omega)) ?_
    simp only [Act.put, List.setIfInBounds_toArray, List.set_cons_succ, List.set_cons_zero]
    refine do_ rfl (.int .i64 (((k + 1) : Nat) : Int)) (ex_move _) ?_
    simp only [Act.put, List.setIfInBounds_toArray, List.set_cons_succ, List.set_cons_zero]
    refine wl_nil ?_
    (try simp only [Exit.then, Exit.inBlock, ↓reduceIte, Nat.reduceEqDiff])
    have S52 := St.drop S52 (L' := []) (.cons _ (List.Sublist.refl _))
    rw [← take_snoc hp] at S52
    exact hK14 _ _ _ (by omega) ⟨(k + 1), v50, F37, (slotF [(.slice a l.length c), undef, (.slice none 0 0), v50, undef, (.pointer (some ⟨n30, 0, none⟩)), (.slice a l.length c), (.int .i64 ((l.length : Nat) : Int)), (.int .i64 (((k + 1) : Nat) : Int)), (.bool true), (.pointer (some ⟨b19, o20 + k * 2, none⟩)), (.agg #[(.slice xa23 p.1.length xc24), (.slice xa27 p.2.length xc28)]), v, (.agg #[(.slice xa23 p.1.length xc24), (.slice xa27 p.2.length xc28)]), (.agg #[(.slice xa41 p.1.length xc42), (.slice xa43 p.2.length xc44)]), (.slice (some ⟨n47, 0, none⟩) 1 1), v50, (.int .i64 (((k + 1) : Nat) : Int)), undef]), rfl, rfl, S52, (le13.trans le38), (by omega)⟩
  · refine do_ rfl (.bool false) (ex_lss (m := ((k : Nat) : Int)) (n := ((l.length : Nat) : Int)) (b := false) rfl rfl (decide_eq_false (by omega))) ?_
    simp only [Act.put, List.setIfInBounds_toArray, List.set_cons_succ, List.set_cons_zero]
    refine wl_nil ?_
    (try simp only [Exit.then, Exit.inBlock, ↓reduceIte, Nat.reduceEqDiff])
    refine hK15 _ _ ?_
    refine wp_seq_k (fun K55 hK55 => ?_)
    refine wp_cond_false rfl ?_
    refine wp_exit ?_
    (try simp only [Exit.then, Exit.inBlock, ↓reduceIte, Nat.reduceEqDiff])
    refine hK3 _ _ ?_
    refine wp_seq_k (fun K56 hK56 => ?_)
    refine region_wl ?_
    refine do_ rfl v (ex_move _) ?_
    simp only [Act.put, List.setIfInBounds_toArray, List.set_cons_succ, List.set_cons_zero]
    refine do_ rfl v (ex_assign _) ?_
    simp only [Act.put, List.setIfInBounds_toArray, List.set_cons_succ, List.set_cons_zero]
    refine wl_nil ?_
    (try simp only [Exit.then, Exit.inBlock, ↓reduceIte, Nat.reduceEqDiff])
    refine hK56 _ _ ?_
    refine wp_ret ?_
    (try simp only [Exit.then, Exit.inBlock, ↓reduceIte, Nat.reduceEqDiff])
    refine bodyPost_ret (v := v) ?_ rfl ?_
    · exact res_t rfl rfl
    · obtain rfl : k = l.length := by omega
      exact ⟨_, _, rfl, S12.gr, by have h := St.own (i := 0) S12 rfl; rwa [List.take_length] at h⟩
end Go.Proofs.Yteefnnnbbmbmcaa
