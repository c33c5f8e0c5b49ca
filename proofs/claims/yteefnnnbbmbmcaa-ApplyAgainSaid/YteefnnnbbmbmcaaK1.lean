/- Walks: canopykeep.samePair, samePairs, Pairs -/
import Derived.Test.YteefnnnbbmbmcaaT4b
import Derived.Test.YteefnnnbbmbmcaaP10
namespace Go.Proofs.Yteefnnnbbmbmcaa
open Go.RowKit
set_option maxRecDepth 100000
set_option linter.unusedVariables false
set_option linter.unusedSimpArgs false
theorem tells_bool {P : Program} {k : FuncId} {vs : Array Value} {w : World} {b c : Bool} (h : Calls P k vs w (Tells w (.bool b))) (e : b = c) : Calls P k vs w (Tells w (.bool c)) := e ▸ h
theorem SlW.dropN' {α : Type} {w : World} {F : Fz} {k : Nat} {R : Fz → List Value → α → Prop} {l : List α} {a : Option Addr} {n c m : Nat} (h : SlW w F k R (.slice a n c) l) (hm : m ≤ n) : SlW w F k R (.slice (if c = m then a else a.map (·.add (m * k))) (n - m) (c - m)) (l.drop m) := h.dropN hm
set_option maxHeartbeats 8000000 in
theorem samePair_spec (F : Fz) (w : World) (v u : Value) (p q : Pr) (hs : Sat w F) (hv : Pr2V F v p) (hu : Pr2V F u q) :
    Calls Try.prog 84 #[v, u] w (Tells w (.bool (decide (p = q)))) := by
  obtain ⟨x0, y0, x1, y1, rfl, h0, h1⟩ := hv
  obtain ⟨x0q, y0q, x1q, y1q, rfl, k0, k1⟩ := hu
  have S := St.start hs
  go_enter Try.func84, Try.ntmps84
  refine wp_seq_k (fun K1 hK1 => ?_)
  refine region_wl ?_
  refine stNew S (v := fun n => .pointer (some ⟨n, 0, none⟩)) rfl (ex_box (v := (.agg #[(.slice x0 p.1.length y0), (.slice x1 p.2.length y1)])) rfl) (fun n2 w3 S4 => ?_)
  simp only [Act.put, List.setIfInBounds_toArray, List.set_cons_succ, List.set_cons_zero]
  have S4 : St w F w3 F [⟨n2, [(.slice x0 p.1.length y0), (.slice x1 p.2.length y1)], 49⟩] [] := S4
  refine stNew S4 (v := fun n => .pointer (some ⟨n, 0, none⟩)) rfl (ex_box (v := (.agg #[(.slice x0q q.1.length y0q), (.slice x1q q.2.length y1q)])) rfl) (fun n5 w6 S7 => ?_)
  simp only [Act.put, List.setIfInBounds_toArray, List.set_cons_succ, List.set_cons_zero]
  have S7 : St w F w6 F [⟨n5, [(.slice x0q q.1.length y0q), (.slice x1q q.2.length y1q)], 49⟩, ⟨n2, [(.slice x0 p.1.length y0), (.slice x1 p.2.length y1)], 49⟩] [] := S7
  refine do_ rfl (.bool false) (ex_assign _) ?_
  simp only [Act.put, List.setIfInBounds_toArray, List.set_cons_succ, List.set_cons_zero]
  refine wl_nil ?_
  (try simp only [Exit.then, Exit.inBlock, ↓reduceIte, Nat.reduceEqDiff])
  refine hK1 _ _ ?_
  refine wp_seq_k (fun K8 hK8 => ?_)
  by_cases e1 : p.1 = q.1
  · refine region_wl ?_
    refine do_ rfl (.pointer (some ⟨n2, 0, none⟩)) (ex_field (q := ⟨n2, 0, none⟩) rfl (fa_49_0 _ _)) ?_
    simp only [Act.put, List.setIfInBounds_toArray, List.set_cons_succ, List.set_cons_zero]
    refine do_ rfl (.slice x0 p.1.length y0) (ex_load rfl (load1 (nagg_27 _) (St.cell S7 (i := 1) rfl rfl))) ?_
    simp only [Act.put, List.setIfInBounds_toArray, List.set_cons_succ, List.set_cons_zero]
    refine do_ rfl (.pointer (some ⟨n5, 0, none⟩)) (ex_field (q := ⟨n5, 0, none⟩) rfl (fa_49_0 _ _)) ?_
    simp only [Act.put, List.setIfInBounds_toArray, List.set_cons_succ, List.set_cons_zero]
    refine do_ rfl (.slice x0q q.1.length y0q) (ex_load rfl (load1 (nagg_27 _) (St.cell S7 (i := 0) rfl rfl))) ?_
    simp only [Act.put, List.setIfInBounds_toArray, List.set_cons_succ, List.set_cons_zero]
    refine stTells (v := (.bool true)) S7 rfl (ex_fn (vs := #[(.slice x0 p.1.length y0), (.slice x0q q.1.length y0q)]) (map2 rfl rfl) rfl (ent_46 _ _)) (tells_bool (tells_same (same_spec _ _ _ _ p.1 q.1 (S7).sat h0 k0)) (beq_iff_eq.2 e1)) (fun w9 S10 => ?_)
    simp only [Act.put, List.setIfInBounds_toArray, List.set_cons_succ, List.set_cons_zero]
    have S10 : St w F w9 F [⟨n5, [(.slice x0q q.1.length y0q), (.slice x1q q.2.length y1q)], 49⟩, ⟨n2, [(.slice x0 p.1.length y0), (.slice x1 p.2.length y1)], 49⟩] [] := S10
    refine do_ rfl (.bool true) (ex_move _) ?_
    simp only [Act.put, List.setIfInBounds_toArray, List.set_cons_succ, List.set_cons_zero]
    refine do_ rfl (.pointer (some ⟨n2, 1, none⟩)) (ex_field (q := ⟨n2, 1, none⟩) rfl (fa_49_1 _ _)) ?_
    simp only [Act.put, List.setIfInBounds_toArray, List.set_cons_succ, List.set_cons_zero]
    refine do_ rfl (.slice x1 p.2.length y1) (ex_load rfl (load1 (nagg_27 _) (St.cell S10 (i := 1) rfl rfl))) ?_
    simp only [Act.put, List.setIfInBounds_toArray, List.set_cons_succ, List.set_cons_zero]
    refine do_ rfl (.pointer (some ⟨n5, 1, none⟩)) (ex_field (q := ⟨n5, 1, none⟩) rfl (fa_49_1 _ _)) ?_
    simp only [Act.put, List.setIfInBounds_toArray, List.set_cons_succ, List.set_cons_zero]
    refine do_ rfl (.slice x1q q.2.length y1q) (ex_load rfl (load1 (nagg_27 _) (St.cell S10 (i := 0) rfl rfl))) ?_
    simp only [Act.put, List.setIfInBounds_toArray, List.set_cons_succ, List.set_cons_zero]
    refine stTells (v := (.bool (p.2 == q.2))) S10 rfl (ex_fn (vs := #[(.slice x1 p.2.length y1), (.slice x1q q.2.length y1q)]) (map2 rfl rfl) rfl (ent_46 _ _)) (tells_same (same_spec _ _ _ _ p.2 q.2 (S10).sat h1 k1)) (fun w11 S12 => ?_)
    simp only [Act.put, List.setIfInBounds_toArray, List.set_cons_succ, List.set_cons_zero]
    have S12 : St w F w11 F [⟨n5, [(.slice x0q q.1.length y0q), (.slice x1q q.2.length y1q)], 49⟩, ⟨n2, [(.slice x0 p.1.length y0), (.slice x1 p.2.length y1)], 49⟩] [] := S12
    refine do_ rfl (.bool (p.2 == q.2)) (ex_pick (b := true) rfl) ?_
    simp only [Act.put, List.setIfInBounds_toArray, List.set_cons_succ, List.set_cons_zero]
    refine do_ rfl (.bool (p.2 == q.2)) (ex_assign _) ?_
    simp only [Act.put, List.setIfInBounds_toArray, List.set_cons_succ, List.set_cons_zero]
    refine wl_nil ?_
    (try simp only [Exit.then, Exit.inBlock, ↓reduceIte, Nat.reduceEqDiff])
    refine hK8 _ _ ?_
    refine wp_ret ?_
    (try simp only [Exit.then, Exit.inBlock, ↓reduceIte, Nat.reduceEqDiff])
    refine bodyPost_ret (v := (.bool (p.2 == q.2))) ?_ rfl ?_
    · exact res_t rfl rfl
    · exact ⟨by rw [show decide (p = q) = (p.2 == q.2) from by rw [Bool.eq_iff_iff, decide_eq_true_iff, beq_iff_eq]; exact ⟨fun e => congrArg Prod.snd e, fun e => Prod.ext e1 e⟩], S12.gr.below⟩
  · refine region_wl ?_
    refine do_ rfl (.pointer (some ⟨n2, 0, none⟩)) (ex_field (q := ⟨n2, 0, none⟩) rfl (fa_49_0 _ _)) ?_
    simp only [Act.put, List.setIfInBounds_toArray, List.set_cons_succ, List.set_cons_zero]
    refine do_ rfl (.slice x0 p.1.length y0) (ex_load rfl (load1 (nagg_27 _) (St.cell S7 (i := 1) rfl rfl))) ?_
    simp only [Act.put, List.setIfInBounds_toArray, List.set_cons_succ, List.set_cons_zero]
    refine do_ rfl (.pointer (some ⟨n5, 0, none⟩)) (ex_field (q := ⟨n5, 0, none⟩) rfl (fa_49_0 _ _)) ?_
    simp only [Act.put, List.setIfInBounds_toArray, List.set_cons_succ, List.set_cons_zero]
    refine do_ rfl (.slice x0q q.1.length y0q) (ex_load rfl (load1 (nagg_27 _) (St.cell S7 (i := 0) rfl rfl))) ?_
    simp only [Act.put, List.setIfInBounds_toArray, List.set_cons_succ, List.set_cons_zero]
    refine stTells (v := (.bool false)) S7 rfl (ex_fn (vs := #[(.slice x0 p.1.length y0), (.slice x0q q.1.length y0q)]) (map2 rfl rfl) rfl (ent_46 _ _)) (tells_bool (tells_same (same_spec _ _ _ _ p.1 q.1 (S7).sat h0 k0)) (beq_eq_false_iff_ne.2 e1)) (fun w13 S14 => ?_)
    simp only [Act.put, List.setIfInBounds_toArray, List.set_cons_succ, List.set_cons_zero]
    have S14 : St w F w13 F [⟨n5, [(.slice x0q q.1.length y0q), (.slice x1q q.2.length y1q)], 49⟩, ⟨n2, [(.slice x0 p.1.length y0), (.slice x1 p.2.length y1)], 49⟩] [] := S14
    refine do_ rfl (.bool false) (ex_move _) ?_
    simp only [Act.put, List.setIfInBounds_toArray, List.set_cons_succ, List.set_cons_zero]
    refine doN (wanted_no rfl rfl rfl (c := false) rfl (by decide)) ?_
    simp only [Act.put, List.setIfInBounds_toArray, List.set_cons_succ, List.set_cons_zero]
    refine doN (wanted_no rfl rfl rfl (c := false) rfl (by decide)) ?_
    simp only [Act.put, List.setIfInBounds_toArray, List.set_cons_succ, List.set_cons_zero]
    refine doN (wanted_no rfl rfl rfl (c := false) rfl (by decide)) ?_
    simp only [Act.put, List.setIfInBounds_toArray, List.set_cons_succ, List.set_cons_zero]
    refine doN (wanted_no rfl rfl rfl (c := false) rfl (by decide)) ?_
    simp only [Act.put, List.setIfInBounds_toArray, List.set_cons_succ, List.set_cons_zero]
    refine doN (wanted_no rfl rfl rfl (c := false) rfl (by decide)) ?_
    simp only [Act.put, List.setIfInBounds_toArray, List.set_cons_succ, List.set_cons_zero]
    refine do_ rfl (.bool false) (ex_pick (b := false) rfl) ?_
    simp only [Act.put, List.setIfInBounds_toArray, List.set_cons_succ, List.set_cons_zero]
    refine do_ rfl (.bool false) (ex_assign _) ?_
    simp only [Act.put, List.setIfInBounds_toArray, List.set_cons_succ, List.set_cons_zero]
    refine wl_nil ?_
    (try simp only [Exit.then, Exit.inBlock, ↓reduceIte, Nat.reduceEqDiff])
    refine hK8 _ _ ?_
    refine wp_ret ?_
    (try simp only [Exit.then, Exit.inBlock, ↓reduceIte, Nat.reduceEqDiff])
    refine bodyPost_ret (v := (.bool false)) ?_ rfl ?_
    · exact res_t rfl rfl
    · exact ⟨by rw [decide_eq_false (fun e => e1 (congrArg Prod.fst e))], S14.gr.below⟩
set_option maxHeartbeats 8000000 in
theorem samePairs_spec (F : Fz) (w : World) (v u : Value) (l m : List Pr) (hs : Sat w F) (hv : Prs F v l) (hu : Prs F u m) (hl : l.length ≤ 1000000) :
    Calls Try.prog 50 #[v, u] w (Tells w (.bool (decide (l = m)))) := by
  obtain ⟨a, c, rfl, hc1, hc2⟩ := Sl.shape hv
  obtain ⟨a2, c2, rfl, hc3, hc4⟩ := Sl.shape hu
  unfold maxLen at hc2 hc4
  have S := St.start hs
  go_enter Try.func50, Try.ntmps50
  refine wp_seq_k (fun K1 hK1 => ?_)
  refine region_wl ?_
  refine do_ rfl (.bool false) (ex_assign _) ?_
  simp only [Act.put, List.setIfInBounds_toArray, List.set_cons_succ, List.set_cons_zero]
  refine wl_nil ?_
  (try simp only [Exit.then, Exit.inBlock, ↓reduceIte, Nat.reduceEqDiff])
  refine hK1 _ _ ?_
  refine wp_seq_k (fun K2 hK2 => ?_)
  refine wp_seq_k (fun K3 hK3 => ?_)
  refine region_wl ?_
  refine do_ rfl (.slice a l.length c) (ex_move _) ?_
  simp only [Act.put, List.setIfInBounds_toArray, List.set_cons_succ, List.set_cons_zero]
  refine do_ rfl (.int .i64 ((l.length : Nat) : Int)) (ex_len Try.underlying44 rfl) ?_
  simp only [Act.put, List.setIfInBounds_toArray, List.set_cons_succ, List.set_cons_zero]
  refine do_ rfl (.slice a2 m.length c2) (ex_move _) ?_
  simp only [Act.put, List.setIfInBounds_toArray, List.set_cons_succ, List.set_cons_zero]
  refine do_ rfl (.int .i64 ((m.length : Nat) : Int)) (ex_len Try.underlying44 rfl) ?_
  simp only [Act.put, List.setIfInBounds_toArray, List.set_cons_succ, List.set_cons_zero]
  by_cases hc10 : l.length = m.length
  · refine do_ rfl (.bool false) (ex_neq (m := ((l.length : Nat) : Int)) (n := ((m.length : Nat) : Int)) (b := false) rfl rfl (bne_eq_false_iff_eq.2 (by omega))) ?_
    simp only [Act.put, List.setIfInBounds_toArray, List.set_cons_succ, List.set_cons_zero]
    refine wl_nil ?_
    (try simp only [Exit.then, Exit.inBlock, ↓reduceIte, Nat.reduceEqDiff])
    refine hK3 _ _ ?_
    refine wp_cond_false rfl ?_
    refine wp_skip ?_
    (try simp only [Exit.then, Exit.inBlock, ↓reduceIte, Nat.reduceEqDiff])
    refine hK2 _ _ ?_
    refine wp_seq_k (fun K4 hK4 => ?_)
    refine wp_seq_k (fun K5 hK5 => ?_)
    refine region_wl ?_
    refine do_ rfl (.int .i64 0) (ex_assign _) ?_
    simp only [Act.put, List.setIfInBounds_toArray, List.set_cons_succ, List.set_cons_zero]
    refine wl_nil ?_
    (try simp only [Exit.then, Exit.inBlock, ↓reduceIte, Nat.reduceEqDiff])
    refine hK5 _ _ ?_
    refine wp_block ?_
    refine wp_loop_g (fun mm aa w7 => ∃ (k : Nat) (u6 : Nat → Value), mm = l.length - k ∧ aa = ⟨#[(.slice a l.length c), (.slice a2 m.length c2), undef, undef, (u6 4), (.int .i64 ((k : Nat) : Int)), (.slice a l.length c), (.int .i64 ((l.length : Nat) : Int)), (.slice a2 m.length c2), (.int .i64 ((m.length : Nat) : Int)), (.bool false), (u6 11), (u6 12), (u6 13), (u6 14), (u6 15), (u6 16), (u6 17), (u6 18), (u6 19), (u6 20), (u6 21), (u6 22), (u6 23), (u6 24), (u6 25), (u6 26)], []⟩ ∧ St w F w7 F [] [] ∧ (k ≤ l.length) ∧ (∀ i, i < k → l[i]? = m[i]?)) _ ⟨0, (slotF [(.slice a l.length c), (.slice a2 m.length c2), undef, undef, (.bool false), (.int .i64 0), (.slice a l.length c), (.int .i64 ((l.length : Nat) : Int)), (.slice a2 m.length c2), (.int .i64 ((m.length : Nat) : Int)), (.bool false), undef, undef, undef, undef, undef, undef, undef, undef, undef, undef, undef, undef, undef, undef, undef, undef]), rfl, rfl, S, (by omega), (fun i hi => absurd hi (by omega))⟩ ?_
    rintro m8 a9 w10 ⟨k, u6, rfl, rfl, S11, hk, hsm⟩ K13 hK13
    refine wp_seq_k (fun K14 hK14 => ?_)
    refine wp_seq_k (fun K15 hK15 => ?_)
    refine region_wl ?_
    refine do_ rfl (.int .i64 ((k : Nat) : Int)) (ex_move _) ?_
    simp only [Act.put, List.setIfInBounds_toArray, List.set_cons_succ, List.set_cons_zero]
    refine do_ rfl (.slice a l.length c) (ex_move _) ?_
    simp only [Act.put, List.setIfInBounds_toArray, List.set_cons_succ, List.set_cons_zero]
    refine do_ rfl (.int .i64 ((l.length : Nat) : Int)) (ex_len Try.underlying44 rfl) ?_
    simp only [Act.put, List.setIfInBounds_toArray, List.set_cons_succ, List.set_cons_zero]
    by_cases hc14 : k < l.length
    · refine do_ rfl (.bool true) (ex_lss (m := ((k : Nat) : Int)) (n := ((l.length : Nat) : Int)) (b := true) rfl rfl (decide_eq_true (by omega))) ?_
      simp only [Act.put, List.setIfInBounds_toArray, List.set_cons_succ, List.set_cons_zero]
      refine wl_nil ?_
      (try simp only [Exit.then, Exit.inBlock, ↓reduceIte, Nat.reduceEqDiff])
      refine hK15 _ _ ?_
      refine wp_cond_true rfl ?_
      refine wp_skip ?_
      (try simp only [Exit.then, Exit.inBlock, ↓reduceIte, Nat.reduceEqDiff])
      refine hK14 _ _ ?_
      refine wp_seq_k (fun K16 hK16 => ?_)
      refine wp_block ?_
      refine wp_seq_k (fun K17 hK17 => ?_)
      obtain ⟨p, hp⟩ : ∃ p, l[k]? = some p := ⟨l[k], List.getElem?_eq_getElem hc14⟩
      obtain ⟨q, hq⟩ : ∃ q, m[k]? = some q := ⟨m[k]'(by omega), List.getElem?_eq_getElem (by omega)⟩
      obtain ⟨b18, o19, ha20, xa22, xc23, xa26, xc27, c21, c25, r24, r28⟩ := Prs.get hv hp
      obtain ⟨b29, o30, ha31, xa33, xc34, xa37, xc38, c32, c36, r35, r39⟩ := Prs.get hu hq
      refine region_gw F 8 [] (by kernel_rfl) (by kernel_rfl) ?_
      simp only [List.take_succ_cons, List.take_zero]
      refine gw_pure rfl rfl (.slice a l.length c) (fun w40 hCw40 => pureAt_of (ex_move _)) ?_
      simp only [Act.put, List.setIfInBounds_toArray, List.set_cons_succ, List.set_cons_zero]
      refine gw_pure rfl rfl (.int .i64 ((k : Nat) : Int)) (fun w40 hCw40 => pureAt_of (ex_move _)) ?_
      simp only [Act.put, List.setIfInBounds_toArray, List.set_cons_succ, List.set_cons_zero]
      refine gw_pure rfl rfl (.pointer (some ⟨b18, o19 + k * 2, none⟩)) (fun w40 hCw40 => pureAt_of (ex_at (i := k) (sz := 2) Try.underlying44 (sizeof_49 _) rfl ha20 rfl (by omega) rfl)) ?_
      simp only [Act.put, List.setIfInBounds_toArray, List.set_cons_succ, List.set_cons_zero]
      refine gw_pure rfl rfl (.agg #[(.slice xa22 p.1.length xc23), (.slice xa26 p.2.length xc27)]) (fun w40 hCw40 => pureAt_of (ex_load rfl (loadN (cs := [(.slice xa22 p.1.length xc23), (.slice xa26 p.2.length xc27)]) Try.underlying49 rfl (size_49) (range2 (St.fz (St.tells S11 hCw40) c21) (St.fz (St.tells S11 hCw40) c25))))) ?_
      simp only [Act.put, List.setIfInBounds_toArray, List.set_cons_succ, List.set_cons_zero]
      refine gw_pure rfl rfl (.slice a2 m.length c2) (fun w40 hCw40 => pureAt_of (ex_move _)) ?_
      simp only [Act.put, List.setIfInBounds_toArray, List.set_cons_succ, List.set_cons_zero]
      refine gw_pure rfl rfl (.int .i64 ((k : Nat) : Int)) (fun w40 hCw40 => pureAt_of (ex_move _)) ?_
      simp only [Act.put, List.setIfInBounds_toArray, List.set_cons_succ, List.set_cons_zero]
      refine gw_pure rfl rfl (.pointer (some ⟨b29, o30 + k * 2, none⟩)) (fun w40 hCw40 => pureAt_of (ex_at (i := k) (sz := 2) Try.underlying44 (sizeof_49 _) rfl ha31 rfl (by omega) rfl)) ?_
      simp only [Act.put, List.setIfInBounds_toArray, List.set_cons_succ, List.set_cons_zero]
      refine gw_pure rfl rfl (.agg #[(.slice xa33 q.1.length xc34), (.slice xa37 q.2.length xc38)]) (fun w40 hCw40 => pureAt_of (ex_load rfl (loadN (cs := [(.slice xa33 q.1.length xc34), (.slice xa37 q.2.length xc38)]) Try.underlying49 rfl (size_49) (range2 (St.fz (St.tells S11 hCw40) c32) (St.fz (St.tells S11 hCw40) c36))))) ?_
      simp only [Act.put, List.setIfInBounds_toArray, List.set_cons_succ, List.set_cons_zero]
      refine gw_nil ?_
      intro w41 hC43 hF44
      clear hF44
      have S42 := St.tells S11 hC43
      simp only [List.drop_succ_cons, List.drop_zero]
      have S42 : St w F w41 F [] [] := S42
      refine stTells (v := (.bool (decide (p = q)))) S42 rfl (ex_fn (vs := #[(.agg #[(.slice xa22 p.1.length xc23), (.slice xa26 p.2.length xc27)]), (.agg #[(.slice xa33 q.1.length xc34), (.slice xa37 q.2.length xc38)])]) (map2 rfl rfl) rfl (ent_84 _ _)) (samePair_spec _ _ _ _ p q (S42).sat ⟨_, _, _, _, rfl, r24, r28⟩ ⟨_, _, _, _, rfl, r35, r39⟩) (fun w45 S46 => ?_)
      simp only [Act.put, List.setIfInBounds_toArray, List.set_cons_succ, List.set_cons_zero]
      have S46 : St w F w45 F [] [] := S46
      refine do_ rfl (.bool (!(decide (p = q)))) (ex_not rfl rfl) ?_
      simp only [Act.put, List.setIfInBounds_toArray, List.set_cons_succ, List.set_cons_zero]
      refine wl_nil ?_
      (try simp only [Exit.then, Exit.inBlock, ↓reduceIte, Nat.reduceEqDiff])
      refine hK17 _ _ ?_
      refine wp_cond_split rfl (fun hc47 => ?_) (fun hc47 => ?_)
      · refine wp_seq_k (fun K48 hK48 => ?_)
        refine region_wl ?_
        refine do_ rfl (.bool false) (ex_assign _) ?_
        simp only [Act.put, List.setIfInBounds_toArray, List.set_cons_succ, List.set_cons_zero]
        refine wl_nil ?_
        (try simp only [Exit.then, Exit.inBlock, ↓reduceIte, Nat.reduceEqDiff])
        refine hK48 _ _ ?_
        refine wp_ret ?_
        (try simp only [Exit.then, Exit.inBlock, ↓reduceIte, Nat.reduceEqDiff])
        refine bodyPost_ret (v := (.bool false)) ?_ rfl ?_
        · exact res_t rfl rfl
        · exact ⟨by rw [decide_eq_false (fun e => by rw [e] at hp; rw [hp] at hq; cases hq; simp at hc47)], S46.gr.below⟩
      · refine wp_skip ?_
        (try simp only [Exit.then, Exit.inBlock, ↓reduceIte, Nat.reduceEqDiff])
        refine hK16 _ _ ?_
        refine region_wl ?_
        refine do_ rfl (.int .i64 ((k : Nat) : Int)) (ex_move _) ?_
        simp only [Act.put, List.setIfInBounds_toArray, List.set_cons_succ, List.set_cons_zero]
        refine do_ rfl (.int .i64 (((k + 1) : Nat) : Int)) (ex_add (m := ((k : Nat) : Int)) (n := (1 : Int)) (r := (((k + 1) : Nat) : Int)) rfl rfl (by omega) (by omega) (by omega)) ?_
        simp only [Act.put, List.setIfInBounds_toArray, List.set_cons_succ, List.set_cons_zero]
        refine do_ rfl (.int .i64 (((k + 1) : Nat) : Int)) (ex_assign _) ?_
        simp only [Act.put, List.setIfInBounds_toArray, List.set_cons_succ, List.set_cons_zero]
        refine wl_nil ?_
        (try simp only [Exit.then, Exit.inBlock, ↓reduceIte, Nat.reduceEqDiff])
        exact hK13 _ _ _ (by omega) ⟨(k + 1), (slotF [(.slice a l.length c), (.slice a2 m.length c2), undef, undef, (u6 4), (.int .i64 (((k + 1) : Nat) : Int)), (.slice a l.length c), (.int .i64 ((l.length : Nat) : Int)), (.slice a2 m.length c2), (.int .i64 ((m.length : Nat) : Int)), (.bool false), (.int .i64 ((k : Nat) : Int)), (.slice a l.length c), (.int .i64 ((l.length : Nat) : Int)), (.bool true), (.int .i64 ((k : Nat) : Int)), (.int .i64 (((k + 1) : Nat) : Int)), (.slice a l.length c), (.int .i64 ((k : Nat) : Int)), (.pointer (some ⟨b18, o19 + k * 2, none⟩)), (.agg #[(.slice xa22 p.1.length xc23), (.slice xa26 p.2.length xc27)]), (.slice a2 m.length c2), (.int .i64 ((k : Nat) : Int)), (.pointer (some ⟨b29, o30 + k * 2, none⟩)), (.agg #[(.slice xa33 q.1.length xc34), (.slice xa37 q.2.length xc38)]), (.bool (decide (p = q))), (.bool (!(decide (p = q))))]), rfl, rfl, S46, (by omega), (fun i hi => by rcases Nat.lt_succ_iff_lt_or_eq.1 hi with h | rfl; exact hsm i h; rw [hp, hq, show p = q from by simpa using hc47])⟩
    · refine do_ rfl (.bool false) (ex_lss (m := ((k : Nat) : Int)) (n := ((l.length : Nat) : Int)) (b := false) rfl rfl (decide_eq_false (by omega))) ?_
      simp only [Act.put, List.setIfInBounds_toArray, List.set_cons_succ, List.set_cons_zero]
      refine wl_nil ?_
      (try simp only [Exit.then, Exit.inBlock, ↓reduceIte, Nat.reduceEqDiff])
      refine hK15 _ _ ?_
      refine wp_cond_false rfl ?_
      refine wp_exit ?_
      (try simp only [Exit.then, Exit.inBlock, ↓reduceIte, Nat.reduceEqDiff])
      refine hK4 _ _ ?_
      refine wp_seq_k (fun K49 hK49 => ?_)
      refine region_wl ?_
      refine do_ rfl (.bool true) (ex_assign _) ?_
      simp only [Act.put, List.setIfInBounds_toArray, List.set_cons_succ, List.set_cons_zero]
      refine wl_nil ?_
      (try simp only [Exit.then, Exit.inBlock, ↓reduceIte, Nat.reduceEqDiff])
      refine hK49 _ _ ?_
      refine wp_ret ?_
      (try simp only [Exit.then, Exit.inBlock, ↓reduceIte, Nat.reduceEqDiff])
      refine bodyPost_ret (v := (.bool true)) ?_ rfl ?_
      · exact res_t rfl rfl
      · exact ⟨by rw [decide_eq_true (List.ext_getElem? fun i => by rcases Nat.lt_or_ge i k with h | h; exact hsm i h; rw [List.getElem?_eq_none (by omega), List.getElem?_eq_none (by omega)])], S11.gr.below⟩
  · refine do_ rfl (.bool true) (ex_neq (m := ((l.length : Nat) : Int)) (n := ((m.length : Nat) : Int)) (b := true) rfl rfl (bne_iff_ne.2 (by omega))) ?_
    simp only [Act.put, List.setIfInBounds_toArray, List.set_cons_succ, List.set_cons_zero]
    refine wl_nil ?_
    (try simp only [Exit.then, Exit.inBlock, ↓reduceIte, Nat.reduceEqDiff])
    refine hK3 _ _ ?_
    refine wp_cond_true rfl ?_
    refine wp_seq_k (fun K50 hK50 => ?_)
    refine region_wl ?_
    refine do_ rfl (.bool false) (ex_assign _) ?_
    simp only [Act.put, List.setIfInBounds_toArray, List.set_cons_succ, List.set_cons_zero]
    refine wl_nil ?_
    (try simp only [Exit.then, Exit.inBlock, ↓reduceIte, Nat.reduceEqDiff])
    refine hK50 _ _ ?_
    refine wp_ret ?_
    (try simp only [Exit.then, Exit.inBlock, ↓reduceIte, Nat.reduceEqDiff])
    refine bodyPost_ret (v := (.bool false)) ?_ rfl ?_
    · exact res_t rfl rfl
    · exact ⟨by rw [decide_eq_false (fun e => hc10 (by rw [e]))], S.gr.below⟩
end Go.Proofs.Yteefnnnbbmbmcaa
