/- Walks: tree.Put, tree.Delete, tree.Range -/
import Derived.Test.YteefnnnbbmbmcaaT3
import Derived.Test.YteefnnnbbmbmcaaT4a
import Derived.Test.YteefnnnbbmbmcaaP10
namespace Go.Proofs.Yteefnnnbbmbmcaa
open Go.RowKit
set_option maxRecDepth 100000
set_option linter.unusedVariables false
set_option linter.unusedSimpArgs false
theorem PrC.one (F : Fz) (cs : List Value) (p : Pr) (h : PrC F cs p) : ∀ u ∈ cs, u.oneCell' = true := h.oneCell
def PrsE (r : List Pr) (e : Int) (F : Fz) (u : Value) : Prop := ∃ x, u = .tuple #[x, .int .i64 e] ∧ Prs F x r
theorem PrsE.mono {F F' : Fz} {u : Value} {r : List Pr} {e : Int} (h : PrsE r e F u) (hl : Le F F') : PrsE r e F' u := by
  obtain ⟨x, rfl, h1⟩ := h; exact ⟨x, rfl, h1.mono hl⟩
def putE (l : List Pr) (p : Pr) : Int := if pairE p ≠ 0 then pairE p else if 60 < (putT l p.1 p.2).length then 11 else 0
def putR (l : List Pr) (p : Pr) : List Pr := if putE l p = 0 then putT l p.1 p.2 else []
theorem hasT_pos {l : List Pr} {k : By} (h : hasT l k = true) : posT l k < l.length := by
  unfold hasT hasBy at h
  rw [List.any_eq_true] at h
  obtain ⟨q, hq, he⟩ := h
  unfold posT posBy
  obtain ⟨i, hi, rfl⟩ := List.mem_iff_getElem.1 hq
  have he' : l[i].1 = k := by simpa using he
  have hpre : (l.takeWhile fun p => Op.bytesLess p.1 k).length ≤ i := by
    rcases Nat.lt_or_ge i (l.takeWhile fun p => Op.bytesLess p.1 k).length with h1 | h1
    · have e : (l.takeWhile fun p => Op.bytesLess p.1 k)[i] = l[i] := (List.takeWhile_prefix _).getElem h1
      have hp := List.all_eq_true.1 (List.all_takeWhile (p := fun p : Pr => Op.bytesLess p.1 k) (l := l)) _ (List.getElem_mem h1)
      rw [e, he', less_irrefl] at hp
      cases hp
    · exact h1
  exact Nat.lt_of_le_of_lt hpre hi
def delE (k : By) : Int := checkN k.length
def delR (l : List Pr) (k : By) : List Pr := if checkN k.length = 0 then delT l k else []
def rangeE (a b : By) : Int := if checkN a.length ≠ 0 then checkN a.length else checkN b.length
def rangeR (l : List Pr) (a b : By) : List Pr := if rangeE a b = 0 then rangeT l a b else []
theorem rangeT_cut {l : List Pr} (hr : Rise l) (a b : By) : rangeT l a b = (l.take (max (posT l a) (endT l b))).drop (posT l a) := by
  rw [rangeT_end hr]
  rcases Nat.le_total (posT l a) (endT l b) with h | h
  · rw [Nat.max_eq_right h]
  · rw [Nat.max_eq_left h, List.drop_of_length_le, List.drop_of_length_le]
    · rw [List.length_take]; omega
    · rw [List.length_take]; omega
set_option maxHeartbeats 8000000 in
theorem put_spec (F : Fz) (w : World) (v u : Value) (l : List Pr) (p : Pr) (hs : Sat w F) (hv : Prs F v l) (hu : Pr2V F u p) (ok1 : TreeOk 60 l) (hk : p.1.length ≤ 100000) (hx : p.2.length ≤ 100000) :
    Calls Try.prog 53 #[v, u] w (Gives w F (PrsE (putR l p) (putE l p))) := by
  have ok := treeE_ok.2 ok1
  have hl60 := ok1.len
  obtain ⟨a, c, rfl, hc1, hc2⟩ := Sl.shape hv
  obtain ⟨x0, y0, x1, y1, rfl, h0, h1⟩ := hu
  unfold maxLen at hc2
  obtain ⟨i49, hi49, hz49, hs49, hb49⟩ := info_parts info_49
  have S := St.start hs
  go_enter Try.func53, Try.ntmps53
  refine wp_seq_k (fun K1 hK1 => ?_)
  refine region_wl ?_
  refine stNew S (v := fun n => .pointer (some ⟨n, 0, none⟩)) rfl (ex_box (v := (.agg #[(.slice x0 p.1.length y0), (.slice x1 p.2.length y1)])) rfl) (fun n2 w3 S4 => ?_)
  simp only [Act.put, List.setIfInBounds_toArray, List.set_cons_succ, List.set_cons_zero]
  have S4 : St w F w3 F [⟨n2, [(.slice x0 p.1.length y0), (.slice x1 p.2.length y1)], 49⟩] [] := S4
  refine do_ rfl (.slice none 0 0) (ex_assign _) ?_
  simp only [Act.put, List.setIfInBounds_toArray, List.set_cons_succ, List.set_cons_zero]
  refine do_ rfl (.int .i64 0) (ex_assign _) ?_
  simp only [Act.put, List.setIfInBounds_toArray, List.set_cons_succ, List.set_cons_zero]
  refine wl_nil ?_
  (try simp only [Exit.then, Exit.inBlock, ↓reduceIte, Nat.reduceEqDiff])
  refine hK1 _ _ ?_
  refine wp_seq_k (fun K5 hK5 => ?_)
  refine wp_seq_k (fun K6 hK6 => ?_)
  refine region_wl ?_
  refine do_ rfl (.slice a l.length c) (ex_move _) ?_
  simp only [Act.put, List.setIfInBounds_toArray, List.set_cons_succ, List.set_cons_zero]
  refine stTells (v := (.int .i64 (treeE l))) S4 rfl (ex_fn (vs := #[(.slice a l.length c)]) (map1 rfl) rfl (ent_54 _ _)) (treeCheck_spec _ _ _ l (S4).sat hv) (fun w7 S8 => ?_)
  simp only [Act.put, List.setIfInBounds_toArray, List.set_cons_succ, List.set_cons_zero]
  have S8 : St w F w7 F [⟨n2, [(.slice x0 p.1.length y0), (.slice x1 p.2.length y1)], 49⟩] [] := S8
  refine do_ rfl (.int .i64 (treeE l)) (ex_assign _) ?_
  simp only [Act.put, List.setIfInBounds_toArray, List.set_cons_succ, List.set_cons_zero]
  refine wl_nil ?_
  (try simp only [Exit.then, Exit.inBlock, ↓reduceIte, Nat.reduceEqDiff])
  refine hK6 _ _ ?_
  refine wp_seq_k (fun K9 hK9 => ?_)
  refine region_wl ?_
  refine do_ rfl (.int .i64 (treeE l)) (ex_move _) ?_
  simp only [Act.put, List.setIfInBounds_toArray, List.set_cons_succ, List.set_cons_zero]
  refine do_ rfl (.bool false) (ex_neq (m := (treeE l)) (n := (0 : Int)) (b := false) rfl rfl (bne_eq_false_iff_eq.2 (ok))) ?_
  simp only [Act.put, List.setIfInBounds_toArray, List.set_cons_succ, List.set_cons_zero]
  refine wl_nil ?_
  (try simp only [Exit.then, Exit.inBlock, ↓reduceIte, Nat.reduceEqDiff])
  refine hK9 _ _ ?_
  refine wp_cond_false rfl ?_
  refine wp_skip ?_
  (try simp only [Exit.then, Exit.inBlock, ↓reduceIte, Nat.reduceEqDiff])
  refine hK5 _ _ ?_
  refine wp_seq_k (fun K10 hK10 => ?_)
  refine wp_seq_k (fun K11 hK11 => ?_)
  refine region_wl ?_
  refine do_ rfl (.agg #[(.slice x0 p.1.length y0), (.slice x1 p.2.length y1)]) (ex_load rfl (loadN (cs := [(.slice x0 p.1.length y0), (.slice x1 p.2.length y1)]) Try.underlying49 rfl (size_49) (St.range S8 (i := 0) rfl 0 [(.slice x0 p.1.length y0), (.slice x1 p.2.length y1)] (sub_range 0 rfl)))) ?_
  simp only [Act.put, List.setIfInBounds_toArray, List.set_cons_succ, List.set_cons_zero]
  refine stTells (v := (.int .i64 (pairE p))) S8 rfl (ex_fn (vs := #[(.agg #[(.slice x0 p.1.length y0), (.slice x1 p.2.length y1)])]) (map1 rfl) rfl (ent_86 _ _)) (pair_spec _ _ _ p (S8).sat ⟨_, _, _, _, rfl, h0, h1⟩) (fun w12 S13 => ?_)
  simp only [Act.put, List.setIfInBounds_toArray, List.set_cons_succ, List.set_cons_zero]
  have S13 : St w F w12 F [⟨n2, [(.slice x0 p.1.length y0), (.slice x1 p.2.length y1)], 49⟩] [] := S13
  refine do_ rfl (.int .i64 (pairE p)) (ex_assign _) ?_
  simp only [Act.put, List.setIfInBounds_toArray, List.set_cons_succ, List.set_cons_zero]
  refine wl_nil ?_
  (try simp only [Exit.then, Exit.inBlock, ↓reduceIte, Nat.reduceEqDiff])
  refine hK11 _ _ ?_
  refine wp_seq_k (fun K14 hK14 => ?_)
  refine region_wl ?_
  refine do_ rfl (.int .i64 (pairE p)) (ex_move _) ?_
  simp only [Act.put, List.setIfInBounds_toArray, List.set_cons_succ, List.set_cons_zero]
  by_cases hc19 : (pairE p) = (0 : Int)
  · refine do_ rfl (.bool false) (ex_neq (m := (pairE p)) (n := (0 : Int)) (b := false) rfl rfl (bne_eq_false_iff_eq.2 (by omega))) ?_
    simp only [Act.put, List.setIfInBounds_toArray, List.set_cons_succ, List.set_cons_zero]
    refine wl_nil ?_
    (try simp only [Exit.then, Exit.inBlock, ↓reduceIte, Nat.reduceEqDiff])
    refine hK14 _ _ ?_
    refine wp_cond_false rfl ?_
    refine wp_skip ?_
    (try simp only [Exit.then, Exit.inBlock, ↓reduceIte, Nat.reduceEqDiff])
    refine hK10 _ _ ?_
    refine wp_seq_k (fun K15 hK15 => ?_)
    refine region_wl ?_
    refine do_ rfl (.slice a l.length c) (ex_move _) ?_
    simp only [Act.put, List.setIfInBounds_toArray, List.set_cons_succ, List.set_cons_zero]
    refine stGivesO PrC.mono S13 rfl (ex_fn (vs := #[(.slice a l.length c)]) (map1 rfl) rfl (ent_83 _ _)) (all_spec _ _ _ l (S13).sat hv (by have := ok1.len; omega) (fun p hp => ok1.small hp)) ?_
    intro v20 w16 F18 S17 le19
    simp only [Act.put, List.setIfInBounds_toArray, List.set_cons_succ, List.set_cons_zero]
    have S17 : St w F w16 F18 [⟨n2, [(.slice x0 p.1.length y0), (.slice x1 p.2.length y1)], 49⟩] [ownP 2 PrC PrC.mono 49 w.heap.size v20 l] := S17
    refine do_ rfl v20 (ex_assign _) ?_
    simp only [Act.put, List.setIfInBounds_toArray, List.set_cons_succ, List.set_cons_zero]
    refine wl_nil ?_
    (try simp only [Exit.then, Exit.inBlock, ↓reduceIte, Nat.reduceEqDiff])
    refine hK15 _ _ ?_
    refine wp_seq_k (fun K21 hK21 => ?_)
    refine region_wl ?_
    refine do_ rfl v20 (ex_move _) ?_
    simp only [Act.put, List.setIfInBounds_toArray, List.set_cons_succ, List.set_cons_zero]
    refine do_ rfl (.pointer (some ⟨n2, 0, none⟩)) (ex_field (q := ⟨n2, 0, none⟩) rfl (fa_49_0 _ _)) ?_
    simp only [Act.put, List.setIfInBounds_toArray, List.set_cons_succ, List.set_cons_zero]
    refine do_ rfl (.slice x0 p.1.length y0) (ex_load rfl (load1 (nagg_27 _) (St.cell S17 (i := 0) rfl rfl))) ?_
    simp only [Act.put, List.setIfInBounds_toArray, List.set_cons_succ, List.set_cons_zero]
    obtain ⟨F22, hs23, le24, hsl25⟩ := own_peek S17 (i := 0) rfl
    refine stTells (v := (.tuple #[(.int .i64 (((posT l p.1) : Nat) : Int)), (.bool (hasT l p.1))])) S17 rfl (ex_fn (vs := #[v20, (.slice x0 p.1.length y0)]) (map2 rfl rfl) rfl (ent_82 _ _)) (find_spec _ _ _ _ l p.1 hs23 hsl25 ((h0.mono le19).mono le24) ok1.rise (by have := ok1.len; omega)) (fun w26 S27 => ?_)
    simp only [Act.put, List.setIfInBounds_toArray, List.set_cons_succ, List.set_cons_zero]
    have S27 : St w F w26 F18 [⟨n2, [(.slice x0 p.1.length y0), (.slice x1 p.2.length y1)], 49⟩] [ownP 2 PrC PrC.mono 49 w.heap.size v20 l] := S27
    refine do_ rfl (.tuple #[(.int .i64 (((posT l p.1) : Nat) : Int)), (.bool (hasT l p.1))]) (ex_move _) ?_
    simp only [Act.put, List.setIfInBounds_toArray, List.set_cons_succ, List.set_cons_zero]
    refine do_ rfl (.int .i64 (((posT l p.1) : Nat) : Int)) (ex_extract rfl rfl) ?_
    simp only [Act.put, List.setIfInBounds_toArray, List.set_cons_succ, List.set_cons_zero]
    refine do_ rfl (.bool (hasT l p.1)) (ex_extract rfl rfl) ?_
    simp only [Act.put, List.setIfInBounds_toArray, List.set_cons_succ, List.set_cons_zero]
    refine do_ rfl (.int .i64 (((posT l p.1) : Nat) : Int)) (ex_assign _) ?_
    simp only [Act.put, List.setIfInBounds_toArray, List.set_cons_succ, List.set_cons_zero]
    refine do_ rfl (.bool (hasT l p.1)) (ex_assign _) ?_
    simp only [Act.put, List.setIfInBounds_toArray, List.set_cons_succ, List.set_cons_zero]
    refine wl_nil ?_
    (try simp only [Exit.then, Exit.inBlock, ↓reduceIte, Nat.reduceEqDiff])
    refine hK21 _ _ ?_
    refine wp_seq_k (fun K28 hK28 => ?_)
    refine wp_block ?_
    refine wp_seq_k (fun K29 hK29 => ?_)
    refine region_wl ?_
    refine do_ rfl (.bool (hasT l p.1)) (ex_move _) ?_
    simp only [Act.put, List.setIfInBounds_toArray, List.set_cons_succ, List.set_cons_zero]
    refine do_ rfl (.bool (hasT l p.1)) (ex_assign _) ?_
    simp only [Act.put, List.setIfInBounds_toArray, List.set_cons_succ, List.set_cons_zero]
    refine wl_nil ?_
    (try simp only [Exit.then, Exit.inBlock, ↓reduceIte, Nat.reduceEqDiff])
    refine hK29 _ _ ?_
    refine wp_cond_split rfl (fun hc30 => ?_) (fun hc30 => ?_)
    · have hpos0 := hasT_pos hc30
      obtain ⟨g31, cap32, rfl, h33, h34, _⟩ := (S27.own (i := 0) rfl).form (by omega)
      unfold maxLen at h34
      refine region_wl ?_
      refine do_ rfl (.slice (some ⟨g31, 0, none⟩) l.length cap32) (ex_move _) ?_
      simp only [Act.put, List.setIfInBounds_toArray, List.set_cons_succ, List.set_cons_zero]
      refine do_ rfl (.int .i64 (((posT l p.1) : Nat) : Int)) (ex_move _) ?_
      simp only [Act.put, List.setIfInBounds_toArray, List.set_cons_succ, List.set_cons_zero]
      refine do_ rfl (.agg #[(.slice x0 p.1.length y0), (.slice x1 p.2.length y1)]) (ex_load rfl (loadN (cs := [(.slice x0 p.1.length y0), (.slice x1 p.2.length y1)]) Try.underlying49 rfl (size_49) (St.range S27 (i := 0) rfl 0 [(.slice x0 p.1.length y0), (.slice x1 p.2.length y1)] (sub_range 0 rfl)))) ?_
      simp only [Act.put, List.setIfInBounds_toArray, List.set_cons_succ, List.set_cons_zero]
      refine stGives S27 rfl (ex_fn (vs := #[(.agg #[(.slice x0 p.1.length y0), (.slice x1 p.2.length y1)])]) (map1 rfl) rfl (ent_87 _ _)) (own2_spec _ _ _ p (S27).sat ⟨_, _, _, _, rfl, (h0.mono le19), (h1.mono le19)⟩ (by omega) (by omega)) ?_
      intro v41 w36 F38 S37 le39 R40
      obtain ⟨xa42, xc43, xa44, xc45, rfl, r46, r47⟩ := R40
      simp only [Act.put, List.setIfInBounds_toArray, List.set_cons_succ, List.set_cons_zero]
      have S37 : St w F w36 F38 [⟨n2, [(.slice x0 p.1.length y0), (.slice x1 p.2.length y1)], 49⟩] [ownP 2 PrC PrC.mono 49 w.heap.size (.slice (some ⟨g31, 0, none⟩) l.length cap32) l] := S37
      have hpos := hasT_pos hc30
      refine do_ rfl (.pointer (some ⟨g31, 0 + (posT l p.1) * 2, none⟩)) (ex_at (i := (posT l p.1)) (sz := 2) Try.underlying44 (sizeof_49 _) rfl rfl rfl (hpos) rfl) ?_
      simp only [Act.put, List.setIfInBounds_toArray, List.set_cons_succ, List.set_cons_zero]
      refine stSetRow (r := 0) (i := (posT l p.1)) (p := p) (u := (.agg #[(.slice xa42 p.1.length xc43), (.slice xa44 p.2.length xc45)])) S37 rfl rfl (by omega) rfl rfl (by omega) (size_49) (allc2 rfl rfl) rfl ⟨_, _, rfl, r46, r47⟩ (Nat.le_refl _) (fun w48 S49 => ?_)
      simp only [Act.put, List.setIfInBounds_toArray, List.set_cons_succ, List.set_cons_zero]
      have S49 : St w F w48 F38 [⟨n2, [(.slice x0 p.1.length y0), (.slice x1 p.2.length y1)], 49⟩] [ownP 2 PrC PrC.mono 49 w.heap.size (.slice (some ⟨g31, 0, none⟩) l.length cap32) (l.set (posT l p.1) p)] := S49
      refine wl_nil ?_
      (try simp only [Exit.then, Exit.inBlock, ↓reduceIte, Nat.reduceEqDiff])
      refine hK28 _ _ ?_
      refine wp_seq_k (fun K50 hK50 => ?_)
      refine region_wl ?_
      refine do_ rfl (.slice (some ⟨g31, 0, none⟩) l.length cap32) (ex_move _) ?_
      simp only [Act.put, List.setIfInBounds_toArray, List.set_cons_succ, List.set_cons_zero]
      refine do_ rfl (.slice (some ⟨g31, 0, none⟩) l.length cap32) (ex_assign _) ?_
      simp only [Act.put, List.setIfInBounds_toArray, List.set_cons_succ, List.set_cons_zero]
      refine do_ rfl (.int .i64 0) (ex_assign _) ?_
      simp only [Act.put, List.setIfInBounds_toArray, List.set_cons_succ, List.set_cons_zero]
      refine wl_nil ?_
      (try simp only [Exit.then, Exit.inBlock, ↓reduceIte, Nat.reduceEqDiff])
      refine hK50 _ _ ?_
      refine wp_ret ?_
      (try simp only [Exit.then, Exit.inBlock, ↓reduceIte, Nat.reduceEqDiff])
      refine bodyPost_ret (v := (.tuple #[(.slice (some ⟨g31, 0, none⟩) l.length cap32), (.int .i64 0)])) ?_ rfl ?_
      · exact res_tt rfl rfl rfl
      · have hpp : pairE p = 0 := by omega
        have hlen := len_putT l p.1 p.2
        have hl60 := ok1.len
        rw [if_pos hc30] at hlen
        have hput := putT_have (v := p.2) hc30
        have he : putE l p = 0 := by unfold putE; rw [if_neg (by omega), if_neg (by omega)]
        unfold putR
        rw [he, if_pos rfl, hput]
        obtain ⟨F51, S52, le53, hv54⟩ := St.freeze S49 (i := 0) rfl (Nat.le_refl _)
        have S52 : St w F w48 F51 [⟨n2, [(.slice x0 p.1.length y0), (.slice x1 p.2.length y1)], 49⟩] [] := S52
        exact ⟨_, _, rfl, S52.gr, _, rfl, hv54⟩
    · refine wp_seq_k (fun K55 hK55 => ?_)
      refine region_wl ?_
      refine do_ rfl (.slice a l.length c) (ex_move _) ?_
      simp only [Act.put, List.setIfInBounds_toArray, List.set_cons_succ, List.set_cons_zero]
      refine do_ rfl (.int .i64 ((l.length : Nat) : Int)) (ex_len Try.underlying44 rfl) ?_
      simp only [Act.put, List.setIfInBounds_toArray, List.set_cons_succ, List.set_cons_zero]
      by_cases hc46 : l.length = 60
      · refine do_ rfl (.bool true) (ex_eql (m := ((l.length : Nat) : Int)) (n := (60 : Int)) (b := true) rfl rfl (beq_iff_eq.2 (by omega))) ?_
        simp only [Act.put, List.setIfInBounds_toArray, List.set_cons_succ, List.set_cons_zero]
        refine do_ rfl (.bool true) (ex_assign _) ?_
        simp only [Act.put, List.setIfInBounds_toArray, List.set_cons_succ, List.set_cons_zero]
        refine wl_nil ?_
        (try simp only [Exit.then, Exit.inBlock, ↓reduceIte, Nat.reduceEqDiff])
        refine hK55 _ _ ?_
        refine wp_cond_true rfl ?_
        refine wp_seq_k (fun K56 hK56 => ?_)
        refine region_wl ?_
        refine do_ rfl (.slice none 0 0) (ex_assign _) ?_
        simp only [Act.put, List.setIfInBounds_toArray, List.set_cons_succ, List.set_cons_zero]
        refine do_ rfl (.int .i64 11) (ex_assign _) ?_
        simp only [Act.put, List.setIfInBounds_toArray, List.set_cons_succ, List.set_cons_zero]
        refine wl_nil ?_
        (try simp only [Exit.then, Exit.inBlock, ↓reduceIte, Nat.reduceEqDiff])
        refine hK56 _ _ ?_
        refine wp_ret ?_
        (try simp only [Exit.then, Exit.inBlock, ↓reduceIte, Nat.reduceEqDiff])
        refine bodyPost_ret (v := (.tuple #[(.slice none 0 0), (.int .i64 11)])) ?_ rfl ?_
        · exact res_tt rfl rfl rfl
        · have hpp : pairE p = 0 := by omega
          have hlen := len_putT l p.1 p.2
          have hl60 := ok1.len
          rw [if_neg (by rw [hc30]; simp)] at hlen
          have he : putE l p = 11 := by unfold putE; rw [if_neg (by omega), if_pos (by omega)]
          unfold putR
          rw [he, if_neg (by decide)]
          exact ⟨_, _, rfl, S27.gr, _, rfl, Sl.nil _ _ _⟩
      · refine do_ rfl (.bool false) (ex_eql (m := ((l.length : Nat) : Int)) (n := (60 : Int)) (b := false) rfl rfl (beq_eq_false_iff_ne.2 (by omega))) ?_
        simp only [Act.put, List.setIfInBounds_toArray, List.set_cons_succ, List.set_cons_zero]
        refine do_ rfl (.bool false) (ex_assign _) ?_
        simp only [Act.put, List.setIfInBounds_toArray, List.set_cons_succ, List.set_cons_zero]
        refine wl_nil ?_
        (try simp only [Exit.then, Exit.inBlock, ↓reduceIte, Nat.reduceEqDiff])
        refine hK55 _ _ ?_
        refine wp_cond_false rfl ?_
        refine region_wl ?_
        refine do_ rfl v20 (ex_move _) ?_
        simp only [Act.put, List.setIfInBounds_toArray, List.set_cons_succ, List.set_cons_zero]
        refine do_ rfl (.int .i64 (((posT l p.1) : Nat) : Int)) (ex_move _) ?_
        simp only [Act.put, List.setIfInBounds_toArray, List.set_cons_succ, List.set_cons_zero]
        refine do_ rfl (.agg #[(.slice x0 p.1.length y0), (.slice x1 p.2.length y1)]) (ex_load rfl (loadN (cs := [(.slice x0 p.1.length y0), (.slice x1 p.2.length y1)]) Try.underlying49 rfl (size_49) (St.range S27 (i := 0) rfl 0 [(.slice x0 p.1.length y0), (.slice x1 p.2.length y1)] (sub_range 0 rfl)))) ?_
        simp only [Act.put, List.setIfInBounds_toArray, List.set_cons_succ, List.set_cons_zero]
        refine stGives S27 rfl (ex_fn (vs := #[(.agg #[(.slice x0 p.1.length y0), (.slice x1 p.2.length y1)])]) (map1 rfl) rfl (ent_87 _ _)) (own2_spec _ _ _ p (S27).sat ⟨_, _, _, _, rfl, (h0.mono le19), (h1.mono le19)⟩ (by omega) (by omega)) ?_
        intro v62 w57 F59 S58 le60 R61
        obtain ⟨xa63, xc64, xa65, xc66, rfl, r67, r68⟩ := R61
        simp only [Act.put, List.setIfInBounds_toArray, List.set_cons_succ, List.set_cons_zero]
        have S58 : St w F w57 F59 [⟨n2, [(.slice x0 p.1.length y0), (.slice x1 p.2.length y1)], 49⟩] [ownP 2 PrC PrC.mono 49 w.heap.size v20 l] := S58
        refine stNew S58 (v := fun n => .slice (some ⟨n, 0, none⟩) 1 1) rfl (ex_lit (ps := #[(0, (.agg #[(.slice xa63 p.1.length xc64), (.slice xa65 p.2.length xc66)]))]) (cells := #[(.slice xa63 p.1.length xc64), (.slice xa65 p.2.length xc66)]) (E := 49) (bmap1 rfl) (fun w => by kernel_rfl)) (fun n69 w70 S71 => ?_)
        simp only [Act.put, List.setIfInBounds_toArray, List.set_cons_succ, List.set_cons_zero]
        have S71 : St w F w70 F59 [⟨n69, [(.slice xa63 p.1.length xc64), (.slice xa65 p.2.length xc66)], 49⟩, ⟨n2, [(.slice x0 p.1.length y0), (.slice x1 p.2.length y1)], 49⟩] [ownP 2 PrC PrC.mono 49 w.heap.size v20 l] := S71
        refine stOwn (L := [⟨n2, [(.slice x0 p.1.length y0), (.slice x1 p.2.length y1)], 49⟩]) (M := fun v_ => [ownP 2 PrC PrC.mono 49 w.heap.size v_ (l.take (posT l p.1) ++ p :: l.drop (posT l p.1))]) rfl (ex_fn (vs := #[v20, (.int .i64 (((posT l p.1) : Nat) : Int)), (.slice (some ⟨n69, 0, none⟩) 1 1)]) (map3 rfl rfl rfl) rfl (ent_88 _ _)) (insertPair (p := p) PrC.one S71 rfl ⟨_, _, rfl, r67, r68⟩ (by omega) (posBy_le _ _ _)) ?_
        intro v72 w73 S74
        simp only [Act.put, List.setIfInBounds_toArray, List.set_cons_succ, List.set_cons_zero]
        have S74 : St w F w73 F59 [⟨n2, [(.slice x0 p.1.length y0), (.slice x1 p.2.length y1)], 49⟩] [ownP 2 PrC PrC.mono 49 w.heap.size v72 (l.take (posT l p.1) ++ p :: l.drop (posT l p.1))] := S74
        refine do_ rfl v72 (ex_assign _) ?_
        simp only [Act.put, List.setIfInBounds_toArray, List.set_cons_succ, List.set_cons_zero]
        refine wl_nil ?_
        (try simp only [Exit.then, Exit.inBlock, ↓reduceIte, Nat.reduceEqDiff])
        refine hK28 _ _ ?_
        refine wp_seq_k (fun K75 hK75 => ?_)
        refine region_wl ?_
        refine do_ rfl v72 (ex_move _) ?_
        simp only [Act.put, List.setIfInBounds_toArray, List.set_cons_succ, List.set_cons_zero]
        refine do_ rfl v72 (ex_assign _) ?_
        simp only [Act.put, List.setIfInBounds_toArray, List.set_cons_succ, List.set_cons_zero]
        refine do_ rfl (.int .i64 0) (ex_assign _) ?_
        simp only [Act.put, List.setIfInBounds_toArray, List.set_cons_succ, List.set_cons_zero]
        refine wl_nil ?_
        (try simp only [Exit.then, Exit.inBlock, ↓reduceIte, Nat.reduceEqDiff])
        refine hK75 _ _ ?_
        refine wp_ret ?_
        (try simp only [Exit.then, Exit.inBlock, ↓reduceIte, Nat.reduceEqDiff])
        refine bodyPost_ret (v := (.tuple #[v72, (.int .i64 0)])) ?_ rfl ?_
        · exact res_tt rfl rfl rfl
        · have hpp : pairE p = 0 := by omega
          have hlen := len_putT l p.1 p.2
          have hl60 := ok1.len
          rw [if_neg (by rw [hc30]; simp)] at hlen
          have hput := putT_new (v := p.2) (by rw [hc30]; simp)
          have he : putE l p = 0 := by unfold putE; rw [if_neg (by omega), if_neg (by omega)]
          unfold putR
          rw [he, if_pos rfl, hput]
          obtain ⟨F76, S77, le78, hv79⟩ := St.freeze S74 (i := 0) rfl (Nat.le_refl _)
          have S77 : St w F w73 F76 [⟨n2, [(.slice x0 p.1.length y0), (.slice x1 p.2.length y1)], 49⟩] [] := S77
          exact ⟨_, _, rfl, S77.gr, _, rfl, hv79⟩
  · refine do_ rfl (.bool true) (ex_neq (m := (pairE p)) (n := (0 : Int)) (b := true) rfl rfl (bne_iff_ne.2 (by omega))) ?_
    simp only [Act.put, List.setIfInBounds_toArray, List.set_cons_succ, List.set_cons_zero]
    refine wl_nil ?_
    (try simp only [Exit.then, Exit.inBlock, ↓reduceIte, Nat.reduceEqDiff])
    refine hK14 _ _ ?_
    refine wp_cond_true rfl ?_
    refine wp_seq_k (fun K80 hK80 => ?_)
    refine region_wl ?_
    refine do_ rfl (.int .i64 (pairE p)) (ex_move _) ?_
    simp only [Act.put, List.setIfInBounds_toArray, List.set_cons_succ, List.set_cons_zero]
    refine do_ rfl (.slice none 0 0) (ex_assign _) ?_
    simp only [Act.put, List.setIfInBounds_toArray, List.set_cons_succ, List.set_cons_zero]
    refine do_ rfl (.int .i64 (pairE p)) (ex_assign _) ?_
    simp only [Act.put, List.setIfInBounds_toArray, List.set_cons_succ, List.set_cons_zero]
    refine wl_nil ?_
    (try simp only [Exit.then, Exit.inBlock, ↓reduceIte, Nat.reduceEqDiff])
    refine hK80 _ _ ?_
    refine wp_ret ?_
    (try simp only [Exit.then, Exit.inBlock, ↓reduceIte, Nat.reduceEqDiff])
    refine bodyPost_ret (v := (.tuple #[(.slice none 0 0), (.int .i64 (pairE p))])) ?_ rfl ?_
    · exact res_tt rfl rfl rfl
    · have he : putE l p = pairE p := by unfold putE; rw [if_pos hc19]
      unfold putR
      rw [he, if_neg hc19]
      exact ⟨_, _, rfl, S13.gr, _, rfl, Sl.nil _ _ _⟩
set_option maxHeartbeats 8000000 in
theorem delete_spec (F : Fz) (w : World) (v u : Value) (l : List Pr) (k : By) (hs : Sat w F) (hv : Prs F v l) (hu : Bs F u k) (ok1 : TreeOk 60 l) :
    Calls Try.prog 55 #[v, u] w (Gives w F (PrsE (delR l k) (delE k))) := by
  have ok := treeE_ok.2 ok1
  have hl60 := ok1.len
  obtain ⟨a, c, rfl, hc1, hc2⟩ := Sl.shape hv
  obtain ⟨a2, c2, rfl, _⟩ := hu.shape
  unfold maxLen at hc2
  obtain ⟨i49, hi49, hz49, hs49, hb49⟩ := info_parts info_49
  have S := St.start hs
  go_enter Try.func55, Try.ntmps55
  refine wp_seq_k (fun K1 hK1 => ?_)
  refine region_wl ?_
  refine do_ rfl (.slice none 0 0) (ex_assign _) ?_
  simp only [Act.put, List.setIfInBounds_toArray, List.set_cons_succ, List.set_cons_zero]
  refine do_ rfl (.int .i64 0) (ex_assign _) ?_
  simp only [Act.put, List.setIfInBounds_toArray, List.set_cons_succ, List.set_cons_zero]
  refine wl_nil ?_
  (try simp only [Exit.then, Exit.inBlock, ↓reduceIte, Nat.reduceEqDiff])
  refine hK1 _ _ ?_
  refine wp_seq_k (fun K2 hK2 => ?_)
  refine wp_seq_k (fun K3 hK3 => ?_)
  refine region_wl ?_
  refine do_ rfl (.slice a l.length c) (ex_move _) ?_
  simp only [Act.put, List.setIfInBounds_toArray, List.set_cons_succ, List.set_cons_zero]
  refine stTells (v := (.int .i64 (treeE l))) S rfl (ex_fn (vs := #[(.slice a l.length c)]) (map1 rfl) rfl (ent_54 _ _)) (treeCheck_spec _ _ _ l (S).sat hv) (fun w4 S5 => ?_)
  simp only [Act.put, List.setIfInBounds_toArray, List.set_cons_succ, List.set_cons_zero]
  have S5 : St w F w4 F [] [] := S5
  refine do_ rfl (.int .i64 (treeE l)) (ex_assign _) ?_
  simp only [Act.put, List.setIfInBounds_toArray, List.set_cons_succ, List.set_cons_zero]
  refine wl_nil ?_
  (try simp only [Exit.then, Exit.inBlock, ↓reduceIte, Nat.reduceEqDiff])
  refine hK3 _ _ ?_
  refine wp_seq_k (fun K6 hK6 => ?_)
  refine region_wl ?_
  refine do_ rfl (.int .i64 (treeE l)) (ex_move _) ?_
  simp only [Act.put, List.setIfInBounds_toArray, List.set_cons_succ, List.set_cons_zero]
  refine do_ rfl (.bool false) (ex_neq (m := (treeE l)) (n := (0 : Int)) (b := false) rfl rfl (bne_eq_false_iff_eq.2 (ok))) ?_
  simp only [Act.put, List.setIfInBounds_toArray, List.set_cons_succ, List.set_cons_zero]
  refine wl_nil ?_
  (try simp only [Exit.then, Exit.inBlock, ↓reduceIte, Nat.reduceEqDiff])
  refine hK6 _ _ ?_
  refine wp_cond_false rfl ?_
  refine wp_skip ?_
  (try simp only [Exit.then, Exit.inBlock, ↓reduceIte, Nat.reduceEqDiff])
  refine hK2 _ _ ?_
  refine wp_seq_k (fun K7 hK7 => ?_)
  refine wp_seq_k (fun K8 hK8 => ?_)
  refine region_wl ?_
  refine do_ rfl (.slice a2 k.length c2) (ex_move _) ?_
  simp only [Act.put, List.setIfInBounds_toArray, List.set_cons_succ, List.set_cons_zero]
  refine stTells (v := (.int .i64 (checkN k.length))) S5 rfl (ex_fn (vs := #[(.slice a2 k.length c2)]) (map1 rfl) rfl (ent_41 _ _)) (tells_same (check_spec _ _ _ k hu)) (fun w9 S10 => ?_)
  simp only [Act.put, List.setIfInBounds_toArray, List.set_cons_succ, List.set_cons_zero]
  have S10 : St w F w9 F [] [] := S10
  refine do_ rfl (.int .i64 (checkN k.length)) (ex_assign _) ?_
  simp only [Act.put, List.setIfInBounds_toArray, List.set_cons_succ, List.set_cons_zero]
  refine wl_nil ?_
  (try simp only [Exit.then, Exit.inBlock, ↓reduceIte, Nat.reduceEqDiff])
  refine hK8 _ _ ?_
  refine wp_seq_k (fun K11 hK11 => ?_)
  refine region_wl ?_
  refine do_ rfl (.int .i64 (checkN k.length)) (ex_move _) ?_
  simp only [Act.put, List.setIfInBounds_toArray, List.set_cons_succ, List.set_cons_zero]
  by_cases hc19 : (checkN k.length) = (0 : Int)
  · refine do_ rfl (.bool false) (ex_neq (m := (checkN k.length)) (n := (0 : Int)) (b := false) rfl rfl (bne_eq_false_iff_eq.2 (by omega))) ?_
    simp only [Act.put, List.setIfInBounds_toArray, List.set_cons_succ, List.set_cons_zero]
    refine wl_nil ?_
    (try simp only [Exit.then, Exit.inBlock, ↓reduceIte, Nat.reduceEqDiff])
    refine hK11 _ _ ?_
    refine wp_cond_false rfl ?_
    refine wp_skip ?_
    (try simp only [Exit.then, Exit.inBlock, ↓reduceIte, Nat.reduceEqDiff])
    refine hK7 _ _ ?_
    refine wp_seq_k (fun K12 hK12 => ?_)
    refine region_wl ?_
    refine do_ rfl (.slice a l.length c) (ex_move _) ?_
    simp only [Act.put, List.setIfInBounds_toArray, List.set_cons_succ, List.set_cons_zero]
    refine stGivesO PrC.mono S10 rfl (ex_fn (vs := #[(.slice a l.length c)]) (map1 rfl) rfl (ent_83 _ _)) (all_spec _ _ _ l (S10).sat hv (by have := ok1.len; omega) (fun p hp => ok1.small hp)) ?_
    intro v17 w13 F15 S14 le16
    simp only [Act.put, List.setIfInBounds_toArray, List.set_cons_succ, List.set_cons_zero]
    have S14 : St w F w13 F15 [] [ownP 2 PrC PrC.mono 49 w.heap.size v17 l] := S14
    refine do_ rfl v17 (ex_assign _) ?_
    simp only [Act.put, List.setIfInBounds_toArray, List.set_cons_succ, List.set_cons_zero]
    refine wl_nil ?_
    (try simp only [Exit.then, Exit.inBlock, ↓reduceIte, Nat.reduceEqDiff])
    refine hK12 _ _ ?_
    refine wp_seq_k (fun K18 hK18 => ?_)
    refine wp_seq_k (fun K19 hK19 => ?_)
    refine region_wl ?_
    refine do_ rfl v17 (ex_move _) ?_
    simp only [Act.put, List.setIfInBounds_toArray, List.set_cons_succ, List.set_cons_zero]
    refine do_ rfl (.slice a2 k.length c2) (ex_move _) ?_
    simp only [Act.put, List.setIfInBounds_toArray, List.set_cons_succ, List.set_cons_zero]
    obtain ⟨F20, hs21, le22, hsl23⟩ := own_peek S14 (i := 0) rfl
    refine stTells (v := (.tuple #[(.int .i64 (((posT l k) : Nat) : Int)), (.bool (hasT l k))])) S14 rfl (ex_fn (vs := #[v17, (.slice a2 k.length c2)]) (map2 rfl rfl) rfl (ent_82 _ _)) (find_spec _ _ _ _ l k hs21 hsl23 ((hu.mono le16).mono le22) ok1.rise (by have := ok1.len; omega)) (fun w24 S25 => ?_)
    simp only [Act.put, List.setIfInBounds_toArray, List.set_cons_succ, List.set_cons_zero]
    have S25 : St w F w24 F15 [] [ownP 2 PrC PrC.mono 49 w.heap.size v17 l] := S25
    refine do_ rfl (.tuple #[(.int .i64 (((posT l k) : Nat) : Int)), (.bool (hasT l k))]) (ex_move _) ?_
    simp only [Act.put, List.setIfInBounds_toArray, List.set_cons_succ, List.set_cons_zero]
    refine do_ rfl (.int .i64 (((posT l k) : Nat) : Int)) (ex_extract rfl rfl) ?_
    simp only [Act.put, List.setIfInBounds_toArray, List.set_cons_succ, List.set_cons_zero]
    refine do_ rfl (.bool (hasT l k)) (ex_extract rfl rfl) ?_
    simp only [Act.put, List.setIfInBounds_toArray, List.set_cons_succ, List.set_cons_zero]
    refine do_ rfl (.int .i64 (((posT l k) : Nat) : Int)) (ex_assign _) ?_
    simp only [Act.put, List.setIfInBounds_toArray, List.set_cons_succ, List.set_cons_zero]
    refine do_ rfl (.bool (hasT l k)) (ex_assign _) ?_
    simp only [Act.put, List.setIfInBounds_toArray, List.set_cons_succ, List.set_cons_zero]
    refine wl_nil ?_
    (try simp only [Exit.then, Exit.inBlock, ↓reduceIte, Nat.reduceEqDiff])
    refine hK19 _ _ ?_
    refine wp_seq_k (fun K26 hK26 => ?_)
    refine region_wl ?_
    refine do_ rfl (.bool (hasT l k)) (ex_move _) ?_
    simp only [Act.put, List.setIfInBounds_toArray, List.set_cons_succ, List.set_cons_zero]
    refine wl_nil ?_
    (try simp only [Exit.then, Exit.inBlock, ↓reduceIte, Nat.reduceEqDiff])
    refine hK26 _ _ ?_
    refine wp_cond_split rfl (fun hc27 => ?_) (fun hc27 => ?_)
    · have hpos := hasT_pos hc27
      refine region_wl ?_
      refine do_ rfl v17 (ex_move _) ?_
      simp only [Act.put, List.setIfInBounds_toArray, List.set_cons_succ, List.set_cons_zero]
      refine do_ rfl (.int .i64 (((posT l k) : Nat) : Int)) (ex_move _) ?_
      simp only [Act.put, List.setIfInBounds_toArray, List.set_cons_succ, List.set_cons_zero]
      refine do_ rfl (.int .i64 (((posT l k) : Nat) : Int)) (ex_move _) ?_
      simp only [Act.put, List.setIfInBounds_toArray, List.set_cons_succ, List.set_cons_zero]
      refine do_ rfl (.int .i64 ((((posT l k) + 1) : Nat) : Int)) (ex_add (m := (((posT l k) : Nat) : Int)) (n := (1 : Int)) (r := ((((posT l k) + 1) : Nat) : Int)) rfl rfl (by omega) (by omega) (by omega)) ?_
      simp only [Act.put, List.setIfInBounds_toArray, List.set_cons_succ, List.set_cons_zero]
      refine stOwn (L := []) (M := fun v_ => [ownP 2 PrC PrC.mono 49 w.heap.size v_ (l.take (posT l k) ++ l.drop ((posT l k) + 1))]) rfl (ex_fn (vs := #[v17, (.int .i64 (((posT l k) : Nat) : Int)), (.int .i64 ((((posT l k) + 1) : Nat) : Int))]) (map3 rfl rfl rfl) rfl (ent_90 _ _)) (deletePair PrC.one S25 (by omega) (hpos)) ?_
      intro v28 w29 S30
      simp only [Act.put, List.setIfInBounds_toArray, List.set_cons_succ, List.set_cons_zero]
      have S30 : St w F w29 F15 [] [ownP 2 PrC PrC.mono 49 w.heap.size v28 (l.take (posT l k) ++ l.drop ((posT l k) + 1))] := S30
      refine do_ rfl v28 (ex_assign _) ?_
      simp only [Act.put, List.setIfInBounds_toArray, List.set_cons_succ, List.set_cons_zero]
      refine wl_nil ?_
      (try simp only [Exit.then, Exit.inBlock, ↓reduceIte, Nat.reduceEqDiff])
      refine hK18 _ _ ?_
      refine wp_seq_k (fun K31 hK31 => ?_)
      refine region_wl ?_
      refine do_ rfl v28 (ex_move _) ?_
      simp only [Act.put, List.setIfInBounds_toArray, List.set_cons_succ, List.set_cons_zero]
      refine do_ rfl v28 (ex_assign _) ?_
      simp only [Act.put, List.setIfInBounds_toArray, List.set_cons_succ, List.set_cons_zero]
      refine do_ rfl (.int .i64 0) (ex_assign _) ?_
      simp only [Act.put, List.setIfInBounds_toArray, List.set_cons_succ, List.set_cons_zero]
      refine wl_nil ?_
      (try simp only [Exit.then, Exit.inBlock, ↓reduceIte, Nat.reduceEqDiff])
      refine hK31 _ _ ?_
      refine wp_ret ?_
      (try simp only [Exit.then, Exit.inBlock, ↓reduceIte, Nat.reduceEqDiff])
      refine bodyPost_ret (v := (.tuple #[v28, (.int .i64 0)])) ?_ rfl ?_
      · exact res_tt rfl rfl rfl
      · have hcc : checkN k.length = 0 := by omega
        unfold delR delE delT
        rw [hcc, if_pos rfl, if_pos hc27]
        obtain ⟨F32, S33, le34, hv35⟩ := St.freeze S30 (i := 0) rfl (Nat.le_refl _)
        have S33 : St w F w29 F32 [] [] := S33
        exact ⟨_, _, rfl, S33.gr, _, rfl, hv35⟩
    · refine wp_skip ?_
      (try simp only [Exit.then, Exit.inBlock, ↓reduceIte, Nat.reduceEqDiff])
      refine hK18 _ _ ?_
      refine wp_seq_k (fun K36 hK36 => ?_)
      refine region_wl ?_
      refine do_ rfl v17 (ex_move _) ?_
      simp only [Act.put, List.setIfInBounds_toArray, List.set_cons_succ, List.set_cons_zero]
      refine do_ rfl v17 (ex_assign _) ?_
      simp only [Act.put, List.setIfInBounds_toArray, List.set_cons_succ, List.set_cons_zero]
      refine do_ rfl (.int .i64 0) (ex_assign _) ?_
      simp only [Act.put, List.setIfInBounds_toArray, List.set_cons_succ, List.set_cons_zero]
      refine wl_nil ?_
      (try simp only [Exit.then, Exit.inBlock, ↓reduceIte, Nat.reduceEqDiff])
      refine hK36 _ _ ?_
      refine wp_ret ?_
      (try simp only [Exit.then, Exit.inBlock, ↓reduceIte, Nat.reduceEqDiff])
      refine bodyPost_ret (v := (.tuple #[v17, (.int .i64 0)])) ?_ rfl ?_
      · exact res_tt rfl rfl rfl
      · have hcc : checkN k.length = 0 := by omega
        unfold delR delE delT
        rw [hcc, if_pos rfl, if_neg (by rw [hc27]; simp)]
        obtain ⟨F37, S38, le39, hv40⟩ := St.freeze S25 (i := 0) rfl (Nat.le_refl _)
        have S38 : St w F w24 F37 [] [] := S38
        exact ⟨_, _, rfl, S38.gr, _, rfl, hv40⟩
  · refine do_ rfl (.bool true) (ex_neq (m := (checkN k.length)) (n := (0 : Int)) (b := true) rfl rfl (bne_iff_ne.2 (by omega))) ?_
    simp only [Act.put, List.setIfInBounds_toArray, List.set_cons_succ, List.set_cons_zero]
    refine wl_nil ?_
    (try simp only [Exit.then, Exit.inBlock, ↓reduceIte, Nat.reduceEqDiff])
    refine hK11 _ _ ?_
    refine wp_cond_true rfl ?_
    refine wp_seq_k (fun K41 hK41 => ?_)
    refine region_wl ?_
    refine do_ rfl (.int .i64 (checkN k.length)) (ex_move _) ?_
    simp only [Act.put, List.setIfInBounds_toArray, List.set_cons_succ, List.set_cons_zero]
    refine do_ rfl (.slice none 0 0) (ex_assign _) ?_
    simp only [Act.put, List.setIfInBounds_toArray, List.set_cons_succ, List.set_cons_zero]
    refine do_ rfl (.int .i64 (checkN k.length)) (ex_assign _) ?_
    simp only [Act.put, List.setIfInBounds_toArray, List.set_cons_succ, List.set_cons_zero]
    refine wl_nil ?_
    (try simp only [Exit.then, Exit.inBlock, ↓reduceIte, Nat.reduceEqDiff])
    refine hK41 _ _ ?_
    refine wp_ret ?_
    (try simp only [Exit.then, Exit.inBlock, ↓reduceIte, Nat.reduceEqDiff])
    refine bodyPost_ret (v := (.tuple #[(.slice none 0 0), (.int .i64 (checkN k.length))])) ?_ rfl ?_
    · exact res_tt rfl rfl rfl
    · unfold delR delE
      rw [if_neg hc19]
      exact ⟨_, _, rfl, S10.gr, _, rfl, Sl.nil _ _ _⟩
theorem Sl.dropAny {α : Type} {k : Nat} {R : Fz → List Value → α → Prop} {F : Fz} {a : Option Addr} {n c m : Nat} {l : List α} (hk : 0 < k) (h : Sl k R F (.slice a n c) l) (hm : m ≤ n) : Sl k R F (.slice (if c = m then a else a.map (·.add (m * k))) (n - m) (c - m)) (l.drop m) := by
  have hn := Sl.len h
  obtain ⟨el, h1, h2, h3⟩ := h
  obtain ⟨a0, c0, e1, q1, q2, q3, q4⟩ := h1
  injection e1 with e1 e2 e3
  subst e1; subst e3
  have hll := h2.len
  by_cases hmn : m = l.length
  · have e : l.drop m = [] := List.drop_of_length_le (by omega)
    have e0 : n - m = 0 := by omega
    rw [e, e0]
    refine ⟨[], ⟨_, c - m, rfl, by simp, by omega, fun e => ?_, .inl rfl⟩, trivial, by simp⟩
    cases a with
    | none => have := q3 rfl; exact ⟨rfl, by omega⟩
    | some ad => split at e <;> cases e
  · have hpos : el.flatten ≠ [] := by
      intro e
      have := congrArg List.length e
      rw [flatten_len h3, hll] at this
      have := Nat.mul_pos (show 0 < l.length by omega) hk
      simp at *
      omega
    obtain ⟨b, o, e, hc⟩ := q4.resolve_left hpos
    subst e
    rw [if_neg (by omega)]
    have hs : Sl k R F (.slice (some ⟨b, o, none⟩) n c) l := ⟨el, ⟨_, _, by rw [hn], q1, q2, q3, .inr ⟨b, o, rfl, hc⟩⟩, h2, h3⟩
    have := Sl.dropN (m := m) hs hm rfl rfl
    show Sl k R F (.slice (some (Addr.add ⟨b, o, none⟩ (m * k))) _ _) _
    rw [Addr.add_mid]
    exact this
theorem ex_index2 {P : Program} {ρ : Operand → Value} {w : World} {d : Option Tmp} {t X E : TypeId} {n : Nat} {pos : String} {after : Array Edge} {guard : Option (Nat × Bool)} {x y : Operand} {cs : Array Value} {i : Nat} {v : Value} (hX : P.underlying X = some (.array n E)) (hs : (sizeOf E).run P w = .ok 1 w) (hx : ρ x = .agg cs) (hy : ρ y = .int .i64 i) (hi : i < n) (hb : (isAgg E).run P w = .ok false w) (hv : cs[i]? = some v) :
    (execOp ρ ⟨d, .index X x y, t, pos, after, guard⟩).run P w = .ok (.value v) w := by
  have h1 : (0 : Int) ≤ (i : Int) ∧ (i : Int) < (n : Int) := by omega
  simp [execOp, hx, hy, Instr.index, part, Sem.run_bind, run_underlying hX w, asIntOf, hs, h1, hb, hv, hi]
set_option maxHeartbeats 8000000 in
theorem range_spec (F : Fz) (w : World) (v u z : Value) (l : List Pr) (x y : By) (hs : Sat w F) (hv : Prs F v l) (hx : Bs F u x) (hy : Bs F z y) (ok1 : TreeOk 60 l) :
    Calls Try.prog 49 #[v, u, z] w (Gives w F (PrsE (rangeR l x y) (rangeE x y))) := by
  have ok := treeE_ok.2 ok1
  have hl60 := ok1.len
  obtain ⟨a, c, rfl, hc1, hc2⟩ := Sl.shape hv
  obtain ⟨a2, c2, rfl, _⟩ := hx.shape
  obtain ⟨a3, c3, rfl, _⟩ := hy.shape
  unfold maxLen at hc2
  obtain ⟨i49, hi49, hz49, hs49, hb49⟩ := info_parts info_49
  have S := St.start hs
  go_enter Try.func49, Try.ntmps49
  refine wp_seq_k (fun K1 hK1 => ?_)
  refine region_wl ?_
  refine do_ rfl (.slice none 0 0) (ex_assign _) ?_
  simp only [Act.put, List.setIfInBounds_toArray, List.set_cons_succ, List.set_cons_zero]
  refine do_ rfl (.int .i64 0) (ex_assign _) ?_
  simp only [Act.put, List.setIfInBounds_toArray, List.set_cons_succ, List.set_cons_zero]
  refine wl_nil ?_
  (try simp only [Exit.then, Exit.inBlock, ↓reduceIte, Nat.reduceEqDiff])
  refine hK1 _ _ ?_
  refine wp_seq_k (fun K2 hK2 => ?_)
  refine wp_seq_k (fun K3 hK3 => ?_)
  refine region_wl ?_
  refine do_ rfl (.slice a l.length c) (ex_move _) ?_
  simp only [Act.put, List.setIfInBounds_toArray, List.set_cons_succ, List.set_cons_zero]
  refine stTells (v := (.int .i64 (treeE l))) S rfl (ex_fn (vs := #[(.slice a l.length c)]) (map1 rfl) rfl (ent_54 _ _)) (treeCheck_spec _ _ _ l (S).sat hv) (fun w4 S5 => ?_)
  simp only [Act.put, List.setIfInBounds_toArray, List.set_cons_succ, List.set_cons_zero]
  have S5 : St w F w4 F [] [] := S5
  refine do_ rfl (.int .i64 (treeE l)) (ex_assign _) ?_
  simp only [Act.put, List.setIfInBounds_toArray, List.set_cons_succ, List.set_cons_zero]
  refine wl_nil ?_
  (try simp only [Exit.then, Exit.inBlock, ↓reduceIte, Nat.reduceEqDiff])
  refine hK3 _ _ ?_
  refine wp_seq_k (fun K6 hK6 => ?_)
  refine region_wl ?_
  refine do_ rfl (.int .i64 (treeE l)) (ex_move _) ?_
  simp only [Act.put, List.setIfInBounds_toArray, List.set_cons_succ, List.set_cons_zero]
  refine do_ rfl (.bool false) (ex_neq (m := (treeE l)) (n := (0 : Int)) (b := false) rfl rfl (bne_eq_false_iff_eq.2 (ok))) ?_
  simp only [Act.put, List.setIfInBounds_toArray, List.set_cons_succ, List.set_cons_zero]
  refine wl_nil ?_
  (try simp only [Exit.then, Exit.inBlock, ↓reduceIte, Nat.reduceEqDiff])
  refine hK6 _ _ ?_
  refine wp_cond_false rfl ?_
  refine wp_skip ?_
  (try simp only [Exit.then, Exit.inBlock, ↓reduceIte, Nat.reduceEqDiff])
  refine hK2 _ _ ?_
  refine wp_seq_k (fun K7 hK7 => ?_)
  refine wp_seq_k (fun K8 hK8 => ?_)
  refine region_wl ?_
  refine do_ rfl (.slice a2 x.length c2) (ex_move _) ?_
  simp only [Act.put, List.setIfInBounds_toArray, List.set_cons_succ, List.set_cons_zero]
  refine do_ rfl (.slice a3 y.length c3) (ex_move _) ?_
  simp only [Act.put, List.setIfInBounds_toArray, List.set_cons_succ, List.set_cons_zero]
  refine do_ rfl (.agg #[(.slice a2 x.length c2), (.slice a3 y.length c3)]) (ex_build (ps := #[(0, (.slice a2 x.length c2)), (1, (.slice a3 y.length c3))]) (bmap2 rfl rfl) (by kernel_rfl)) ?_
  simp only [Act.put, List.setIfInBounds_toArray, List.set_cons_succ, List.set_cons_zero]
  refine do_ rfl (.int .i64 0) (ex_move _) ?_
  simp only [Act.put, List.setIfInBounds_toArray, List.set_cons_succ, List.set_cons_zero]
  refine wl_nil ?_
  (try simp only [Exit.then, Exit.inBlock, ↓reduceIte, Nat.reduceEqDiff])
  refine hK8 _ _ ?_
  refine wp_block ?_
  refine wp_loop_g (fun mm aa w10 => ∃ (k : Nat) (u9 : Nat → Value), mm = 2 - k ∧ aa = ⟨#[(.slice a l.length c), (.slice a2 x.length c2), (.slice a3 y.length c3), undef, undef, undef, (u9 6), (u9 7), (.int .i64 (treeE l)), undef, (u9 10), (u9 11), undef, undef, undef, undef, (.slice a l.length c), (.int .i64 (treeE l)), (.int .i64 (treeE l)), (.bool false), undef, (.slice a2 x.length c2), (.slice a3 y.length c3), (.agg #[(.slice a2 x.length c2), (.slice a3 y.length c3)]), (.int .i64 ((k : Nat) : Int)), (u9 25), (u9 26), (u9 27), (u9 28), (u9 29), (u9 30), (u9 31), (u9 32), undef, undef, undef, undef, undef, undef, undef, undef, undef, undef, undef, undef, undef, undef, undef, undef, undef, undef, undef, undef, undef, undef], []⟩ ∧ St w F w10 F [] [] ∧ (k ≤ 2) ∧ (1 ≤ k → checkN x.length = 0) ∧ (2 ≤ k → checkN y.length = 0)) _ ⟨0, (slotF [(.slice a l.length c), (.slice a2 x.length c2), (.slice a3 y.length c3), undef, undef, undef, (.slice none 0 0), (.int .i64 0), (.int .i64 (treeE l)), undef, undef, undef, undef, undef, undef, undef, (.slice a l.length c), (.int .i64 (treeE l)), (.int .i64 (treeE l)), (.bool false), undef, (.slice a2 x.length c2), (.slice a3 y.length c3), (.agg #[(.slice a2 x.length c2), (.slice a3 y.length c3)]), (.int .i64 0), undef, undef, undef, undef, undef, undef, undef, undef, undef, undef, undef, undef, undef, undef, undef, undef, undef, undef, undef, undef, undef, undef, undef, undef, undef, undef, undef, undef, undef, undef]), rfl, rfl, S5, (by omega), (fun h => absurd h (by omega)), (fun h => absurd h (by omega))⟩ ?_
  rintro m11 a12 w13 ⟨k, u9, rfl, rfl, S14, hk, hq1, hq2⟩ K16 hK16
  refine wp_seq_k (fun K17 hK17 => ?_)
  refine region_wl ?_
  by_cases hc25 : k < 2
  · refine do_ rfl (.bool true) (ex_lss (m := ((k : Nat) : Int)) (n := (2 : Int)) (b := true) rfl rfl (decide_eq_true (by omega))) ?_
    simp only [Act.put, List.setIfInBounds_toArray, List.set_cons_succ, List.set_cons_zero]
    refine wl_nil ?_
    (try simp only [Exit.then, Exit.inBlock, ↓reduceIte, Nat.reduceEqDiff])
    refine hK17 _ _ ?_
    refine wp_seq_k (fun K18 hK18 => ?_)
    refine wp_cond_true rfl ?_
    refine wp_skip ?_
    (try simp only [Exit.then, Exit.inBlock, ↓reduceIte, Nat.reduceEqDiff])
    refine hK18 _ _ ?_
    refine wp_seq_k (fun K19 hK19 => ?_)
    refine wp_block ?_
    refine wp_seq_k (fun K20 hK20 => ?_)
    obtain rfl | rfl : k = 0 ∨ k = 1 := by omega
    · refine region_wl ?_
      refine do_ rfl (.slice a2 x.length c2) (ex_index2 (i := 0) Try.underlying129 (sizeof_27 _) rfl rfl (by decide) (nagg_27 _) rfl) ?_
      simp only [Act.put, List.setIfInBounds_toArray, List.set_cons_succ, List.set_cons_zero]
      refine do_ rfl (.slice a2 x.length c2) (ex_assign _) ?_
      simp only [Act.put, List.setIfInBounds_toArray, List.set_cons_succ, List.set_cons_zero]
      refine wl_nil ?_
      (try simp only [Exit.then, Exit.inBlock, ↓reduceIte, Nat.reduceEqDiff])
      refine hK20 _ _ ?_
      refine wp_seq_k (fun K21 hK21 => ?_)
      refine region_wl ?_
      refine do_ rfl (.slice a2 x.length c2) (ex_move _) ?_
      simp only [Act.put, List.setIfInBounds_toArray, List.set_cons_succ, List.set_cons_zero]
      refine stTells (v := (.int .i64 (checkN x.length))) S14 rfl (ex_fn (vs := #[(.slice a2 x.length c2)]) (map1 rfl) rfl (ent_41 _ _)) (tells_same (check_spec _ _ _ x hx)) (fun w22 S23 => ?_)
      simp only [Act.put, List.setIfInBounds_toArray, List.set_cons_succ, List.set_cons_zero]
      have S23 : St w F w22 F [] [] := S23
      refine do_ rfl (.int .i64 (checkN x.length)) (ex_assign _) ?_
      simp only [Act.put, List.setIfInBounds_toArray, List.set_cons_succ, List.set_cons_zero]
      refine wl_nil ?_
      (try simp only [Exit.then, Exit.inBlock, ↓reduceIte, Nat.reduceEqDiff])
      refine hK21 _ _ ?_
      refine wp_seq_k (fun K24 hK24 => ?_)
      refine region_wl ?_
      refine do_ rfl (.int .i64 (checkN x.length)) (ex_move _) ?_
      simp only [Act.put, List.setIfInBounds_toArray, List.set_cons_succ, List.set_cons_zero]
      by_cases hc30 : (checkN x.length) = (0 : Int)
      · refine do_ rfl (.bool false) (ex_neq (m := (checkN x.length)) (n := (0 : Int)) (b := false) rfl rfl (bne_eq_false_iff_eq.2 (by omega))) ?_
        simp only [Act.put, List.setIfInBounds_toArray, List.set_cons_succ, List.set_cons_zero]
        refine wl_nil ?_
        (try simp only [Exit.then, Exit.inBlock, ↓reduceIte, Nat.reduceEqDiff])
        refine hK24 _ _ ?_
        refine wp_cond_false rfl ?_
        refine wp_skip ?_
        (try simp only [Exit.then, Exit.inBlock, ↓reduceIte, Nat.reduceEqDiff])
        refine hK19 _ _ ?_
        refine region_wl ?_
        refine do_ rfl (.int .i64 1) (ex_add (m := (0 : Int)) (n := (1 : Int)) (r := (1 : Int)) rfl rfl (by omega) (by omega) (by omega)) ?_
        simp only [Act.put, List.setIfInBounds_toArray, List.set_cons_succ, List.set_cons_zero]
        refine do_ rfl (.int .i64 1) (ex_move _) ?_
        simp only [Act.put, List.setIfInBounds_toArray, List.set_cons_succ, List.set_cons_zero]
        refine wl_nil ?_
        (try simp only [Exit.then, Exit.inBlock, ↓reduceIte, Nat.reduceEqDiff])
        exact hK16 _ _ _ (by omega) ⟨1, (slotF [(.slice a l.length c), (.slice a2 x.length c2), (.slice a3 y.length c3), undef, undef, undef, (u9 6), (u9 7), (.int .i64 (treeE l)), undef, (.slice a2 x.length c2), (.int .i64 (checkN x.length)), undef, undef, undef, undef, (.slice a l.length c), (.int .i64 (treeE l)), (.int .i64 (treeE l)), (.bool false), undef, (.slice a2 x.length c2), (.slice a3 y.length c3), (.agg #[(.slice a2 x.length c2), (.slice a3 y.length c3)]), (.int .i64 1), (.bool true), (.slice a2 x.length c2), (.slice a2 x.length c2), (.int .i64 (checkN x.length)), (.int .i64 (checkN x.length)), (.bool false), (u9 31), (.int .i64 1), undef, undef, undef, undef, undef, undef, undef, undef, undef, undef, undef, undef, undef, undef, undef, undef, undef, undef, undef, undef, undef, undef]), rfl, rfl, S23, (by omega), (fun _ => by omega), (fun h => absurd h (by omega))⟩
      · refine do_ rfl (.bool true) (ex_neq (m := (checkN x.length)) (n := (0 : Int)) (b := true) rfl rfl (bne_iff_ne.2 (by omega))) ?_
        simp only [Act.put, List.setIfInBounds_toArray, List.set_cons_succ, List.set_cons_zero]
        refine wl_nil ?_
        (try simp only [Exit.then, Exit.inBlock, ↓reduceIte, Nat.reduceEqDiff])
        refine hK24 _ _ ?_
        refine wp_cond_true rfl ?_
        refine wp_seq_k (fun K25 hK25 => ?_)
        refine region_wl ?_
        refine do_ rfl (.int .i64 (checkN x.length)) (ex_move _) ?_
        simp only [Act.put, List.setIfInBounds_toArray, List.set_cons_succ, List.set_cons_zero]
        refine do_ rfl (.slice none 0 0) (ex_assign _) ?_
        simp only [Act.put, List.setIfInBounds_toArray, List.set_cons_succ, List.set_cons_zero]
        refine do_ rfl (.int .i64 (checkN x.length)) (ex_assign _) ?_
        simp only [Act.put, List.setIfInBounds_toArray, List.set_cons_succ, List.set_cons_zero]
        refine wl_nil ?_
        (try simp only [Exit.then, Exit.inBlock, ↓reduceIte, Nat.reduceEqDiff])
        refine hK25 _ _ ?_
        refine wp_ret ?_
        (try simp only [Exit.then, Exit.inBlock, ↓reduceIte, Nat.reduceEqDiff])
        refine bodyPost_ret (v := (.tuple #[(.slice none 0 0), (.int .i64 (checkN x.length))])) ?_ rfl ?_
        · exact res_tt rfl rfl rfl
        · have he : rangeE x y = checkN x.length := by unfold rangeE; rw [if_pos hc30]
          unfold rangeR
          rw [he, if_neg hc30]
          exact ⟨_, _, rfl, S23.gr, _, rfl, Sl.nil _ _ _⟩
    · refine region_wl ?_
      refine do_ rfl (.slice a3 y.length c3) (ex_index2 (i := 1) Try.underlying129 (sizeof_27 _) rfl rfl (by decide) (nagg_27 _) rfl) ?_
      simp only [Act.put, List.setIfInBounds_toArray, List.set_cons_succ, List.set_cons_zero]
      refine do_ rfl (.slice a3 y.length c3) (ex_assign _) ?_
      simp only [Act.put, List.setIfInBounds_toArray, List.set_cons_succ, List.set_cons_zero]
      refine wl_nil ?_
      (try simp only [Exit.then, Exit.inBlock, ↓reduceIte, Nat.reduceEqDiff])
      refine hK20 _ _ ?_
      refine wp_seq_k (fun K26 hK26 => ?_)
      refine region_wl ?_
      refine do_ rfl (.slice a3 y.length c3) (ex_move _) ?_
      simp only [Act.put, List.setIfInBounds_toArray, List.set_cons_succ, List.set_cons_zero]
      refine stTells (v := (.int .i64 (checkN y.length))) S14 rfl (ex_fn (vs := #[(.slice a3 y.length c3)]) (map1 rfl) rfl (ent_41 _ _)) (tells_same (check_spec _ _ _ y hy)) (fun w27 S28 => ?_)
      simp only [Act.put, List.setIfInBounds_toArray, List.set_cons_succ, List.set_cons_zero]
      have S28 : St w F w27 F [] [] := S28
      refine do_ rfl (.int .i64 (checkN y.length)) (ex_assign _) ?_
      simp only [Act.put, List.setIfInBounds_toArray, List.set_cons_succ, List.set_cons_zero]
      refine wl_nil ?_
      (try simp only [Exit.then, Exit.inBlock, ↓reduceIte, Nat.reduceEqDiff])
      refine hK26 _ _ ?_
      refine wp_seq_k (fun K29 hK29 => ?_)
      refine region_wl ?_
      refine do_ rfl (.int .i64 (checkN y.length)) (ex_move _) ?_
      simp only [Act.put, List.setIfInBounds_toArray, List.set_cons_succ, List.set_cons_zero]
      by_cases hc30 : (checkN y.length) = (0 : Int)
      · refine do_ rfl (.bool false) (ex_neq (m := (checkN y.length)) (n := (0 : Int)) (b := false) rfl rfl (bne_eq_false_iff_eq.2 (by omega))) ?_
        simp only [Act.put, List.setIfInBounds_toArray, List.set_cons_succ, List.set_cons_zero]
        refine wl_nil ?_
        (try simp only [Exit.then, Exit.inBlock, ↓reduceIte, Nat.reduceEqDiff])
        refine hK29 _ _ ?_
        refine wp_cond_false rfl ?_
        refine wp_skip ?_
        (try simp only [Exit.then, Exit.inBlock, ↓reduceIte, Nat.reduceEqDiff])
        refine hK19 _ _ ?_
        refine region_wl ?_
        refine do_ rfl (.int .i64 2) (ex_add (m := (1 : Int)) (n := (1 : Int)) (r := (2 : Int)) rfl rfl (by omega) (by omega) (by omega)) ?_
        simp only [Act.put, List.setIfInBounds_toArray, List.set_cons_succ, List.set_cons_zero]
        refine do_ rfl (.int .i64 2) (ex_move _) ?_
        simp only [Act.put, List.setIfInBounds_toArray, List.set_cons_succ, List.set_cons_zero]
        refine wl_nil ?_
        (try simp only [Exit.then, Exit.inBlock, ↓reduceIte, Nat.reduceEqDiff])
        exact hK16 _ _ _ (by omega) ⟨2, (slotF [(.slice a l.length c), (.slice a2 x.length c2), (.slice a3 y.length c3), undef, undef, undef, (u9 6), (u9 7), (.int .i64 (treeE l)), undef, (.slice a3 y.length c3), (.int .i64 (checkN y.length)), undef, undef, undef, undef, (.slice a l.length c), (.int .i64 (treeE l)), (.int .i64 (treeE l)), (.bool false), undef, (.slice a2 x.length c2), (.slice a3 y.length c3), (.agg #[(.slice a2 x.length c2), (.slice a3 y.length c3)]), (.int .i64 2), (.bool true), (.slice a3 y.length c3), (.slice a3 y.length c3), (.int .i64 (checkN y.length)), (.int .i64 (checkN y.length)), (.bool false), (u9 31), (.int .i64 2), undef, undef, undef, undef, undef, undef, undef, undef, undef, undef, undef, undef, undef, undef, undef, undef, undef, undef, undef, undef, undef, undef]), rfl, rfl, S28, (by omega), (fun _ => hq1 (by omega)), (fun _ => by omega)⟩
      · refine do_ rfl (.bool true) (ex_neq (m := (checkN y.length)) (n := (0 : Int)) (b := true) rfl rfl (bne_iff_ne.2 (by omega))) ?_
        simp only [Act.put, List.setIfInBounds_toArray, List.set_cons_succ, List.set_cons_zero]
        refine wl_nil ?_
        (try simp only [Exit.then, Exit.inBlock, ↓reduceIte, Nat.reduceEqDiff])
        refine hK29 _ _ ?_
        refine wp_cond_true rfl ?_
        refine wp_seq_k (fun K30 hK30 => ?_)
        refine region_wl ?_
        refine do_ rfl (.int .i64 (checkN y.length)) (ex_move _) ?_
        simp only [Act.put, List.setIfInBounds_toArray, List.set_cons_succ, List.set_cons_zero]
        refine do_ rfl (.slice none 0 0) (ex_assign _) ?_
        simp only [Act.put, List.setIfInBounds_toArray, List.set_cons_succ, List.set_cons_zero]
        refine do_ rfl (.int .i64 (checkN y.length)) (ex_assign _) ?_
        simp only [Act.put, List.setIfInBounds_toArray, List.set_cons_succ, List.set_cons_zero]
        refine wl_nil ?_
        (try simp only [Exit.then, Exit.inBlock, ↓reduceIte, Nat.reduceEqDiff])
        refine hK30 _ _ ?_
        refine wp_ret ?_
        (try simp only [Exit.then, Exit.inBlock, ↓reduceIte, Nat.reduceEqDiff])
        refine bodyPost_ret (v := (.tuple #[(.slice none 0 0), (.int .i64 (checkN y.length))])) ?_ rfl ?_
        · exact res_tt rfl rfl rfl
        · have he : rangeE x y = checkN y.length := by unfold rangeE; rw [if_neg (by have := hq1 (by omega); omega)]
          unfold rangeR
          rw [he, if_neg hc30]
          exact ⟨_, _, rfl, S28.gr, _, rfl, Sl.nil _ _ _⟩
  · refine do_ rfl (.bool false) (ex_lss (m := ((k : Nat) : Int)) (n := (2 : Int)) (b := false) rfl rfl (decide_eq_false (by omega))) ?_
    simp only [Act.put, List.setIfInBounds_toArray, List.set_cons_succ, List.set_cons_zero]
    refine wl_nil ?_
    (try simp only [Exit.then, Exit.inBlock, ↓reduceIte, Nat.reduceEqDiff])
    refine hK17 _ _ ?_
    refine wp_seq_k (fun K31 hK31 => ?_)
    refine wp_cond_false rfl ?_
    refine wp_exit ?_
    (try simp only [Exit.then, Exit.inBlock, ↓reduceIte, Nat.reduceEqDiff])
    refine hK7 _ _ ?_
    refine wp_seq_k (fun K32 hK32 => ?_)
    have hcx := hq1 (by omega)
    have hcy := hq2 (by omega)
    have hply : posT l y ≤ l.length := posBy_le _ _ _
    refine region_wl ?_
    refine do_ rfl (.slice a l.length c) (ex_move _) ?_
    simp only [Act.put, List.setIfInBounds_toArray, List.set_cons_succ, List.set_cons_zero]
    refine do_ rfl (.slice a2 x.length c2) (ex_move _) ?_
    simp only [Act.put, List.setIfInBounds_toArray, List.set_cons_succ, List.set_cons_zero]
    refine stTells (v := (.tuple #[(.int .i64 (((posT l x) : Nat) : Int)), (.bool (hasT l x))])) S14 rfl (ex_fn (vs := #[(.slice a l.length c), (.slice a2 x.length c2)]) (map2 rfl rfl) rfl (ent_82 _ _)) (find_spec _ _ _ _ l x (S14).sat hv hx ok1.rise (by have := ok1.len; omega)) (fun w33 S34 => ?_)
    simp only [Act.put, List.setIfInBounds_toArray, List.set_cons_succ, List.set_cons_zero]
    have S34 : St w F w33 F [] [] := S34
    refine do_ rfl (.tuple #[(.int .i64 (((posT l x) : Nat) : Int)), (.bool (hasT l x))]) (ex_move _) ?_
    simp only [Act.put, List.setIfInBounds_toArray, List.set_cons_succ, List.set_cons_zero]
    refine do_ rfl (.int .i64 (((posT l x) : Nat) : Int)) (ex_extract rfl rfl) ?_
    simp only [Act.put, List.setIfInBounds_toArray, List.set_cons_succ, List.set_cons_zero]
    refine do_ rfl (.bool (hasT l x)) (ex_extract rfl rfl) ?_
    simp only [Act.put, List.setIfInBounds_toArray, List.set_cons_succ, List.set_cons_zero]
    refine do_ rfl (.int .i64 (((posT l x) : Nat) : Int)) (ex_assign _) ?_
    simp only [Act.put, List.setIfInBounds_toArray, List.set_cons_succ, List.set_cons_zero]
    refine do_ rfl (.bool (hasT l x)) (ex_assign _) ?_
    simp only [Act.put, List.setIfInBounds_toArray, List.set_cons_succ, List.set_cons_zero]
    refine wl_nil ?_
    (try simp only [Exit.then, Exit.inBlock, ↓reduceIte, Nat.reduceEqDiff])
    refine hK32 _ _ ?_
    refine wp_seq_k (fun K35 hK35 => ?_)
    refine region_wl ?_
    refine do_ rfl (.slice a l.length c) (ex_move _) ?_
    simp only [Act.put, List.setIfInBounds_toArray, List.set_cons_succ, List.set_cons_zero]
    refine do_ rfl (.slice a3 y.length c3) (ex_move _) ?_
    simp only [Act.put, List.setIfInBounds_toArray, List.set_cons_succ, List.set_cons_zero]
    refine stTells (v := (.tuple #[(.int .i64 (((posT l y) : Nat) : Int)), (.bool (hasT l y))])) S34 rfl (ex_fn (vs := #[(.slice a l.length c), (.slice a3 y.length c3)]) (map2 rfl rfl) rfl (ent_82 _ _)) (find_spec _ _ _ _ l y (S34).sat hv hy ok1.rise (by have := ok1.len; omega)) (fun w36 S37 => ?_)
    simp only [Act.put, List.setIfInBounds_toArray, List.set_cons_succ, List.set_cons_zero]
    have S37 : St w F w36 F [] [] := S37
    refine do_ rfl (.tuple #[(.int .i64 (((posT l y) : Nat) : Int)), (.bool (hasT l y))]) (ex_move _) ?_
    simp only [Act.put, List.setIfInBounds_toArray, List.set_cons_succ, List.set_cons_zero]
    refine do_ rfl (.int .i64 (((posT l y) : Nat) : Int)) (ex_extract rfl rfl) ?_
    simp only [Act.put, List.setIfInBounds_toArray, List.set_cons_succ, List.set_cons_zero]
    refine do_ rfl (.bool (hasT l y)) (ex_extract rfl rfl) ?_
    simp only [Act.put, List.setIfInBounds_toArray, List.set_cons_succ, List.set_cons_zero]
    refine do_ rfl (.int .i64 (((posT l y) : Nat) : Int)) (ex_assign _) ?_
    simp only [Act.put, List.setIfInBounds_toArray, List.set_cons_succ, List.set_cons_zero]
    refine do_ rfl (.bool (hasT l y)) (ex_assign _) ?_
    simp only [Act.put, List.setIfInBounds_toArray, List.set_cons_succ, List.set_cons_zero]
    refine wl_nil ?_
    (try simp only [Exit.then, Exit.inBlock, ↓reduceIte, Nat.reduceEqDiff])
    refine hK35 _ _ ?_
    refine wp_seq_k (fun K38 hK38 => ?_)
    refine wp_seq_k (fun K39 hK39 => ?_)
    refine region_wl ?_
    refine do_ rfl (.bool (hasT l y)) (ex_move _) ?_
    simp only [Act.put, List.setIfInBounds_toArray, List.set_cons_succ, List.set_cons_zero]
    refine wl_nil ?_
    (try simp only [Exit.then, Exit.inBlock, ↓reduceIte, Nat.reduceEqDiff])
    refine hK39 _ _ ?_
    refine wp_cond_split rfl (fun hc40 => ?_) (fun hc40 => ?_)
    · refine region_wl ?_
      refine do_ rfl (.int .i64 (((posT l y) : Nat) : Int)) (ex_move _) ?_
      simp only [Act.put, List.setIfInBounds_toArray, List.set_cons_succ, List.set_cons_zero]
      refine do_ rfl (.int .i64 ((((posT l y) + 1) : Nat) : Int)) (ex_add (m := (((posT l y) : Nat) : Int)) (n := (1 : Int)) (r := ((((posT l y) + 1) : Nat) : Int)) rfl rfl (by omega) (by omega) (by omega)) ?_
      simp only [Act.put, List.setIfInBounds_toArray, List.set_cons_succ, List.set_cons_zero]
      refine do_ rfl (.int .i64 ((((posT l y) + 1) : Nat) : Int)) (ex_assign _) ?_
      simp only [Act.put, List.setIfInBounds_toArray, List.set_cons_succ, List.set_cons_zero]
      refine wl_nil ?_
      (try simp only [Exit.then, Exit.inBlock, ↓reduceIte, Nat.reduceEqDiff])
      refine hK38 _ _ ?_
      refine wp_seq_k (fun K41 hK41 => ?_)
      have hend : endT l y = ((posT l y) + 1) := by unfold endT; rw [hc40]; simp
      have hel := endT_le ok1.rise y
      have hpl : posT l x ≤ l.length := posBy_le _ _ _
      rw [hend] at hel
      refine region_wl ?_
      refine do_ rfl (.slice a l.length c) (ex_move _) ?_
      simp only [Act.put, List.setIfInBounds_toArray, List.set_cons_succ, List.set_cons_zero]
      refine do_ rfl (.int .i64 (((posT l x) : Nat) : Int)) (ex_move _) ?_
      simp only [Act.put, List.setIfInBounds_toArray, List.set_cons_succ, List.set_cons_zero]
      refine do_ rfl (.int .i64 (((posT l x) : Nat) : Int)) (ex_move _) ?_
      simp only [Act.put, List.setIfInBounds_toArray, List.set_cons_succ, List.set_cons_zero]
      refine do_ rfl (.int .i64 ((((posT l y) + 1) : Nat) : Int)) (ex_move _) ?_
      simp only [Act.put, List.setIfInBounds_toArray, List.set_cons_succ, List.set_cons_zero]
      refine do_ rfl (.int .i64 (((max (posT l x) ((posT l y) + 1)) : Nat) : Int)) (ex_max (m := (((posT l x) : Nat) : Int)) (n := ((((posT l y) + 1) : Nat) : Int)) (r := (((max (posT l x) ((posT l y) + 1)) : Nat) : Int)) rfl rfl (by omega)) ?_
      simp only [Act.put, List.setIfInBounds_toArray, List.set_cons_succ, List.set_cons_zero]
      have hcut := Sl.dropAny (m := (posT l x)) (by decide) (Sl.takeN (m := (max (posT l x) ((posT l y) + 1))) hv (by omega)) (by omega)
      refine do_ rfl (.slice (if c = (posT l x) then a else a.map (·.add ((posT l x) * 2))) ((max (posT l x) ((posT l y) + 1)) - (posT l x)) (c - (posT l x))) (ex_slice (l := (posT l x)) (h := (max (posT l x) ((posT l y) + 1))) (sz := 2) Try.underlying44 rfl (sizeof_49 _) (.inr ⟨_, rfl, rfl⟩) (.inr ⟨_, rfl, rfl⟩) (by omega) (by omega) (rfl)) ?_
      simp only [Act.put, List.setIfInBounds_toArray, List.set_cons_succ, List.set_cons_zero]
      refine stGivesO PrC.mono S37 rfl (ex_fn (vs := #[(.slice (if c = (posT l x) then a else a.map (·.add ((posT l x) * 2))) ((max (posT l x) ((posT l y) + 1)) - (posT l x)) (c - (posT l x)))]) (map1 rfl) rfl (ent_83 _ _)) (all_spec _ _ _ ((l.take (max (posT l x) ((posT l y) + 1))).drop (posT l x)) (S37).sat hcut (by rw [List.length_drop, List.length_take]; omega) (fun p hp => ok1.small (List.mem_of_mem_take (List.mem_of_mem_drop hp)))) ?_
      intro v46 w42 F44 S43 le45
      simp only [Act.put, List.setIfInBounds_toArray, List.set_cons_succ, List.set_cons_zero]
      have S43 : St w F w42 F44 [] [ownP 2 PrC PrC.mono 49 w.heap.size v46 ((l.take (max (posT l x) ((posT l y) + 1))).drop (posT l x))] := S43
      refine do_ rfl v46 (ex_assign _) ?_
      simp only [Act.put, List.setIfInBounds_toArray, List.set_cons_succ, List.set_cons_zero]
      refine do_ rfl (.int .i64 0) (ex_assign _) ?_
      simp only [Act.put, List.setIfInBounds_toArray, List.set_cons_succ, List.set_cons_zero]
      refine wl_nil ?_
      (try simp only [Exit.then, Exit.inBlock, ↓reduceIte, Nat.reduceEqDiff])
      refine hK41 _ _ ?_
      refine wp_ret ?_
      (try simp only [Exit.then, Exit.inBlock, ↓reduceIte, Nat.reduceEqDiff])
      refine bodyPost_ret (v := (.tuple #[v46, (.int .i64 0)])) ?_ rfl ?_
      · exact res_tt rfl rfl rfl
      · have he : rangeE x y = 0 := by unfold rangeE; rw [if_neg (by omega)]; exact hcy
        unfold rangeR
        rw [he, if_pos rfl, rangeT_cut ok1.rise, hend]
        obtain ⟨F47, S48, le49, hv50⟩ := St.freeze S43 (i := 0) rfl (Nat.le_refl _)
        have S48 : St w F w42 F47 [] [] := S48
        exact ⟨_, _, rfl, S48.gr, _, rfl, hv50⟩
    · refine wp_skip ?_
      (try simp only [Exit.then, Exit.inBlock, ↓reduceIte, Nat.reduceEqDiff])
      refine hK38 _ _ ?_
      refine wp_seq_k (fun K51 hK51 => ?_)
      have hend : endT l y = (posT l y) := by unfold endT; rw [hc40]; simp
      have hel := endT_le ok1.rise y
      have hpl : posT l x ≤ l.length := posBy_le _ _ _
      rw [hend] at hel
      refine region_wl ?_
      refine do_ rfl (.slice a l.length c) (ex_move _) ?_
      simp only [Act.put, List.setIfInBounds_toArray, List.set_cons_succ, List.set_cons_zero]
      refine do_ rfl (.int .i64 (((posT l x) : Nat) : Int)) (ex_move _) ?_
      simp only [Act.put, List.setIfInBounds_toArray, List.set_cons_succ, List.set_cons_zero]
      refine do_ rfl (.int .i64 (((posT l x) : Nat) : Int)) (ex_move _) ?_
      simp only [Act.put, List.setIfInBounds_toArray, List.set_cons_succ, List.set_cons_zero]
      refine do_ rfl (.int .i64 (((posT l y) : Nat) : Int)) (ex_move _) ?_
      simp only [Act.put, List.setIfInBounds_toArray, List.set_cons_succ, List.set_cons_zero]
      refine do_ rfl (.int .i64 (((max (posT l x) (posT l y)) : Nat) : Int)) (ex_max (m := (((posT l x) : Nat) : Int)) (n := (((posT l y) : Nat) : Int)) (r := (((max (posT l x) (posT l y)) : Nat) : Int)) rfl rfl (by omega)) ?_
      simp only [Act.put, List.setIfInBounds_toArray, List.set_cons_succ, List.set_cons_zero]
      have hcut := Sl.dropAny (m := (posT l x)) (by decide) (Sl.takeN (m := (max (posT l x) (posT l y))) hv (by omega)) (by omega)
      refine do_ rfl (.slice (if c = (posT l x) then a else a.map (·.add ((posT l x) * 2))) ((max (posT l x) (posT l y)) - (posT l x)) (c - (posT l x))) (ex_slice (l := (posT l x)) (h := (max (posT l x) (posT l y))) (sz := 2) Try.underlying44 rfl (sizeof_49 _) (.inr ⟨_, rfl, rfl⟩) (.inr ⟨_, rfl, rfl⟩) (by omega) (by omega) (rfl)) ?_
      simp only [Act.put, List.setIfInBounds_toArray, List.set_cons_succ, List.set_cons_zero]
      refine stGivesO PrC.mono S37 rfl (ex_fn (vs := #[(.slice (if c = (posT l x) then a else a.map (·.add ((posT l x) * 2))) ((max (posT l x) (posT l y)) - (posT l x)) (c - (posT l x)))]) (map1 rfl) rfl (ent_83 _ _)) (all_spec _ _ _ ((l.take (max (posT l x) (posT l y))).drop (posT l x)) (S37).sat hcut (by rw [List.length_drop, List.length_take]; omega) (fun p hp => ok1.small (List.mem_of_mem_take (List.mem_of_mem_drop hp)))) ?_
      intro v56 w52 F54 S53 le55
      simp only [Act.put, List.setIfInBounds_toArray, List.set_cons_succ, List.set_cons_zero]
      have S53 : St w F w52 F54 [] [ownP 2 PrC PrC.mono 49 w.heap.size v56 ((l.take (max (posT l x) (posT l y))).drop (posT l x))] := S53
      refine do_ rfl v56 (ex_assign _) ?_
      simp only [Act.put, List.setIfInBounds_toArray, List.set_cons_succ, List.set_cons_zero]
      refine do_ rfl (.int .i64 0) (ex_assign _) ?_
      simp only [Act.put, List.setIfInBounds_toArray, List.set_cons_succ, List.set_cons_zero]
      refine wl_nil ?_
      (try simp only [Exit.then, Exit.inBlock, ↓reduceIte, Nat.reduceEqDiff])
      refine hK51 _ _ ?_
      refine wp_ret ?_
      (try simp only [Exit.then, Exit.inBlock, ↓reduceIte, Nat.reduceEqDiff])
      refine bodyPost_ret (v := (.tuple #[v56, (.int .i64 0)])) ?_ rfl ?_
      · exact res_tt rfl rfl rfl
      · have he : rangeE x y = 0 := by unfold rangeE; rw [if_neg (by omega)]; exact hcy
        unfold rangeR
        rw [he, if_pos rfl, rangeT_cut ok1.rise, hend]
        obtain ⟨F57, S58, le59, hv60⟩ := St.freeze S53 (i := 0) rfl (Nat.le_refl _)
        have S58 : St w F w52 F57 [] [] := S58
        exact ⟨_, _, rfl, S58.gr, _, rfl, hv60⟩
end Go.Proofs.Yteefnnnbbmbmcaa
