/- Walks: tree.Check, slices.BinarySearchFunc at pairs, tree.find, tree.Get -/
import Derived.Test.YteefnnnbbmbmcaaT1b
import Derived.Test.YteefnnnbbmbmcaaP3
namespace Go.Proofs.Yteefnnnbbmbmcaa
open Go.RowKit
set_option maxRecDepth 100000
set_option linter.unusedVariables false
set_option linter.unusedSimpArgs false
/-- What Check tells of pairs from place k on. -/
def treeAt (l : List Pr) : Nat → Nat → Int
  | 0, _ => 0
  | n + 1, k => match l[k]? with
    | none => 0
    | some p => if pairE p ≠ 0 then pairE p else if 0 < k ∧ 0 ≤ cmpL (l.getD (k - 1) ([], [])).1 p.1 then 3 else treeAt l n (k + 1)
def treeE (l : List Pr) : Int := if 60 < l.length then 1 else treeAt l l.length 0
theorem treeAt_at {l : List Pr} {k : Nat} {p : Pr} (hp : l[k]? = some p) : treeAt l (l.length - k) k = if pairE p ≠ 0 then pairE p else if 0 < k ∧ 0 ≤ cmpL (l.getD (k - 1) ([], [])).1 p.1 then 3 else treeAt l (l.length - (k + 1)) (k + 1) := by
  obtain ⟨hk, _⟩ := List.getElem?_eq_some_iff.1 hp
  rw [show l.length - k = (l.length - (k + 1)) + 1 from by omega]
  simp only [treeAt, hp]
theorem treeAt_end {l : List Pr} {k : Nat} (hk : l.length ≤ k) : treeAt l (l.length - k) k = 0 := by rw [show l.length - k = 0 from by omega]; rfl
theorem pairE_ok {p : Pr} : pairE p = 0 ↔ PairOk p := by
  unfold pairE PairOk checkN
  split
  · omega
  · split <;> omega
theorem treeE_ok {l : List Pr} : treeE l = 0 ↔ TreeOk 60 l := by
  unfold treeE
  by_cases hl : 60 < l.length
  · rw [if_pos hl]
    exact ⟨fun h => by omega, fun h => by have := h.len; omega⟩
  · rw [if_neg hl]
    have key : ∀ n k, n + k = l.length → (treeAt l n k = 0 ↔ ∀ i (hi : i < l.length), k ≤ i → PairOk l[i] ∧ (0 < i → Lt (l.getD (i - 1) ([], [])).1 l[i].1)) := by
      intro n
      induction n with
      | zero => intro k hk; simp only [treeAt]; exact ⟨fun _ i hi h => by omega, fun _ => trivial⟩
      | succ n ih =>
        intro k hk
        have hk' : k < l.length := by omega
        simp only [treeAt, List.getElem?_eq_getElem hk']
        have ihk := ih (k + 1) (by omega)
        by_cases hp : pairE l[k] = 0
        · rw [if_neg (by simp [hp])]
          by_cases hc : 0 < k ∧ 0 ≤ cmpL (l.getD (k - 1) ([], [])).1 l[k].1
          · rw [if_pos hc]
            refine ⟨fun h => by omega, fun h => ?_⟩
            have := (h k hk' (Nat.le_refl _)).2 hc.1
            have := cmpL_lt.2 this
            omega
          · rw [if_neg hc, ihk]
            refine ⟨fun h i hi hki => ?_, fun h i hi hki => h i hi (by omega)⟩
            by_cases e : i = k
            · subst e
              refine ⟨pairE_ok.1 hp, fun h0 => cmpL_lt.1 ?_⟩
              have : ¬ 0 ≤ cmpL (l.getD (i - 1) ([], [])).1 l[i].1 := fun h => hc ⟨h0, h⟩
              omega
            · exact h i hi (by omega)
        · rw [if_pos hp]
          exact ⟨fun h => absurd h hp, fun h => absurd (pairE_ok.2 (h k hk' (Nat.le_refl _)).1) hp⟩
    rw [key l.length 0 (by omega)]
    constructor
    · intro h
      refine ⟨by omega, fun p hp => ?_, ?_⟩
      · obtain ⟨i, hi, rfl⟩ := List.mem_iff_getElem.1 hp
        exact (h i hi (by omega)).1
      · have step : ∀ j i (hi : i < l.length) (hj : j < l.length), i < j → Lt l[i].1 l[j].1 := by
          intro j
          induction j with
          | zero => intro i _ _ h; omega
          | succ j ih =>
            intro i hi hj hij
            have h1 := (h (j + 1) hj (by omega)).2 (by omega)
            simp only [Nat.add_sub_cancel, List.getD, List.getElem?_eq_getElem (show j < l.length by omega), Option.getD_some] at h1
            by_cases e : i = j
            · subst e; exact h1
            · exact less_trans _ _ _ (ih i hi (by omega) (by omega)) h1
        exact List.pairwise_iff_getElem.2 fun i j hi hj hij => step j i hi hj hij
    · intro h i hi _
      refine ⟨h.ok _ (List.getElem_mem hi), fun h0 => ?_⟩
      simp only [List.getD, List.getElem?_eq_getElem (show i - 1 < l.length by omega), Option.getD_some]
      exact List.pairwise_iff_getElem.1 h.rise (i - 1) i (by omega) hi (by omega)
set_option maxHeartbeats 8000000 in
theorem treeCheck_spec (F : Fz) (w : World) (v : Value) (l : List Pr) (hs : Sat w F) (hv : Prs F v l) :
    Calls Try.prog 54 #[v] w (Tells w (.int .i64 (treeE l))) := by
  obtain ⟨a, c, rfl, hc1, hc2⟩ := Sl.shape hv
  unfold maxLen at hc2
  have S := St.start hs
  go_enter Try.func54, Try.ntmps54
  refine wp_seq_k (fun K1 hK1 => ?_)
  refine region_wl ?_
  refine do_ rfl (.int .i64 0) (ex_assign _) ?_
  simp only [Act.put, List.setIfInBounds_toArray, List.set_cons_succ, List.set_cons_zero]
  refine wl_nil ?_
  (try simp only [Exit.then, Exit.inBlock, ↓reduceIte, Nat.reduceEqDiff])
  refine hK1 _ _ ?_
  refine wp_seq_k (fun K2 hK2 => ?_)
  refine wp_seq_k (fun K3 hK3 => ?_)
  refine region_wl ?_
  refine do_ rfl (.slice a l.length c) (ex_move _) ?_
  simp only [Act.put, List.setIfInBounds_toArray, List.set_cons_succ, List.set_cons_zero]
  refine do_ rfl (.int .i64 ((l.length : Nat) : Int)) (ex_len Try.underlying44 rfl) ?_
  simp only [Act.put, List.setIfInBounds_toArray, List.set_cons_succ, List.set_cons_zero]
  by_cases hc8 : 60 < l.length
  · refine do_ rfl (.bool true) (ex_gtr (m := ((l.length : Nat) : Int)) (n := (60 : Int)) (b := true) rfl rfl (decide_eq_true (by omega))) ?_
    simp only [Act.put, List.setIfInBounds_toArray, List.set_cons_succ, List.set_cons_zero]
    refine wl_nil ?_
    (try simp only [Exit.then, Exit.inBlock, ↓reduceIte, Nat.reduceEqDiff])
    refine hK3 _ _ ?_
    refine wp_cond_true rfl ?_
    refine wp_seq_k (fun K4 hK4 => ?_)
    refine region_wl ?_
    refine do_ rfl (.int .i64 1) (ex_assign _) ?_
    simp only [Act.put, List.setIfInBounds_toArray, List.set_cons_succ, List.set_cons_zero]
    refine wl_nil ?_
    (try simp only [Exit.then, Exit.inBlock, ↓reduceIte, Nat.reduceEqDiff])
    refine hK4 _ _ ?_
    refine wp_ret ?_
    (try simp only [Exit.then, Exit.inBlock, ↓reduceIte, Nat.reduceEqDiff])
    refine bodyPost_ret (v := (.int .i64 1)) ?_ rfl ?_
    · exact res_t rfl rfl
    · exact ⟨by unfold treeE; rw [if_pos (by omega)], S.gr.below⟩
  · refine do_ rfl (.bool false) (ex_gtr (m := ((l.length : Nat) : Int)) (n := (60 : Int)) (b := false) rfl rfl (decide_eq_false (by omega))) ?_
    simp only [Act.put, List.setIfInBounds_toArray, List.set_cons_succ, List.set_cons_zero]
    refine wl_nil ?_
    (try simp only [Exit.then, Exit.inBlock, ↓reduceIte, Nat.reduceEqDiff])
    refine hK3 _ _ ?_
    refine wp_cond_false rfl ?_
    refine wp_skip ?_
    (try simp only [Exit.then, Exit.inBlock, ↓reduceIte, Nat.reduceEqDiff])
    refine hK2 _ _ ?_
    refine wp_seq_k (fun K5 hK5 => ?_)
    refine wp_seq_k (fun K6 hK6 => ?_)
    refine region_wl ?_
    refine do_ rfl (.slice a l.length c) (ex_move _) ?_
    simp only [Act.put, List.setIfInBounds_toArray, List.set_cons_succ, List.set_cons_zero]
    refine do_ rfl (.int .i64 ((l.length : Nat) : Int)) (ex_len Try.underlying44 rfl) ?_
    simp only [Act.put, List.setIfInBounds_toArray, List.set_cons_succ, List.set_cons_zero]
    refine do_ rfl (.int .i64 0) (ex_move _) ?_
    simp only [Act.put, List.setIfInBounds_toArray, List.set_cons_succ, List.set_cons_zero]
    refine wl_nil ?_
    (try simp only [Exit.then, Exit.inBlock, ↓reduceIte, Nat.reduceEqDiff])
    refine hK6 _ _ ?_
    refine wp_block ?_
    refine wp_loop_g (fun mm aa w8 => ∃ (k : Nat) (u7 : Nat → Value), mm = l.length - k ∧ aa = ⟨#[(.slice a l.length c), undef, (u7 2), (u7 3), (u7 4), (u7 5), (.slice a l.length c), (.int .i64 ((l.length : Nat) : Int)), (.bool false), (.slice a l.length c), (.int .i64 ((l.length : Nat) : Int)), (.int .i64 ((k : Nat) : Int)), (u7 12), (u7 13), (u7 14), (u7 15), (u7 16), (u7 17), (u7 18), (u7 19), (u7 20), (u7 21), (u7 22), (u7 23), (u7 24), (u7 25), (u7 26), (u7 27), (u7 28), (u7 29), (u7 30), (u7 31), (u7 32), (u7 33)], []⟩ ∧ St w F w8 F [] [] ∧ (k ≤ l.length) ∧ (treeAt l l.length 0 = treeAt l (l.length - k) k)) _ ⟨0, (slotF [(.slice a l.length c), undef, (.int .i64 0), undef, undef, undef, (.slice a l.length c), (.int .i64 ((l.length : Nat) : Int)), (.bool false), (.slice a l.length c), (.int .i64 ((l.length : Nat) : Int)), (.int .i64 0), undef, undef, undef, undef, undef, undef, undef, undef, undef, undef, undef, undef, undef, undef, undef, undef, undef, undef, undef, undef, undef, undef]), rfl, rfl, S, (by omega), rfl⟩ ?_
    rintro m9 a10 w11 ⟨k, u7, rfl, rfl, S12, hk, hT⟩ K14 hK14
    refine wp_seq_k (fun K15 hK15 => ?_)
    refine region_wl ?_
    by_cases hc12 : k < l.length
    · refine do_ rfl (.bool true) (ex_lss (m := ((k : Nat) : Int)) (n := ((l.length : Nat) : Int)) (b := true) rfl rfl (decide_eq_true (by omega))) ?_
      simp only [Act.put, List.setIfInBounds_toArray, List.set_cons_succ, List.set_cons_zero]
      refine wl_nil ?_
      (try simp only [Exit.then, Exit.inBlock, ↓reduceIte, Nat.reduceEqDiff])
      refine hK15 _ _ ?_
      refine wp_seq_k (fun K16 hK16 => ?_)
      refine wp_cond_true rfl ?_
      refine wp_skip ?_
      (try simp only [Exit.then, Exit.inBlock, ↓reduceIte, Nat.reduceEqDiff])
      refine hK16 _ _ ?_
      refine wp_seq_k (fun K17 hK17 => ?_)
      refine wp_block ?_
      refine wp_seq_k (fun K18 hK18 => ?_)
      refine region_wl ?_
      refine do_ rfl (.int .i64 ((k : Nat) : Int)) (ex_move _) ?_
      simp only [Act.put, List.setIfInBounds_toArray, List.set_cons_succ, List.set_cons_zero]
      obtain ⟨p, hp⟩ : ∃ p, l[k]? = some p := ⟨l[k], List.getElem?_eq_getElem hc12⟩
      obtain ⟨b19, o20, ha21, xa23, xc24, xa27, xc28, c22, c26, r25, r29⟩ := Prs.get hv hp
      refine do_ rfl (.pointer (some ⟨b19, o20 + k * 2, none⟩)) (ex_at (i := k) (sz := 2) Try.underlying44 (sizeof_49 _) rfl ha21 rfl (by omega) rfl) ?_
      simp only [Act.put, List.setIfInBounds_toArray, List.set_cons_succ, List.set_cons_zero]
      refine do_ rfl (.agg #[(.slice xa23 p.1.length xc24), (.slice xa27 p.2.length xc28)]) (ex_load rfl (loadN (cs := [(.slice xa23 p.1.length xc24), (.slice xa27 p.2.length xc28)]) Try.underlying49 rfl (size_49) (range2 (St.fz S12 c22) (St.fz S12 c26)))) ?_
      simp only [Act.put, List.setIfInBounds_toArray, List.set_cons_succ, List.set_cons_zero]
      refine stNew S12 (v := fun n => .pointer (some ⟨n, 0, none⟩)) rfl (ex_alloc (zero_49 _)) (fun n30 w31 S32 => ?_)
      simp only [Act.put, List.setIfInBounds_toArray, List.set_cons_succ, List.set_cons_zero]
      have S32 : St w F w31 F [⟨n30, [(.slice none 0 0), (.slice none 0 0)], 49⟩] [] := S32
      refine do_ rfl (.int .i64 ((k : Nat) : Int)) (ex_assign _) ?_
      simp only [Act.put, List.setIfInBounds_toArray, List.set_cons_succ, List.set_cons_zero]
      refine stStore (i := 0) (v := (.agg #[(.slice xa23 p.1.length xc24), (.slice xa27 p.2.length xc28)])) S32 rfl rfl rfl rfl (size_49) (allc2 rfl rfl) (Nat.le_of_ble_eq_true rfl) (fun w33 S34 => ?_)
      simp only [Act.put, List.setIfInBounds_toArray, List.set_cons_succ, List.set_cons_zero]
      have S34 : St w F w33 F [⟨n30, [(.slice xa23 p.1.length xc24), (.slice xa27 p.2.length xc28)], 49⟩] [] := S34
      refine wl_nil ?_
      (try simp only [Exit.then, Exit.inBlock, ↓reduceIte, Nat.reduceEqDiff])
      refine hK18 _ _ ?_
      refine wp_seq_k (fun K35 hK35 => ?_)
      refine wp_seq_k (fun K36 hK36 => ?_)
      refine region_wl ?_
      refine do_ rfl (.agg #[(.slice xa23 p.1.length xc24), (.slice xa27 p.2.length xc28)]) (ex_load rfl (loadN (cs := [(.slice xa23 p.1.length xc24), (.slice xa27 p.2.length xc28)]) Try.underlying49 rfl (size_49) (St.range S34 (i := 0) rfl 0 [(.slice xa23 p.1.length xc24), (.slice xa27 p.2.length xc28)] (sub_range 0 rfl)))) ?_
      simp only [Act.put, List.setIfInBounds_toArray, List.set_cons_succ, List.set_cons_zero]
      refine stTells (v := (.int .i64 (pairE p))) S34 rfl (ex_fn (vs := #[(.agg #[(.slice xa23 p.1.length xc24), (.slice xa27 p.2.length xc28)])]) (map1 rfl) rfl (ent_86 _ _)) (pair_spec _ _ _ p (S34).sat ⟨_, _, _, _, rfl, r25, r29⟩) (fun w37 S38 => ?_)
      simp only [Act.put, List.setIfInBounds_toArray, List.set_cons_succ, List.set_cons_zero]
      have S38 : St w F w37 F [⟨n30, [(.slice xa23 p.1.length xc24), (.slice xa27 p.2.length xc28)], 49⟩] [] := S38
      refine do_ rfl (.int .i64 (pairE p)) (ex_assign _) ?_
      simp only [Act.put, List.setIfInBounds_toArray, List.set_cons_succ, List.set_cons_zero]
      refine wl_nil ?_
      (try simp only [Exit.then, Exit.inBlock, ↓reduceIte, Nat.reduceEqDiff])
      refine hK36 _ _ ?_
      refine wp_seq_k (fun K39 hK39 => ?_)
      refine region_wl ?_
      refine do_ rfl (.int .i64 (pairE p)) (ex_move _) ?_
      simp only [Act.put, List.setIfInBounds_toArray, List.set_cons_succ, List.set_cons_zero]
      by_cases hc19 : (pairE p) = (0 : Int)
      · refine do_ rfl (.bool false) (ex_neq (m := (pairE p)) (n := (0 : Int)) (b := false) rfl rfl (bne_eq_false_iff_eq.2 (by omega))) ?_
        simp only [Act.put, List.setIfInBounds_toArray, List.set_cons_succ, List.set_cons_zero]
        refine wl_nil ?_
        (try simp only [Exit.then, Exit.inBlock, ↓reduceIte, Nat.reduceEqDiff])
        refine hK39 _ _ ?_
        refine wp_cond_false rfl ?_
        refine wp_skip ?_
        (try simp only [Exit.then, Exit.inBlock, ↓reduceIte, Nat.reduceEqDiff])
        refine hK35 _ _ ?_
        refine wp_seq_k (fun K40 hK40 => ?_)
        by_cases h0 : 0 < k
        · obtain ⟨q, hq⟩ : ∃ q, l[k - 1]? = some q := ⟨l[k - 1], List.getElem?_eq_getElem (by omega)⟩
          have hqd : l.getD (k - 1) ([], []) = q := by rw [List.getD_eq_getElem?_getD, hq]; rfl
          obtain ⟨b41, o42, ha43, xa45, xc46, xa49, xc50, c44, c48, r47, r51⟩ := Prs.get hv hq
          refine region_gw F 9 [] (by kernel_rfl) (by kernel_rfl) ?_
          simp only [List.take_succ_cons, List.take_zero]
          refine gw_pure rfl rfl (.int .i64 ((k : Nat) : Int)) (fun w52 hCw52 => pureAt_of (ex_move _)) ?_
          simp only [Act.put, List.setIfInBounds_toArray, List.set_cons_succ, List.set_cons_zero]
          refine gw_pure rfl rfl (.bool true) (fun w52 hCw52 => pureAt_of (ex_gtr (m := ((k : Nat) : Int)) (n := (0 : Int)) (b := true) rfl rfl (decide_eq_true (by omega)))) ?_
          simp only [Act.put, List.setIfInBounds_toArray, List.set_cons_succ, List.set_cons_zero]
          refine gw_pure rfl rfl (.bool true) (fun w52 hCw52 => pureAt_of (ex_move _)) ?_
          simp only [Act.put, List.setIfInBounds_toArray, List.set_cons_succ, List.set_cons_zero]
          refine gw_pure rfl rfl (.slice a l.length c) (fun w52 hCw52 => pureAt_of (ex_move _)) ?_
          simp only [Act.put, List.setIfInBounds_toArray, List.set_cons_succ, List.set_cons_zero]
          refine gw_pure rfl rfl (.int .i64 ((k : Nat) : Int)) (fun w52 hCw52 => pureAt_of (ex_move _)) ?_
          simp only [Act.put, List.setIfInBounds_toArray, List.set_cons_succ, List.set_cons_zero]
          refine gw_pure rfl rfl (.int .i64 (((k - 1) : Nat) : Int)) (fun w52 hCw52 => pureAt_of (ex_sub (m := ((k : Nat) : Int)) (n := (1 : Int)) (r := (((k - 1) : Nat) : Int)) rfl rfl (by omega) (by omega) (by omega))) ?_
          simp only [Act.put, List.setIfInBounds_toArray, List.set_cons_succ, List.set_cons_zero]
          refine gw_pure rfl rfl (.pointer (some ⟨b41, o42 + (k - 1) * 2, none⟩)) (fun w52 hCw52 => pureAt_of (ex_at (i := (k - 1)) (sz := 2) Try.underlying44 (sizeof_49 _) rfl ha43 rfl (by omega) rfl)) ?_
          simp only [Act.put, List.setIfInBounds_toArray, List.set_cons_succ, List.set_cons_zero]
          refine gw_pure rfl rfl (.agg #[(.slice xa45 q.1.length xc46), (.slice xa49 q.2.length xc50)]) (fun w52 hCw52 => pureAt_of (ex_load rfl (loadN (cs := [(.slice xa45 q.1.length xc46), (.slice xa49 q.2.length xc50)]) Try.underlying49 rfl (size_49) (range2 (St.fz (St.tells S38 hCw52) c44) (St.fz (St.tells S38 hCw52) c48))))) ?_
          simp only [Act.put, List.setIfInBounds_toArray, List.set_cons_succ, List.set_cons_zero]
          refine gw_pure rfl rfl (.agg #[(.slice xa23 p.1.length xc24), (.slice xa27 p.2.length xc28)]) (fun w52 hCw52 => pureAt_of (ex_load rfl (loadN (cs := [(.slice xa23 p.1.length xc24), (.slice xa27 p.2.length xc28)]) Try.underlying49 rfl (size_49) (St.range (St.tells S38 hCw52) (i := 0) rfl 0 [(.slice xa23 p.1.length xc24), (.slice xa27 p.2.length xc28)] (sub_range 0 rfl))))) ?_
          simp only [Act.put, List.setIfInBounds_toArray, List.set_cons_succ, List.set_cons_zero]
          refine gw_nil ?_
          intro w53 hC55 hF56
          clear hF56
          have S54 := St.tells S38 hC55
          simp only [List.drop_succ_cons, List.drop_zero]
          have S54 : St w F w53 F [⟨n30, [(.slice xa23 p.1.length xc24), (.slice xa27 p.2.length xc28)], 49⟩] [] := S54
          refine stTells (v := (.int .i64 (cmpL q.1 p.1))) S54 rfl (ex_fn (vs := #[(.agg #[(.slice xa45 q.1.length xc46), (.slice xa49 q.2.length xc50)]), (.agg #[(.slice xa23 p.1.length xc24), (.slice xa27 p.2.length xc28)])]) (map2 rfl rfl) rfl (ent_89 _ _)) (compare_spec _ _ _ _ q p (S54).sat ⟨_, _, _, _, rfl, r47, r51⟩ ⟨_, _, _, _, rfl, r25, r29⟩) (fun w57 S58 => ?_)
          simp only [Act.put, List.setIfInBounds_toArray, List.set_cons_succ, List.set_cons_zero]
          have S58 : St w F w57 F [⟨n30, [(.slice xa23 p.1.length xc24), (.slice xa27 p.2.length xc28)], 49⟩] [] := S58
          by_cases hc31 : (0 : Int) ≤ (cmpL q.1 p.1)
          · refine do_ rfl (.bool true) (ex_geq (m := (cmpL q.1 p.1)) (n := (0 : Int)) (b := true) rfl rfl (decide_eq_true (by omega))) ?_
            simp only [Act.put, List.setIfInBounds_toArray, List.set_cons_succ, List.set_cons_zero]
            refine do_ rfl (.bool true) (ex_pick (b := true) rfl) ?_
            simp only [Act.put, List.setIfInBounds_toArray, List.set_cons_succ, List.set_cons_zero]
            refine wl_nil ?_
            (try simp only [Exit.then, Exit.inBlock, ↓reduceIte, Nat.reduceEqDiff])
            refine hK40 _ _ ?_
            refine wp_cond_true rfl ?_
            refine wp_seq_k (fun K59 hK59 => ?_)
            refine region_wl ?_
            refine do_ rfl (.int .i64 3) (ex_assign _) ?_
            simp only [Act.put, List.setIfInBounds_toArray, List.set_cons_succ, List.set_cons_zero]
            refine wl_nil ?_
            (try simp only [Exit.then, Exit.inBlock, ↓reduceIte, Nat.reduceEqDiff])
            refine hK59 _ _ ?_
            refine wp_ret ?_
            (try simp only [Exit.then, Exit.inBlock, ↓reduceIte, Nat.reduceEqDiff])
            refine bodyPost_ret (v := (.int .i64 3)) ?_ rfl ?_
            · exact res_t rfl rfl
            · exact ⟨by unfold treeE; rw [if_neg (by omega), hT, treeAt_at hp, if_neg (by omega), if_pos ⟨h0, by rw [hqd]; exact hc31⟩], S58.gr.below⟩
          · refine do_ rfl (.bool false) (ex_geq (m := (cmpL q.1 p.1)) (n := (0 : Int)) (b := false) rfl rfl (decide_eq_false (by omega))) ?_
            simp only [Act.put, List.setIfInBounds_toArray, List.set_cons_succ, List.set_cons_zero]
            refine do_ rfl (.bool false) (ex_pick (b := true) rfl) ?_
            simp only [Act.put, List.setIfInBounds_toArray, List.set_cons_succ, List.set_cons_zero]
            refine wl_nil ?_
            (try simp only [Exit.then, Exit.inBlock, ↓reduceIte, Nat.reduceEqDiff])
            refine hK40 _ _ ?_
            refine wp_cond_false rfl ?_
            refine wp_skip ?_
            (try simp only [Exit.then, Exit.inBlock, ↓reduceIte, Nat.reduceEqDiff])
            refine hK17 _ _ ?_
            refine region_wl ?_
            refine do_ rfl (.int .i64 (((k + 1) : Nat) : Int)) (ex_add (m := ((k : Nat) : Int)) (n := (1 : Int)) (r := (((k + 1) : Nat) : Int)) rfl rfl (by omega) (by omega) (by omega)) ?_
            simp only [Act.put, List.setIfInBounds_toArray, List.set_cons_succ, List.set_cons_zero]
            refine do_ rfl (.int .i64 (((k + 1) : Nat) : Int)) (ex_move _) ?_
            simp only [Act.put, List.setIfInBounds_toArray, List.set_cons_succ, List.set_cons_zero]
            refine wl_nil ?_
            (try simp only [Exit.then, Exit.inBlock, ↓reduceIte, Nat.reduceEqDiff])
            have S58 := St.drop S58 (L' := []) (.cons _ (List.Sublist.refl _))
            exact hK14 _ _ _ (by omega) ⟨(k + 1), (slotF [(.slice a l.length c), undef, (u7 2), (.int .i64 ((k : Nat) : Int)), (.pointer (some ⟨n30, 0, none⟩)), (.int .i64 (pairE p)), (.slice a l.length c), (.int .i64 ((l.length : Nat) : Int)), (.bool false), (.slice a l.length c), (.int .i64 ((l.length : Nat) : Int)), (.int .i64 (((k + 1) : Nat) : Int)), (.bool true), (.int .i64 ((k : Nat) : Int)), (.pointer (some ⟨b19, o20 + k * 2, none⟩)), (.agg #[(.slice xa23 p.1.length xc24), (.slice xa27 p.2.length xc28)]), (.agg #[(.slice xa23 p.1.length xc24), (.slice xa27 p.2.length xc28)]), (.int .i64 (pairE p)), (.int .i64 (pairE p)), (.bool false), (u7 20), (.int .i64 ((k : Nat) : Int)), (.bool true), (.bool true), (.slice a l.length c), (.int .i64 ((k : Nat) : Int)), (.int .i64 (((k - 1) : Nat) : Int)), (.pointer (some ⟨b41, o42 + (k - 1) * 2, none⟩)), (.agg #[(.slice xa45 q.1.length xc46), (.slice xa49 q.2.length xc50)]), (.agg #[(.slice xa23 p.1.length xc24), (.slice xa27 p.2.length xc28)]), (.int .i64 (cmpL q.1 p.1)), (.bool false), (.bool false), (.int .i64 (((k + 1) : Nat) : Int))]), rfl, rfl, S58, (by omega), (by rw [hT, treeAt_at hp, if_neg (by omega), if_neg (fun h => hc31 (by have := h.2; rw [hqd] at this; exact this))])⟩
        · refine region_gw F 9 [] (by kernel_rfl) (by kernel_rfl) ?_
          simp only [List.take_succ_cons, List.take_zero]
          refine gw_pure rfl rfl (.int .i64 ((k : Nat) : Int)) (fun w60 hCw60 => pureAt_of (ex_move _)) ?_
          simp only [Act.put, List.setIfInBounds_toArray, List.set_cons_succ, List.set_cons_zero]
          refine gw_pure rfl rfl (.bool false) (fun w60 hCw60 => pureAt_of (ex_gtr (m := ((k : Nat) : Int)) (n := (0 : Int)) (b := false) rfl rfl (decide_eq_false (by omega)))) ?_
          simp only [Act.put, List.setIfInBounds_toArray, List.set_cons_succ, List.set_cons_zero]
          refine gw_pure rfl rfl (.bool false) (fun w60 hCw60 => pureAt_of (ex_move _)) ?_
          simp only [Act.put, List.setIfInBounds_toArray, List.set_cons_succ, List.set_cons_zero]
          refine gw_skip (wanted_no rfl rfl rfl (c := false) rfl (by decide)) ?_
          simp only [Act.put, List.setIfInBounds_toArray, List.set_cons_succ, List.set_cons_zero]
          refine gw_skip (wanted_no rfl rfl rfl (c := false) rfl (by decide)) ?_
          simp only [Act.put, List.setIfInBounds_toArray, List.set_cons_succ, List.set_cons_zero]
          refine gw_skip (wanted_no rfl rfl rfl (c := false) rfl (by decide)) ?_
          simp only [Act.put, List.setIfInBounds_toArray, List.set_cons_succ, List.set_cons_zero]
          refine gw_skip (wanted_no rfl rfl rfl (c := false) rfl (by decide)) ?_
          simp only [Act.put, List.setIfInBounds_toArray, List.set_cons_succ, List.set_cons_zero]
          refine gw_skip (wanted_no rfl rfl rfl (c := false) rfl (by decide)) ?_
          simp only [Act.put, List.setIfInBounds_toArray, List.set_cons_succ, List.set_cons_zero]
          refine gw_skip (wanted_no rfl rfl rfl (c := false) rfl (by decide)) ?_
          simp only [Act.put, List.setIfInBounds_toArray, List.set_cons_succ, List.set_cons_zero]
          refine gw_nil ?_
          intro w61 hC63 hF64
          clear hF64
          have S62 := St.tells S38 hC63
          simp only [List.drop_succ_cons, List.drop_zero]
          have S62 : St w F w61 F [⟨n30, [(.slice xa23 p.1.length xc24), (.slice xa27 p.2.length xc28)], 49⟩] [] := S62
          refine doN (wanted_no rfl rfl rfl (c := false) rfl (by decide)) ?_
          simp only [Act.put, List.setIfInBounds_toArray, List.set_cons_succ, List.set_cons_zero]
          refine doN (wanted_no rfl rfl rfl (c := false) rfl (by decide)) ?_
          simp only [Act.put, List.setIfInBounds_toArray, List.set_cons_succ, List.set_cons_zero]
          refine do_ rfl (.bool false) (ex_pick (b := false) rfl) ?_
          simp only [Act.put, List.setIfInBounds_toArray, List.set_cons_succ, List.set_cons_zero]
          refine wl_nil ?_
          (try simp only [Exit.then, Exit.inBlock, ↓reduceIte, Nat.reduceEqDiff])
          refine hK40 _ _ ?_
          refine wp_cond_false rfl ?_
          refine wp_skip ?_
          (try simp only [Exit.then, Exit.inBlock, ↓reduceIte, Nat.reduceEqDiff])
          refine hK17 _ _ ?_
          refine region_wl ?_
          refine do_ rfl (.int .i64 (((k + 1) : Nat) : Int)) (ex_add (m := ((k : Nat) : Int)) (n := (1 : Int)) (r := (((k + 1) : Nat) : Int)) rfl rfl (by omega) (by omega) (by omega)) ?_
          simp only [Act.put, List.setIfInBounds_toArray, List.set_cons_succ, List.set_cons_zero]
          refine do_ rfl (.int .i64 (((k + 1) : Nat) : Int)) (ex_move _) ?_
          simp only [Act.put, List.setIfInBounds_toArray, List.set_cons_succ, List.set_cons_zero]
          refine wl_nil ?_
          (try simp only [Exit.then, Exit.inBlock, ↓reduceIte, Nat.reduceEqDiff])
          have S62 := St.drop S62 (L' := []) (.cons _ (List.Sublist.refl _))
          exact hK14 _ _ _ (by omega) ⟨(k + 1), (slotF [(.slice a l.length c), undef, (u7 2), (.int .i64 ((k : Nat) : Int)), (.pointer (some ⟨n30, 0, none⟩)), (.int .i64 (pairE p)), (.slice a l.length c), (.int .i64 ((l.length : Nat) : Int)), (.bool false), (.slice a l.length c), (.int .i64 ((l.length : Nat) : Int)), (.int .i64 (((k + 1) : Nat) : Int)), (.bool true), (.int .i64 ((k : Nat) : Int)), (.pointer (some ⟨b19, o20 + k * 2, none⟩)), (.agg #[(.slice xa23 p.1.length xc24), (.slice xa27 p.2.length xc28)]), (.agg #[(.slice xa23 p.1.length xc24), (.slice xa27 p.2.length xc28)]), (.int .i64 (pairE p)), (.int .i64 (pairE p)), (.bool false), (u7 20), (.int .i64 ((k : Nat) : Int)), (.bool false), (.bool false), undef, undef, undef, undef, undef, undef, undef, undef, (.bool false), (.int .i64 (((k + 1) : Nat) : Int))]), rfl, rfl, S62, (by omega), (by rw [hT, treeAt_at hp, if_neg (by omega), if_neg (fun h => h0 h.1)])⟩
      · refine do_ rfl (.bool true) (ex_neq (m := (pairE p)) (n := (0 : Int)) (b := true) rfl rfl (bne_iff_ne.2 (by omega))) ?_
        simp only [Act.put, List.setIfInBounds_toArray, List.set_cons_succ, List.set_cons_zero]
        refine wl_nil ?_
        (try simp only [Exit.then, Exit.inBlock, ↓reduceIte, Nat.reduceEqDiff])
        refine hK39 _ _ ?_
        refine wp_cond_true rfl ?_
        refine wp_seq_k (fun K65 hK65 => ?_)
        refine region_wl ?_
        refine do_ rfl (.int .i64 (pairE p)) (ex_move _) ?_
        simp only [Act.put, List.setIfInBounds_toArray, List.set_cons_succ, List.set_cons_zero]
        refine do_ rfl (.int .i64 (pairE p)) (ex_assign _) ?_
        simp only [Act.put, List.setIfInBounds_toArray, List.set_cons_succ, List.set_cons_zero]
        refine wl_nil ?_
        (try simp only [Exit.then, Exit.inBlock, ↓reduceIte, Nat.reduceEqDiff])
        refine hK65 _ _ ?_
        refine wp_ret ?_
        (try simp only [Exit.then, Exit.inBlock, ↓reduceIte, Nat.reduceEqDiff])
        refine bodyPost_ret (v := (.int .i64 (pairE p))) ?_ rfl ?_
        · exact res_t rfl rfl
        · exact ⟨by unfold treeE; rw [if_neg (by omega), hT, treeAt_at hp, if_pos hc19], S38.gr.below⟩
    · refine do_ rfl (.bool false) (ex_lss (m := ((k : Nat) : Int)) (n := ((l.length : Nat) : Int)) (b := false) rfl rfl (decide_eq_false (by omega))) ?_
      simp only [Act.put, List.setIfInBounds_toArray, List.set_cons_succ, List.set_cons_zero]
      refine wl_nil ?_
      (try simp only [Exit.then, Exit.inBlock, ↓reduceIte, Nat.reduceEqDiff])
      refine hK15 _ _ ?_
      refine wp_seq_k (fun K66 hK66 => ?_)
      refine wp_cond_false rfl ?_
      refine wp_exit ?_
      (try simp only [Exit.then, Exit.inBlock, ↓reduceIte, Nat.reduceEqDiff])
      refine hK5 _ _ ?_
      refine wp_seq_k (fun K67 hK67 => ?_)
      refine region_wl ?_
      refine do_ rfl (.int .i64 0) (ex_assign _) ?_
      simp only [Act.put, List.setIfInBounds_toArray, List.set_cons_succ, List.set_cons_zero]
      refine wl_nil ?_
      (try simp only [Exit.then, Exit.inBlock, ↓reduceIte, Nat.reduceEqDiff])
      refine hK67 _ _ ?_
      refine wp_ret ?_
      (try simp only [Exit.then, Exit.inBlock, ↓reduceIte, Nat.reduceEqDiff])
      refine bodyPost_ret (v := (.int .i64 0)) ?_ rfl ?_
      · exact res_t rfl rfl
      · exact ⟨by unfold treeE; rw [if_neg (by omega), hT, treeAt_end (by omega)], S12.gr.below⟩
end Go.Proofs.Yteefnnnbbmbmcaa
