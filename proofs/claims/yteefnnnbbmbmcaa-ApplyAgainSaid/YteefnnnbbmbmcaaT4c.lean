/- Walks: slices.Insert, slices.Delete at tenants -/
import Derived.Test.YteefnnnbbmbmcaaT4a
namespace Go.Proofs.Yteefnnnbbmbmcaa
open Go.RowKit
set_option maxRecDepth 100000
set_option linter.unusedVariables false
set_option linter.unusedSimpArgs false
theorem overlapsTenant {w : World} {vn g o la ca lb cb : Nat} {c1 c2 : List Value} {T1 T2 : TypeId} (h1 : w.heap[vn]? = some (.cells c1.toArray T1 (0, 0))) (h2 : w.heap[g]? = some (.cells c2.toArray T2 (0, 0))) (hc : c2.length ≠ 0) (hne : vn ≠ g) :
    (callFunc 136 #[.slice (some ⟨vn, 0, none⟩) la ca, .slice (some ⟨g, o, none⟩) lb cb]).run Try.prog w = .ok (.value (.bool false)) w := by
  rw [run_callFunc_extern Try.func136 (by kernel_rfl) (by kernel_rfl) (by kernel_rfl) (e := Extern.SlicesOverlaps.overlaps #[73, 73] #[4]) (by kernel_rfl),
    Lib.run_overlaps_apart w 73 4 83 Try.underlying73 2 (fun w => sizeof_83 w) ⟨vn, 0, none⟩ ⟨g, o, none⟩ la ca lb cb hne T1 T2 c1.length c2.length (cap_slice (g := 0) h1).1 (cap_slice (g := 0) h2).1 hc (cap_slice h1).2 (cap_slice h1).2]
  rfl
set_option maxHeartbeats 8000000 in
theorem insertEndTenant {w0 w : World} {F0 F : Fz} {L0 : List Blk} {M0 : List RowP} {α : Type} {R : Fz → List Value → α → Prop} {hR : ∀ F F' x p, Le F F' → R F x p → R F' x p} {v : Value} {l : List α} {p : α} {vn : Nat} {cs : List Value} (one : ∀ F cs p, R F cs p → ∀ u ∈ cs, u.oneCell' = true)
    (S : St w0 F0 w F (⟨vn, cs, 83⟩ :: L0) (ownP 2 R hR 83 w0.heap.size v l :: M0)) (hcs : cs.length = 2) (hp : R F cs p) (hl : l.length ≤ 100000) :
    Calls Try.prog 126 #[v, .int .i64 (l.length : Nat), .slice (some ⟨vn, 0, none⟩) 1 1] w fun e w' => ∃ v', e = .returned v' ∧ St w0 F0 w' F L0 (ownP 2 R hR 83 w0.heap.size v' (l ++ [p]) :: M0) := by
  obtain ⟨a, c, rfl, hc1, hc2⟩ := (S.own (i := 0) rfl).shape
  unfold maxLen at hc2
  obtain ⟨i83, hi83, hz83, hs83, hb83⟩ := info_parts info_83
  go_enter Try.func126, Try.ntmps126
  refine wp_seq_k (fun K1 hK1 => ?_)
  refine region_wl ?_
  refine do_ rfl (.slice none 0 0) (ex_assign _) ?_
  simp only [Act.put, List.setIfInBounds_toArray, List.set_cons_succ, List.set_cons_zero]
  refine wl_nil ?_
  (try simp only [Exit.then, Exit.inBlock, ↓reduceIte, Nat.reduceEqDiff])
  refine hK1 _ _ ?_
  refine wp_seq_k (fun K2 hK2 => ?_)
  refine region_wl ?_
  refine do_ rfl (.slice a l.length c) (ex_move _) ?_
  simp only [Act.put, List.setIfInBounds_toArray, List.set_cons_succ, List.set_cons_zero]
  refine do_ rfl (.int .i64 ((l.length : Nat) : Int)) (ex_move _) ?_
  simp only [Act.put, List.setIfInBounds_toArray, List.set_cons_succ, List.set_cons_zero]
  refine do_ rfl (.slice (if c = l.length then a else a.map (·.add (l.length * 2))) (l.length - l.length) (c - l.length)) (ex_slice (l := l.length) (h := l.length) (sz := 2) Try.underlying73 rfl (sizeof_83 _) (.inr ⟨_, rfl, rfl⟩) (.inl ⟨rfl, rfl⟩) (by omega) (by omega) (rfl)) ?_
  simp only [Act.put, List.setIfInBounds_toArray, List.set_cons_succ, List.set_cons_zero]
  refine wl_nil ?_
  (try simp only [Exit.then, Exit.inBlock, ↓reduceIte, Nat.reduceEqDiff])
  refine hK2 _ _ ?_
  refine wp_seq_k (fun K3 hK3 => ?_)
  refine region_wl ?_
  refine do_ rfl (.slice (some ⟨vn, 0, none⟩) 1 1) (ex_move _) ?_
  simp only [Act.put, List.setIfInBounds_toArray, List.set_cons_succ, List.set_cons_zero]
  refine do_ rfl (.int .i64 1) (ex_len Try.underlying73 rfl) ?_
  simp only [Act.put, List.setIfInBounds_toArray, List.set_cons_succ, List.set_cons_zero]
  refine do_ rfl (.int .i64 1) (ex_assign _) ?_
  simp only [Act.put, List.setIfInBounds_toArray, List.set_cons_succ, List.set_cons_zero]
  refine wl_nil ?_
  (try simp only [Exit.then, Exit.inBlock, ↓reduceIte, Nat.reduceEqDiff])
  refine hK3 _ _ ?_
  refine wp_seq_k (fun K4 hK4 => ?_)
  refine wp_seq_k (fun K5 hK5 => ?_)
  refine region_wl ?_
  refine do_ rfl (.int .i64 1) (ex_move _) ?_
  simp only [Act.put, List.setIfInBounds_toArray, List.set_cons_succ, List.set_cons_zero]
  refine do_ rfl (.bool false) (ex_eql (b := false) rfl rfl (by decide)) ?_
  simp only [Act.put, List.setIfInBounds_toArray, List.set_cons_succ, List.set_cons_zero]
  refine wl_nil ?_
  (try simp only [Exit.then, Exit.inBlock, ↓reduceIte, Nat.reduceEqDiff])
  refine hK5 _ _ ?_
  refine wp_cond_false rfl ?_
  refine wp_skip ?_
  (try simp only [Exit.then, Exit.inBlock, ↓reduceIte, Nat.reduceEqDiff])
  refine hK4 _ _ ?_
  refine wp_seq_k (fun K6 hK6 => ?_)
  refine region_wl ?_
  refine do_ rfl (.slice a l.length c) (ex_move _) ?_
  simp only [Act.put, List.setIfInBounds_toArray, List.set_cons_succ, List.set_cons_zero]
  refine do_ rfl (.int .i64 ((l.length : Nat) : Int)) (ex_len Try.underlying73 rfl) ?_
  simp only [Act.put, List.setIfInBounds_toArray, List.set_cons_succ, List.set_cons_zero]
  refine do_ rfl (.int .i64 ((l.length : Nat) : Int)) (ex_assign _) ?_
  simp only [Act.put, List.setIfInBounds_toArray, List.set_cons_succ, List.set_cons_zero]
  refine wl_nil ?_
  (try simp only [Exit.then, Exit.inBlock, ↓reduceIte, Nat.reduceEqDiff])
  refine hK6 _ _ ?_
  refine wp_seq_k (fun K7 hK7 => ?_)
  refine wp_seq_k (fun K8 hK8 => ?_)
  refine region_wl ?_
  refine do_ rfl (.int .i64 ((l.length : Nat) : Int)) (ex_move _) ?_
  simp only [Act.put, List.setIfInBounds_toArray, List.set_cons_succ, List.set_cons_zero]
  refine do_ rfl (.int .i64 ((l.length : Nat) : Int)) (ex_move _) ?_
  simp only [Act.put, List.setIfInBounds_toArray, List.set_cons_succ, List.set_cons_zero]
  refine do_ rfl (.bool true) (ex_eql (m := ((l.length : Nat) : Int)) (n := ((l.length : Nat) : Int)) (b := true) rfl rfl (beq_iff_eq.2 (rfl))) ?_
  simp only [Act.put, List.setIfInBounds_toArray, List.set_cons_succ, List.set_cons_zero]
  refine wl_nil ?_
  (try simp only [Exit.then, Exit.inBlock, ↓reduceIte, Nat.reduceEqDiff])
  refine hK8 _ _ ?_
  refine wp_cond_true rfl ?_
  refine wp_seq_k (fun K9 hK9 => ?_)
  refine region_wl ?_
  refine do_ rfl (.slice a l.length c) (ex_move _) ?_
  simp only [Act.put, List.setIfInBounds_toArray, List.set_cons_succ, List.set_cons_zero]
  refine do_ rfl (.slice (some ⟨vn, 0, none⟩) 1 1) (ex_move _) ?_
  simp only [Act.put, List.setIfInBounds_toArray, List.set_cons_succ, List.set_cons_zero]
  refine stPush (i := 0) (r := 0) (p := p) (cs := cs) S rfl i83 (.agg #[(.slice none 0 0), (.slice none 0 0)]) 48 Try.underlying73 hi83 hz83 hs83 hb83 rfl (by decide) rfl rfl rfl rfl hcs (one _ _ _ hp) (hp) (Nat.le_refl _) S.gr.below.size (by unfold maxLen; omega) (by omega) ?_
  intro v10 w11 S12 hn13
  simp only [Act.put, List.setIfInBounds_toArray, List.set_cons_succ, List.set_cons_zero]
  have S12 := St.drop S12 (L' := (L0)) (.cons _ (List.Sublist.refl _))
  have S12 : St w0 F0 w11 F (L0) (ownP 2 R hR 83 w0.heap.size v10 (l ++ [p]) :: M0) := S12
  refine do_ rfl v10 (ex_assign _) ?_
  simp only [Act.put, List.setIfInBounds_toArray, List.set_cons_succ, List.set_cons_zero]
  refine wl_nil ?_
  (try simp only [Exit.then, Exit.inBlock, ↓reduceIte, Nat.reduceEqDiff])
  refine hK9 _ _ ?_
  refine wp_ret ?_
  (try simp only [Exit.then, Exit.inBlock, ↓reduceIte, Nat.reduceEqDiff])
  refine bodyPost_ret (v := v10) ?_ rfl ?_
  · exact res_t rfl rfl
  · exact ⟨_, rfl, S12⟩
set_option maxHeartbeats 8000000 in
theorem insertMidTenant {g cap i : Nat} {w0 w : World} {F0 F : Fz} {L0 : List Blk} {M0 : List RowP} {α : Type} {R : Fz → List Value → α → Prop} {hR : ∀ F F' x p, Le F F' → R F x p → R F' x p} {l : List α} {p : α} {vn : Nat} {cs : List Value} (one : ∀ F cs p, R F cs p → ∀ u ∈ cs, u.oneCell' = true)
    (S : St w0 F0 w F (⟨vn, cs, 83⟩ :: L0) (ownP 2 R hR 83 w0.heap.size (.slice (some ⟨g, 0, none⟩) l.length cap) l :: M0)) (hcs : cs.length = 2) (hp : R F cs p) (hl : l.length ≤ 100000) (hi : i < l.length) :
    Calls Try.prog 126 #[.slice (some ⟨g, 0, none⟩) l.length cap, .int .i64 (i : Nat), .slice (some ⟨vn, 0, none⟩) 1 1] w fun e w' => ∃ v', e = .returned v' ∧ St w0 F0 w' F L0 (ownP 2 R hR 83 w0.heap.size v' (l.take i ++ p :: l.drop i) :: M0) := by
  obtain ⟨i83, hi83, hz83, hs83, hb83⟩ := info_parts info_83
  have hvg : vn ≠ g := fun e => S.rb _ (List.mem_cons_self ..) _ (List.mem_cons_self ..) (congrArg some e.symm)
  go_enter Try.func126, Try.ntmps126
  obtain ⟨c1, el2, S3, hn9, hcp10, hmx11, hcl4, htk5, hall6, hlen7, hbg8⟩ := St.rowBlk (r := 0) S rfl
  have S3 : St w0 F0 w F (⟨g, c1, 83⟩ :: ⟨vn, cs, 83⟩ :: L0) (M0) := S3
  unfold maxLen at hmx11
  refine wp_seq_k (fun K12 hK12 => ?_)
  refine region_wl ?_
  refine do_ rfl (.slice none 0 0) (ex_assign _) ?_
  simp only [Act.put, List.setIfInBounds_toArray, List.set_cons_succ, List.set_cons_zero]
  refine wl_nil ?_
  (try simp only [Exit.then, Exit.inBlock, ↓reduceIte, Nat.reduceEqDiff])
  refine hK12 _ _ ?_
  refine wp_seq_k (fun K13 hK13 => ?_)
  refine region_wl ?_
  refine do_ rfl (.slice (some ⟨g, 0, none⟩) l.length cap) (ex_move _) ?_
  simp only [Act.put, List.setIfInBounds_toArray, List.set_cons_succ, List.set_cons_zero]
  refine do_ rfl (.int .i64 ((i : Nat) : Int)) (ex_move _) ?_
  simp only [Act.put, List.setIfInBounds_toArray, List.set_cons_succ, List.set_cons_zero]
  refine do_ rfl (.slice (some ⟨g, i * 2, none⟩) (l.length - i) (cap - i)) (ex_slice (l := i) (h := l.length) (sz := 2) Try.underlying73 rfl (sizeof_83 _) (.inr ⟨_, rfl, rfl⟩) (.inl ⟨rfl, rfl⟩) (by omega) (by omega) (slice_at (by omega) rfl rfl (by omega))) ?_
  simp only [Act.put, List.setIfInBounds_toArray, List.set_cons_succ, List.set_cons_zero]
  refine wl_nil ?_
  (try simp only [Exit.then, Exit.inBlock, ↓reduceIte, Nat.reduceEqDiff])
  refine hK13 _ _ ?_
  refine wp_seq_k (fun K14 hK14 => ?_)
  refine region_wl ?_
  refine do_ rfl (.slice (some ⟨vn, 0, none⟩) 1 1) (ex_move _) ?_
  simp only [Act.put, List.setIfInBounds_toArray, List.set_cons_succ, List.set_cons_zero]
  refine do_ rfl (.int .i64 1) (ex_len Try.underlying73 rfl) ?_
  simp only [Act.put, List.setIfInBounds_toArray, List.set_cons_succ, List.set_cons_zero]
  refine do_ rfl (.int .i64 1) (ex_assign _) ?_
  simp only [Act.put, List.setIfInBounds_toArray, List.set_cons_succ, List.set_cons_zero]
  refine wl_nil ?_
  (try simp only [Exit.then, Exit.inBlock, ↓reduceIte, Nat.reduceEqDiff])
  refine hK14 _ _ ?_
  refine wp_seq_k (fun K15 hK15 => ?_)
  refine wp_seq_k (fun K16 hK16 => ?_)
  refine region_wl ?_
  refine do_ rfl (.int .i64 1) (ex_move _) ?_
  simp only [Act.put, List.setIfInBounds_toArray, List.set_cons_succ, List.set_cons_zero]
  refine do_ rfl (.bool false) (ex_eql (b := false) rfl rfl (by decide)) ?_
  simp only [Act.put, List.setIfInBounds_toArray, List.set_cons_succ, List.set_cons_zero]
  refine wl_nil ?_
  (try simp only [Exit.then, Exit.inBlock, ↓reduceIte, Nat.reduceEqDiff])
  refine hK16 _ _ ?_
  refine wp_cond_false rfl ?_
  refine wp_skip ?_
  (try simp only [Exit.then, Exit.inBlock, ↓reduceIte, Nat.reduceEqDiff])
  refine hK15 _ _ ?_
  refine wp_seq_k (fun K17 hK17 => ?_)
  refine region_wl ?_
  refine do_ rfl (.slice (some ⟨g, 0, none⟩) l.length cap) (ex_move _) ?_
  simp only [Act.put, List.setIfInBounds_toArray, List.set_cons_succ, List.set_cons_zero]
  refine do_ rfl (.int .i64 ((l.length : Nat) : Int)) (ex_len Try.underlying73 rfl) ?_
  simp only [Act.put, List.setIfInBounds_toArray, List.set_cons_succ, List.set_cons_zero]
  refine do_ rfl (.int .i64 ((l.length : Nat) : Int)) (ex_assign _) ?_
  simp only [Act.put, List.setIfInBounds_toArray, List.set_cons_succ, List.set_cons_zero]
  refine wl_nil ?_
  (try simp only [Exit.then, Exit.inBlock, ↓reduceIte, Nat.reduceEqDiff])
  refine hK17 _ _ ?_
  refine wp_seq_k (fun K18 hK18 => ?_)
  refine wp_seq_k (fun K19 hK19 => ?_)
  refine region_wl ?_
  refine do_ rfl (.int .i64 ((i : Nat) : Int)) (ex_move _) ?_
  simp only [Act.put, List.setIfInBounds_toArray, List.set_cons_succ, List.set_cons_zero]
  refine do_ rfl (.int .i64 ((l.length : Nat) : Int)) (ex_move _) ?_
  simp only [Act.put, List.setIfInBounds_toArray, List.set_cons_succ, List.set_cons_zero]
  refine do_ rfl (.bool false) (ex_eql (m := ((i : Nat) : Int)) (n := ((l.length : Nat) : Int)) (b := false) rfl rfl (beq_eq_false_iff_ne.2 (by omega))) ?_
  simp only [Act.put, List.setIfInBounds_toArray, List.set_cons_succ, List.set_cons_zero]
  refine wl_nil ?_
  (try simp only [Exit.then, Exit.inBlock, ↓reduceIte, Nat.reduceEqDiff])
  refine hK19 _ _ ?_
  refine wp_cond_false rfl ?_
  refine wp_skip ?_
  (try simp only [Exit.then, Exit.inBlock, ↓reduceIte, Nat.reduceEqDiff])
  refine hK18 _ _ ?_
  refine wp_seq_k (fun K20 hK20 => ?_)
  refine wp_seq_k (fun K21 hK21 => ?_)
  refine region_wl ?_
  refine do_ rfl (.int .i64 ((l.length : Nat) : Int)) (ex_move _) ?_
  simp only [Act.put, List.setIfInBounds_toArray, List.set_cons_succ, List.set_cons_zero]
  refine do_ rfl (.int .i64 1) (ex_move _) ?_
  simp only [Act.put, List.setIfInBounds_toArray, List.set_cons_succ, List.set_cons_zero]
  refine do_ rfl (.int .i64 (((l.length + 1) : Nat) : Int)) (ex_add (m := ((l.length : Nat) : Int)) (n := (1 : Int)) (r := (((l.length + 1) : Nat) : Int)) rfl rfl (by omega) (by omega) (by omega)) ?_
  simp only [Act.put, List.setIfInBounds_toArray, List.set_cons_succ, List.set_cons_zero]
  refine do_ rfl (.slice (some ⟨g, 0, none⟩) l.length cap) (ex_move _) ?_
  simp only [Act.put, List.setIfInBounds_toArray, List.set_cons_succ, List.set_cons_zero]
  refine do_ rfl (.int .i64 ((cap : Nat) : Int)) (ex_cap Try.underlying73 rfl) ?_
  simp only [Act.put, List.setIfInBounds_toArray, List.set_cons_succ, List.set_cons_zero]
  by_cases hc31 : cap < (l.length + 1)
  · refine do_ rfl (.bool true) (ex_gtr (m := (((l.length + 1) : Nat) : Int)) (n := ((cap : Nat) : Int)) (b := true) rfl rfl (decide_eq_true (by omega))) ?_
    simp only [Act.put, List.setIfInBounds_toArray, List.set_cons_succ, List.set_cons_zero]
    refine wl_nil ?_
    (try simp only [Exit.then, Exit.inBlock, ↓reduceIte, Nat.reduceEqDiff])
    refine hK21 _ _ ?_
    refine wp_cond_true rfl ?_
    refine wp_seq_k (fun K22 hK22 => ?_)
    refine region_wl ?_
    refine do_ rfl (.slice (some ⟨g, 0, none⟩) l.length cap) (ex_move _) ?_
    simp only [Act.put, List.setIfInBounds_toArray, List.set_cons_succ, List.set_cons_zero]
    refine do_ rfl (.int .i64 ((i : Nat) : Int)) (ex_move _) ?_
    simp only [Act.put, List.setIfInBounds_toArray, List.set_cons_succ, List.set_cons_zero]
    refine do_ rfl (.slice (some ⟨g, 0, none⟩) i cap) (ex_slice (l := 0) (h := i) (sz := 2) Try.underlying73 rfl (sizeof_83 _) (.inl ⟨rfl, rfl⟩) (.inr ⟨_, rfl, rfl⟩) (by omega) (by omega) (slice_zero)) ?_
    simp only [Act.put, List.setIfInBounds_toArray, List.set_cons_succ, List.set_cons_zero]
    refine do_ rfl (.int .i64 ((l.length : Nat) : Int)) (ex_move _) ?_
    simp only [Act.put, List.setIfInBounds_toArray, List.set_cons_succ, List.set_cons_zero]
    refine do_ rfl (.int .i64 1) (ex_move _) ?_
    simp only [Act.put, List.setIfInBounds_toArray, List.set_cons_succ, List.set_cons_zero]
    refine do_ rfl (.int .i64 (((l.length + 1) : Nat) : Int)) (ex_add (m := ((l.length : Nat) : Int)) (n := (1 : Int)) (r := (((l.length + 1) : Nat) : Int)) rfl rfl (by omega) (by omega) (by omega)) ?_
    simp only [Act.put, List.setIfInBounds_toArray, List.set_cons_succ, List.set_cons_zero]
    refine do_ rfl (.int .i64 ((i : Nat) : Int)) (ex_move _) ?_
    simp only [Act.put, List.setIfInBounds_toArray, List.set_cons_succ, List.set_cons_zero]
    refine do_ rfl (.int .i64 ((((l.length + 1) - i) : Nat) : Int)) (ex_sub (m := (((l.length + 1) : Nat) : Int)) (n := ((i : Nat) : Int)) (r := ((((l.length + 1) - i) : Nat) : Int)) rfl rfl (by omega) (by omega) (by omega)) ?_
    simp only [Act.put, List.setIfInBounds_toArray, List.set_cons_succ, List.set_cons_zero]
    refine stGrow (k := 2) (n := i) (m := l.length + 1 - i) (l.length + 1) (c1.take (i * 2)) S3 rfl i83 (.agg #[(.slice none 0 0), (.slice none 0 0)]) 48 Try.underlying73 Try.underlying3 hi83 hz83 hs83 hb83 rfl (by decide) rfl rfl (by omega) (by rw [List.length_take]; omega) (S3.srcT (i := 0) rfl _) (by omega) (by omega) (by unfold maxLen; omega) (by omega) ?_
    intro g25 cp26 nw27 mo28 w23 h29 h30 h31 h32 S24
    unfold maxLen at h30
    simp only [Act.put, List.setIfInBounds_toArray, List.set_cons_succ, List.set_cons_zero]
    have S24 : St w0 F0 w23 F (⟨g25, (c1.take (i * 2) ++ nw27 ++ mo28), 83⟩ :: ⟨g, c1, 83⟩ :: ⟨vn, cs, 83⟩ :: L0) (M0) := S24
    refine do_ rfl (.slice (some ⟨g25, 0, none⟩) (l.length + 1) cp26) (ex_assign _) ?_
    simp only [Act.put, List.setIfInBounds_toArray, List.set_cons_succ, List.set_cons_zero]
    refine wl_nil ?_
    (try simp only [Exit.then, Exit.inBlock, ↓reduceIte, Nat.reduceEqDiff])
    refine hK22 _ _ ?_
    refine wp_seq_k (fun K33 hK33 => ?_)
    refine region_wl ?_
    refine do_ rfl (.slice (some ⟨g25, 0, none⟩) (l.length + 1) cp26) (ex_move _) ?_
    simp only [Act.put, List.setIfInBounds_toArray, List.set_cons_succ, List.set_cons_zero]
    refine do_ rfl (.int .i64 ((i : Nat) : Int)) (ex_move _) ?_
    simp only [Act.put, List.setIfInBounds_toArray, List.set_cons_succ, List.set_cons_zero]
    refine do_ rfl (.slice (some ⟨g25, i * 2, none⟩) ((l.length + 1) - i) (cp26 - i)) (ex_slice (l := i) (h := (l.length + 1)) (sz := 2) Try.underlying73 rfl (sizeof_83 _) (.inr ⟨_, rfl, rfl⟩) (.inl ⟨rfl, rfl⟩) (by omega) (by omega) (slice_at (by omega) rfl rfl (by omega))) ?_
    simp only [Act.put, List.setIfInBounds_toArray, List.set_cons_succ, List.set_cons_zero]
    refine do_ rfl (.slice (some ⟨vn, 0, none⟩) 1 1) (ex_move _) ?_
    simp only [Act.put, List.setIfInBounds_toArray, List.set_cons_succ, List.set_cons_zero]
    refine stCopy (i := 0) (j := i * 2) 1 cs S24 rfl Try.underlying73 size_83 rfl rfl rfl (Nat.min_eq_left (by omega)) (hcs) (by rw [h32, hcs]; omega) (S24.src0 (i := 2) rfl) (one _ _ _ hp) (fun w34 S35 => ?_)
    simp only [Act.put, List.setIfInBounds_toArray, List.set_cons_succ, List.set_cons_zero]
    have S35 : St w0 F0 w34 F (⟨g25, (splice (c1.take (i * 2) ++ nw27 ++ mo28) (i * 2) cs), 83⟩ :: ⟨g, c1, 83⟩ :: ⟨vn, cs, 83⟩ :: L0) (M0) := S35
    refine wl_nil ?_
    (try simp only [Exit.then, Exit.inBlock, ↓reduceIte, Nat.reduceEqDiff])
    refine hK33 _ _ ?_
    refine wp_seq_k (fun K36 hK36 => ?_)
    refine region_gw F 8 [] (by kernel_rfl) (by kernel_rfl) ?_
    simp only [List.take_succ_cons, List.take_zero]
    refine gw_pure rfl rfl (.slice (some ⟨g25, 0, none⟩) (l.length + 1) cp26) (fun w37 hCw37 => pureAt_of (ex_move _)) ?_
    simp only [Act.put, List.setIfInBounds_toArray, List.set_cons_succ, List.set_cons_zero]
    refine gw_pure rfl rfl (.int .i64 ((i : Nat) : Int)) (fun w37 hCw37 => pureAt_of (ex_move _)) ?_
    simp only [Act.put, List.setIfInBounds_toArray, List.set_cons_succ, List.set_cons_zero]
    refine gw_pure rfl rfl (.int .i64 1) (fun w37 hCw37 => pureAt_of (ex_move _)) ?_
    simp only [Act.put, List.setIfInBounds_toArray, List.set_cons_succ, List.set_cons_zero]
    refine gw_pure rfl rfl (.int .i64 (((i + 1) : Nat) : Int)) (fun w37 hCw37 => pureAt_of (ex_add (m := ((i : Nat) : Int)) (n := (1 : Int)) (r := (((i + 1) : Nat) : Int)) rfl rfl (by omega) (by omega) (by omega))) ?_
    simp only [Act.put, List.setIfInBounds_toArray, List.set_cons_succ, List.set_cons_zero]
    refine gw_pure rfl rfl (.slice (some ⟨g25, (i + 1) * 2, none⟩) ((l.length + 1) - (i + 1)) (cp26 - (i + 1))) (fun w37 hCw37 => pureAt_of (ex_slice (l := (i + 1)) (h := (l.length + 1)) (sz := 2) Try.underlying73 rfl (sizeof_83 _) (.inr ⟨_, rfl, rfl⟩) (.inl ⟨rfl, rfl⟩) (by omega) (by omega) (slice_at (by omega) rfl rfl (by omega)))) ?_
    simp only [Act.put, List.setIfInBounds_toArray, List.set_cons_succ, List.set_cons_zero]
    refine gw_pure rfl rfl (.slice (some ⟨g, 0, none⟩) l.length cap) (fun w37 hCw37 => pureAt_of (ex_move _)) ?_
    simp only [Act.put, List.setIfInBounds_toArray, List.set_cons_succ, List.set_cons_zero]
    refine gw_pure rfl rfl (.int .i64 ((i : Nat) : Int)) (fun w37 hCw37 => pureAt_of (ex_move _)) ?_
    simp only [Act.put, List.setIfInBounds_toArray, List.set_cons_succ, List.set_cons_zero]
    refine gw_pure rfl rfl (.slice (some ⟨g, i * 2, none⟩) (l.length - i) (cap - i)) (fun w37 hCw37 => pureAt_of (ex_slice (l := i) (h := l.length) (sz := 2) Try.underlying73 rfl (sizeof_83 _) (.inr ⟨_, rfl, rfl⟩) (.inl ⟨rfl, rfl⟩) (by omega) (by omega) (slice_at (by omega) rfl rfl (by omega)))) ?_
    simp only [Act.put, List.setIfInBounds_toArray, List.set_cons_succ, List.set_cons_zero]
    refine gw_nil ?_
    intro w38 hC40 hF41
    clear hF41
    have S39 := St.tells S35 hC40
    simp only [List.drop_succ_cons, List.drop_zero]
    have S39 : St w0 F0 w38 F (⟨g25, (splice (c1.take (i * 2) ++ nw27 ++ mo28) (i * 2) cs), 83⟩ :: ⟨g, c1, 83⟩ :: ⟨vn, cs, 83⟩ :: L0) (M0) := S39
    have hml : ((c1.drop (i * 2)).take ((l.length - i) * 2)).length = (l.length - i) * 2 := by rw [List.length_take, List.length_drop, hcl4]; omega
    refine stCopy (i := 0) (j := (i + 1) * 2) (l.length - i) ((c1.drop (i * 2)).take ((l.length - i) * 2)) S39 rfl Try.underlying73 size_83 rfl rfl rfl (Nat.min_eq_left (by omega)) (hml) (by rw [splice_len (by rw [h32, hcs]; omega), h32, hml]; omega) (S39.src (i := 1) rfl _ _) (one_mid one hall6 htk5 i) (fun w42 S43 => ?_)
    simp only [Act.put, List.setIfInBounds_toArray, List.set_cons_succ, List.set_cons_zero]
    have S43 : St w0 F0 w42 F (⟨g25, (splice (splice (c1.take (i * 2) ++ nw27 ++ mo28) (i * 2) cs) ((i + 1) * 2) ((c1.drop (i * 2)).take ((l.length - i) * 2))), 83⟩ :: ⟨g, c1, 83⟩ :: ⟨vn, cs, 83⟩ :: L0) (M0) := S43
    refine wl_nil ?_
    (try simp only [Exit.then, Exit.inBlock, ↓reduceIte, Nat.reduceEqDiff])
    refine hK36 _ _ ?_
    refine wp_seq_k (fun K44 hK44 => ?_)
    refine region_wl ?_
    refine do_ rfl (.slice (some ⟨g25, 0, none⟩) (l.length + 1) cp26) (ex_move _) ?_
    simp only [Act.put, List.setIfInBounds_toArray, List.set_cons_succ, List.set_cons_zero]
    refine do_ rfl (.slice (some ⟨g25, 0, none⟩) (l.length + 1) cp26) (ex_assign _) ?_
    simp only [Act.put, List.setIfInBounds_toArray, List.set_cons_succ, List.set_cons_zero]
    refine wl_nil ?_
    (try simp only [Exit.then, Exit.inBlock, ↓reduceIte, Nat.reduceEqDiff])
    refine hK44 _ _ ?_
    refine wp_ret ?_
    (try simp only [Exit.then, Exit.inBlock, ↓reduceIte, Nat.reduceEqDiff])
    refine bodyPost_ret (v := (.slice (some ⟨g25, 0, none⟩) (l.length + 1) cp26)) ?_ rfl ?_
    · exact res_t rfl rfl
    · have hdrop := St.drop S43 (L' := ⟨g25, splice (splice (c1.take (i * 2) ++ nw27 ++ mo28) (i * 2) cs) ((i + 1) * 2) ((c1.drop (i * 2)).take ((l.length - i) * 2)), 83⟩ :: L0) (.cons_cons _ (.cons _ (.cons _ (List.Sublist.refl _))))
      have hll : (l.take i ++ p :: l.drop i).length = l.length + 1 := by rw [List.length_append, List.length_cons, List.length_take, List.length_drop]; omega
      have hrow := St.blkRow (k := 2) (base := w0.heap.size) (R := R) (hR := hR) (l := l.take i ++ p :: l.drop i) (cap := cp26) hdrop (el := el2.take i ++ cs :: el2.drop i) (by rw [hll]; exact (cells_grow hlen7 htk5 (by omega) (by rw [hcl4]; omega) h31 hcs)) (allR_insert hall6 i hp) (len_insert hlen7 i hcs) (by rw [splice_len (by rw [splice_len (by rw [h32, hcs]; omega), h32, hml]; omega), splice_len (by rw [h32, hcs]; omega), h32]) (by omega) (by unfold maxLen; omega) (hdrop.blk _ (List.mem_cons_self ..)).2.2
      rw [hll] at hrow
      exact ⟨_, rfl, hrow⟩
  · refine do_ rfl (.bool false) (ex_gtr (m := (((l.length + 1) : Nat) : Int)) (n := ((cap : Nat) : Int)) (b := false) rfl rfl (decide_eq_false (by omega))) ?_
    simp only [Act.put, List.setIfInBounds_toArray, List.set_cons_succ, List.set_cons_zero]
    refine wl_nil ?_
    (try simp only [Exit.then, Exit.inBlock, ↓reduceIte, Nat.reduceEqDiff])
    refine hK21 _ _ ?_
    refine wp_cond_false rfl ?_
    refine wp_skip ?_
    (try simp only [Exit.then, Exit.inBlock, ↓reduceIte, Nat.reduceEqDiff])
    refine hK20 _ _ ?_
    refine wp_seq_k (fun K45 hK45 => ?_)
    refine region_wl ?_
    refine do_ rfl (.slice (some ⟨g, 0, none⟩) l.length cap) (ex_move _) ?_
    simp only [Act.put, List.setIfInBounds_toArray, List.set_cons_succ, List.set_cons_zero]
    refine do_ rfl (.int .i64 ((l.length : Nat) : Int)) (ex_move _) ?_
    simp only [Act.put, List.setIfInBounds_toArray, List.set_cons_succ, List.set_cons_zero]
    refine do_ rfl (.int .i64 1) (ex_move _) ?_
    simp only [Act.put, List.setIfInBounds_toArray, List.set_cons_succ, List.set_cons_zero]
    refine do_ rfl (.int .i64 (((l.length + 1) : Nat) : Int)) (ex_add (m := ((l.length : Nat) : Int)) (n := (1 : Int)) (r := (((l.length + 1) : Nat) : Int)) rfl rfl (by omega) (by omega) (by omega)) ?_
    simp only [Act.put, List.setIfInBounds_toArray, List.set_cons_succ, List.set_cons_zero]
    refine do_ rfl (.slice (some ⟨g, 0, none⟩) (l.length + 1) cap) (ex_slice (l := 0) (h := (l.length + 1)) (sz := 2) Try.underlying73 rfl (sizeof_83 _) (.inl ⟨rfl, rfl⟩) (.inr ⟨_, rfl, rfl⟩) (by omega) (by omega) (slice_zero)) ?_
    simp only [Act.put, List.setIfInBounds_toArray, List.set_cons_succ, List.set_cons_zero]
    refine do_ rfl (.slice (some ⟨g, 0, none⟩) (l.length + 1) cap) (ex_assign _) ?_
    simp only [Act.put, List.setIfInBounds_toArray, List.set_cons_succ, List.set_cons_zero]
    refine wl_nil ?_
    (try simp only [Exit.then, Exit.inBlock, ↓reduceIte, Nat.reduceEqDiff])
    refine hK45 _ _ ?_
    refine wp_seq_k (fun K46 hK46 => ?_)
    refine wp_seq_k (fun K47 hK47 => ?_)
    refine region_wl ?_
    refine do_ rfl (.slice (some ⟨vn, 0, none⟩) 1 1) (ex_move _) ?_
    simp only [Act.put, List.setIfInBounds_toArray, List.set_cons_succ, List.set_cons_zero]
    refine do_ rfl (.slice (some ⟨g, 0, none⟩) (l.length + 1) cap) (ex_move _) ?_
    simp only [Act.put, List.setIfInBounds_toArray, List.set_cons_succ, List.set_cons_zero]
    refine do_ rfl (.int .i64 ((i : Nat) : Int)) (ex_move _) ?_
    simp only [Act.put, List.setIfInBounds_toArray, List.set_cons_succ, List.set_cons_zero]
    refine do_ rfl (.int .i64 1) (ex_move _) ?_
    simp only [Act.put, List.setIfInBounds_toArray, List.set_cons_succ, List.set_cons_zero]
    refine do_ rfl (.int .i64 (((i + 1) : Nat) : Int)) (ex_add (m := ((i : Nat) : Int)) (n := (1 : Int)) (r := (((i + 1) : Nat) : Int)) rfl rfl (by omega) (by omega) (by omega)) ?_
    simp only [Act.put, List.setIfInBounds_toArray, List.set_cons_succ, List.set_cons_zero]
    refine do_ rfl (.slice (some ⟨g, (i + 1) * 2, none⟩) ((l.length + 1) - (i + 1)) (cap - (i + 1))) (ex_slice (l := (i + 1)) (h := (l.length + 1)) (sz := 2) Try.underlying73 rfl (sizeof_83 _) (.inr ⟨_, rfl, rfl⟩) (.inl ⟨rfl, rfl⟩) (by omega) (by omega) (slice_at (by omega) rfl rfl (by omega))) ?_
    simp only [Act.put, List.setIfInBounds_toArray, List.set_cons_succ, List.set_cons_zero]
    refine do_ rfl (.bool false) (ex_fnv (vs := #[(.slice (some ⟨vn, 0, none⟩) 1 1), (.slice (some ⟨g, (i + 1) * 2, none⟩) ((l.length + 1) - (i + 1)) (cap - (i + 1)))]) (map2 rfl rfl) rfl (overlapsTenant (S3.blk ⟨vn, cs, 83⟩ (by simp)).1 (S3.blk ⟨g, c1, 83⟩ (by simp)).1 (by rw [hcl4]; omega) hvg)) ?_
    simp only [Act.put, List.setIfInBounds_toArray, List.set_cons_succ, List.set_cons_zero]
    refine do_ rfl (.bool true) (ex_not (b := false) rfl rfl) ?_
    simp only [Act.put, List.setIfInBounds_toArray, List.set_cons_succ, List.set_cons_zero]
    refine wl_nil ?_
    (try simp only [Exit.then, Exit.inBlock, ↓reduceIte, Nat.reduceEqDiff])
    refine hK47 _ _ ?_
    refine wp_cond_true rfl ?_
    refine wp_seq_k (fun K48 hK48 => ?_)
    refine region_gw F 8 [] (by kernel_rfl) (by kernel_rfl) ?_
    simp only [List.take_succ_cons, List.take_zero]
    refine gw_pure rfl rfl (.slice (some ⟨g, 0, none⟩) (l.length + 1) cap) (fun w49 hCw49 => pureAt_of (ex_move _)) ?_
    simp only [Act.put, List.setIfInBounds_toArray, List.set_cons_succ, List.set_cons_zero]
    refine gw_pure rfl rfl (.int .i64 ((i : Nat) : Int)) (fun w49 hCw49 => pureAt_of (ex_move _)) ?_
    simp only [Act.put, List.setIfInBounds_toArray, List.set_cons_succ, List.set_cons_zero]
    refine gw_pure rfl rfl (.int .i64 1) (fun w49 hCw49 => pureAt_of (ex_move _)) ?_
    simp only [Act.put, List.setIfInBounds_toArray, List.set_cons_succ, List.set_cons_zero]
    refine gw_pure rfl rfl (.int .i64 (((i + 1) : Nat) : Int)) (fun w49 hCw49 => pureAt_of (ex_add (m := ((i : Nat) : Int)) (n := (1 : Int)) (r := (((i + 1) : Nat) : Int)) rfl rfl (by omega) (by omega) (by omega))) ?_
    simp only [Act.put, List.setIfInBounds_toArray, List.set_cons_succ, List.set_cons_zero]
    refine gw_pure rfl rfl (.slice (some ⟨g, (i + 1) * 2, none⟩) ((l.length + 1) - (i + 1)) (cap - (i + 1))) (fun w49 hCw49 => pureAt_of (ex_slice (l := (i + 1)) (h := (l.length + 1)) (sz := 2) Try.underlying73 rfl (sizeof_83 _) (.inr ⟨_, rfl, rfl⟩) (.inl ⟨rfl, rfl⟩) (by omega) (by omega) (slice_at (by omega) rfl rfl (by omega)))) ?_
    simp only [Act.put, List.setIfInBounds_toArray, List.set_cons_succ, List.set_cons_zero]
    refine gw_pure rfl rfl (.slice (some ⟨g, 0, none⟩) (l.length + 1) cap) (fun w49 hCw49 => pureAt_of (ex_move _)) ?_
    simp only [Act.put, List.setIfInBounds_toArray, List.set_cons_succ, List.set_cons_zero]
    refine gw_pure rfl rfl (.int .i64 ((i : Nat) : Int)) (fun w49 hCw49 => pureAt_of (ex_move _)) ?_
    simp only [Act.put, List.setIfInBounds_toArray, List.set_cons_succ, List.set_cons_zero]
    refine gw_pure rfl rfl (.slice (some ⟨g, i * 2, none⟩) ((l.length + 1) - i) (cap - i)) (fun w49 hCw49 => pureAt_of (ex_slice (l := i) (h := (l.length + 1)) (sz := 2) Try.underlying73 rfl (sizeof_83 _) (.inr ⟨_, rfl, rfl⟩) (.inl ⟨rfl, rfl⟩) (by omega) (by omega) (slice_at (by omega) rfl rfl (by omega)))) ?_
    simp only [Act.put, List.setIfInBounds_toArray, List.set_cons_succ, List.set_cons_zero]
    refine gw_nil ?_
    intro w50 hC52 hF53
    clear hF53
    have S51 := St.tells S3 hC52
    simp only [List.drop_succ_cons, List.drop_zero]
    have S51 : St w0 F0 w50 F (⟨g, c1, 83⟩ :: ⟨vn, cs, 83⟩ :: L0) (M0) := S51
    have hml : ((c1.drop (i * 2)).take ((l.length - i) * 2)).length = (l.length - i) * 2 := by rw [List.length_take, List.length_drop, hcl4]; omega
    refine stCopy (i := 0) (j := (i + 1) * 2) (l.length - i) ((c1.drop (i * 2)).take ((l.length - i) * 2)) S51 rfl Try.underlying73 size_83 rfl rfl rfl ((Nat.min_eq_right (by omega)).trans (by omega)) (hml) (by rw [hcl4, hml]; omega) (S51.src (i := 0) rfl _ _) (one_mid one hall6 htk5 i) (fun w54 S55 => ?_)
    simp only [Act.put, List.setIfInBounds_toArray, List.set_cons_succ, List.set_cons_zero]
    have S55 : St w0 F0 w54 F (⟨g, (splice c1 ((i + 1) * 2) ((c1.drop (i * 2)).take ((l.length - i) * 2))), 83⟩ :: ⟨vn, cs, 83⟩ :: L0) (M0) := S55
    refine wl_nil ?_
    (try simp only [Exit.then, Exit.inBlock, ↓reduceIte, Nat.reduceEqDiff])
    refine hK48 _ _ ?_
    refine wp_seq_k (fun K56 hK56 => ?_)
    refine region_wl ?_
    refine do_ rfl (.slice (some ⟨g, 0, none⟩) (l.length + 1) cap) (ex_move _) ?_
    simp only [Act.put, List.setIfInBounds_toArray, List.set_cons_succ, List.set_cons_zero]
    refine do_ rfl (.int .i64 ((i : Nat) : Int)) (ex_move _) ?_
    simp only [Act.put, List.setIfInBounds_toArray, List.set_cons_succ, List.set_cons_zero]
    refine do_ rfl (.slice (some ⟨g, i * 2, none⟩) ((l.length + 1) - i) (cap - i)) (ex_slice (l := i) (h := (l.length + 1)) (sz := 2) Try.underlying73 rfl (sizeof_83 _) (.inr ⟨_, rfl, rfl⟩) (.inl ⟨rfl, rfl⟩) (by omega) (by omega) (slice_at (by omega) rfl rfl (by omega))) ?_
    simp only [Act.put, List.setIfInBounds_toArray, List.set_cons_succ, List.set_cons_zero]
    refine do_ rfl (.slice (some ⟨vn, 0, none⟩) 1 1) (ex_move _) ?_
    simp only [Act.put, List.setIfInBounds_toArray, List.set_cons_succ, List.set_cons_zero]
    refine stCopy (i := 0) (j := i * 2) 1 cs S55 rfl Try.underlying73 size_83 rfl rfl rfl (Nat.min_eq_left (by omega)) (hcs) (by rw [splice_len (by rw [hcl4, hml]; omega), hcl4, hcs]; omega) (S55.src0 (i := 1) rfl) (one _ _ _ hp) (fun w57 S58 => ?_)
    simp only [Act.put, List.setIfInBounds_toArray, List.set_cons_succ, List.set_cons_zero]
    have S58 : St w0 F0 w57 F (⟨g, (splice (splice c1 ((i + 1) * 2) ((c1.drop (i * 2)).take ((l.length - i) * 2))) (i * 2) cs), 83⟩ :: ⟨vn, cs, 83⟩ :: L0) (M0) := S58
    refine wl_nil ?_
    (try simp only [Exit.then, Exit.inBlock, ↓reduceIte, Nat.reduceEqDiff])
    refine hK56 _ _ ?_
    refine wp_seq_k (fun K59 hK59 => ?_)
    refine region_wl ?_
    refine do_ rfl (.slice (some ⟨g, 0, none⟩) (l.length + 1) cap) (ex_move _) ?_
    simp only [Act.put, List.setIfInBounds_toArray, List.set_cons_succ, List.set_cons_zero]
    refine do_ rfl (.slice (some ⟨g, 0, none⟩) (l.length + 1) cap) (ex_assign _) ?_
    simp only [Act.put, List.setIfInBounds_toArray, List.set_cons_succ, List.set_cons_zero]
    refine wl_nil ?_
    (try simp only [Exit.then, Exit.inBlock, ↓reduceIte, Nat.reduceEqDiff])
    refine hK59 _ _ ?_
    refine wp_ret ?_
    (try simp only [Exit.then, Exit.inBlock, ↓reduceIte, Nat.reduceEqDiff])
    refine bodyPost_ret (v := (.slice (some ⟨g, 0, none⟩) (l.length + 1) cap)) ?_ rfl ?_
    · exact res_t rfl rfl
    · have hdrop := St.drop S58 (L' := ⟨g, splice (splice c1 ((i + 1) * 2) ((c1.drop (i * 2)).take ((l.length - i) * 2))) (i * 2) cs, 83⟩ :: L0) (.cons_cons _ (.cons _ (List.Sublist.refl _)))
      have hll : (l.take i ++ p :: l.drop i).length = l.length + 1 := by rw [List.length_append, List.length_cons, List.length_take, List.length_drop]; omega
      have hrow := St.blkRow (k := 2) (base := w0.heap.size) (R := R) (hR := hR) (l := l.take i ++ p :: l.drop i) (cap := cap) hdrop (el := el2.take i ++ cs :: el2.drop i) (by rw [hll]; exact (cells_ins hlen7 htk5 (by omega) (by rw [hcl4]; omega) hcs)) (allR_insert hall6 i hp) (len_insert hlen7 i hcs) (by rw [splice_len (by rw [splice_len (by rw [hcl4, hml]; omega), hcl4, hcs]; omega), splice_len (by rw [hcl4, hml]; omega), hcl4]) (by omega) (by unfold maxLen; omega) (hdrop.blk _ (List.mem_cons_self ..)).2.2
      rw [hll] at hrow
      exact ⟨_, rfl, hrow⟩
theorem insertTenant {i : Nat} {w0 w : World} {F0 F : Fz} {L0 : List Blk} {M0 : List RowP} {α : Type} {R : Fz → List Value → α → Prop} {hR : ∀ F F' x p, Le F F' → R F x p → R F' x p} {v : Value} {l : List α} {p : α} {vn : Nat} {cs : List Value} (one : ∀ F cs p, R F cs p → ∀ u ∈ cs, u.oneCell' = true)
    (S : St w0 F0 w F (⟨vn, cs, 83⟩ :: L0) (ownP 2 R hR 83 w0.heap.size v l :: M0)) (hcs : cs.length = 2) (hp : R F cs p) (hl : l.length ≤ 100000) (hi : i ≤ l.length) :
    Calls Try.prog 126 #[v, .int .i64 (i : Nat), .slice (some ⟨vn, 0, none⟩) 1 1] w fun e w' => ∃ v', e = .returned v' ∧ St w0 F0 w' F L0 (ownP 2 R hR 83 w0.heap.size v' (l.take i ++ p :: l.drop i) :: M0) := by
  rcases Nat.lt_or_ge i l.length with h | h
  · obtain ⟨g, cap, rfl, _⟩ := (S.own (i := 0) rfl).form (by omega)
    exact insertMidTenant one S hcs hp hl h
  · obtain rfl : i = l.length := by omega
    have := insertEndTenant one S hcs hp hl
    rw [List.take_length, List.drop_length]
    exact this
set_option maxHeartbeats 8000000 in
theorem deleteMidTenant {g cap i : Nat} {w0 w : World} {F0 F : Fz} {L0 : List Blk} {M0 : List RowP} {α : Type} {R : Fz → List Value → α → Prop} {hR : ∀ F F' x p, Le F F' → R F x p → R F' x p} {l : List α} (one : ∀ F cs p, R F cs p → ∀ u ∈ cs, u.oneCell' = true)
    (S : St w0 F0 w F L0 (ownP 2 R hR 83 w0.heap.size (.slice (some ⟨g, 0, none⟩) l.length cap) l :: M0)) (hl : l.length ≤ 100000) (hi : i < l.length) :
    Calls Try.prog 125 #[.slice (some ⟨g, 0, none⟩) l.length cap, .int .i64 (i : Nat), .int .i64 ((i + 1 : Nat) : Int)] w fun e w' => ∃ v', e = .returned v' ∧ St w0 F0 w' F L0 (ownP 2 R hR 83 w0.heap.size v' (l.take i ++ l.drop (i + 1)) :: M0) := by
  obtain ⟨i83, hi83, hz83, hs83, hb83⟩ := info_parts info_83
  go_enter Try.func125, Try.ntmps125
  obtain ⟨c1, el2, S3, hn9, hcp10, hmx11, hcl4, htk5, hall6, hlen7, hbg8⟩ := St.rowBlk (r := 0) S rfl
  have S3 : St w0 F0 w F (⟨g, c1, 83⟩ :: L0) (M0) := S3
  unfold maxLen at hmx11
  refine wp_seq_k (fun K12 hK12 => ?_)
  refine region_wl ?_
  refine do_ rfl (.slice none 0 0) (ex_assign _) ?_
  simp only [Act.put, List.setIfInBounds_toArray, List.set_cons_succ, List.set_cons_zero]
  refine wl_nil ?_
  (try simp only [Exit.then, Exit.inBlock, ↓reduceIte, Nat.reduceEqDiff])
  refine hK12 _ _ ?_
  refine wp_seq_k (fun K13 hK13 => ?_)
  refine region_wl ?_
  refine do_ rfl (.slice (some ⟨g, 0, none⟩) l.length cap) (ex_move _) ?_
  simp only [Act.put, List.setIfInBounds_toArray, List.set_cons_succ, List.set_cons_zero]
  refine do_ rfl (.int .i64 ((i : Nat) : Int)) (ex_move _) ?_
  simp only [Act.put, List.setIfInBounds_toArray, List.set_cons_succ, List.set_cons_zero]
  refine do_ rfl (.int .i64 (((i + 1) : Nat) : Int)) (ex_move _) ?_
  simp only [Act.put, List.setIfInBounds_toArray, List.set_cons_succ, List.set_cons_zero]
  refine do_ rfl (.slice (some ⟨g, 0, none⟩) l.length cap) (ex_move _) ?_
  simp only [Act.put, List.setIfInBounds_toArray, List.set_cons_succ, List.set_cons_zero]
  refine do_ rfl (.int .i64 ((l.length : Nat) : Int)) (ex_len Try.underlying73 rfl) ?_
  simp only [Act.put, List.setIfInBounds_toArray, List.set_cons_succ, List.set_cons_zero]
  refine do_ rfl (.slice (if l.length = i then ((some ⟨g, 0, none⟩) : Option Addr) else ((some ⟨g, 0, none⟩) : Option Addr).map (fun q => Addr.add q (i * 2))) ((i + 1) - i) (l.length - i)) (ex_slice3 (l := i) (h := (i + 1)) (m := l.length) (sz := 2) Try.underlying73 rfl (sizeof_83 _) rfl rfl rfl (by omega) (by omega) (by omega) rfl) ?_
  simp only [Act.put, List.setIfInBounds_toArray, List.set_cons_succ, List.set_cons_zero]
  refine wl_nil ?_
  (try simp only [Exit.then, Exit.inBlock, ↓reduceIte, Nat.reduceEqDiff])
  refine hK13 _ _ ?_
  refine wp_seq_k (fun K14 hK14 => ?_)
  refine wp_seq_k (fun K15 hK15 => ?_)
  refine region_wl ?_
  refine do_ rfl (.int .i64 ((i : Nat) : Int)) (ex_move _) ?_
  simp only [Act.put, List.setIfInBounds_toArray, List.set_cons_succ, List.set_cons_zero]
  refine do_ rfl (.int .i64 (((i + 1) : Nat) : Int)) (ex_move _) ?_
  simp only [Act.put, List.setIfInBounds_toArray, List.set_cons_succ, List.set_cons_zero]
  refine do_ rfl (.bool false) (ex_eql (m := ((i : Nat) : Int)) (n := (((i + 1) : Nat) : Int)) (b := false) rfl rfl (beq_eq_false_iff_ne.2 (by omega))) ?_
  simp only [Act.put, List.setIfInBounds_toArray, List.set_cons_succ, List.set_cons_zero]
  refine wl_nil ?_
  (try simp only [Exit.then, Exit.inBlock, ↓reduceIte, Nat.reduceEqDiff])
  refine hK15 _ _ ?_
  refine wp_cond_false rfl ?_
  refine wp_skip ?_
  (try simp only [Exit.then, Exit.inBlock, ↓reduceIte, Nat.reduceEqDiff])
  refine hK14 _ _ ?_
  refine wp_seq_k (fun K16 hK16 => ?_)
  refine region_wl ?_
  refine do_ rfl (.slice (some ⟨g, 0, none⟩) l.length cap) (ex_move _) ?_
  simp only [Act.put, List.setIfInBounds_toArray, List.set_cons_succ, List.set_cons_zero]
  refine do_ rfl (.int .i64 ((l.length : Nat) : Int)) (ex_len Try.underlying73 rfl) ?_
  simp only [Act.put, List.setIfInBounds_toArray, List.set_cons_succ, List.set_cons_zero]
  refine do_ rfl (.int .i64 ((l.length : Nat) : Int)) (ex_assign _) ?_
  simp only [Act.put, List.setIfInBounds_toArray, List.set_cons_succ, List.set_cons_zero]
  refine wl_nil ?_
  (try simp only [Exit.then, Exit.inBlock, ↓reduceIte, Nat.reduceEqDiff])
  refine hK16 _ _ ?_
  refine wp_seq_k (fun K17 hK17 => ?_)
  refine region_gw F 6 [] (by kernel_rfl) (by kernel_rfl) ?_
  simp only [List.take_succ_cons, List.take_zero]
  refine gw_pure rfl rfl (.slice (some ⟨g, 0, none⟩) l.length cap) (fun w18 hCw18 => pureAt_of (ex_move _)) ?_
  simp only [Act.put, List.setIfInBounds_toArray, List.set_cons_succ, List.set_cons_zero]
  refine gw_pure rfl rfl (.int .i64 ((i : Nat) : Int)) (fun w18 hCw18 => pureAt_of (ex_move _)) ?_
  simp only [Act.put, List.setIfInBounds_toArray, List.set_cons_succ, List.set_cons_zero]
  refine gw_pure rfl rfl (.slice (some ⟨g, 0, none⟩) i cap) (fun w18 hCw18 => pureAt_of (ex_slice (l := 0) (h := i) (sz := 2) Try.underlying73 rfl (sizeof_83 _) (.inl ⟨rfl, rfl⟩) (.inr ⟨_, rfl, rfl⟩) (by omega) (by omega) (slice_zero))) ?_
  simp only [Act.put, List.setIfInBounds_toArray, List.set_cons_succ, List.set_cons_zero]
  refine gw_pure rfl rfl (.slice (some ⟨g, 0, none⟩) l.length cap) (fun w18 hCw18 => pureAt_of (ex_move _)) ?_
  simp only [Act.put, List.setIfInBounds_toArray, List.set_cons_succ, List.set_cons_zero]
  refine gw_pure rfl rfl (.int .i64 (((i + 1) : Nat) : Int)) (fun w18 hCw18 => pureAt_of (ex_move _)) ?_
  simp only [Act.put, List.setIfInBounds_toArray, List.set_cons_succ, List.set_cons_zero]
  refine gw_pure rfl rfl (.slice (if cap = i + 1 then some ⟨g, 0, none⟩ else some ⟨g, (i + 1) * 2, none⟩) (l.length - (i + 1)) (cap - (i + 1))) (fun w18 hCw18 => pureAt_of (ex_slice (l := (i + 1)) (h := l.length) (sz := 2) Try.underlying73 rfl (sizeof_83 _) (.inr ⟨_, rfl, rfl⟩) (.inl ⟨rfl, rfl⟩) (by omega) (by omega) (by rw [show (some (⟨g, 0, none⟩ : Addr)).map (·.add ((i + 1) * 2)) = some ⟨g, (i + 1) * 2, none⟩ from by rw [Option.map_some, Addr.add_mid, Nat.zero_add]]))) ?_
  simp only [Act.put, List.setIfInBounds_toArray, List.set_cons_succ, List.set_cons_zero]
  refine gw_nil ?_
  intro w19 hC21 hF22
  clear hF22
  have S20 := St.tells S3 hC21
  simp only [List.drop_succ_cons, List.drop_zero]
  have S20 : St w0 F0 w19 F (⟨g, c1, 83⟩ :: L0) (M0) := S20
  have hml : ((c1.drop ((i + 1) * 2)).take ((l.length - (i + 1)) * 2)).length = (l.length - (i + 1)) * 2 := by rw [List.length_take, List.length_drop, hcl4]; omega
  have hone := one_mid one hall6 htk5 (i + 1)
  have hsrc := S20.src (i := 0) rfl ((i + 1) * 2) ((l.length - (i + 1)) * 2)
  obtain ⟨ad, had, hsrc2⟩ : ∃ ad : Addr, (if cap = i + 1 then some (⟨g, 0, none⟩ : Addr) else some ⟨g, (i + 1) * 2, none⟩) = some ad ∧ ∀ q u, ((c1.drop ((i + 1) * 2)).take ((l.length - (i + 1)) * 2))[q]? = some u → w19.cell? (ad.add q) = some u := by
    by_cases hcc : cap = i + 1
    · rw [if_pos hcc]
      refine ⟨_, rfl, fun q u hu => ?_⟩
      have hq := (List.getElem?_eq_some_iff.1 hu).1
      rw [hml] at hq
      omega
    · rw [if_neg hcc]
      exact ⟨_, rfl, hsrc⟩
  refine stRoom (k := 2) (i := 0) (n := i) (m := l.length - (i + 1)) (ad := ad) (cp := cap - (i + 1)) (l.length - 1) ((c1.drop ((i + 1) * 2)).take ((l.length - (i + 1)) * 2)) S20 rfl i83 Try.underlying73 hi83 hs83 rfl (show _ = _ from by rw [← had]; rfl) rfl hml hsrc2 hone (by omega) (by omega) (by rw [hml, hcl4]; omega) (fun w23 S24 => ?_)
  simp only [Act.put, List.setIfInBounds_toArray, List.set_cons_succ, List.set_cons_zero]
  have S24 : St w0 F0 w23 F (⟨g, (splice c1 (i * 2) ((c1.drop ((i + 1) * 2)).take ((l.length - (i + 1)) * 2))), 83⟩ :: L0) (M0) := S24
  refine do_ rfl (.slice (some ⟨g, 0, none⟩) (l.length - 1) cap) (ex_assign _) ?_
  simp only [Act.put, List.setIfInBounds_toArray, List.set_cons_succ, List.set_cons_zero]
  refine wl_nil ?_
  (try simp only [Exit.then, Exit.inBlock, ↓reduceIte, Nat.reduceEqDiff])
  refine hK17 _ _ ?_
  refine wp_seq_k (fun K25 hK25 => ?_)
  refine region_wl ?_
  refine do_ rfl (.slice (some ⟨g, 0, none⟩) (l.length - 1) cap) (ex_move _) ?_
  simp only [Act.put, List.setIfInBounds_toArray, List.set_cons_succ, List.set_cons_zero]
  refine do_ rfl (.slice (some ⟨g, 0, none⟩) (l.length - 1) cap) (ex_move _) ?_
  simp only [Act.put, List.setIfInBounds_toArray, List.set_cons_succ, List.set_cons_zero]
  refine do_ rfl (.int .i64 (((l.length - 1) : Nat) : Int)) (ex_len Try.underlying73 rfl) ?_
  simp only [Act.put, List.setIfInBounds_toArray, List.set_cons_succ, List.set_cons_zero]
  refine do_ rfl (.int .i64 ((l.length : Nat) : Int)) (ex_move _) ?_
  simp only [Act.put, List.setIfInBounds_toArray, List.set_cons_succ, List.set_cons_zero]
  refine do_ rfl (.slice (some ⟨g, (l.length - 1) * 2, none⟩) 1 (cap - (l.length - 1))) (ex_slice (l := (l.length - 1)) (h := l.length) (sz := 2) Try.underlying73 rfl (sizeof_83 _) (.inr ⟨_, rfl, rfl⟩) (.inr ⟨_, rfl, rfl⟩) (by omega) (by omega) (slice_at (by omega) (by omega) rfl (by omega))) ?_
  simp only [Act.put, List.setIfInBounds_toArray, List.set_cons_succ, List.set_cons_zero]
  refine stClear (i := 0) (n := 1) (.agg #[(.slice none 0 0), (.slice none 0 0)]) [(.slice none 0 0), (.slice none 0 0)] S24 rfl Try.underlying73 (fun w => zero_83 w) (by kernel_rfl) rfl (by decide) rfl (by rw [splice_len (by rw [hml, hcl4]; omega), hcl4]; show _ + 2 ≤ _; omega) (by intro u hu; simp only [List.mem_cons, List.not_mem_nil, or_false] at hu; rcases hu with rfl | rfl <;> rfl) (fun w26 S27 => ?_)
  simp only [Act.put, List.setIfInBounds_toArray, List.set_cons_succ, List.set_cons_zero]
  have S27 : St w0 F0 w26 F (⟨g, (splice (splice c1 (i * 2) ((c1.drop ((i + 1) * 2)).take ((l.length - (i + 1)) * 2))) ((l.length - 1) * 2) [(.slice none 0 0), (.slice none 0 0)]), 83⟩ :: L0) (M0) := S27
  refine wl_nil ?_
  (try simp only [Exit.then, Exit.inBlock, ↓reduceIte, Nat.reduceEqDiff])
  refine hK25 _ _ ?_
  refine wp_seq_k (fun K28 hK28 => ?_)
  refine region_wl ?_
  refine do_ rfl (.slice (some ⟨g, 0, none⟩) (l.length - 1) cap) (ex_move _) ?_
  simp only [Act.put, List.setIfInBounds_toArray, List.set_cons_succ, List.set_cons_zero]
  refine do_ rfl (.slice (some ⟨g, 0, none⟩) (l.length - 1) cap) (ex_assign _) ?_
  simp only [Act.put, List.setIfInBounds_toArray, List.set_cons_succ, List.set_cons_zero]
  refine wl_nil ?_
  (try simp only [Exit.then, Exit.inBlock, ↓reduceIte, Nat.reduceEqDiff])
  refine hK28 _ _ ?_
  refine wp_ret ?_
  (try simp only [Exit.then, Exit.inBlock, ↓reduceIte, Nat.reduceEqDiff])
  refine bodyPost_ret (v := (.slice (some ⟨g, 0, none⟩) (l.length - 1) cap)) ?_ rfl ?_
  · exact res_t rfl rfl
  · have hll : (l.take i ++ l.drop (i + 1)).length = l.length - 1 := by rw [List.length_append, List.length_take, List.length_drop]; omega
    have hrow := St.blkRow (k := 2) (base := w0.heap.size) (R := R) (hR := hR) (l := l.take i ++ l.drop (i + 1)) (cap := cap) S27 (el := el2.take i ++ el2.drop (i + 1)) (by rw [hll]; exact cells_del (zs := [(.slice none 0 0), (.slice none 0 0)]) hlen7 htk5 hi (by rw [hcl4]; omega) rfl) (allR_delete hall6 i) (len_delete hlen7 i) (by rw [splice_len (by rw [splice_len (by rw [hml, hcl4]; omega), hcl4]; show _ + 2 ≤ _; omega), splice_len (by rw [hml, hcl4]; omega), hcl4]) (by omega) (by unfold maxLen; omega) (S27.blk _ (List.mem_cons_self ..)).2.2
    rw [hll] at hrow
    exact ⟨_, rfl, hrow⟩
theorem deleteTenant {i : Nat} {w0 w : World} {F0 F : Fz} {L0 : List Blk} {M0 : List RowP} {α : Type} {R : Fz → List Value → α → Prop} {hR : ∀ F F' x p, Le F F' → R F x p → R F' x p} {v : Value} {l : List α} (one : ∀ F cs p, R F cs p → ∀ u ∈ cs, u.oneCell' = true)
    (S : St w0 F0 w F L0 (ownP 2 R hR 83 w0.heap.size v l :: M0)) (hl : l.length ≤ 100000) (hi : i < l.length) :
    Calls Try.prog 125 #[v, .int .i64 (i : Nat), .int .i64 ((i + 1 : Nat) : Int)] w fun e w' => ∃ v', e = .returned v' ∧ St w0 F0 w' F L0 (ownP 2 R hR 83 w0.heap.size v' (l.take i ++ l.drop (i + 1)) :: M0) := by
  obtain ⟨g, cap, rfl, _⟩ := (S.own (i := 0) rfl).form (by omega)
  exact deleteMidTenant one S hl hi
end Go.Proofs.Yteefnnnbbmbmcaa
