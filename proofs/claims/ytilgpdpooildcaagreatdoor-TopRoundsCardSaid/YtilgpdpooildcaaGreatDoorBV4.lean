/- Rules, plain laws and walks: T4a T4b T4c P12 K1 K2 K3 F1 F2 -/
import Derived.Test.YtilgpdpooildcaaGreatDoorBV3
import Derived.Test.YtilgpdpooildcaaGreatDoorBV2
namespace Go.Proofs.YtilgpdpooildcaaGreatDoor
set_option maxHeartbeats 8000000
open Go.RowKit
set_option maxRecDepth 100000
set_option linter.unusedVariables false
set_option linter.unusedSimpArgs false
theorem cap_slice {w : World} {g n : Nat} {c : List Value} {T : TypeId} (h : w.heap[n]? = some (.cells c.toArray T (0, 0))) : w.shape? n = some (T, c.length) ∧ w.frozen? ⟨n, g, none⟩ = false := by
 simp [World.shape?, World.frozen?, h]
theorem overlapsPair {w : World} {vn g o la ca lb cb : Nat} {c1 c2 : List Value} {T1 T2 : TypeId} (h1 : w.heap[vn]? = some (.cells c1.toArray T1 (0, 0))) (h2 : w.heap[g]? = some (.cells c2.toArray T2 (0, 0))) (hc : c2.length ≠ 0) (hne : vn ≠ g) :
    (callFunc 73 #[.slice (some ⟨vn, 0, none⟩) la ca, .slice (some ⟨g, o, none⟩) lb cb]).run Tryz.prog w = .ok (.value (.bool false)) w := by
 rw [run_callFunc_extern Tryz.func73 (by kernel_rfl) (by kernel_rfl) (by kernel_rfl) (e := Extern.SlicesOverlaps.overlaps #[47, 47] #[4]) (by kernel_rfl),
  Lib.run_overlaps_apart w 47 4 50 Tryz.underlying47 2 (fun w => sizeof_50 w) ⟨vn, 0, none⟩ ⟨g, o, none⟩ la ca lb cb hne T1 T2 c1.length c2.length (cap_slice (g := 0) h1).1 (cap_slice (g := 0) h2).1 hc (cap_slice h1).2 (cap_slice h1).2]
 rfl
theorem insertEndPair {w0 w : World} {F0 F : Fz} {L0 : List Blk} {M0 : List RowP} {α : Type} {R : Fz → List Value → α → Prop} {hR : ∀ F F' x p, Le F F' → R F x p → R F' x p} {v : Value} {l : List α} {p : α} {vn : Nat} {cs : List Value} (one : ∀ F cs p, R F cs p → ∀ u ∈ cs, u.oneCell' = true)
    (S : St w0 F0 w F (⟨vn, cs, 50⟩ :: L0) (ownP 2 R hR 50 w0.heap.size v l :: M0)) (hcs : cs.length = 2) (hp : R F cs p) (hl : l.length ≤ 100000) :
    Calls Tryz.prog 65 #[v, .int .i64 (l.length : Nat), .slice (some ⟨vn, 0, none⟩) 1 1] w fun e w' => ∃ v', e = .returned v' ∧ St w0 F0 w' F L0 (ownP 2 R hR 50 w0.heap.size v' (l ++ [p]) :: M0) := by
 obtain ⟨a, c, rfl, hc1, hc2⟩ := (S.own (i := 0) rfl).shape
 unfold maxLen at hc2
 obtain ⟨i50, hi50, hz50, hs50, hb50⟩ := info_parts info_50
 go_enter Tryz.func65, Tryz.ntmps65
 refine sk fun K1 hK1 => ?_
 refine dy ?_
 refine wn hK1 ?_
 refine sk fun K2 hK2 => ?_
 iterate 2 refine dx ?_
 refine dr (.slice (if c = l.length then a else a.map (·.add (l.length * 2))) (l.length - l.length) (c - l.length)) (ex_slice (l := l.length) (h := l.length) (sz := 2) Tryz.underlying47 rfl (sizeof_50 _) (.inr ⟨_, rfl, rfl⟩) (.inl ⟨rfl, rfl⟩) (by omega) (by omega) (rfl)) ?_
 simp only [pq]
 refine wn hK2 ?_
 refine sk fun K3 hK3 => ?_
 refine dx ?_
 refine dn Tryz.underlying47 ?_
 refine dy ?_
 simp only [pq]
 refine wn hK3 ?_
 refine wp_seq_k (fun K4 hK4 => ?_)
 refine sk fun K5 hK5 => ?_
 refine dx ?_
 refine dr bF (ex_eql (b := false) rfl rfl (by decide)) ?_
 refine wn hK5 ?_
 refine wp_cond_false rfl ?_
 refine wp_skip ?_
 refine hK4 _ _ ?_
 refine sk fun K6 hK6 => ?_
 refine dx ?_
 refine dn Tryz.underlying47 ?_
 refine dy ?_
 simp only [pq]
 refine wn hK6 ?_
 refine wp_seq_k (fun K7 hK7 => ?_)
 refine sk fun K8 hK8 => ?_
 iterate 2 refine dx ?_
 refine dr bT (ex_eql (m := ((l.length : Nat) : Int)) (n := ((l.length : Nat) : Int)) (b := true) rfl rfl (beq_iff_eq.2 (rfl))) ?_
 simp only [pq]
 refine wn hK8 ?_
 refine wp_cond_true rfl ?_
 refine sk fun K9 hK9 => ?_
 iterate 2 refine dx ?_
 refine stPush (i := 0) (r := 0) (p := p) (cs := cs) S rfl i50 (.agg #[Zn, Zn]) 48 Tryz.underlying47 hi50 hz50 hs50 hb50 rfl (by decide) rfl rfl rfl rfl hcs (one _ _ _ hp) (hp) (Nat.le_refl _) S.gr.below.size (by unfold maxLen; omega) (by omega) ?_
 intro v10 w11 S12 hn13
 simp only [pq]
 have S12 := St.drop S12 (.cons _ (List.Sublist.refl _))
 refine dy ?_
 refine wn hK9 ?_
 refine wp_ret ?_
 try simp only [xt]
 refine bR (res_t rfl (gD rfl)) ?_
 exact ⟨_, rfl, S12⟩
theorem insertMidPair {g cap i : Nat} {w0 w : World} {F0 F : Fz} {L0 : List Blk} {M0 : List RowP} {α : Type} {R : Fz → List Value → α → Prop} {hR : ∀ F F' x p, Le F F' → R F x p → R F' x p} {l : List α} {p : α} {vn : Nat} {cs : List Value} (one : ∀ F cs p, R F cs p → ∀ u ∈ cs, u.oneCell' = true)
    (S : St w0 F0 w F (⟨vn, cs, 50⟩ :: L0) (ownP 2 R hR 50 w0.heap.size (.slice (some ⟨g, 0, none⟩) l.length cap) l :: M0)) (hcs : cs.length = 2) (hp : R F cs p) (hl : l.length ≤ 100000) (hi : i < l.length) :
    Calls Tryz.prog 65 #[.slice (some ⟨g, 0, none⟩) l.length cap, .int .i64 (i : Nat), .slice (some ⟨vn, 0, none⟩) 1 1] w fun e w' => ∃ v', e = .returned v' ∧ St w0 F0 w' F L0 (ownP 2 R hR 50 w0.heap.size v' (l.take i ++ p :: l.drop i) :: M0) := by
 obtain ⟨i50, hi50, hz50, hs50, hb50⟩ := info_parts info_50
 have hvg : vn ≠ g := fun e => S.rb _ (List.mem_cons_self ..) _ (List.mem_cons_self ..) (congrArg some e.symm)
 go_enter Tryz.func65, Tryz.ntmps65
 obtain ⟨c1, el2, S3, hn9, hcp10, hmx11, hcl4, htk5, hall6, hlen7, hbg8⟩ := St.rowBlk (r := 0) S rfl
 unfold maxLen at hmx11
 refine sk fun K12 hK12 => ?_
 refine dy ?_
 refine wn hK12 ?_
 refine sk fun K13 hK13 => ?_
 iterate 2 refine dx ?_
 refine dr (.slice (some ⟨g, i * 2, none⟩) (l.length - i) (cap - i)) (ex_slice (l := i) (h := l.length) (sz := 2) Tryz.underlying47 rfl (sizeof_50 _) (.inr ⟨_, rfl, rfl⟩) (.inl ⟨rfl, rfl⟩) (by omega) (by omega) (slice_at (by omega) rfl rfl (by omega))) ?_
 simp only [pq]
 refine wn hK13 ?_
 refine sk fun K14 hK14 => ?_
 refine dx ?_
 refine dn Tryz.underlying47 ?_
 refine dy ?_
 simp only [pq]
 refine wn hK14 ?_
 refine wp_seq_k (fun K15 hK15 => ?_)
 refine sk fun K16 hK16 => ?_
 refine dx ?_
 refine dr bF (ex_eql (b := false) rfl rfl (by decide)) ?_
 refine wn hK16 ?_
 refine wp_cond_false rfl ?_
 refine wp_skip ?_
 refine hK15 _ _ ?_
 refine sk fun K17 hK17 => ?_
 refine dx ?_
 refine dn Tryz.underlying47 ?_
 refine dy ?_
 simp only [pq]
 refine wn hK17 ?_
 refine wp_seq_k (fun K18 hK18 => ?_)
 refine sk fun K19 hK19 => ?_
 iterate 2 refine dx ?_
 refine eqlF ?_
 simp only [pq]
 refine wn hK19 ?_
 refine wp_cond_false rfl ?_
 refine wp_skip ?_
 refine hK18 _ _ ?_
 refine wp_seq_k (fun K20 hK20 => ?_)
 refine sk fun K21 hK21 => ?_
 iterate 2 refine dx ?_
 refine dAdd (l.length + 1) ?_
 simp only [pq]
 refine dx ?_
 refine dr (nI cap) (ex_cap Tryz.underlying47 rfl) ?_
 simp only [pq]
 by_cases hc31 : cap < (l.length + 1)
 refine gtrT ?_
 refine wn hK21 ?_
 refine wp_cond_true rfl ?_
 refine sk fun K22 hK22 => ?_
 iterate 2 refine dx ?_
 refine dr (.slice (aA g 0) i cap) (ex_slice (l := 0) (h := i) (sz := 2) Tryz.underlying47 rfl (sizeof_50 _) (.inl ⟨rfl, rfl⟩) (.inr ⟨_, rfl, rfl⟩) (by omega) (by omega) (slice_zero)) ?_
 simp only [pq]
 iterate 2 refine dx ?_
 refine dAdd (l.length + 1) ?_
 simp only [pq]
 refine dx ?_
 refine dr (nI ((l.length + 1) - i)) (ex_sub (m := (((l.length + 1) : Nat) : Int)) (n := ((i : Nat) : Int)) (r := ((((l.length + 1) - i) : Nat) : Int)) rfl rfl (by omega) (by omega) (by omega)) ?_
 refine stGrow (k := 2) (n := i) (m := l.length + 1 - i) (l.length + 1) (c1.take (i * 2)) S3 rfl i50 (.agg #[Zn, Zn]) 48 Tryz.underlying47 Tryz.underlying3 hi50 hz50 hs50 hb50 rfl (by decide) rfl rfl (by omega) (by rw [List.length_take]; omega) (S3.srcT (i := 0) rfl _) (by omega) (by omega) (by unfold maxLen; omega) (by omega) ?_
 intro g25 cp26 nw27 mo28 w23 h29 h30 h31 h32 S24
 unfold maxLen at h30
 refine dy ?_
 simp only [pq]
 refine wn hK22 ?_
 refine sk fun K33 hK33 => ?_
 iterate 2 refine dx ?_
 refine dr (.slice (some ⟨g25, i * 2, none⟩) ((l.length + 1) - i) (cp26 - i)) (ex_slice (l := i) (h := (l.length + 1)) (sz := 2) Tryz.underlying47 rfl (sizeof_50 _) (.inr ⟨_, rfl, rfl⟩) (.inl ⟨rfl, rfl⟩) (by omega) (by omega) (slice_at (by omega) rfl rfl (by omega))) ?_
 simp only [pq]
 refine dx ?_
 refine stCopy (i := 0) (j := i * 2) 1 cs S24 rfl Tryz.underlying47 size_50 rfl rfl rfl (Nat.min_eq_left (by omega)) (hcs) (by rw [h32, hcs]; omega) (S24.src0 (i := 2) rfl) (one _ _ _ hp) (fun w34 S35 => ?_)
 refine wn hK33 ?_
 refine wp_seq_k (fun K36 hK36 => ?_)
 refine region_gw F 8 [] (by kernel_rfl) (by kernel_rfl) ?_
 simp only [List.take_succ_cons, List.take_zero]
 iterate 2 refine gm ?_
 simp only [pq]
 refine gm ?_
 refine gv (nI (i + 1)) (fun _ _ => ex_add (m := ((i : Nat) : Int)) (n := (1 : Int)) (r := (((i + 1) : Nat) : Int)) rfl rfl (by omega) (by omega) (by omega)) ?_
 refine gv (.slice (some ⟨g25, (i + 1) * 2, none⟩) ((l.length + 1) - (i + 1)) (cp26 - (i + 1))) (fun _ _ => ex_slice (l := (i + 1)) (h := (l.length + 1)) (sz := 2) Tryz.underlying47 rfl (sizeof_50 _) (.inr ⟨_, rfl, rfl⟩) (.inl ⟨rfl, rfl⟩) (by omega) (by omega) (slice_at (by omega) rfl rfl (by omega))) ?_
 simp only [pq]
 iterate 2 refine gm ?_
 refine gv (.slice (some ⟨g, i * 2, none⟩) (l.length - i) (cap - i)) (fun _ _ => ex_slice (l := i) (h := l.length) (sz := 2) Tryz.underlying47 rfl (sizeof_50 _) (.inr ⟨_, rfl, rfl⟩) (.inl ⟨rfl, rfl⟩) (by omega) (by omega) (slice_at (by omega) rfl rfl (by omega))) ?_
 simp only [pq]
 refine gw_nil ?_
 intro w38 hC40 hF41
 clear hF41
 have S39 := St.tells S35 hC40
 simp only [List.drop_succ_cons, List.drop_zero]
 have hml : ((c1.drop (i * 2)).take ((l.length - i) * 2)).length = (l.length - i) * 2 := by rw [List.length_take, List.length_drop, hcl4]; omega
 refine stCopy (i := 0) (j := (i + 1) * 2) (l.length - i) ((c1.drop (i * 2)).take ((l.length - i) * 2)) S39 rfl Tryz.underlying47 size_50 rfl rfl rfl (Nat.min_eq_left (by omega)) (hml) (by rw [splice_len (by rw [h32, hcs]; omega), h32, hml]; omega) (S39.src (i := 1) rfl _ _) (one_mid one hall6 htk5 i) (fun w42 S43 => ?_)
 simp only [pq]
 refine wl_nil (hK36 _ _ ?_)
 refine sk fun K44 hK44 => ?_
 refine dx ?_
 refine dy ?_
 refine wn hK44 ?_
 refine wp_ret ?_
 try simp only [xt]
 refine bR (res_t rfl (gD rfl)) ?_
 have hdrop := St.drop S43 (.cons_cons _ (.cons _ (.cons _ (List.Sublist.refl _))))
 have hll : (l.take i ++ p :: l.drop i).length = l.length + 1 := by rw [List.length_append, List.length_cons, List.length_take, List.length_drop]; omega
 have hrow := St.blkRow (k := 2) (base := w0.heap.size) (R := R) (hR := hR) (l := l.take i ++ p :: l.drop i) (cap := cp26) hdrop (el := el2.take i ++ cs :: el2.drop i) (by rw [hll]; exact (cells_grow hlen7 htk5 (by omega) (by rw [hcl4]; omega) h31 hcs)) (allR_insert hall6 i hp) (len_insert hlen7 i hcs) (by rw [splice_len (by rw [splice_len (by rw [h32, hcs]; omega), h32, hml]; omega), splice_len (by rw [h32, hcs]; omega), h32]) (by omega) (by unfold maxLen; omega) (hdrop.blk _ (List.mem_cons_self ..)).2.2
 rw [hll] at hrow
 exact ⟨_, rfl, hrow⟩
 refine gtrF ?_
 simp only [pq]
 refine wn hK21 ?_
 refine wp_cond_false rfl ?_
 refine wp_skip ?_
 refine hK20 _ _ ?_
 refine sk fun K45 hK45 => ?_
 iterate 3 refine dx ?_
 simp only [pq]
 refine dAdd (l.length + 1) ?_
 refine dr (.slice (aA g 0) (l.length + 1) cap) (ex_slice (l := 0) (h := (l.length + 1)) (sz := 2) Tryz.underlying47 rfl (sizeof_50 _) (.inl ⟨rfl, rfl⟩) (.inr ⟨_, rfl, rfl⟩) (by omega) (by omega) (slice_zero)) ?_
 refine dy ?_
 simp only [pq]
 refine wn hK45 ?_
 refine wp_seq_k (fun K46 hK46 => ?_)
 refine sk fun K47 hK47 => ?_
 iterate 3 refine dx ?_
 simp only [pq]
 refine dx ?_
 refine dAdd (i + 1) ?_
 refine dr (.slice (some ⟨g, (i + 1) * 2, none⟩) ((l.length + 1) - (i + 1)) (cap - (i + 1))) (ex_slice (l := (i + 1)) (h := (l.length + 1)) (sz := 2) Tryz.underlying47 rfl (sizeof_50 _) (.inr ⟨_, rfl, rfl⟩) (.inl ⟨rfl, rfl⟩) (by omega) (by omega) (slice_at (by omega) rfl rfl (by omega))) ?_
 simp only [pq]
 refine dr bF (ex_fnv (vs := #[(.slice (aA vn 0) 1 1), (.slice (some ⟨g, (i + 1) * 2, none⟩) ((l.length + 1) - (i + 1)) (cap - (i + 1)))]) (map2 rfl rfl) rfl (overlapsPair (S3.blk ⟨vn, cs, 50⟩ (by simp)).1 (S3.blk ⟨g, c1, 50⟩ (by simp)).1 (by rw [hcl4]; omega) hvg)) ?_
 refine dt ?_
 refine wn hK47 ?_
 refine wp_cond_true rfl ?_
 refine wp_seq_k (fun K48 hK48 => ?_)
 refine region_gw F 8 [] (by kernel_rfl) (by kernel_rfl) ?_
 simp only [List.take_succ_cons, List.take_zero]
 refine gm ?_
 simp only [pq]
 iterate 2 refine gm ?_
 refine gv (nI (i + 1)) (fun _ _ => ex_add (m := ((i : Nat) : Int)) (n := (1 : Int)) (r := (((i + 1) : Nat) : Int)) rfl rfl (by omega) (by omega) (by omega)) ?_
 simp only [pq]
 refine gv (.slice (some ⟨g, (i + 1) * 2, none⟩) ((l.length + 1) - (i + 1)) (cap - (i + 1))) (fun _ _ => ex_slice (l := (i + 1)) (h := (l.length + 1)) (sz := 2) Tryz.underlying47 rfl (sizeof_50 _) (.inr ⟨_, rfl, rfl⟩) (.inl ⟨rfl, rfl⟩) (by omega) (by omega) (slice_at (by omega) rfl rfl (by omega))) ?_
 iterate 2 refine gm ?_
 simp only [pq]
 refine gv (.slice (some ⟨g, i * 2, none⟩) ((l.length + 1) - i) (cap - i)) (fun _ _ => ex_slice (l := i) (h := (l.length + 1)) (sz := 2) Tryz.underlying47 rfl (sizeof_50 _) (.inr ⟨_, rfl, rfl⟩) (.inl ⟨rfl, rfl⟩) (by omega) (by omega) (slice_at (by omega) rfl rfl (by omega))) ?_
 refine gw_nil ?_
 intro w50 hC52 hF53
 clear hF53
 have S51 := St.tells S3 hC52
 simp only [List.drop_succ_cons, List.drop_zero]
 have hml : ((c1.drop (i * 2)).take ((l.length - i) * 2)).length = (l.length - i) * 2 := by rw [List.length_take, List.length_drop, hcl4]; omega
 refine stCopy (i := 0) (j := (i + 1) * 2) (l.length - i) ((c1.drop (i * 2)).take ((l.length - i) * 2)) S51 rfl Tryz.underlying47 size_50 rfl rfl rfl ((Nat.min_eq_right (by omega)).trans (by omega)) (hml) (by rw [hcl4, hml]; omega) (S51.src (i := 0) rfl _ _) (one_mid one hall6 htk5 i) (fun w54 S55 => ?_)
 simp only [pq]
 refine wl_nil (hK48 _ _ ?_)
 refine sk fun K56 hK56 => ?_
 iterate 2 refine dx ?_
 refine dr (.slice (some ⟨g, i * 2, none⟩) ((l.length + 1) - i) (cap - i)) (ex_slice (l := i) (h := (l.length + 1)) (sz := 2) Tryz.underlying47 rfl (sizeof_50 _) (.inr ⟨_, rfl, rfl⟩) (.inl ⟨rfl, rfl⟩) (by omega) (by omega) (slice_at (by omega) rfl rfl (by omega))) ?_
 simp only [pq]
 refine dx ?_
 refine stCopy (i := 0) (j := i * 2) 1 cs S55 rfl Tryz.underlying47 size_50 rfl rfl rfl (Nat.min_eq_left (by omega)) (hcs) (by rw [splice_len (by rw [hcl4, hml]; omega), hcl4, hcs]; omega) (S55.src0 (i := 1) rfl) (one _ _ _ hp) (fun w57 S58 => ?_)
 refine wn hK56 ?_
 refine sk fun K59 hK59 => ?_
 refine dx ?_
 refine dy ?_
 simp only [pq]
 refine wn hK59 ?_
 refine wp_ret ?_
 try simp only [xt]
 refine bR (res_t rfl (gD rfl)) ?_
 have hdrop := St.drop S58 (.cons_cons _ (.cons _ (List.Sublist.refl _)))
 have hll : (l.take i ++ p :: l.drop i).length = l.length + 1 := by rw [List.length_append, List.length_cons, List.length_take, List.length_drop]; omega
 have hrow := St.blkRow (k := 2) (base := w0.heap.size) (R := R) (hR := hR) (l := l.take i ++ p :: l.drop i) (cap := cap) hdrop (el := el2.take i ++ cs :: el2.drop i) (by rw [hll]; exact (cells_ins hlen7 htk5 (by omega) (by rw [hcl4]; omega) hcs)) (allR_insert hall6 i hp) (len_insert hlen7 i hcs) (by rw [splice_len (by rw [splice_len (by rw [hcl4, hml]; omega), hcl4, hcs]; omega), splice_len (by rw [hcl4, hml]; omega), hcl4]) (by omega) (by unfold maxLen; omega) (hdrop.blk _ (List.mem_cons_self ..)).2.2
 rw [hll] at hrow
 exact ⟨_, rfl, hrow⟩
theorem insertPair {i : Nat} {w0 w : World} {F0 F : Fz} {L0 : List Blk} {M0 : List RowP} {α : Type} {R : Fz → List Value → α → Prop} {hR : ∀ F F' x p, Le F F' → R F x p → R F' x p} {v : Value} {l : List α} {p : α} {vn : Nat} {cs : List Value} (one : ∀ F cs p, R F cs p → ∀ u ∈ cs, u.oneCell' = true)
    (S : St w0 F0 w F (⟨vn, cs, 50⟩ :: L0) (ownP 2 R hR 50 w0.heap.size v l :: M0)) (hcs : cs.length = 2) (hp : R F cs p) (hl : l.length ≤ 100000) (hi : i ≤ l.length) :
    Calls Tryz.prog 65 #[v, .int .i64 (i : Nat), .slice (some ⟨vn, 0, none⟩) 1 1] w fun e w' => ∃ v', e = .returned v' ∧ St w0 F0 w' F L0 (ownP 2 R hR 50 w0.heap.size v' (l.take i ++ p :: l.drop i) :: M0) := by
 rcases Nat.lt_or_ge i l.length with h | h
 ·obtain ⟨g, cap, rfl, _⟩ := (S.own (i := 0) rfl).form (by omega)
  exact insertMidPair one S hcs hp hl h
 ·obtain rfl : i = l.length := by omega
  have := insertEndPair one S hcs hp hl
  rw [List.take_length, List.drop_length]
  exact this
theorem deleteMidPair {g cap i : Nat} {w0 w : World} {F0 F : Fz} {L0 : List Blk} {M0 : List RowP} {α : Type} {R : Fz → List Value → α → Prop} {hR : ∀ F F' x p, Le F F' → R F x p → R F' x p} {l : List α} (one : ∀ F cs p, R F cs p → ∀ u ∈ cs, u.oneCell' = true)
    (S : St w0 F0 w F L0 (ownP 2 R hR 50 w0.heap.size (.slice (some ⟨g, 0, none⟩) l.length cap) l :: M0)) (hl : l.length ≤ 100000) (hi : i < l.length) :
    Calls Tryz.prog 63 #[.slice (some ⟨g, 0, none⟩) l.length cap, .int .i64 (i : Nat), .int .i64 ((i + 1 : Nat) : Int)] w fun e w' => ∃ v', e = .returned v' ∧ St w0 F0 w' F L0 (ownP 2 R hR 50 w0.heap.size v' (l.take i ++ l.drop (i + 1)) :: M0) := by
 obtain ⟨i50, hi50, hz50, hs50, hb50⟩ := info_parts info_50
 go_enter Tryz.func63, Tryz.ntmps63
 obtain ⟨c1, el2, S3, hn9, hcp10, hmx11, hcl4, htk5, hall6, hlen7, hbg8⟩ := St.rowBlk (r := 0) S rfl
 unfold maxLen at hmx11
 refine sk fun K12 hK12 => ?_
 refine dy ?_
 refine wn hK12 ?_
 refine sk fun K13 hK13 => ?_
 iterate 3 refine dx ?_
 simp only [pq]
 refine dx ?_
 refine dn Tryz.underlying47 ?_
 refine dr (.slice (if l.length = i then ((aA g 0) : Option Addr) else ((aA g 0) : Option Addr).map (fun q => Addr.add q (i * 2))) ((i + 1) - i) (l.length - i)) (ex_slice3 (l := i) (h := (i + 1)) (m := l.length) (sz := 2) Tryz.underlying47 rfl (sizeof_50 _) rfl rfl rfl (by omega) (by omega) (by omega) rfl) ?_
 simp only [pq]
 refine wn hK13 ?_
 refine wp_seq_k (fun K14 hK14 => ?_)
 refine sk fun K15 hK15 => ?_
 iterate 2 refine dx ?_
 refine eqlF ?_
 simp only [pq]
 refine wn hK15 ?_
 refine wp_cond_false rfl ?_
 refine wp_skip ?_
 refine hK14 _ _ ?_
 refine sk fun K16 hK16 => ?_
 refine dx ?_
 refine dn Tryz.underlying47 ?_
 refine dy ?_
 simp only [pq]
 refine wn hK16 ?_
 refine wp_seq_k (fun K17 hK17 => ?_)
 refine region_gw F 6 [] (by kernel_rfl) (by kernel_rfl) ?_
 simp only [List.take_succ_cons, List.take_zero]
 iterate 2 refine gm ?_
 refine gv (.slice (aA g 0) i cap) (fun _ _ => ex_slice (l := 0) (h := i) (sz := 2) Tryz.underlying47 rfl (sizeof_50 _) (.inl ⟨rfl, rfl⟩) (.inr ⟨_, rfl, rfl⟩) (by omega) (by omega) (slice_zero)) ?_
 simp only [pq]
 iterate 2 refine gm ?_
 refine gv (.slice (if cap = i + 1 then some ⟨g, 0, none⟩ else some ⟨g, (i + 1) * 2, none⟩) (l.length - (i + 1)) (cap - (i + 1))) (fun _ _ => ex_slice (l := (i + 1)) (h := l.length) (sz := 2) Tryz.underlying47 rfl (sizeof_50 _) (.inr ⟨_, rfl, rfl⟩) (.inl ⟨rfl, rfl⟩) (by omega) (by omega) (by rw [show (some (⟨g, 0, none⟩ : Addr)).map (·.add ((i + 1) * 2)) = some ⟨g, (i + 1) * 2, none⟩ from by rw [Option.map_some, Addr.add_mid, Nat.zero_add]])) ?_
 simp only [pq]
 refine gw_nil ?_
 intro w19 hC21 hF22
 clear hF22
 have S20 := St.tells S3 hC21
 simp only [List.drop_succ_cons, List.drop_zero]
 have hml : ((c1.drop ((i + 1) * 2)).take ((l.length - (i + 1)) * 2)).length = (l.length - (i + 1)) * 2 := by rw [List.length_take, List.length_drop, hcl4]; omega
 have hone := one_mid one hall6 htk5 (i + 1)
 have hsrc := S20.src (i := 0) rfl ((i + 1) * 2) ((l.length - (i + 1)) * 2)
 obtain ⟨ad, had, hsrc2⟩ : ∃ ad : Addr, (if cap = i + 1 then some (⟨g, 0, none⟩ : Addr) else some ⟨g, (i + 1) * 2, none⟩) = some ad ∧ ∀ q u, ((c1.drop ((i + 1) * 2)).take ((l.length - (i + 1)) * 2))[q]? = some u → w19.cell? (ad.add q) = some u := by
  by_cases hcc : cap = i + 1
  rw [if_pos hcc]
  refine ⟨_, rfl, fun q u hu => ?_⟩
  have hq := (List.getElem?_eq_some_iff.1 hu).1
  rw [hml] at hq
  omega
  rw [if_neg hcc]
  exact ⟨_, rfl, hsrc⟩
 refine stRoom (k := 2) (i := 0) (n := i) (m := l.length - (i + 1)) (ad := ad) (cp := cap - (i + 1)) (l.length - 1) ((c1.drop ((i + 1) * 2)).take ((l.length - (i + 1)) * 2)) S20 rfl i50 Tryz.underlying47 hi50 hs50 rfl (show _ = _ from by rw [← had]; rfl) rfl hml hsrc2 hone (by omega) (by omega) (by rw [hml, hcl4]; omega) (fun w23 S24 => ?_)
 simp only [pq]
 refine dy ?_
 refine wl_nil (hK17 _ _ ?_)
 refine sk fun K25 hK25 => ?_
 iterate 2 refine dx ?_
 refine dn Tryz.underlying47 ?_
 simp only [pq]
 refine dx ?_
 refine dr (.slice (some ⟨g, (l.length - 1) * 2, none⟩) 1 (cap - (l.length - 1))) (ex_slice (l := (l.length - 1)) (h := l.length) (sz := 2) Tryz.underlying47 rfl (sizeof_50 _) (.inr ⟨_, rfl, rfl⟩) (.inr ⟨_, rfl, rfl⟩) (by omega) (by omega) (slice_at (by omega) (by omega) rfl (by omega))) ?_
 refine stClear (i := 0) (n := 1) (.agg #[Zn, Zn]) [Zn, Zn] S24 rfl Tryz.underlying47 (fun w => zero_50 w) (by kernel_rfl) rfl (by decide) rfl (by rw [splice_len (by rw [hml, hcl4]; omega), hcl4]; show _ + 2 ≤ _; omega) (by intro u hu; simp only [List.mem_cons, List.not_mem_nil, or_false] at hu; rcases hu with rfl | rfl <;> rfl) (fun w26 S27 => ?_)
 refine wn hK25 ?_
 refine sk fun K28 hK28 => ?_
 refine dx ?_
 refine dy ?_
 simp only [pq]
 refine wn hK28 ?_
 refine wp_ret ?_
 try simp only [xt]
 refine bR (res_t rfl (gD rfl)) ?_
 have hll : (l.take i ++ l.drop (i + 1)).length = l.length - 1 := by rw [List.length_append, List.length_take, List.length_drop]; omega
 have hrow := St.blkRow (k := 2) (base := w0.heap.size) (R := R) (hR := hR) (l := l.take i ++ l.drop (i + 1)) (cap := cap) S27 (el := el2.take i ++ el2.drop (i + 1)) (by rw [hll]; exact cells_del (zs := [(.slice none 0 0), (.slice none 0 0)]) hlen7 htk5 hi (by rw [hcl4]; omega) rfl) (allR_delete hall6 i) (len_delete hlen7 i) (by rw [splice_len (by rw [splice_len (by rw [hml, hcl4]; omega), hcl4]; show _ + 2 ≤ _; omega), splice_len (by rw [hml, hcl4]; omega), hcl4]) (by omega) (by unfold maxLen; omega) (S27.blk _ (List.mem_cons_self ..)).2.2
 rw [hll] at hrow
 exact ⟨_, rfl, hrow⟩
theorem deletePair {i : Nat} {w0 w : World} {F0 F : Fz} {L0 : List Blk} {M0 : List RowP} {α : Type} {R : Fz → List Value → α → Prop} {hR : ∀ F F' x p, Le F F' → R F x p → R F' x p} {v : Value} {l : List α} (one : ∀ F cs p, R F cs p → ∀ u ∈ cs, u.oneCell' = true)
    (S : St w0 F0 w F L0 (ownP 2 R hR 50 w0.heap.size v l :: M0)) (hl : l.length ≤ 100000) (hi : i < l.length) :
    Calls Tryz.prog 63 #[v, .int .i64 (i : Nat), .int .i64 ((i + 1 : Nat) : Int)] w fun e w' => ∃ v', e = .returned v' ∧ St w0 F0 w' F L0 (ownP 2 R hR 50 w0.heap.size v' (l.take i ++ l.drop (i + 1)) :: M0) := by
 obtain ⟨g, cap, rfl, _⟩ := (S.own (i := 0) rfl).form (by omega)
 exact deleteMidPair one S hl hi
theorem PrC.one (F : Fz) (cs : List Value) (p : Pr) (h : PrC F cs p) : ∀ u ∈ cs, u.oneCell' = true := h.oneCell
def PrsE (r : List Pr) (e : Int) (F : Fz) (u : Value) : Prop := ∃ x, u = .tuple #[x, .int .i64 e] ∧ Prs F x r
theorem PrsE.mono {F F' : Fz} {u : Value} {r : List Pr} {e : Int} (h : PrsE r e F u) (hl : Le F F') : PrsE r e F' u := by
 obtain ⟨x, rfl, h1⟩ := h; exact ⟨x, rfl, h1.mono hl⟩
def putE (l : List Pr) (p : Pr) : Int := if pairE p ≠ 0 then pairE p else if 60 < (putT l p.1 p.2).length then 11 else 0
def putR (l : List Pr) (p : Pr) : List Pr := if putE l p = 0 then putT l p.1 p.2 else []
theorem hasT_pos {l : List Pr} {k : By} (h : hasT l k = true) : posT l k < l.length := by
 unfold hasT hasBy at h
 rw [List.any_eq_true] at h
 obtain ⟨q, hq, he⟩ := h
 unfold posT posBy
 obtain ⟨i, hi, rfl⟩ := List.mem_iff_getElem.1 hq
 have he' : l[i].1 = k := by simpa using he
 have hpre : (l.takeWhile fun p => Op.bytesLess p.1 k).length ≤ i := by
  rcases Nat.lt_or_ge i (l.takeWhile fun p => Op.bytesLess p.1 k).length with h1 | h1
  ·have e : (l.takeWhile fun p => Op.bytesLess p.1 k)[i] = l[i] := (List.takeWhile_prefix _).getElem h1
   have hp := List.all_eq_true.1 (List.all_takeWhile (p := fun p : Pr => Op.bytesLess p.1 k) (l := l)) _ (List.getElem_mem h1)
   rw [e, he', less_irrefl] at hp
   cases hp
  ·exact h1
 exact Nat.lt_of_le_of_lt hpre hi
def delE (k : By) : Int := checkN k.length
def delR (l : List Pr) (k : By) : List Pr := if checkN k.length = 0 then delT l k else []
def rangeE (a b : By) : Int := if checkN a.length ≠ 0 then checkN a.length else checkN b.length
def rangeR (l : List Pr) (a b : By) : List Pr := if rangeE a b = 0 then rangeT l a b else []
theorem rangeT_cut {l : List Pr} (hr : Rise l) (a b : By) : rangeT l a b = (l.take (max (posT l a) (endT l b))).drop (posT l a) := by
 rw [rangeT_end hr]
 rcases Nat.le_total (posT l a) (endT l b) with h | h
 ·rw [Nat.max_eq_right h]
 ·rw [Nat.max_eq_left h, List.drop_of_length_le, List.drop_of_length_le]
  ·rw [List.length_take]; omega
  ·rw [List.length_take]; omega
theorem put_spec (F : Fz) (w : World) (v u : Value) (l : List Pr) (p : Pr) (hs : Sat w F) (hv : Prs F v l) (hu : Pr2V F u p) (ok1 : TreeOk 60 l) (hk : p.1.length ≤ 100000) (hx : p.2.length ≤ 100000) :
    Calls Tryz.prog 48 #[v, u] w (Gives w F (PrsE (putR l p) (putE l p))) := by
 have ok := treeE_ok.2 ok1
 have hl60 := ok1.len
 obtain ⟨a, c, rfl, hc1, hc2⟩ := Sl.shape hv
 obtain ⟨x0, y0, x1, y1, rfl, h0, h1⟩ := hu
 unfold maxLen at hc2
 obtain ⟨i50, hi50, hz50, hs50, hb50⟩ := info_parts info_50
 have S := St.start hs
 go_enter Tryz.func48, Tryz.ntmps48
 refine sk fun K1 hK1 => ?_
 refine stNew S (v := fun n => .pointer (aA n 0)) rfl (ex_box (v := (.agg #[(.slice x0 p.1.length y0), (.slice x1 p.2.length y1)])) rfl) (fun n2 w3 S4 => ?_)
 iterate 2 refine dy ?_
 refine wn hK1 ?_
 refine wp_seq_k (fun K5 hK5 => ?_)
 refine sk fun K6 hK6 => ?_
 refine dx ?_
 simp only [pq]
 refine stTells (v := (.int .i64 (treeE l))) S4 rfl (fn1 (ent_43 _ _)) (treeCheck_spec _ _ _ l (S4).sat hv) (fun w7 S8 => ?_)
 refine dy ?_
 refine wn hK6 ?_
 refine sk fun K9 hK9 => ?_
 refine dx ?_
 refine dr bF (ex_neq (m := (treeE l)) (n := (0 : Int)) (b := false) rfl rfl (bne_eq_false_iff_eq.2 (ok))) ?_
 simp only [pq]
 refine wn hK9 ?_
 refine wp_cond_false rfl ?_
 refine wp_skip ?_
 refine hK5 _ _ ?_
 refine wp_seq_k (fun K10 hK10 => ?_)
 refine sk fun K11 hK11 => ?_
 refine dR S8 0 Tryz.underlying50 (size_50) ?_
 refine stTells (v := (.int .i64 (pairE p))) S8 rfl (fn1 (ent_57 _ _)) (pair_spec _ _ _ p (S8).sat ⟨_, _, _, _, rfl, h0, h1⟩) (fun w12 S13 => ?_)
 refine dy ?_
 refine wn hK11 ?_
 refine sk fun K14 hK14 => ?_
 refine dx ?_
 simp only [pq]
 by_cases hc19 : (pairE p) = (0 : Int)
 refine neqF ?_
 refine wn hK14 ?_
 refine wp_cond_false rfl ?_
 refine wp_skip ?_
 refine hK10 _ _ ?_
 refine sk fun K15 hK15 => ?_
 refine dx ?_
 refine stGivesO PrC.mono S13 rfl (fn1 (ent_62 _ _)) (all_spec _ _ _ l (S13).sat hv (by have := ok1.len; omega) (fun p hp => ok1.small hp)) ?_
 intro v20 w16 F18 S17 le19
 refine dy ?_
 simp only [pq]
 refine wn hK15 ?_
 refine sk fun K21 hK21 => ?_
 refine dx ?_
 refine df (fa_50_0 _ _) ?_
 refine dl (nagg_25 _) S17 0 ?_
 simp only [pq]
 obtain ⟨F22, hs23, le24, hsl25⟩ := own_peek S17 (i := 0) rfl
 refine stTells (v := (.tuple #[(nI (posT l p.1)), (.bool (hasT l p.1))])) S17 rfl (fn2 (ent_56 _ _)) (find_spec _ _ _ _ l p.1 hs23 hsl25 ((h0.mono le19).mono le24) ok1.rise (by have := ok1.len; omega)) (fun w26 S27 => ?_)
 refine dx ?_
 iterate 2 refine de ?_
 simp only [pq]
 iterate 2 refine dy ?_
 refine wn hK21 ?_
 refine wp_seq_k (fun K28 hK28 => ?_)
 refine wp_block ?_
 refine sk fun K29 hK29 => ?_
 refine dx ?_
 refine dy ?_
 simp only [pq]
 refine wn hK29 ?_
 refine wp_cond_split rfl (fun hc30 => ?_) (fun hc30 => ?_)
 have hpos0 := hasT_pos hc30
 obtain ⟨g31, cap32, rfl, h33, h34, _⟩ := (S27.own (i := 0) rfl).form (by omega)
 unfold maxLen at h34
 refine region_wl ?_
 iterate 2 refine dx ?_
 refine dR S27 0 Tryz.underlying50 (size_50) ?_
 simp only [pq]
 refine stGives S27 rfl (fn1 (ent_64 _ _)) (own2_spec _ _ _ p (S27).sat ⟨_, _, _, _, rfl, (h0.mono le19), (h1.mono le19)⟩ (by omega) (by omega)) ?_
 intro v41 w36 F38 S37 le39 R40
 obtain ⟨xa42, xc43, xa44, xc45, rfl, r46, r47⟩ := R40
 simp only [pq]
 have hpos := hasT_pos hc30
 refine dr (pP g31 (0 + (posT l p.1) * 2)) (ex_at (i := (posT l p.1)) (sz := 2) Tryz.underlying47 (sizeof_50 _) rfl rfl rfl (hpos) rfl) ?_
 refine stSetRow (r := 0) (i := (posT l p.1)) (p := p) (u := (.agg #[(.slice xa42 p.1.length xc43), (.slice xa44 p.2.length xc45)])) S37 rfl rfl (by omega) rfl rfl (by omega) (size_50) (allc2 rfl rfl) rfl ⟨_, _, rfl, r46, r47⟩ (Nat.le_refl _) (fun w48 S49 => ?_)
 refine wl_nil (hK28 _ _ ?_)
 refine sk fun K50 hK50 => ?_
 refine dx ?_
 iterate 2 refine dy ?_
 simp only [pq]
 refine wn hK50 ?_
 refine wp_ret ?_
 (try simp only [Exit.then, Exit.inBlock, ↓reduceIte, Nat.reduceEqDiff])
 refine bR (res_tt rfl (gD rfl) (gD rfl)) ?_
 have hpp : pairE p = 0 := by omega
 have hlen := len_putT l p.1 p.2
 have hl60 := ok1.len
 rw [if_pos hc30] at hlen
 have hput := putT_have (v := p.2) hc30
 have he : putE l p = 0 := by unfold putE; rw [if_neg (by omega), if_neg (by omega)]
 unfold putR
 rw [he, if_pos rfl, hput]
 obtain ⟨F51, S52, le53, hv54⟩ := St.freeze S49 (i := 0) rfl (Nat.le_refl _)
 have hv54 : Prs _ (.slice (some ⟨g31, 0, none⟩) l.length cap32) (l.set (posT l p.1) p) := hv54
 exact ⟨_, _, rfl, S52.gr, _, rfl, hv54⟩
 refine sk fun K55 hK55 => ?_
 refine dx ?_
 refine dn Tryz.underlying47 ?_
 simp only [pq]
 by_cases hc46 : l.length = 60
 refine eqlT ?_
 refine dy ?_
 refine wn hK55 ?_
 refine wp_cond_true rfl ?_
 refine sk fun K56 hK56 => ?_
 iterate 2 refine dy ?_
 simp only [pq]
 refine wn hK56 ?_
 refine wp_ret ?_
 (try simp only [Exit.then, Exit.inBlock, ↓reduceIte, Nat.reduceEqDiff])
 refine bR (res_tt rfl (gD rfl) (gD rfl)) ?_
 have hpp : pairE p = 0 := by omega
 have hlen := len_putT l p.1 p.2
 have hl60 := ok1.len
 rw [if_neg (by rw [hc30]; simp)] at hlen
 have he : putE l p = 11 := by unfold putE; rw [if_neg (by omega), if_pos (by omega)]
 unfold putR
 rw [he, if_neg (by decide)]
 exact ⟨_, _, rfl, S27.gr, _, rfl, Sl.nil _ _ _⟩
 refine eqlF ?_
 refine dy ?_
 refine wn hK55 ?_
 refine wp_cond_false rfl ?_
 refine region_wl ?_
 iterate 2 refine dx ?_
 refine dR S27 0 Tryz.underlying50 (size_50) ?_
 simp only [pq]
 refine stGives S27 rfl (fn1 (ent_64 _ _)) (own2_spec _ _ _ p (S27).sat ⟨_, _, _, _, rfl, (h0.mono le19), (h1.mono le19)⟩ (by omega) (by omega)) ?_
 intro v62 w57 F59 S58 le60 R61
 obtain ⟨xa63, xc64, xa65, xc66, rfl, r67, r68⟩ := R61
 refine stNew S58 (v := fun n => .slice (aA n 0) 1 1) rfl (ex_lit (ps := #[(0, (.agg #[(.slice xa63 p.1.length xc64), (.slice xa65 p.2.length xc66)]))]) (cells := #[(.slice xa63 p.1.length xc64), (.slice xa65 p.2.length xc66)]) (E := 50) (bmap1 rfl) (fun w => by kernel_rfl)) (fun n69 w70 S71 => ?_)
 simp only [pq]
 refine stOwn (L := [⟨n2, [(.slice x0 p.1.length y0), (.slice x1 p.2.length y1)], 50⟩]) (M := fun v_ => [ownP 2 PrC PrC.mono 50 w.heap.size v_ (l.take (posT l p.1) ++ p :: l.drop (posT l p.1))]) rfl (ex_fn (vs := #[v20, (nI (posT l p.1)), (.slice (aA n69 0) 1 1)]) (map3 rfl rfl rfl) rfl (ent_65 _ _)) (insertPair (p := p) PrC.one S71 rfl ⟨_, _, rfl, r67, r68⟩ (by omega) (posBy_le _ _ _)) ?_
 intro v72 w73 S74
 refine dy ?_
 refine wl_nil (hK28 _ _ ?_)
 refine sk fun K75 hK75 => ?_
 refine dx ?_
 iterate 2 refine dy ?_
 simp only [pq]
 refine wn hK75 ?_
 refine wp_ret ?_
 (try simp only [Exit.then, Exit.inBlock, ↓reduceIte, Nat.reduceEqDiff])
 refine bR (res_tt rfl (gD rfl) (gD rfl)) ?_
 have hpp : pairE p = 0 := by omega
 have hlen := len_putT l p.1 p.2
 have hl60 := ok1.len
 rw [if_neg (by rw [hc30]; simp)] at hlen
 have hput := putT_new (v := p.2) (by rw [hc30]; simp)
 have he : putE l p = 0 := by unfold putE; rw [if_neg (by omega), if_neg (by omega)]
 unfold putR
 rw [he, if_pos rfl, hput]
 obtain ⟨F76, S77, le78, hv79⟩ := St.freeze S74 (i := 0) rfl (Nat.le_refl _)
 have hv79 : Prs _ v72 (l.take (posT l p.1) ++ p :: l.drop (posT l p.1)) := hv79
 exact ⟨_, _, rfl, S77.gr, _, rfl, hv79⟩
 refine neqT ?_
 refine wn hK14 ?_
 refine wp_cond_true rfl ?_
 refine sk fun K80 hK80 => ?_
 refine dx ?_
 iterate 2 refine dy ?_
 simp only [pq]
 refine wn hK80 ?_
 refine wp_ret ?_
 (try simp only [Exit.then, Exit.inBlock, ↓reduceIte, Nat.reduceEqDiff])
 refine bR (res_tt rfl (gD rfl) (gD rfl)) ?_
 have he : putE l p = pairE p := by unfold putE; rw [if_pos hc19]
 unfold putR
 rw [he, if_neg hc19]
 exact ⟨_, _, rfl, S13.gr, _, rfl, Sl.nil _ _ _⟩
theorem delete_spec (F : Fz) (w : World) (v u : Value) (l : List Pr) (k : By) (hs : Sat w F) (hv : Prs F v l) (hu : Bs F u k) (ok1 : TreeOk 60 l) :
    Calls Tryz.prog 47 #[v, u] w (Gives w F (PrsE (delR l k) (delE k))) := by
 have ok := treeE_ok.2 ok1
 have hl60 := ok1.len
 obtain ⟨a, c, rfl, hc1, hc2⟩ := Sl.shape hv
 obtain ⟨a2, c2, rfl, _⟩ := hu.shape
 unfold maxLen at hc2
 obtain ⟨i50, hi50, hz50, hs50, hb50⟩ := info_parts info_50
 have S := St.start hs
 go_enter Tryz.func47, Tryz.ntmps47
 refine sk fun K1 hK1 => ?_
 iterate 2 refine dy ?_
 refine wn hK1 ?_
 refine wp_seq_k (fun K2 hK2 => ?_)
 refine sk fun K3 hK3 => ?_
 refine dx ?_
 simp only [pq]
 refine stTells (v := (.int .i64 (treeE l))) S rfl (fn1 (ent_43 _ _)) (treeCheck_spec _ _ _ l (S).sat hv) (fun w4 S5 => ?_)
 refine dy ?_
 refine wn hK3 ?_
 refine sk fun K6 hK6 => ?_
 refine dx ?_
 refine dr bF (ex_neq (m := (treeE l)) (n := (0 : Int)) (b := false) rfl rfl (bne_eq_false_iff_eq.2 (ok))) ?_
 simp only [pq]
 refine wn hK6 ?_
 refine wp_cond_false rfl ?_
 refine wp_skip ?_
 refine hK2 _ _ ?_
 refine wp_seq_k (fun K7 hK7 => ?_)
 refine sk fun K8 hK8 => ?_
 refine dx ?_
 refine stTells (v := (.int .i64 (checkN k.length))) S5 rfl (fn1 (ent_55 _ _)) (tells_same (check_spec _ _ _ k hu)) (fun w9 S10 => ?_)
 refine dy ?_
 refine wn hK8 ?_
 refine sk fun K11 hK11 => ?_
 refine dx ?_
 simp only [pq]
 by_cases hc19 : (checkN k.length) = (0 : Int)
 refine neqF ?_
 refine wn hK11 ?_
 refine wp_cond_false rfl ?_
 refine wp_skip ?_
 refine hK7 _ _ ?_
 refine sk fun K12 hK12 => ?_
 refine dx ?_
 refine stGivesO PrC.mono S10 rfl (fn1 (ent_62 _ _)) (all_spec _ _ _ l (S10).sat hv (by have := ok1.len; omega) (fun p hp => ok1.small hp)) ?_
 intro v17 w13 F15 S14 le16
 refine dy ?_
 simp only [pq]
 refine wn hK12 ?_
 refine wp_seq_k (fun K18 hK18 => ?_)
 refine sk fun K19 hK19 => ?_
 iterate 2 refine dx ?_
 simp only [pq]
 obtain ⟨F20, hs21, le22, hsl23⟩ := own_peek S14 (i := 0) rfl
 refine stTells (v := (.tuple #[(nI (posT l k)), (.bool (hasT l k))])) S14 rfl (fn2 (ent_56 _ _)) (find_spec _ _ _ _ l k hs21 hsl23 ((hu.mono le16).mono le22) ok1.rise (by have := ok1.len; omega)) (fun w24 S25 => ?_)
 refine dx ?_
 iterate 2 refine de ?_
 simp only [pq]
 iterate 2 refine dy ?_
 refine wn hK19 ?_
 refine sk fun K26 hK26 => ?_
 refine dx ?_
 simp only [pq]
 refine wn hK26 ?_
 refine wp_cond_split rfl (fun hc27 => ?_) (fun hc27 => ?_)
 have hpos := hasT_pos hc27
 refine region_wl ?_
 iterate 3 refine dx ?_
 simp only [pq]
 refine dAdd ((posT l k) + 1) ?_
 refine stOwn (L := []) (M := fun v_ => [ownP 2 PrC PrC.mono 50 w.heap.size v_ (l.take (posT l k) ++ l.drop ((posT l k) + 1))]) rfl (ex_fn (vs := #[v17, (nI (posT l k)), (nI ((posT l k) + 1))]) (map3 rfl rfl rfl) rfl (ent_63 _ _)) (deletePair PrC.one S25 (by omega) (hpos)) ?_
 intro v28 w29 S30
 refine dy ?_
 refine wl_nil (hK18 _ _ ?_)
 refine sk fun K31 hK31 => ?_
 refine dx ?_
 iterate 2 refine dy ?_
 simp only [pq]
 refine wn hK31 ?_
 refine wp_ret ?_
 try simp only [xt]
 refine bR (res_tt rfl (gD rfl) (gD rfl)) ?_
 have hcc : checkN k.length = 0 := by omega
 unfold delR delE delT
 rw [hcc, if_pos rfl, if_pos hc27]
 obtain ⟨F32, S33, le34, hv35⟩ := St.freeze S30 (i := 0) rfl (Nat.le_refl _)
 have hv35 : Prs _ v28 (l.take (posT l k) ++ l.drop ((posT l k) + 1)) := hv35
 exact ⟨_, _, rfl, S33.gr, _, rfl, hv35⟩
 refine wp_skip ?_
 refine hK18 _ _ ?_
 refine sk fun K36 hK36 => ?_
 refine dx ?_
 iterate 2 refine dy ?_
 simp only [pq]
 refine wn hK36 ?_
 refine wp_ret ?_
 try simp only [xt]
 refine bR (res_tt rfl (gD rfl) (gD rfl)) ?_
 have hcc : checkN k.length = 0 := by omega
 unfold delR delE delT
 rw [hcc, if_pos rfl, if_neg (by rw [hc27]; simp)]
 obtain ⟨F37, S38, le39, hv40⟩ := St.freeze S25 (i := 0) rfl (Nat.le_refl _)
 have hv40 : Prs _ v17 l := hv40
 exact ⟨_, _, rfl, S38.gr, _, rfl, hv40⟩
 refine neqT ?_
 refine wn hK11 ?_
 refine wp_cond_true rfl ?_
 refine sk fun K41 hK41 => ?_
 refine dx ?_
 iterate 2 refine dy ?_
 simp only [pq]
 refine wn hK41 ?_
 refine wp_ret ?_
 try simp only [xt]
 refine bR (res_tt rfl (gD rfl) (gD rfl)) ?_
 unfold delR delE
 rw [if_neg hc19]
 exact ⟨_, _, rfl, S10.gr, _, rfl, Sl.nil _ _ _⟩
theorem Sl.dropAny {α : Type} {k : Nat} {R : Fz → List Value → α → Prop} {F : Fz} {a : Option Addr} {n c m : Nat} {l : List α} (hk : 0 < k) (h : Sl k R F (.slice a n c) l) (hm : m ≤ n) : Sl k R F (.slice (if c = m then a else a.map (·.add (m * k))) (n - m) (c - m)) (l.drop m) := by
 have hn := Sl.len h
 obtain ⟨el, h1, h2, h3⟩ := h
 obtain ⟨a0, c0, e1, q1, q2, q3, q4⟩ := h1
 injection e1 with e1 e2 e3
 subst e1; subst e3
 have hll := h2.len
 by_cases hmn : m = l.length
 have e : l.drop m = [] := List.drop_of_length_le (by omega)
 have e0 : n - m = 0 := by omega
 rw [e, e0]
 refine ⟨[], ⟨_, c - m, rfl, by simp, by omega, fun e => ?_, .inl rfl⟩, trivial, by simp⟩
 cases a with
 | none => have := q3 rfl; exact ⟨rfl, by omega⟩
 | some ad => split at e <;> cases e
 have hpos : el.flatten ≠ [] := by
  intro e
  have := congrArg List.length e
  rw [flatten_len h3, hll] at this
  have := Nat.mul_pos (show 0 < l.length by omega) hk
  simp at *
  omega
 obtain ⟨b, o, e, hc⟩ := q4.resolve_left hpos
 subst e
 rw [if_neg (by omega)]
 have hs : Sl k R F (.slice (some ⟨b, o, none⟩) n c) l := ⟨el, ⟨_, _, by rw [hn], q1, q2, q3, .inr ⟨b, o, rfl, hc⟩⟩, h2, h3⟩
 have := Sl.dropN (m := m) hs hm rfl rfl
 show Sl k R F (.slice (some (Addr.add ⟨b, o, none⟩ (m * k))) _ _) _
 rw [Addr.add_mid]
 exact this
theorem ex_index2 {P : Program} {ρ : Operand → Value} {w : World} {d : Option Tmp} {t X E : TypeId} {n : Nat} {pos : String} {after : Array Edge} {guard : Option (Nat × Bool)} {x y : Operand} {cs : Array Value} {i : Nat} {v : Value} (hX : P.underlying X = some (.array n E)) (hs : (sizeOf E).run P w = .ok 1 w) (hx : ρ x = .agg cs) (hy : ρ y = .int .i64 i) (hi : i < n) (hb : (isAgg E).run P w = .ok false w) (hv : cs[i]? = some v) :
    (execOp ρ ⟨d, .index X x y, t, pos, after, guard⟩).run P w = .ok (.value v) w := by
 have h1 : (0 : Int) ≤ (i : Int) ∧ (i : Int) < (n : Int) := by omega
 simp [execOp, hx, hy, Instr.index, part, Sem.run_bind, run_underlying hX w, asIntOf, hs, h1, hb, hv, hi]
theorem range_spec (F : Fz) (w : World) (v u z : Value) (l : List Pr) (x y : By) (hs : Sat w F) (hv : Prs F v l) (hx : Bs F u x) (hy : Bs F z y) (ok1 : TreeOk 60 l) :
    Calls Tryz.prog 131 #[v, u, z] w (Gives w F (PrsE (rangeR l x y) (rangeE x y))) := by
 have ok := treeE_ok.2 ok1
 have hl60 := ok1.len
 obtain ⟨a, c, rfl, hc1, hc2⟩ := Sl.shape hv
 obtain ⟨a2, c2, rfl, _⟩ := hx.shape
 obtain ⟨a3, c3, rfl, _⟩ := hy.shape
 unfold maxLen at hc2
 obtain ⟨i50, hi50, hz50, hs50, hb50⟩ := info_parts info_50
 have S := St.start hs
 go_enter Tryz.func131, Tryz.ntmps131
 refine sk fun K1 hK1 => ?_
 iterate 2 refine dy ?_
 refine wn hK1 ?_
 refine wp_seq_k (fun K2 hK2 => ?_)
 refine sk fun K3 hK3 => ?_
 refine dx ?_
 simp only [pq]
 refine stTells (v := (.int .i64 (treeE l))) S rfl (fn1 (ent_43 _ _)) (treeCheck_spec _ _ _ l (S).sat hv) (fun w4 S5 => ?_)
 refine dy ?_
 refine wn hK3 ?_
 refine sk fun K6 hK6 => ?_
 refine dx ?_
 refine dr bF (ex_neq (m := (treeE l)) (n := (0 : Int)) (b := false) rfl rfl (bne_eq_false_iff_eq.2 (ok))) ?_
 simp only [pq]
 refine wn hK6 ?_
 refine wp_cond_false rfl ?_
 refine wp_skip ?_
 refine hK2 _ _ ?_
 refine wp_seq_k (fun K7 hK7 => ?_)
 refine sk fun K8 hK8 => ?_
 iterate 2 refine dx ?_
 refine dr (.agg #[(.slice a2 x.length c2), (.slice a3 y.length c3)]) (ex_build (bmap2 rfl rfl) (by kernel_rfl)) ?_
 simp only [pq]
 refine dx ?_
 refine wn hK8 ?_
 refine wp_block ?_
 refine wp_loop_g (fun mm aa w10 => ∃ (k : Nat) (u9 : Nat → Value), mm = 2 - k ∧ u9 = slots aa ∧ aa = ⟨#[(.slice a l.length c), (.slice a2 x.length c2), (.slice a3 y.length c3), undef, undef, undef, (u9 6), (u9 7), (.int .i64 (treeE l)), undef, (u9 10), (u9 11), undef, undef, undef, undef, (.slice a l.length c), (.int .i64 (treeE l)), (.int .i64 (treeE l)), bF, undef, (.slice a2 x.length c2), (.slice a3 y.length c3), (.agg #[(.slice a2 x.length c2), (.slice a3 y.length c3)]), (nI k), (u9 25), (u9 26), (u9 27), (u9 28), (u9 29), (u9 30), (u9 31), (u9 32), undef, undef, undef, undef, undef, undef, undef, undef, undef, undef, undef, undef, undef, undef, undef, undef, undef, undef, undef, undef, undef, undef], []⟩ ∧ St w F w10 F [] [] ∧ (k ≤ 2) ∧ (1 ≤ k → checkN x.length = 0) ∧ (2 ≤ k → checkN y.length = 0)) _ ⟨0, _, rfl, rfl, rfl, S5, (by omega), (fun h => absurd h (by omega)), (fun h => absurd h (by omega))⟩ ?_
 rintro m11 a12 w13 ⟨k, u9, rfl, -, rfl, S14, hk, hq1, hq2⟩ K16 hK16
 refine sk fun K17 hK17 => ?_
 by_cases hc25 : k < 2
 refine lssT ?_
 refine wn hK17 ?_
 refine wp_seq_k (fun K18 hK18 => ?_)
 refine wp_cond_true rfl ?_
 refine wp_skip ?_
 refine hK18 _ _ ?_
 refine wp_seq_k (fun K19 hK19 => ?_)
 refine wp_block ?_
 refine wp_seq_k (fun K20 hK20 => ?_)
 obtain rfl | rfl : k = 0 ∨ k = 1 := by omega
 refine region_wl ?_
 refine dr (.slice a2 x.length c2) (ex_index2 (i := 0) Tryz.underlying230 (sizeof_25 _) rfl rfl (by decide) (nagg_25 _) rfl) ?_
 refine dy ?_
 simp only [pq]
 refine wl_nil (hK20 _ _ ?_)
 refine sk fun K21 hK21 => ?_
 refine dx ?_
 refine stTells (v := (.int .i64 (checkN x.length))) S14 rfl (fn1 (ent_55 _ _)) (tells_same (check_spec _ _ _ x hx)) (fun w22 S23 => ?_)
 refine dy ?_
 refine wn hK21 ?_
 refine sk fun K24 hK24 => ?_
 refine dx ?_
 simp only [pq]
 by_cases hc30 : (checkN x.length) = (0 : Int)
 refine neqF ?_
 refine wn hK24 ?_
 refine wp_cond_false rfl ?_
 refine wp_skip ?_
 refine hK19 _ _ ?_
 refine region_wl ?_
 refine dAdd 1 ?_
 refine dx ?_
 simp only [pq]
 refine wl_nil ?_
 exact hK16 _ _ _ (by omega) ⟨1, _, rfl, rfl, rfl, S23, (by omega), (fun _ => by omega), (fun h => absurd h (by omega))⟩
 refine neqT ?_
 refine wn hK24 ?_
 refine wp_cond_true rfl ?_
 refine sk fun K25 hK25 => ?_
 refine dx ?_
 iterate 2 refine dy ?_
 simp only [pq]
 refine wn hK25 ?_
 refine wp_ret ?_
 (try simp only [Exit.then, Exit.inBlock, ↓reduceIte, Nat.reduceEqDiff])
 refine bR (res_tt rfl (gD rfl) (gD rfl)) ?_
 have he : rangeE x y = checkN x.length := by unfold rangeE; rw [if_pos hc30]
 unfold rangeR
 rw [he, if_neg hc30]
 exact ⟨_, _, rfl, S23.gr, _, rfl, Sl.nil _ _ _⟩
 refine region_wl ?_
 refine dr (.slice a3 y.length c3) (ex_index2 (i := 1) Tryz.underlying230 (sizeof_25 _) rfl rfl (by decide) (nagg_25 _) rfl) ?_
 refine dy ?_
 refine wl_nil (hK20 _ _ ?_)
 refine sk fun K26 hK26 => ?_
 refine dx ?_
 simp only [pq]
 refine stTells (v := (.int .i64 (checkN y.length))) S14 rfl (fn1 (ent_55 _ _)) (tells_same (check_spec _ _ _ y hy)) (fun w27 S28 => ?_)
 refine dy ?_
 refine wn hK26 ?_
 refine sk fun K29 hK29 => ?_
 refine dx ?_
 simp only [pq]
 by_cases hc30 : (checkN y.length) = (0 : Int)
 refine neqF ?_
 refine wn hK29 ?_
 refine wp_cond_false rfl ?_
 refine wp_skip ?_
 refine hK19 _ _ ?_
 refine region_wl ?_
 refine dAdd 2 ?_
 refine dx ?_
 simp only [pq]
 refine wl_nil ?_
 exact hK16 _ _ _ (by omega) ⟨2, _, rfl, rfl, rfl, S28, (by omega), (fun _ => hq1 (by omega)), (fun _ => by omega)⟩
 refine neqT ?_
 refine wn hK29 ?_
 refine wp_cond_true rfl ?_
 refine sk fun K30 hK30 => ?_
 refine dx ?_
 iterate 2 refine dy ?_
 simp only [pq]
 refine wn hK30 ?_
 refine wp_ret ?_
 (try simp only [Exit.then, Exit.inBlock, ↓reduceIte, Nat.reduceEqDiff])
 refine bR (res_tt rfl (gD rfl) (gD rfl)) ?_
 have he : rangeE x y = checkN y.length := by unfold rangeE; rw [if_neg (by have := hq1 (by omega); omega)]
 unfold rangeR
 rw [he, if_neg hc30]
 exact ⟨_, _, rfl, S28.gr, _, rfl, Sl.nil _ _ _⟩
 refine lssF ?_
 refine wn hK17 ?_
 refine wp_seq_k (fun K31 hK31 => ?_)
 refine wp_cond_false rfl ?_
 refine wp_exit ?_
 refine hK7 _ _ ?_
 refine wp_seq_k (fun K32 hK32 => ?_)
 have hcx := hq1 (by omega)
 have hcy := hq2 (by omega)
 have hply : posT l y ≤ l.length := posBy_le _ _ _
 refine region_wl ?_
 iterate 2 refine dx ?_
 simp only [pq]
 refine stTells (v := (.tuple #[(nI (posT l x)), (.bool (hasT l x))])) S14 rfl (fn2 (ent_56 _ _)) (find_spec _ _ _ _ l x (S14).sat hv hx ok1.rise (by have := ok1.len; omega)) (fun w33 S34 => ?_)
 refine dx ?_
 iterate 2 refine de ?_
 simp only [pq]
 iterate 2 refine dy ?_
 refine wl_nil (hK32 _ _ ?_)
 refine sk fun K35 hK35 => ?_
 iterate 2 refine dx ?_
 simp only [pq]
 refine stTells (v := (.tuple #[(nI (posT l y)), (.bool (hasT l y))])) S34 rfl (fn2 (ent_56 _ _)) (find_spec _ _ _ _ l y (S34).sat hv hy ok1.rise (by have := ok1.len; omega)) (fun w36 S37 => ?_)
 refine dx ?_
 iterate 2 refine de ?_
 simp only [pq]
 iterate 2 refine dy ?_
 refine wn hK35 ?_
 refine wp_seq_k (fun K38 hK38 => ?_)
 refine sk fun K39 hK39 => ?_
 refine dx ?_
 simp only [pq]
 refine wn hK39 ?_
 refine wp_cond_split rfl (fun hc40 => ?_) (fun hc40 => ?_)
 refine region_wl ?_
 refine dx ?_
 refine dAdd ((posT l y) + 1) ?_
 refine dy ?_
 simp only [pq]
 refine wl_nil (hK38 _ _ ?_)
 refine wp_seq_k (fun K41 hK41 => ?_)
 have hend : endT l y = ((posT l y) + 1) := by unfold endT; rw [hc40]; simp
 have hel := endT_le ok1.rise y
 have hpl : posT l x ≤ l.length := posBy_le _ _ _
 rw [hend] at hel
 refine region_wl ?_
 iterate 3 refine dx ?_
 simp only [pq]
 refine dx ?_
 refine dr (.int .i64 (((max (posT l x) ((posT l y) + 1)) : Nat) : Int)) (ex_max (m := (((posT l x) : Nat) : Int)) (n := ((((posT l y) + 1) : Nat) : Int)) (r := (((max (posT l x) ((posT l y) + 1)) : Nat) : Int)) rfl rfl (by omega)) ?_
 simp only [pq]
 have hcut := Sl.dropAny (m := (posT l x)) (by decide) (Sl.takeN (m := (max (posT l x) ((posT l y) + 1))) hv (by omega)) (by omega)
 refine dr (.slice (if c = (posT l x) then a else a.map (·.add ((posT l x) * 2))) ((max (posT l x) ((posT l y) + 1)) - (posT l x)) (c - (posT l x))) (ex_slice (l := (posT l x)) (h := (max (posT l x) ((posT l y) + 1))) (sz := 2) Tryz.underlying47 rfl (sizeof_50 _) (.inr ⟨_, rfl, rfl⟩) (.inr ⟨_, rfl, rfl⟩) (by omega) (by omega) (rfl)) ?_
 refine stGivesO PrC.mono S37 rfl (ex_fn (vs := #[(.slice (if c = (posT l x) then a else a.map (·.add ((posT l x) * 2))) ((max (posT l x) ((posT l y) + 1)) - (posT l x)) (c - (posT l x)))]) (map1 rfl) rfl (ent_62 _ _)) (all_spec _ _ _ ((l.take (max (posT l x) ((posT l y) + 1))).drop (posT l x)) (S37).sat hcut (by rw [List.length_drop, List.length_take]; omega) (fun p hp => ok1.small (List.mem_of_mem_take (List.mem_of_mem_drop hp)))) ?_
 intro v46 w42 F44 S43 le45
 iterate 2 refine dy ?_
 simp only [pq]
 refine wl_nil (hK41 _ _ ?_)
 refine wp_ret ?_
 (try simp only [Exit.then, Exit.inBlock, ↓reduceIte, Nat.reduceEqDiff])
 refine bR (res_tt rfl (gD rfl) (gD rfl)) ?_
 have he : rangeE x y = 0 := by unfold rangeE; rw [if_neg (by omega)]; exact hcy
 unfold rangeR
 rw [he, if_pos rfl, rangeT_cut ok1.rise, hend]
 obtain ⟨F47, S48, le49, hv50⟩ := St.freeze S43 (i := 0) rfl (Nat.le_refl _)
 have hv50 : Prs _ v46 ((l.take (max (posT l x) ((posT l y) + 1))).drop (posT l x)) := hv50
 exact ⟨_, _, rfl, S48.gr, _, rfl, hv50⟩
 refine wp_skip ?_
 refine hK38 _ _ ?_
 refine wp_seq_k (fun K51 hK51 => ?_)
 have hend : endT l y = (posT l y) := by unfold endT; rw [hc40]; simp
 have hel := endT_le ok1.rise y
 have hpl : posT l x ≤ l.length := posBy_le _ _ _
 rw [hend] at hel
 refine region_wl ?_
 iterate 3 refine dx ?_
 simp only [pq]
 refine dx ?_
 refine dr (nI (max (posT l x) (posT l y))) (ex_max (m := (((posT l x) : Nat) : Int)) (n := (((posT l y) : Nat) : Int)) (r := (((max (posT l x) (posT l y)) : Nat) : Int)) rfl rfl (by omega)) ?_
 simp only [pq]
 have hcut := Sl.dropAny (m := (posT l x)) (by decide) (Sl.takeN (m := (max (posT l x) (posT l y))) hv (by omega)) (by omega)
 refine dr (.slice (if c = (posT l x) then a else a.map (·.add ((posT l x) * 2))) ((max (posT l x) (posT l y)) - (posT l x)) (c - (posT l x))) (ex_slice (l := (posT l x)) (h := (max (posT l x) (posT l y))) (sz := 2) Tryz.underlying47 rfl (sizeof_50 _) (.inr ⟨_, rfl, rfl⟩) (.inr ⟨_, rfl, rfl⟩) (by omega) (by omega) (rfl)) ?_
 refine stGivesO PrC.mono S37 rfl (ex_fn (vs := #[(.slice (if c = (posT l x) then a else a.map (·.add ((posT l x) * 2))) ((max (posT l x) (posT l y)) - (posT l x)) (c - (posT l x)))]) (map1 rfl) rfl (ent_62 _ _)) (all_spec _ _ _ ((l.take (max (posT l x) (posT l y))).drop (posT l x)) (S37).sat hcut (by rw [List.length_drop, List.length_take]; omega) (fun p hp => ok1.small (List.mem_of_mem_take (List.mem_of_mem_drop hp)))) ?_
 intro v56 w52 F54 S53 le55
 iterate 2 refine dy ?_
 simp only [pq]
 refine wl_nil (hK51 _ _ ?_)
 refine wp_ret ?_
 (try simp only [Exit.then, Exit.inBlock, ↓reduceIte, Nat.reduceEqDiff])
 refine bR (res_tt rfl (gD rfl) (gD rfl)) ?_
 have he : rangeE x y = 0 := by unfold rangeE; rw [if_neg (by omega)]; exact hcy
 unfold rangeR
 rw [he, if_pos rfl, rangeT_cut ok1.rise, hend]
 obtain ⟨F57, S58, le59, hv60⟩ := St.freeze S53 (i := 0) rfl (Nat.le_refl _)
 have hv60 : Prs _ v56 ((l.take (max (posT l x) (posT l y))).drop (posT l x)) := hv60
 exact ⟨_, _, rfl, S58.gr, _, rfl, hv60⟩
theorem overlapsTenant {w : World} {vn g o la ca lb cb : Nat} {c1 c2 : List Value} {T1 T2 : TypeId} (h1 : w.heap[vn]? = some (.cells c1.toArray T1 (0, 0))) (h2 : w.heap[g]? = some (.cells c2.toArray T2 (0, 0))) (hc : c2.length ≠ 0) (hne : vn ≠ g) :
    (callFunc 66 #[.slice (some ⟨vn, 0, none⟩) la ca, .slice (some ⟨g, o, none⟩) lb cb]).run Tryz.prog w = .ok (.value (.bool false)) w := by
 rw [run_callFunc_extern Tryz.func66 (by kernel_rfl) (by kernel_rfl) (by kernel_rfl) (e := Extern.SlicesOverlaps.overlaps #[24, 24] #[4]) (by kernel_rfl),
  Lib.run_overlaps_apart w 24 4 66 Tryz.underlying24 2 (fun w => sizeof_66 w) ⟨vn, 0, none⟩ ⟨g, o, none⟩ la ca lb cb hne T1 T2 c1.length c2.length (cap_slice (g := 0) h1).1 (cap_slice (g := 0) h2).1 hc (cap_slice h1).2 (cap_slice h1).2]
 rfl
theorem insertEndTenant {w0 w : World} {F0 F : Fz} {L0 : List Blk} {M0 : List RowP} {α : Type} {R : Fz → List Value → α → Prop} {hR : ∀ F F' x p, Le F F' → R F x p → R F' x p} {v : Value} {l : List α} {p : α} {vn : Nat} {cs : List Value} (one : ∀ F cs p, R F cs p → ∀ u ∈ cs, u.oneCell' = true)
    (S : St w0 F0 w F (⟨vn, cs, 66⟩ :: L0) (ownP 2 R hR 66 w0.heap.size v l :: M0)) (hcs : cs.length = 2) (hp : R F cs p) (hl : l.length ≤ 100000) :
    Calls Tryz.prog 50 #[v, .int .i64 (l.length : Nat), .slice (some ⟨vn, 0, none⟩) 1 1] w fun e w' => ∃ v', e = .returned v' ∧ St w0 F0 w' F L0 (ownP 2 R hR 66 w0.heap.size v' (l ++ [p]) :: M0) := by
 obtain ⟨a, c, rfl, hc1, hc2⟩ := (S.own (i := 0) rfl).shape
 unfold maxLen at hc2
 obtain ⟨i66, hi66, hz66, hs66, hb66⟩ := info_parts info_66
 go_enter Tryz.func50, Tryz.ntmps50
 refine sk fun K1 hK1 => ?_
 refine dy ?_
 refine wn hK1 ?_
 refine sk fun K2 hK2 => ?_
 iterate 2 refine dx ?_
 refine dr (.slice (if c = l.length then a else a.map (·.add (l.length * 2))) (l.length - l.length) (c - l.length)) (ex_slice (l := l.length) (h := l.length) (sz := 2) Tryz.underlying24 rfl (sizeof_66 _) (.inr ⟨_, rfl, rfl⟩) (.inl ⟨rfl, rfl⟩) (by omega) (by omega) (rfl)) ?_
 simp only [pq]
 refine wn hK2 ?_
 refine sk fun K3 hK3 => ?_
 refine dx ?_
 refine dn Tryz.underlying24 ?_
 refine dy ?_
 simp only [pq]
 refine wn hK3 ?_
 refine wp_seq_k (fun K4 hK4 => ?_)
 refine sk fun K5 hK5 => ?_
 refine dx ?_
 refine dr bF (ex_eql (b := false) rfl rfl (by decide)) ?_
 refine wn hK5 ?_
 refine wp_cond_false rfl ?_
 refine wp_skip ?_
 refine hK4 _ _ ?_
 refine sk fun K6 hK6 => ?_
 refine dx ?_
 refine dn Tryz.underlying24 ?_
 refine dy ?_
 simp only [pq]
 refine wn hK6 ?_
 refine wp_seq_k (fun K7 hK7 => ?_)
 refine sk fun K8 hK8 => ?_
 iterate 2 refine dx ?_
 refine dr bT (ex_eql (m := ((l.length : Nat) : Int)) (n := ((l.length : Nat) : Int)) (b := true) rfl rfl (beq_iff_eq.2 (rfl))) ?_
 simp only [pq]
 refine wn hK8 ?_
 refine wp_cond_true rfl ?_
 refine sk fun K9 hK9 => ?_
 iterate 2 refine dx ?_
 refine stPush (i := 0) (r := 0) (p := p) (cs := cs) S rfl i66 (.agg #[Zn, Zn]) 48 Tryz.underlying24 hi66 hz66 hs66 hb66 rfl (by decide) rfl rfl rfl rfl hcs (one _ _ _ hp) (hp) (Nat.le_refl _) S.gr.below.size (by unfold maxLen; omega) (by omega) ?_
 intro v10 w11 S12 hn13
 simp only [pq]
 have S12 := St.drop S12 (.cons _ (List.Sublist.refl _))
 refine dy ?_
 refine wn hK9 ?_
 refine wp_ret ?_
 try simp only [xt]
 refine bR (res_t rfl (gD rfl)) ?_
 exact ⟨_, rfl, S12⟩
theorem insertMidTenant {g cap i : Nat} {w0 w : World} {F0 F : Fz} {L0 : List Blk} {M0 : List RowP} {α : Type} {R : Fz → List Value → α → Prop} {hR : ∀ F F' x p, Le F F' → R F x p → R F' x p} {l : List α} {p : α} {vn : Nat} {cs : List Value} (one : ∀ F cs p, R F cs p → ∀ u ∈ cs, u.oneCell' = true)
    (S : St w0 F0 w F (⟨vn, cs, 66⟩ :: L0) (ownP 2 R hR 66 w0.heap.size (.slice (some ⟨g, 0, none⟩) l.length cap) l :: M0)) (hcs : cs.length = 2) (hp : R F cs p) (hl : l.length ≤ 100000) (hi : i < l.length) :
    Calls Tryz.prog 50 #[.slice (some ⟨g, 0, none⟩) l.length cap, .int .i64 (i : Nat), .slice (some ⟨vn, 0, none⟩) 1 1] w fun e w' => ∃ v', e = .returned v' ∧ St w0 F0 w' F L0 (ownP 2 R hR 66 w0.heap.size v' (l.take i ++ p :: l.drop i) :: M0) := by
 obtain ⟨i66, hi66, hz66, hs66, hb66⟩ := info_parts info_66
 have hvg : vn ≠ g := fun e => S.rb _ (List.mem_cons_self ..) _ (List.mem_cons_self ..) (congrArg some e.symm)
 go_enter Tryz.func50, Tryz.ntmps50
 obtain ⟨c1, el2, S3, hn9, hcp10, hmx11, hcl4, htk5, hall6, hlen7, hbg8⟩ := St.rowBlk (r := 0) S rfl
 unfold maxLen at hmx11
 refine sk fun K12 hK12 => ?_
 refine dy ?_
 refine wn hK12 ?_
 refine sk fun K13 hK13 => ?_
 iterate 2 refine dx ?_
 refine dr (.slice (some ⟨g, i * 2, none⟩) (l.length - i) (cap - i)) (ex_slice (l := i) (h := l.length) (sz := 2) Tryz.underlying24 rfl (sizeof_66 _) (.inr ⟨_, rfl, rfl⟩) (.inl ⟨rfl, rfl⟩) (by omega) (by omega) (slice_at (by omega) rfl rfl (by omega))) ?_
 simp only [pq]
 refine wn hK13 ?_
 refine sk fun K14 hK14 => ?_
 refine dx ?_
 refine dn Tryz.underlying24 ?_
 refine dy ?_
 simp only [pq]
 refine wn hK14 ?_
 refine wp_seq_k (fun K15 hK15 => ?_)
 refine sk fun K16 hK16 => ?_
 refine dx ?_
 refine dr bF (ex_eql (b := false) rfl rfl (by decide)) ?_
 refine wn hK16 ?_
 refine wp_cond_false rfl ?_
 refine wp_skip ?_
 refine hK15 _ _ ?_
 refine sk fun K17 hK17 => ?_
 refine dx ?_
 refine dn Tryz.underlying24 ?_
 refine dy ?_
 simp only [pq]
 refine wn hK17 ?_
 refine wp_seq_k (fun K18 hK18 => ?_)
 refine sk fun K19 hK19 => ?_
 iterate 2 refine dx ?_
 refine eqlF ?_
 simp only [pq]
 refine wn hK19 ?_
 refine wp_cond_false rfl ?_
 refine wp_skip ?_
 refine hK18 _ _ ?_
 refine wp_seq_k (fun K20 hK20 => ?_)
 refine sk fun K21 hK21 => ?_
 iterate 2 refine dx ?_
 refine dAdd (l.length + 1) ?_
 simp only [pq]
 refine dx ?_
 refine dr (nI cap) (ex_cap Tryz.underlying24 rfl) ?_
 simp only [pq]
 by_cases hc31 : cap < (l.length + 1)
 refine gtrT ?_
 refine wn hK21 ?_
 refine wp_cond_true rfl ?_
 refine sk fun K22 hK22 => ?_
 iterate 2 refine dx ?_
 refine dr (.slice (aA g 0) i cap) (ex_slice (l := 0) (h := i) (sz := 2) Tryz.underlying24 rfl (sizeof_66 _) (.inl ⟨rfl, rfl⟩) (.inr ⟨_, rfl, rfl⟩) (by omega) (by omega) (slice_zero)) ?_
 simp only [pq]
 iterate 2 refine dx ?_
 refine dAdd (l.length + 1) ?_
 simp only [pq]
 refine dx ?_
 refine dr (nI ((l.length + 1) - i)) (ex_sub (m := (((l.length + 1) : Nat) : Int)) (n := ((i : Nat) : Int)) (r := ((((l.length + 1) - i) : Nat) : Int)) rfl rfl (by omega) (by omega) (by omega)) ?_
 refine stGrow (k := 2) (n := i) (m := l.length + 1 - i) (l.length + 1) (c1.take (i * 2)) S3 rfl i66 (.agg #[Zn, Zn]) 48 Tryz.underlying24 Tryz.underlying3 hi66 hz66 hs66 hb66 rfl (by decide) rfl rfl (by omega) (by rw [List.length_take]; omega) (S3.srcT (i := 0) rfl _) (by omega) (by omega) (by unfold maxLen; omega) (by omega) ?_
 intro g25 cp26 nw27 mo28 w23 h29 h30 h31 h32 S24
 unfold maxLen at h30
 refine dy ?_
 simp only [pq]
 refine wn hK22 ?_
 refine sk fun K33 hK33 => ?_
 iterate 2 refine dx ?_
 refine dr (.slice (some ⟨g25, i * 2, none⟩) ((l.length + 1) - i) (cp26 - i)) (ex_slice (l := i) (h := (l.length + 1)) (sz := 2) Tryz.underlying24 rfl (sizeof_66 _) (.inr ⟨_, rfl, rfl⟩) (.inl ⟨rfl, rfl⟩) (by omega) (by omega) (slice_at (by omega) rfl rfl (by omega))) ?_
 simp only [pq]
 refine dx ?_
 refine stCopy (i := 0) (j := i * 2) 1 cs S24 rfl Tryz.underlying24 size_66 rfl rfl rfl (Nat.min_eq_left (by omega)) (hcs) (by rw [h32, hcs]; omega) (S24.src0 (i := 2) rfl) (one _ _ _ hp) (fun w34 S35 => ?_)
 refine wn hK33 ?_
 refine wp_seq_k (fun K36 hK36 => ?_)
 refine region_gw F 8 [] (by kernel_rfl) (by kernel_rfl) ?_
 simp only [List.take_succ_cons, List.take_zero]
 iterate 2 refine gm ?_
 simp only [pq]
 refine gm ?_
 refine gv (nI (i + 1)) (fun _ _ => ex_add (m := ((i : Nat) : Int)) (n := (1 : Int)) (r := (((i + 1) : Nat) : Int)) rfl rfl (by omega) (by omega) (by omega)) ?_
 refine gv (.slice (some ⟨g25, (i + 1) * 2, none⟩) ((l.length + 1) - (i + 1)) (cp26 - (i + 1))) (fun _ _ => ex_slice (l := (i + 1)) (h := (l.length + 1)) (sz := 2) Tryz.underlying24 rfl (sizeof_66 _) (.inr ⟨_, rfl, rfl⟩) (.inl ⟨rfl, rfl⟩) (by omega) (by omega) (slice_at (by omega) rfl rfl (by omega))) ?_
 simp only [pq]
 iterate 2 refine gm ?_
 refine gv (.slice (some ⟨g, i * 2, none⟩) (l.length - i) (cap - i)) (fun _ _ => ex_slice (l := i) (h := l.length) (sz := 2) Tryz.underlying24 rfl (sizeof_66 _) (.inr ⟨_, rfl, rfl⟩) (.inl ⟨rfl, rfl⟩) (by omega) (by omega) (slice_at (by omega) rfl rfl (by omega))) ?_
 simp only [pq]
 refine gw_nil ?_
 intro w38 hC40 hF41
 clear hF41
 have S39 := St.tells S35 hC40
 simp only [List.drop_succ_cons, List.drop_zero]
 have hml : ((c1.drop (i * 2)).take ((l.length - i) * 2)).length = (l.length - i) * 2 := by rw [List.length_take, List.length_drop, hcl4]; omega
 refine stCopy (i := 0) (j := (i + 1) * 2) (l.length - i) ((c1.drop (i * 2)).take ((l.length - i) * 2)) S39 rfl Tryz.underlying24 size_66 rfl rfl rfl (Nat.min_eq_left (by omega)) (hml) (by rw [splice_len (by rw [h32, hcs]; omega), h32, hml]; omega) (S39.src (i := 1) rfl _ _) (one_mid one hall6 htk5 i) (fun w42 S43 => ?_)
 simp only [pq]
 refine wl_nil (hK36 _ _ ?_)
 refine sk fun K44 hK44 => ?_
 refine dx ?_
 refine dy ?_
 refine wn hK44 ?_
 refine wp_ret ?_
 try simp only [xt]
 refine bR (res_t rfl (gD rfl)) ?_
 have hdrop := St.drop S43 (.cons_cons _ (.cons _ (.cons _ (List.Sublist.refl _))))
 have hll : (l.take i ++ p :: l.drop i).length = l.length + 1 := by rw [List.length_append, List.length_cons, List.length_take, List.length_drop]; omega
 have hrow := St.blkRow (k := 2) (base := w0.heap.size) (R := R) (hR := hR) (l := l.take i ++ p :: l.drop i) (cap := cp26) hdrop (el := el2.take i ++ cs :: el2.drop i) (by rw [hll]; exact (cells_grow hlen7 htk5 (by omega) (by rw [hcl4]; omega) h31 hcs)) (allR_insert hall6 i hp) (len_insert hlen7 i hcs) (by rw [splice_len (by rw [splice_len (by rw [h32, hcs]; omega), h32, hml]; omega), splice_len (by rw [h32, hcs]; omega), h32]) (by omega) (by unfold maxLen; omega) (hdrop.blk _ (List.mem_cons_self ..)).2.2
 rw [hll] at hrow
 exact ⟨_, rfl, hrow⟩
 refine gtrF ?_
 simp only [pq]
 refine wn hK21 ?_
 refine wp_cond_false rfl ?_
 refine wp_skip ?_
 refine hK20 _ _ ?_
 refine sk fun K45 hK45 => ?_
 iterate 3 refine dx ?_
 simp only [pq]
 refine dAdd (l.length + 1) ?_
 refine dr (.slice (aA g 0) (l.length + 1) cap) (ex_slice (l := 0) (h := (l.length + 1)) (sz := 2) Tryz.underlying24 rfl (sizeof_66 _) (.inl ⟨rfl, rfl⟩) (.inr ⟨_, rfl, rfl⟩) (by omega) (by omega) (slice_zero)) ?_
 refine dy ?_
 simp only [pq]
 refine wn hK45 ?_
 refine wp_seq_k (fun K46 hK46 => ?_)
 refine sk fun K47 hK47 => ?_
 iterate 3 refine dx ?_
 simp only [pq]
 refine dx ?_
 refine dAdd (i + 1) ?_
 refine dr (.slice (some ⟨g, (i + 1) * 2, none⟩) ((l.length + 1) - (i + 1)) (cap - (i + 1))) (ex_slice (l := (i + 1)) (h := (l.length + 1)) (sz := 2) Tryz.underlying24 rfl (sizeof_66 _) (.inr ⟨_, rfl, rfl⟩) (.inl ⟨rfl, rfl⟩) (by omega) (by omega) (slice_at (by omega) rfl rfl (by omega))) ?_
 simp only [pq]
 refine dr bF (ex_fnv (vs := #[(.slice (aA vn 0) 1 1), (.slice (some ⟨g, (i + 1) * 2, none⟩) ((l.length + 1) - (i + 1)) (cap - (i + 1)))]) (map2 rfl rfl) rfl (overlapsTenant (S3.blk ⟨vn, cs, 66⟩ (by simp)).1 (S3.blk ⟨g, c1, 66⟩ (by simp)).1 (by rw [hcl4]; omega) hvg)) ?_
 refine dt ?_
 refine wn hK47 ?_
 refine wp_cond_true rfl ?_
 refine wp_seq_k (fun K48 hK48 => ?_)
 refine region_gw F 8 [] (by kernel_rfl) (by kernel_rfl) ?_
 simp only [List.take_succ_cons, List.take_zero]
 refine gm ?_
 simp only [pq]
 iterate 2 refine gm ?_
 refine gv (nI (i + 1)) (fun _ _ => ex_add (m := ((i : Nat) : Int)) (n := (1 : Int)) (r := (((i + 1) : Nat) : Int)) rfl rfl (by omega) (by omega) (by omega)) ?_
 simp only [pq]
 refine gv (.slice (some ⟨g, (i + 1) * 2, none⟩) ((l.length + 1) - (i + 1)) (cap - (i + 1))) (fun _ _ => ex_slice (l := (i + 1)) (h := (l.length + 1)) (sz := 2) Tryz.underlying24 rfl (sizeof_66 _) (.inr ⟨_, rfl, rfl⟩) (.inl ⟨rfl, rfl⟩) (by omega) (by omega) (slice_at (by omega) rfl rfl (by omega))) ?_
 iterate 2 refine gm ?_
 simp only [pq]
 refine gv (.slice (some ⟨g, i * 2, none⟩) ((l.length + 1) - i) (cap - i)) (fun _ _ => ex_slice (l := i) (h := (l.length + 1)) (sz := 2) Tryz.underlying24 rfl (sizeof_66 _) (.inr ⟨_, rfl, rfl⟩) (.inl ⟨rfl, rfl⟩) (by omega) (by omega) (slice_at (by omega) rfl rfl (by omega))) ?_
 refine gw_nil ?_
 intro w50 hC52 hF53
 clear hF53
 have S51 := St.tells S3 hC52
 simp only [List.drop_succ_cons, List.drop_zero]
 have hml : ((c1.drop (i * 2)).take ((l.length - i) * 2)).length = (l.length - i) * 2 := by rw [List.length_take, List.length_drop, hcl4]; omega
 refine stCopy (i := 0) (j := (i + 1) * 2) (l.length - i) ((c1.drop (i * 2)).take ((l.length - i) * 2)) S51 rfl Tryz.underlying24 size_66 rfl rfl rfl ((Nat.min_eq_right (by omega)).trans (by omega)) (hml) (by rw [hcl4, hml]; omega) (S51.src (i := 0) rfl _ _) (one_mid one hall6 htk5 i) (fun w54 S55 => ?_)
 simp only [pq]
 refine wl_nil (hK48 _ _ ?_)
 refine sk fun K56 hK56 => ?_
 iterate 2 refine dx ?_
 refine dr (.slice (some ⟨g, i * 2, none⟩) ((l.length + 1) - i) (cap - i)) (ex_slice (l := i) (h := (l.length + 1)) (sz := 2) Tryz.underlying24 rfl (sizeof_66 _) (.inr ⟨_, rfl, rfl⟩) (.inl ⟨rfl, rfl⟩) (by omega) (by omega) (slice_at (by omega) rfl rfl (by omega))) ?_
 simp only [pq]
 refine dx ?_
 refine stCopy (i := 0) (j := i * 2) 1 cs S55 rfl Tryz.underlying24 size_66 rfl rfl rfl (Nat.min_eq_left (by omega)) (hcs) (by rw [splice_len (by rw [hcl4, hml]; omega), hcl4, hcs]; omega) (S55.src0 (i := 1) rfl) (one _ _ _ hp) (fun w57 S58 => ?_)
 refine wn hK56 ?_
 refine sk fun K59 hK59 => ?_
 refine dx ?_
 refine dy ?_
 simp only [pq]
 refine wn hK59 ?_
 refine wp_ret ?_
 try simp only [xt]
 refine bR (res_t rfl (gD rfl)) ?_
 have hdrop := St.drop S58 (.cons_cons _ (.cons _ (List.Sublist.refl _)))
 have hll : (l.take i ++ p :: l.drop i).length = l.length + 1 := by rw [List.length_append, List.length_cons, List.length_take, List.length_drop]; omega
 have hrow := St.blkRow (k := 2) (base := w0.heap.size) (R := R) (hR := hR) (l := l.take i ++ p :: l.drop i) (cap := cap) hdrop (el := el2.take i ++ cs :: el2.drop i) (by rw [hll]; exact (cells_ins hlen7 htk5 (by omega) (by rw [hcl4]; omega) hcs)) (allR_insert hall6 i hp) (len_insert hlen7 i hcs) (by rw [splice_len (by rw [splice_len (by rw [hcl4, hml]; omega), hcl4, hcs]; omega), splice_len (by rw [hcl4, hml]; omega), hcl4]) (by omega) (by unfold maxLen; omega) (hdrop.blk _ (List.mem_cons_self ..)).2.2
 rw [hll] at hrow
 exact ⟨_, rfl, hrow⟩
theorem insertTenant {i : Nat} {w0 w : World} {F0 F : Fz} {L0 : List Blk} {M0 : List RowP} {α : Type} {R : Fz → List Value → α → Prop} {hR : ∀ F F' x p, Le F F' → R F x p → R F' x p} {v : Value} {l : List α} {p : α} {vn : Nat} {cs : List Value} (one : ∀ F cs p, R F cs p → ∀ u ∈ cs, u.oneCell' = true)
    (S : St w0 F0 w F (⟨vn, cs, 66⟩ :: L0) (ownP 2 R hR 66 w0.heap.size v l :: M0)) (hcs : cs.length = 2) (hp : R F cs p) (hl : l.length ≤ 100000) (hi : i ≤ l.length) :
    Calls Tryz.prog 50 #[v, .int .i64 (i : Nat), .slice (some ⟨vn, 0, none⟩) 1 1] w fun e w' => ∃ v', e = .returned v' ∧ St w0 F0 w' F L0 (ownP 2 R hR 66 w0.heap.size v' (l.take i ++ p :: l.drop i) :: M0) := by
 rcases Nat.lt_or_ge i l.length with h | h
 ·obtain ⟨g, cap, rfl, _⟩ := (S.own (i := 0) rfl).form (by omega)
  exact insertMidTenant one S hcs hp hl h
 ·obtain rfl : i = l.length := by omega
  have := insertEndTenant one S hcs hp hl
  rw [List.take_length, List.drop_length]
  exact this
theorem deleteMidTenant {g cap i : Nat} {w0 w : World} {F0 F : Fz} {L0 : List Blk} {M0 : List RowP} {α : Type} {R : Fz → List Value → α → Prop} {hR : ∀ F F' x p, Le F F' → R F x p → R F' x p} {l : List α} (one : ∀ F cs p, R F cs p → ∀ u ∈ cs, u.oneCell' = true)
    (S : St w0 F0 w F L0 (ownP 2 R hR 66 w0.heap.size (.slice (some ⟨g, 0, none⟩) l.length cap) l :: M0)) (hl : l.length ≤ 100000) (hi : i < l.length) :
    Calls Tryz.prog 49 #[.slice (some ⟨g, 0, none⟩) l.length cap, .int .i64 (i : Nat), .int .i64 ((i + 1 : Nat) : Int)] w fun e w' => ∃ v', e = .returned v' ∧ St w0 F0 w' F L0 (ownP 2 R hR 66 w0.heap.size v' (l.take i ++ l.drop (i + 1)) :: M0) := by
 obtain ⟨i66, hi66, hz66, hs66, hb66⟩ := info_parts info_66
 go_enter Tryz.func49, Tryz.ntmps49
 obtain ⟨c1, el2, S3, hn9, hcp10, hmx11, hcl4, htk5, hall6, hlen7, hbg8⟩ := St.rowBlk (r := 0) S rfl
 unfold maxLen at hmx11
 refine sk fun K12 hK12 => ?_
 refine dy ?_
 refine wn hK12 ?_
 refine sk fun K13 hK13 => ?_
 iterate 3 refine dx ?_
 simp only [pq]
 refine dx ?_
 refine dn Tryz.underlying24 ?_
 refine dr (.slice (if l.length = i then ((aA g 0) : Option Addr) else ((aA g 0) : Option Addr).map (fun q => Addr.add q (i * 2))) ((i + 1) - i) (l.length - i)) (ex_slice3 (l := i) (h := (i + 1)) (m := l.length) (sz := 2) Tryz.underlying24 rfl (sizeof_66 _) rfl rfl rfl (by omega) (by omega) (by omega) rfl) ?_
 simp only [pq]
 refine wn hK13 ?_
 refine wp_seq_k (fun K14 hK14 => ?_)
 refine sk fun K15 hK15 => ?_
 iterate 2 refine dx ?_
 refine eqlF ?_
 simp only [pq]
 refine wn hK15 ?_
 refine wp_cond_false rfl ?_
 refine wp_skip ?_
 refine hK14 _ _ ?_
 refine sk fun K16 hK16 => ?_
 refine dx ?_
 refine dn Tryz.underlying24 ?_
 refine dy ?_
 simp only [pq]
 refine wn hK16 ?_
 refine wp_seq_k (fun K17 hK17 => ?_)
 refine region_gw F 6 [] (by kernel_rfl) (by kernel_rfl) ?_
 simp only [List.take_succ_cons, List.take_zero]
 iterate 2 refine gm ?_
 refine gv (.slice (aA g 0) i cap) (fun _ _ => ex_slice (l := 0) (h := i) (sz := 2) Tryz.underlying24 rfl (sizeof_66 _) (.inl ⟨rfl, rfl⟩) (.inr ⟨_, rfl, rfl⟩) (by omega) (by omega) (slice_zero)) ?_
 simp only [pq]
 iterate 2 refine gm ?_
 refine gv (.slice (if cap = i + 1 then some ⟨g, 0, none⟩ else some ⟨g, (i + 1) * 2, none⟩) (l.length - (i + 1)) (cap - (i + 1))) (fun _ _ => ex_slice (l := (i + 1)) (h := l.length) (sz := 2) Tryz.underlying24 rfl (sizeof_66 _) (.inr ⟨_, rfl, rfl⟩) (.inl ⟨rfl, rfl⟩) (by omega) (by omega) (by rw [show (some (⟨g, 0, none⟩ : Addr)).map (·.add ((i + 1) * 2)) = some ⟨g, (i + 1) * 2, none⟩ from by rw [Option.map_some, Addr.add_mid, Nat.zero_add]])) ?_
 simp only [pq]
 refine gw_nil ?_
 intro w19 hC21 hF22
 clear hF22
 have S20 := St.tells S3 hC21
 simp only [List.drop_succ_cons, List.drop_zero]
 have hml : ((c1.drop ((i + 1) * 2)).take ((l.length - (i + 1)) * 2)).length = (l.length - (i + 1)) * 2 := by rw [List.length_take, List.length_drop, hcl4]; omega
 have hone := one_mid one hall6 htk5 (i + 1)
 have hsrc := S20.src (i := 0) rfl ((i + 1) * 2) ((l.length - (i + 1)) * 2)
 obtain ⟨ad, had, hsrc2⟩ : ∃ ad : Addr, (if cap = i + 1 then some (⟨g, 0, none⟩ : Addr) else some ⟨g, (i + 1) * 2, none⟩) = some ad ∧ ∀ q u, ((c1.drop ((i + 1) * 2)).take ((l.length - (i + 1)) * 2))[q]? = some u → w19.cell? (ad.add q) = some u := by
  by_cases hcc : cap = i + 1
  rw [if_pos hcc]
  refine ⟨_, rfl, fun q u hu => ?_⟩
  have hq := (List.getElem?_eq_some_iff.1 hu).1
  rw [hml] at hq
  omega
  rw [if_neg hcc]
  exact ⟨_, rfl, hsrc⟩
 refine stRoom (k := 2) (i := 0) (n := i) (m := l.length - (i + 1)) (ad := ad) (cp := cap - (i + 1)) (l.length - 1) ((c1.drop ((i + 1) * 2)).take ((l.length - (i + 1)) * 2)) S20 rfl i66 Tryz.underlying24 hi66 hs66 rfl (show _ = _ from by rw [← had]; rfl) rfl hml hsrc2 hone (by omega) (by omega) (by rw [hml, hcl4]; omega) (fun w23 S24 => ?_)
 simp only [pq]
 refine dy ?_
 refine wl_nil (hK17 _ _ ?_)
 refine sk fun K25 hK25 => ?_
 iterate 2 refine dx ?_
 refine dn Tryz.underlying24 ?_
 simp only [pq]
 refine dx ?_
 refine dr (.slice (some ⟨g, (l.length - 1) * 2, none⟩) 1 (cap - (l.length - 1))) (ex_slice (l := (l.length - 1)) (h := l.length) (sz := 2) Tryz.underlying24 rfl (sizeof_66 _) (.inr ⟨_, rfl, rfl⟩) (.inr ⟨_, rfl, rfl⟩) (by omega) (by omega) (slice_at (by omega) (by omega) rfl (by omega))) ?_
 refine stClear (i := 0) (n := 1) (.agg #[Zn, Zn]) [Zn, Zn] S24 rfl Tryz.underlying24 (fun w => zero_66 w) (by kernel_rfl) rfl (by decide) rfl (by rw [splice_len (by rw [hml, hcl4]; omega), hcl4]; show _ + 2 ≤ _; omega) (by intro u hu; simp only [List.mem_cons, List.not_mem_nil, or_false] at hu; rcases hu with rfl | rfl <;> rfl) (fun w26 S27 => ?_)
 refine wn hK25 ?_
 refine sk fun K28 hK28 => ?_
 refine dx ?_
 refine dy ?_
 simp only [pq]
 refine wn hK28 ?_
 refine wp_ret ?_
 try simp only [xt]
 refine bR (res_t rfl (gD rfl)) ?_
 have hll : (l.take i ++ l.drop (i + 1)).length = l.length - 1 := by rw [List.length_append, List.length_take, List.length_drop]; omega
 have hrow := St.blkRow (k := 2) (base := w0.heap.size) (R := R) (hR := hR) (l := l.take i ++ l.drop (i + 1)) (cap := cap) S27 (el := el2.take i ++ el2.drop (i + 1)) (by rw [hll]; exact cells_del (zs := [(.slice none 0 0), (.slice none 0 0)]) hlen7 htk5 hi (by rw [hcl4]; omega) rfl) (allR_delete hall6 i) (len_delete hlen7 i) (by rw [splice_len (by rw [splice_len (by rw [hml, hcl4]; omega), hcl4]; show _ + 2 ≤ _; omega), splice_len (by rw [hml, hcl4]; omega), hcl4]) (by omega) (by unfold maxLen; omega) (S27.blk _ (List.mem_cons_self ..)).2.2
 rw [hll] at hrow
 exact ⟨_, rfl, hrow⟩
theorem deleteTenant {i : Nat} {w0 w : World} {F0 F : Fz} {L0 : List Blk} {M0 : List RowP} {α : Type} {R : Fz → List Value → α → Prop} {hR : ∀ F F' x p, Le F F' → R F x p → R F' x p} {v : Value} {l : List α} (one : ∀ F cs p, R F cs p → ∀ u ∈ cs, u.oneCell' = true)
    (S : St w0 F0 w F L0 (ownP 2 R hR 66 w0.heap.size v l :: M0)) (hl : l.length ≤ 100000) (hi : i < l.length) :
    Calls Tryz.prog 49 #[v, .int .i64 (i : Nat), .int .i64 ((i + 1 : Nat) : Int)] w fun e w' => ∃ v', e = .returned v' ∧ St w0 F0 w' F L0 (ownP 2 R hR 66 w0.heap.size v' (l.take i ++ l.drop (i + 1)) :: M0) := by
 obtain ⟨g, cap, rfl, _⟩ := (S.own (i := 0) rfl).form (by omega)
 exact deleteMidTenant one S hl hi
/-- What is wrong with a write by itself. -/
def wrE (w : Wr) : Int := if nameN w.name.length ≠ 0 then nameN w.name.length else if w.gone = true then (if checkN w.key.length ≠ 0 then checkN w.key.length else if 0 < w.value.length then 4 else 0) else pairE (w.key, w.value)
theorem nameN_zero {n : Nat} : nameN n = 0 ↔ 1 ≤ n ∧ n ≤ 8 := by unfold nameN; split <;> simp_all
theorem checkN_zero {n : Nat} : checkN n = 0 ↔ 1 ≤ n ∧ n ≤ 16 := by unfold checkN; split <;> simp_all
theorem wrE_ok {w : Wr} : wrE w = 0 ↔ WrOk w := by
 unfold wrE
 by_cases h1 : nameN w.name.length = 0
 rw [if_neg (by simp [h1])]
 have hn := nameN_zero.1 h1
 cases hg : w.gone with
 | true =>
  simp only [if_true]
  by_cases h2 : checkN w.key.length = 0
  rw [if_neg (by simp [h2])]
  have hk := checkN_zero.1 h2
  by_cases h3 : 0 < w.value.length
  rw [if_pos h3]
  refine ⟨fun h => by omega, fun h => ?_⟩
  have := h.gone hg
  rw [this] at h3; simp at h3
  rw [if_neg h3]
  have hv : w.value = [] := List.eq_nil_of_length_eq_zero (by omega)
  exact ⟨fun _ => ⟨hn, hk.1, hk.2, by rw [hv]; simp, fun _ => hv⟩, fun _ => rfl⟩
  rw [if_pos h2]
  exact ⟨fun h => absurd h h2, fun h => absurd (checkN_zero.2 ⟨h.key1, h.key2⟩) h2⟩
 | false =>
  simp only [Bool.false_eq_true, if_false]
  rw [pairE_ok]
  exact ⟨fun h => ⟨hn, h.1, h.2.1, h.2.2, fun h => by rw [hg] at h; cases h⟩, fun h => ⟨h.key1, h.key2, h.value⟩⟩
 rw [if_pos h1]
 exact ⟨fun h => absurd h h1, fun h => absurd (nameN_zero.2 h.name) h1⟩
theorem writeF_ok60 {f g : Forest} (hf : ForestOk 60 f) {w : Wr} (hw : WrOk w) (h : writeF f w = some g) : ForestOk 60 g := by
 have h61 := writeF_ok hf hw h
 refine ⟨h61.len, h61.name, h61.some, fun t ht => ?_, h61.rise⟩
 have ht61 := h61.tree t ht
 refine ⟨?_, ht61.ok, ht61.rise⟩
 rcases writeF_some h with ⟨_, rfl⟩ | ⟨h1, rfl, _⟩
 have : t ∈ f := by rw [delT_rem _ hf.rise] at ht; exact mem_remT ht
 exact (hf.tree t this).len
 rw [putT_ins _ _ hf.rise] at ht
 rcases mem_insT ht with rfl | ht
 show (nextT w (treeF f w.name)).length ≤ 60
 unfold writeF at h
 dsimp only at h
 by_cases h2 : w.gone = false ∧ 60 < (nextT w (treeF f w.name)).length
 rw [if_pos h2] at h; cases h
 have hl := (treeF_ok hf w.name)
 cases hg : w.gone with
 | false => exact Nat.le_of_not_lt fun q => h2 ⟨hg, q⟩
 | true =>
  unfold nextT
  rw [hg, if_pos rfl]
  exact (TreeOk.del hl).len
 exact (hf.tree t ht).len
/-- Writes, one behind the other: what they tell, and the forest. -/
def applyR : Forest → List Wr → Int × Forest
  | f, [] => (0, f)
  | f, w :: ws => if wrE w ≠ 0 then (wrE w, []) else match writeF f w with
    | none => (11, [])
    | some g => applyR g ws
theorem applyR_ok : ∀ {ws : List Wr} {f : Forest}, (∀ w ∈ ws, WrOk w) → applyR f ws = match applyF f ws with | some g => (0, g) | none => (11, [])
  | [], f, _ => rfl
  | w :: ws, f, h => by
    have h0 := wrE_ok.2 (h w (by simp))
    unfold applyR applyF
    rw [if_neg (by simp [h0])]
    cases writeF f w with
    | none => rfl
    | some g => exact applyR_ok fun x hx => h x (by simp [hx])
/-- What forest.Check tells. -/
def forestAt (l : Forest) : Nat → Nat → Int
  | 0, _ => 0
  | n + 1, k => match l[k]? with
    | none => 0
    | some t => if nameN t.1.length ≠ 0 then nameN t.1.length else if t.2.length = 0 then 4 else if treeE t.2 ≠ 0 then treeE t.2 else if 0 < k ∧ 0 ≤ cmpL (l.getD (k - 1) ([], [])).1 t.1 then 3 else forestAt l n (k + 1)
def forestE (l : Forest) : Int := if 8 < l.length then 1 else forestAt l l.length 0
theorem forestAt_at {l : Forest} {k : Nat} {t : By × List Pr} (hp : l[k]? = some t) : forestAt l (l.length - k) k = if nameN t.1.length ≠ 0 then nameN t.1.length else if t.2.length = 0 then 4 else if treeE t.2 ≠ 0 then treeE t.2 else if 0 < k ∧ 0 ≤ cmpL (l.getD (k - 1) ([], [])).1 t.1 then 3 else forestAt l (l.length - (k + 1)) (k + 1) := by
 obtain ⟨hk, _⟩ := List.getElem?_eq_some_iff.1 hp
 rw [show l.length - k = (l.length - (k + 1)) + 1 from by omega]
 simp only [forestAt, hp]
theorem forestAt_end {l : Forest} {k : Nat} (hk : l.length ≤ k) : forestAt l (l.length - k) k = 0 := by rw [show l.length - k = 0 from by omega]; rfl
theorem forestE_ok {l : Forest} : forestE l = 0 ↔ ForestOk 60 l := by
 unfold forestE
 by_cases hl : 8 < l.length
 rw [if_pos hl]
 exact ⟨fun h => by omega, fun h => by have := h.len; omega⟩
 rw [if_neg hl]
 have key : ∀ n k, n + k = l.length → (forestAt l n k = 0 ↔ ∀ i (hi : i < l.length), k ≤ i → (NameOk l[i].1 ∧ l[i].2 ≠ [] ∧ TreeOk 60 l[i].2) ∧ (0 < i → Lt (l.getD (i - 1) ([], [])).1 l[i].1)) := by
  intro n
  induction n with
  | zero => intro k hk; simp only [forestAt]; exact ⟨fun _ i hi h => by omega, fun _ => trivial⟩
  | succ n ih =>
   intro k hk
   have hk' : k < l.length := by omega
   simp only [forestAt, List.getElem?_eq_getElem hk']
   have ihk := ih (k + 1) (by omega)
   by_cases h1 : nameN l[k].1.length = 0
   rw [if_neg (by simp [h1])]
   by_cases h2 : l[k].2.length = 0
   rw [if_pos h2]
   exact ⟨fun h => by omega, fun h => absurd (List.eq_nil_of_length_eq_zero h2) (h k hk' (Nat.le_refl _)).1.2.1⟩
   rw [if_neg h2]
   by_cases h3 : treeE l[k].2 = 0
   rw [if_neg (by simp [h3])]
   by_cases hc : 0 < k ∧ 0 ≤ cmpL (l.getD (k - 1) ([], [])).1 l[k].1
   rw [if_pos hc]
   refine ⟨fun h => by omega, fun h => ?_⟩
   have := (h k hk' (Nat.le_refl _)).2 hc.1
   have := cmpL_lt.2 this
   omega
   rw [if_neg hc, ihk]
   refine ⟨fun h i hi hki => ?_, fun h i hi hki => h i hi (by omega)⟩
   by_cases e : i = k
   subst e
   refine ⟨⟨nameN_zero.1 h1, fun e => h2 (by rw [e]; rfl), treeE_ok.1 h3⟩, fun h0 => cmpL_lt.1 ?_⟩
   have : ¬ 0 ≤ cmpL (l.getD (i - 1) ([], [])).1 l[i].1 := fun h => hc ⟨h0, h⟩
   omega
   exact h i hi (by omega)
   rw [if_pos h3]
   exact ⟨fun h => absurd h h3, fun h => absurd (treeE_ok.2 (h k hk' (Nat.le_refl _)).1.2.2) h3⟩
   rw [if_pos h1]
   exact ⟨fun h => absurd h h1, fun h => absurd (nameN_zero.2 (h k hk' (Nat.le_refl _)).1.1) h1⟩
 rw [key l.length 0 (by omega)]
 constructor
 intro h
 have hm : ∀ t ∈ l, NameOk t.1 ∧ t.2 ≠ [] ∧ TreeOk 60 t.2 := fun t ht => by
  obtain ⟨i, hi, rfl⟩ := List.mem_iff_getElem.1 ht
  exact (h i hi (by omega)).1
 refine ⟨by omega, fun t ht => (hm t ht).1, fun t ht => (hm t ht).2.1, fun t ht => (hm t ht).2.2, ?_⟩
 have step : ∀ j i (hi : i < l.length) (hj : j < l.length), i < j → Lt l[i].1 l[j].1 := by
  intro j
  induction j with
  | zero => intro i _ _ h; omega
  | succ j ih =>
   intro i hi hj hij
   have h1 := (h (j + 1) hj (by omega)).2 (by omega)
   simp only [Nat.add_sub_cancel, List.getD, List.getElem?_eq_getElem (show j < l.length by omega), Option.getD_some] at h1
   by_cases e : i = j
   subst e; exact h1
   exact less_trans _ _ _ (ih i hi (by omega) (by omega)) h1
 exact List.pairwise_iff_getElem.2 fun i j hi hj hij => step j i hi hj hij
 intro h i hi _
 have hmem := List.getElem_mem hi
 refine ⟨⟨h.name _ hmem, h.some _ hmem, h.tree _ hmem⟩, fun h0 => ?_⟩
 simp only [List.getD, List.getElem?_eq_getElem (show i - 1 < l.length by omega), Option.getD_some]
 exact List.pairwise_iff_getElem.1 h.rise (i - 1) i (by omega) hi (by omega)
theorem samePair_spec (F : Fz) (w : World) (v u : Value) (p q : Pr) (hs : Sat w F) (hv : Pr2V F v p) (hu : Pr2V F u q) :
    Calls Tryz.prog 71 #[v, u] w (Tells w (.bool (decide (p = q)))) := by
 obtain ⟨x0, y0, x1, y1, rfl, h0, h1⟩ := hv
 obtain ⟨x0q, y0q, x1q, y1q, rfl, k0, k1⟩ := hu
 have S := St.start hs
 go_enter Tryz.func71, Tryz.ntmps71
 refine sk fun K1 hK1 => ?_
 refine stNew S (v := fun n => .pointer (aA n 0)) rfl (ex_box (v := (.agg #[(.slice x0 p.1.length y0), (.slice x1 p.2.length y1)])) rfl) (fun n2 w3 S4 => ?_)
 refine stNew S4 (v := fun n => .pointer (aA n 0)) rfl (ex_box (v := (.agg #[(.slice x0q q.1.length y0q), (.slice x1q q.2.length y1q)])) rfl) (fun n5 w6 S7 => ?_)
 simp only [pq]
 refine dy ?_
 refine wn hK1 ?_
 refine wp_seq_k (fun K8 hK8 => ?_)
 by_cases e1 : p.1 = q.1
 refine region_wl ?_
 refine df (fa_50_0 _ _) ?_
 refine dl (nagg_25 _) S7 1 ?_
 refine df (fa_50_0 _ _) ?_
 simp only [pq]
 refine dl (nagg_25 _) S7 0 ?_
 refine stTells (v := bT) S7 rfl (fn2 (ent_53 _ _)) (tells_bool (tells_same (same_spec _ _ _ _ p.1 q.1 (S7).sat h0 k0)) (beq_iff_eq.2 e1)) (fun w9 S10 => ?_)
 refine dx ?_
 refine df (fa_50_1 _ _) ?_
 refine dl (nagg_25 _) S10 1 ?_
 simp only [pq]
 refine df (fa_50_1 _ _) ?_
 refine dl (nagg_25 _) S10 0 ?_
 refine stTells (v := (.bool (p.2 == q.2))) S10 rfl (fn2 (ent_53 _ _)) (tells_same (same_spec _ _ _ _ p.2 q.2 (S10).sat h1 k1)) (fun w11 S12 => ?_)
 refine dp ?_
 refine dy ?_
 simp only [pq]
 refine wl_nil (hK8 _ _ ?_)
 refine wp_ret ?_
 try simp only [xt]
 refine bR (res_t rfl (gD rfl)) ?_
 exact ⟨by rw [show decide (p = q) = (p.2 == q.2) from by rw [Bool.eq_iff_iff, decide_eq_true_iff, beq_iff_eq]; exact ⟨fun e => congrArg Prod.snd e, fun e => Prod.ext e1 e⟩], S12.gr.below⟩
 refine region_wl ?_
 refine df (fa_50_0 _ _) ?_
 refine dl (nagg_25 _) S7 1 ?_
 refine df (fa_50_0 _ _) ?_
 simp only [pq]
 refine dl (nagg_25 _) S7 0 ?_
 refine stTells (v := bF) S7 rfl (fn2 (ent_53 _ _)) (tells_bool (tells_same (same_spec _ _ _ _ p.1 q.1 (S7).sat h0 k0)) (beq_eq_false_iff_ne.2 e1)) (fun w13 S14 => ?_)
 refine dx ?_
 refine nO ?_
 simp only [pq]
 iterate 3 refine nO ?_
 simp only [pq]
 refine nO ?_
 refine dp ?_
 refine dy ?_
 simp only [pq]
 refine wl_nil (hK8 _ _ ?_)
 refine wp_ret ?_
 try simp only [xt]
 refine bR (res_t rfl (gD rfl)) ?_
 exact ⟨by rw [decide_eq_false (fun e => e1 (congrArg Prod.fst e))], S14.gr.below⟩
theorem samePairs_spec (F : Fz) (w : World) (v u : Value) (l m : List Pr) (hs : Sat w F) (hv : Prs F v l) (hu : Prs F u m) (hl : l.length ≤ 1000000) :
    Calls Tryz.prog 54 #[v, u] w (Tells w (.bool (decide (l = m)))) := by
 obtain ⟨a, c, rfl, hc1, hc2⟩ := Sl.shape hv
 obtain ⟨a2, c2, rfl, hc3, hc4⟩ := Sl.shape hu
 unfold maxLen at hc2 hc4
 have S := St.start hs
 go_enter Tryz.func54, Tryz.ntmps54
 refine sk fun K1 hK1 => ?_
 refine dy ?_
 refine wn hK1 ?_
 refine wp_seq_k (fun K2 hK2 => ?_)
 refine sk fun K3 hK3 => ?_
 refine dx ?_
 refine dn Tryz.underlying47 ?_
 refine dx ?_
 simp only [pq]
 refine dn Tryz.underlying47 ?_
 simp only [pq]
 by_cases hc10 : l.length = m.length
 refine neqF ?_
 refine wn hK3 ?_
 refine wp_cond_false rfl ?_
 refine wp_skip ?_
 refine hK2 _ _ ?_
 refine wp_seq_k (fun K4 hK4 => ?_)
 refine sk fun K5 hK5 => ?_
 refine dy ?_
 refine wn hK5 ?_
 refine wp_block ?_
 refine wp_loop_g (fun mm aa w7 => ∃ (k : Nat) (u6 : Nat → Value), mm = l.length - k ∧ u6 = slots aa ∧ aa = ⟨#[(.slice a l.length c), (.slice a2 m.length c2), undef, undef, (u6 4), (nI k), (.slice a l.length c), (nI l.length), (.slice a2 m.length c2), (nI m.length), bF, (u6 11), (u6 12), (u6 13), (u6 14), (u6 15), (u6 16), (u6 17), (u6 18), (u6 19), (u6 20), (u6 21), (u6 22), (u6 23), (u6 24), (u6 25), (u6 26)], []⟩ ∧ St w F w7 F [] [] ∧ (k ≤ l.length) ∧ (∀ i, i < k → l[i]? = m[i]?)) _ ⟨0, _, rfl, rfl, rfl, S, (by omega), (fun i hi => absurd hi (by omega))⟩ ?_
 rintro m8 a9 w10 ⟨k, u6, rfl, -, rfl, S11, hk, hsm⟩ K13 hK13
 refine wp_seq_k (fun K14 hK14 => ?_)
 refine sk fun K15 hK15 => ?_
 iterate 2 refine dx ?_
 refine dn Tryz.underlying47 ?_
 simp only [pq]
 by_cases hc14 : k < l.length
 refine lssT ?_
 refine wn hK15 ?_
 refine wp_cond_true rfl ?_
 refine wp_skip ?_
 refine hK14 _ _ ?_
 refine wp_seq_k (fun K16 hK16 => ?_)
 refine wp_block ?_
 refine wp_seq_k (fun K17 hK17 => ?_)
 obtain ⟨p, hp⟩ : ∃ p, l[k]? = some p := ⟨l[k], List.getElem?_eq_getElem hc14⟩
 obtain ⟨q, hq⟩ : ∃ q, m[k]? = some q := ⟨m[k]'(by omega), List.getElem?_eq_getElem (by omega)⟩
 obtain ⟨b18, o19, ha20, xa22, xc23, xa26, xc27, c21, c25, r24, r28⟩ := Prs.get hv hp
 obtain ⟨b29, o30, ha31, xa33, xc34, xa37, xc38, c32, c36, r35, r39⟩ := Prs.get hu hq
 refine region_gw F 8 [] (by kernel_rfl) (by kernel_rfl) ?_
 simp only [List.take_succ_cons, List.take_zero]
 iterate 2 refine gm ?_
 simp only [pq]
 refine gv (pP b18 (o19 + k * 2)) (fun _ _ => ex_at (i := k) (sz := 2) Tryz.underlying47 (sizeof_50 _) rfl ha20 rfl (by omega) rfl) ?_
 refine gv _ (fun _ C40 => ex_load rfl (loadM Tryz.underlying50 rfl (size_50) (range2 (St.fz (St.tells S11 C40) c21) (St.fz (St.tells S11 C40) c25)))) ?_
 refine gm ?_
 simp only [pq]
 refine gm ?_
 refine gv (pP b29 (o30 + k * 2)) (fun _ _ => ex_at (i := k) (sz := 2) Tryz.underlying47 (sizeof_50 _) rfl ha31 rfl (by omega) rfl) ?_
 refine gv _ (fun _ C40 => ex_load rfl (loadM Tryz.underlying50 rfl (size_50) (range2 (St.fz (St.tells S11 C40) c32) (St.fz (St.tells S11 C40) c36)))) ?_
 simp only [pq]
 refine gw_nil ?_
 intro w41 hC43 hF44
 clear hF44
 have S42 := St.tells S11 hC43
 simp only [List.drop_succ_cons, List.drop_zero]
 refine stTells (v := (.bool (decide (p = q)))) S42 rfl (fn2 (ent_71 _ _)) (samePair_spec _ _ _ _ p q (S42).sat ⟨_, _, _, _, rfl, r24, r28⟩ ⟨_, _, _, _, rfl, r35, r39⟩) (fun w45 S46 => ?_)
 simp only [pq]
 refine dr (.bool (!(decide (p = q)))) (ex_not rfl rfl) ?_
 refine wl_nil (hK17 _ _ ?_)
 refine wp_cond_split rfl (fun hc47 => ?_) (fun hc47 => ?_)
 refine sk fun K48 hK48 => ?_
 refine dy ?_
 refine wn hK48 ?_
 refine wp_ret ?_
 (try simp only [Exit.then, Exit.inBlock, ↓reduceIte, Nat.reduceEqDiff])
 refine bR (res_t rfl (gD rfl)) ?_
 exact ⟨by rw [decide_eq_false (fun e => by rw [e] at hp; rw [hp] at hq; cases hq; simp at hc47)], S46.gr.below⟩
 refine wp_skip ?_
 refine hK16 _ _ ?_
 refine region_wl ?_
 refine dx ?_
 refine dAdd (k + 1) ?_
 refine dy ?_
 simp only [pq]
 refine wl_nil ?_
 exact hK13 _ _ _ (by omega) ⟨(k + 1), _, rfl, rfl, rfl, S46, (by omega), (fun i hi => by rcases Nat.lt_succ_iff_lt_or_eq.1 hi with h | rfl; exact hsm i h; rw [hp, hq, show p = q from by simpa using hc47])⟩
 refine lssF ?_
 refine wn hK15 ?_
 refine wp_cond_false rfl ?_
 refine wp_exit ?_
 refine hK4 _ _ ?_
 refine sk fun K49 hK49 => ?_
 refine dy ?_
 refine wn hK49 ?_
 refine wp_ret ?_
 (try simp only [Exit.then, Exit.inBlock, ↓reduceIte, Nat.reduceEqDiff])
 refine bR (res_t rfl (gD rfl)) ?_
 exact ⟨by rw [decide_eq_true (List.ext_getElem? fun i => by rcases Nat.lt_or_ge i k with h | h; exact hsm i h; rw [List.getElem?_eq_none (by omega), List.getElem?_eq_none (by omega)])], S11.gr.below⟩
 refine neqT ?_
 simp only [pq]
 refine wn hK3 ?_
 refine wp_cond_true rfl ?_
 refine sk fun K50 hK50 => ?_
 refine dy ?_
 refine wn hK50 ?_
 refine wp_ret ?_
 (try simp only [Exit.then, Exit.inBlock, ↓reduceIte, Nat.reduceEqDiff])
 refine bR (res_t rfl (gD rfl)) ?_
 exact ⟨by rw [decide_eq_false (fun e => hc10 (by rw [e]))], S.gr.below⟩
theorem delOk_spec (F : Fz) (w : World) (v u : Value) (l : List Pr) (k : By) (hs : Sat w F) (hv : Prs F v l) (hu : Bs F u k) (ok : TreeOk 60 l) (hk : 1 ≤ k.length ∧ k.length ≤ 16) :
    Calls Tryz.prog 47 #[v, u] w (Gives w F (PrsE (delT l k) 0)) := by
 have := delete_spec F w v u l k hs hv hu ok
 have h := checkN_ok hk.1 hk.2
 unfold delR delE at this
 rw [if_pos h, h] at this
 exact this
theorem rangeOk_spec (F : Fz) (w : World) (v u z : Value) (l : List Pr) (x y : By) (hs : Sat w F) (hv : Prs F v l) (hx : Bs F u x) (hy : Bs F z y) (ok : TreeOk 60 l) (h1 : 1 ≤ x.length ∧ x.length ≤ 16) (h2 : 1 ≤ y.length ∧ y.length ≤ 16) :
    Calls Tryz.prog 131 #[v, u, z] w (Gives w F (PrsE (rangeT l x y) 0)) := by
 have := range_spec F w v u z l x y hs hv hx hy ok
 have he : rangeE x y = 0 := by unfold rangeE; rw [checkN_ok h1.1 h1.2, checkN_ok h2.1 h2.2]; rfl
 unfold rangeR at this
 rw [he, if_pos rfl] at this
 exact this
theorem getIs_spec (F : Fz) (w : World) (v u : Value) (l : List Pr) (k : By) {o : Option By} (hs : Sat w F) (hv : Prs F v l) (hu : Bs F u k) (ok : TreeOk 60 l) (hk : 1 ≤ k.length ∧ k.length ≤ 16) (h : getT l k = o) :
    Calls Tryz.prog 39 #[v, u] w (Gives w F (GetR o 0)) := by
 subst h; exact get_spec F w v u l k hs hv hu ok hk.1 hk.2
theorem findCmp_spec (F : Fz) (w : World) (v u : Value) (t : By × List Pr) (k : By) (hs : Sat w F) (hv : TnV F v t) (hu : Bs F u k) :
    Calls Tryz.prog 61 #[v, u] w (Tells w (.int .i64 (cmpL t.1 k))) := by
 obtain ⟨x0, y0, x1, y1, rfl, h0, h1⟩ := hv
 obtain ⟨a2, c2, rfl, _⟩ := hu.shape
 have S := St.start hs
 go_enter Tryz.func61, Tryz.ntmps61
 refine sk fun K1 hK1 => ?_
 refine stNew S (v := fun n => .pointer (aA n 0)) rfl (ex_box (v := (.agg #[(.slice x0 t.1.length y0), (.slice x1 t.2.length y1)])) rfl) (fun n2 w3 S4 => ?_)
 refine dy ?_
 refine wn hK1 ?_
 refine sk fun K5 hK5 => ?_
 refine df (fa_66_0 _ _) ?_
 refine dl (nagg_25 _) S4 0 ?_
 refine dx ?_
 simp only [pq]
 refine stTells (v := (.int .i64 (cmpL t.1 k))) S4 rfl (fn2 (ent_44 _ _)) (bytesCompare_spec _ _ _ _ t.1 k (S4).sat h0 hu) (fun w6 S7 => ?_)
 refine dy ?_
 refine wn hK5 ?_
 refine wp_ret ?_
 try simp only [xt]
 refine bR (res_t rfl (gD rfl)) ?_
 exact ⟨rfl, S7.gr.below⟩
theorem bsearchT_spec (F : Fz) (w : World) (v u : Value) (l : Forest) (k : By) (hs : Sat w F) (hv : Tns F v l) (hu : Bs F u k) (hr : Rise l) (hl : l.length ≤ 1000000) :
    Calls Tryz.prog 60 #[v, u, .func (.func 61) #[] #[]] w (Tells w (.tuple #[.int .i64 (posT l k : Nat), .bool (hasT l k)])) := by
 obtain ⟨a, c, rfl, hc1, hc2⟩ := Sl.shape hv
 obtain ⟨a2, c2, rfl, _⟩ := hu.shape
 unfold maxLen at hc2
 have S := St.start hs
 go_enter Tryz.func60, Tryz.ntmps60
 refine sk fun K1 hK1 => ?_
 iterate 2 refine dy ?_
 refine wn hK1 ?_
 refine sk fun K2 hK2 => ?_
 refine dx ?_
 refine dn Tryz.underlying24 ?_
 refine dy ?_
 simp only [pq]
 refine wn hK2 ?_
 refine sk fun K3 hK3 => ?_
 refine dx ?_
 iterate 2 refine dy ?_
 simp only [pq]
 refine wn hK3 ?_
 refine wp_seq_k (fun K4 hK4 => ?_)
 refine wp_block ?_
 refine wp_loop_g (fun mm aa w6 => ∃ (i : Nat) (j : Nat) (u5 : Nat → Value), mm = j - i ∧ u5 = slots aa ∧ aa = ⟨#[(.slice a l.length c), (.slice a2 k.length c2), (.func (.func 61) #[] #[]), undef, undef, undef, (iI 0), bF, (nI l.length), (nI i), (nI j), (u5 11), (.slice a l.length c), (nI l.length), (nI l.length), (u5 15), (u5 16), (u5 17), (u5 18), (u5 19), (u5 20), (u5 21), (u5 22), (u5 23), (u5 24), (u5 25), (u5 26), (u5 27), (u5 28), (u5 29), (u5 30), (u5 31), (u5 32), (u5 33), (u5 34), undef, undef, undef, undef, undef, undef, undef, undef, undef, undef, undef, undef, undef, undef], []⟩ ∧ St w F w6 F [] [] ∧ (i ≤ j) ∧ (j ≤ l.length) ∧ (i ≤ posT l k) ∧ (posT l k ≤ j)) _ ⟨0, l.length, _, rfl, rfl, rfl, S, (by omega), (by omega), (by omega), (posBy_le _ _ _)⟩ ?_
 rintro m7 a8 w9 ⟨i, j, u5, rfl, -, rfl, S10, hij, hj, hip, hjp⟩ K12 hK12
 refine wp_seq_k (fun K13 hK13 => ?_)
 refine sk fun K14 hK14 => ?_
 iterate 2 refine dx ?_
 simp only [pq]
 by_cases hc17 : i < j
 ·refine lssT ?_
  refine wn hK14 ?_
  refine wp_cond_true rfl ?_
  refine wp_skip ?_
  refine hK13 _ _ ?_
  refine wp_block ?_
  refine sk fun K15 hK15 => ?_
  iterate 2 refine dx ?_
  refine dAdd (i + j) ?_
  simp only [pq]
  refine dr (.int .u64 (((i + j) : Nat) : Int)) (ex_convert (v := (nI (i + j))) rfl (conv_iu (i + j) (by omega) _)) ?_
  refine dr (.int .u64 (((i + j) / 2 : Nat) : Int)) (ex_shr (.inl rfl) rfl rfl (shr1_u (i + j) _ _)) ?_
  refine dr (.int .i64 (((i + j) / 2 : Nat) : Int)) (ex_convert (v := (.int .u64 (((i + j) / 2 : Nat) : Int))) rfl (conv_ui ((i + j) / 2) (by omega) _)) ?_
  simp only [pq]
  refine dy ?_
  refine wn hK15 ?_
  refine wp_seq_k (fun K16 hK16 => ?_)
  obtain ⟨t, hp⟩ : ∃ t, l[(i + j) / 2]? = some t := ⟨l[(i + j) / 2], List.getElem?_eq_getElem (by omega)⟩
  obtain ⟨b17, o18, ha19, xa21, xc22, xa25, xc26, c20, c24, r23, r27⟩ := Tns.get hv hp
  refine region_wl ?_
  iterate 3 refine dx ?_
  simp only [pq]
  refine dr (pP b17 (o18 + ((i + j) / 2) * 2)) (ex_at (i := (i + j) / 2) (sz := 2) Tryz.underlying24 (sizeof_66 _) rfl ha19 rfl (by omega) rfl) ?_
  refine dr _ (ex_load rfl (loadM Tryz.underlying66 rfl (size_66) (range2 (St.fz S10 c20) (St.fz S10 c24)))) ?_
  refine dx ?_
  simp only [pq]
  refine stTells (v := (.int .i64 (cmpL t.1 k))) S10 rfl (ex_fv (fs := #[]) (cs := #[]) (vs := #[(.agg #[(.slice xa21 t.1.length xc22), (.slice xa25 t.2.length xc26)]), (.slice a2 k.length c2)]) rfl (vmap (fs := #[]) (cs := #[]) (xs := #[(.agg #[(.slice xa21 t.1.length xc22), (.slice xa25 t.2.length xc26)]), (.slice a2 k.length c2)]) (map2 rfl rfl) (by simp)) (ent_61 _ _)) (findCmp_spec _ _ _ _ t k (S10).sat ⟨_, _, _, _, rfl, r23, r27⟩ hu) (fun w28 S29 => ?_)
  simp only [pq]
  by_cases hc31 : (cmpL t.1 k) < (0 : Int)
  ·refine lssT ?_
   refine wl_nil (hK16 _ _ ?_)
   refine wp_cond_true rfl ?_
   refine region_wl ?_
   refine dx ?_
   refine dAdd ((i + j) / 2 + 1) ?_
   refine dy ?_
   simp only [pq]
   refine wl_nil ?_
   exact hK12 _ _ _ (by omega) ⟨((i + j) / 2 + 1), j, _, rfl, rfl, rfl, S29, (by have := pos_gt hr hp hc31; omega), (by omega), (pos_gt hr hp hc31), (by omega)⟩
  ·refine lssF ?_
   refine wl_nil (hK16 _ _ ?_)
   refine wp_cond_false rfl ?_
   refine region_wl ?_
   refine dx ?_
   refine dy ?_
   simp only [pq]
   refine wl_nil ?_
   exact hK12 _ _ _ (by omega) ⟨i, (i + j) / 2, _, rfl, rfl, rfl, S29, (by omega), (by omega), (by omega), (pos_le hp hc31)⟩
 ·refine lssF ?_
  refine wn hK14 ?_
  refine wp_cond_false rfl ?_
  refine wp_exit ?_
  refine hK4 _ _ ?_
  refine wp_seq_k (fun K30 hK30 => ?_)
  have hip2 : posT l k = i := by omega
  by_cases h0 : i < l.length
  ·obtain ⟨t, hp⟩ : ∃ t, l[i]? = some t := ⟨l[i], List.getElem?_eq_getElem h0⟩
   obtain ⟨b31, o32, ha33, xa35, xc36, xa39, xc40, c34, c38, r37, r41⟩ := Tns.get hv hp
   refine region_wl ?_
   iterate 3 refine dx ?_
   simp only [pq]
   refine lssT ?_
   iterate 2 refine dx ?_
   simp only [pq]
   iterate 2 refine dx ?_
   refine dr (pP b31 (o32 + i * 2)) (ex_at (i := i) (sz := 2) Tryz.underlying24 (sizeof_66 _) rfl ha33 rfl (by omega) rfl) ?_
   simp only [pq]
   refine dr _ (ex_load rfl (loadM Tryz.underlying66 rfl (size_66) (range2 (St.fz S10 c34) (St.fz S10 c38)))) ?_
   refine dx ?_
   refine stTells (v := (.int .i64 (cmpL t.1 k))) S10 rfl (ex_fv (fs := #[]) (cs := #[]) (vs := #[(.agg #[(.slice xa35 t.1.length xc36), (.slice xa39 t.2.length xc40)]), (.slice a2 k.length c2)]) rfl (vmap (fs := #[]) (cs := #[]) (xs := #[(.agg #[(.slice xa35 t.1.length xc36), (.slice xa39 t.2.length xc40)]), (.slice a2 k.length c2)]) (map2 rfl rfl) (by simp)) (ent_61 _ _)) (findCmp_spec _ _ _ _ t k (S10).sat ⟨_, _, _, _, rfl, r37, r41⟩ hu) (fun w42 S43 => ?_)
   simp only [pq]
   by_cases hc47 : (cmpL t.1 k) = (0 : Int)
   ·refine eqlT ?_
    refine dp ?_
    refine dy ?_
    simp only [pq]
    refine dy ?_
    refine wl_nil (hK30 _ _ ?_)
    refine wp_ret ?_
    (try simp only [Exit.then, Exit.inBlock, ↓reduceIte, Nat.reduceEqDiff])
    refine bR (res_tt rfl (gD rfl) (gD rfl)) ?_
    ·have e2 := has_yes hr (by rw [hip2]; exact hp) hc47
     exact ⟨by rw [e2, hip2], S43.gr.below⟩
   ·refine eqlF ?_
    refine dp ?_
    refine dy ?_
    simp only [pq]
    refine dy ?_
    refine wl_nil (hK30 _ _ ?_)
    refine wp_ret ?_
    (try simp only [Exit.then, Exit.inBlock, ↓reduceIte, Nat.reduceEqDiff])
    refine bR (res_tt rfl (gD rfl) (gD rfl)) ?_
    ·have e2 := has_no hr (by rw [hip2]; exact hp) hc47
     exact ⟨by rw [e2, hip2], S43.gr.below⟩
  ·refine region_wl ?_
   iterate 3 refine dx ?_
   simp only [pq]
   refine lssF ?_
   refine dx ?_
   refine nO ?_
   simp only [pq]
   iterate 3 refine nO ?_
   simp only [pq]
   iterate 3 refine nO ?_
   simp only [pq]
   refine nO ?_
   refine dp ?_
   iterate 2 refine dy ?_
   simp only [pq]
   refine wl_nil (hK30 _ _ ?_)
   refine wp_ret ?_
   (try simp only [Exit.then, Exit.inBlock, ↓reduceIte, Nat.reduceEqDiff])
   refine bR (res_tt rfl (gD rfl) (gD rfl)) ?_
   ·have e2 : hasT l k = false := has_end hr (by omega)
    exact ⟨by rw [e2, hip2], S10.gr.below⟩
theorem findT_spec (F : Fz) (w : World) (v u : Value) (l : Forest) (k : By) (hs : Sat w F) (hv : Tns F v l) (hu : Bs F u k) (hr : Rise l) (hl : l.length ≤ 1000000) :
    Calls Tryz.prog 46 #[v, u] w (Tells w (.tuple #[.int .i64 (posT l k : Nat), .bool (hasT l k)])) := by
 obtain ⟨a, c, rfl, hc1, hc2⟩ := Sl.shape hv
 obtain ⟨a2, c2, rfl, _⟩ := hu.shape
 have S := St.start hs
 go_enter Tryz.func46, Tryz.ntmps46
 refine sk fun K1 hK1 => ?_
 iterate 2 refine dy ?_
 refine wn hK1 ?_
 refine sk fun K2 hK2 => ?_
 iterate 2 refine dx ?_
 simp only [pq]
 refine stTells (v := (.tuple #[(nI (posT l k)), (.bool (hasT l k))])) S rfl (fn3 (ent_60 _ _)) (bsearchT_spec _ _ _ _ l k (S).sat hv hu hr hl) (fun w3 S4 => ?_)
 iterate 2 refine de ?_
 refine dy ?_
 simp only [pq]
 refine dy ?_
 refine wn hK2 ?_
 refine wp_ret ?_
 try simp only [xt]
 refine bR (res_tt rfl (gD rfl) (gD rfl)) ?_
 exact ⟨rfl, S4.gr.below⟩
theorem treeF_has {l : Forest} (hr : Rise l) {k : By} {t : By × List Pr} (h : hasT l k = true) (hp : l[posT l k]? = some t) : treeF l k = t.2 := by
 obtain ⟨hh, rfl⟩ := List.getElem?_eq_some_iff.1 hp
 obtain ⟨_, h2⟩ := (hasBy_at hr).1 h
 have := mem_getT hr (List.getElem_mem hh)
 rw [show l[posT l k].1 = k from h2] at this
 unfold treeF
 rw [this]
 rfl
theorem treeF_not {l : Forest} {k : By} (h : hasT l k = false) : treeF l k = [] := by
 unfold treeF
 rw [get_not (by rw [h]; simp)]
 rfl
theorem hasF_pos {l : Forest} (hr : Rise l) {k : By} (h : hasT l k = true) : posT l k < l.length := ((hasBy_at hr).1 h).1
theorem pairsT_spec (F : Fz) (w : World) (v u : Value) (l : Forest) (k : By) (hs : Sat w F) (hv : Tns F v l) (hu : Bs F u k) (hr : Rise l) (hl : l.length ≤ 1000000) :
    Calls Tryz.prog 40 #[v, u] w fun e w' => ∃ x, e = .returned x ∧ Below w.heap.size w w' ∧ Prs F x (treeF l k) := by
 obtain ⟨a, c, rfl, hc1, hc2⟩ := Sl.shape hv
 obtain ⟨a2, c2, rfl, _⟩ := hu.shape
 unfold maxLen at hc2
 have S := St.start hs
 go_enter Tryz.func40, Tryz.ntmps40
 refine sk fun K1 hK1 => ?_
 refine dy ?_
 refine wn hK1 ?_
 refine wp_seq_k (fun K2 hK2 => ?_)
 refine sk fun K3 hK3 => ?_
 iterate 2 refine dx ?_
 simp only [pq]
 refine stTells (v := (.tuple #[(nI (posT l k)), (.bool (hasT l k))])) S rfl (fn2 (ent_46 _ _)) (findT_spec _ _ _ _ l k (S).sat hv hu hr hl) (fun w4 S5 => ?_)
 refine dx ?_
 iterate 2 refine de ?_
 simp only [pq]
 iterate 2 refine dy ?_
 refine wn hK3 ?_
 refine sk fun K6 hK6 => ?_
 refine dx ?_
 simp only [pq]
 refine wn hK6 ?_
 refine wp_cond_split rfl (fun hc7 => ?_) (fun hc7 => ?_)
 refine wp_seq_k (fun K8 hK8 => ?_)
 have hpos := hasF_pos hr hc7
 obtain ⟨t, hp⟩ : ∃ t, l[posT l k]? = some t := ⟨l[posT l k], List.getElem?_eq_getElem hpos⟩
 obtain ⟨b9, o10, ha11, xa13, xc14, xa17, xc18, c12, c16, r15, r19⟩ := Tns.get hv hp
 refine region_wl ?_
 iterate 2 refine dx ?_
 refine dr (pP b9 (o10 + (posT l k) * 2)) (ex_at (i := (posT l k)) (sz := 2) Tryz.underlying24 (sizeof_66 _) rfl ha11 rfl (hpos) rfl) ?_
 simp only [pq]
 refine df (fa_66_1 _ _) ?_
 refine dr _ (ex_load rfl (load1 (nagg_47 _) (St.fz S5 c16))) ?_
 refine dy ?_
 simp only [pq]
 refine wl_nil (hK8 _ _ ?_)
 refine wp_ret ?_
 try simp only [xt]
 refine bR (res_t rfl (gD rfl)) ?_
 exact ⟨_, rfl, S5.gr.below, by rw [treeF_has hr hc7 hp]; exact r19⟩
 refine wp_skip ?_
 refine hK2 _ _ ?_
 refine sk fun K20 hK20 => ?_
 refine dy ?_
 refine wn hK20 ?_
 refine wp_ret ?_
 try simp only [xt]
 refine bR (res_t rfl (gD rfl)) ?_
 exact ⟨_, rfl, S5.gr.below, by rw [treeF_not hc7]; exact Sl.nil _ _ _⟩
theorem forestCheck_spec (F : Fz) (w : World) (v : Value) (l : Forest) (hs : Sat w F) (hv : Tns F v l) :
    Calls Tryz.prog 32 #[v] w (Tells w (.int .i64 (forestE l))) := by
 obtain ⟨a, c, rfl, hc1, hc2⟩ := Sl.shape hv
 unfold maxLen at hc2
 have S := St.start hs
 go_enter Tryz.func32, Tryz.ntmps32
 refine sk fun K1 hK1 => ?_
 refine dy ?_
 refine wn hK1 ?_
 refine wp_seq_k (fun K2 hK2 => ?_)
 refine sk fun K3 hK3 => ?_
 refine dx ?_
 refine dn Tryz.underlying24 ?_
 simp only [pq]
 by_cases hc9 : 8 < l.length
 refine gtrT ?_
 refine wn hK3 ?_
 refine wp_cond_true rfl ?_
 refine sk fun K4 hK4 => ?_
 refine dy ?_
 refine wn hK4 ?_
 refine wp_ret ?_
 (try simp only [Exit.then, Exit.inBlock, ↓reduceIte, Nat.reduceEqDiff])
 refine bR (res_t rfl (gD rfl)) ?_
 exact ⟨by unfold forestE; rw [if_pos (by omega)], S.gr.below⟩
 refine gtrF ?_
 simp only [pq]
 refine wn hK3 ?_
 refine wp_cond_false rfl ?_
 refine wp_skip ?_
 refine hK2 _ _ ?_
 refine wp_seq_k (fun K5 hK5 => ?_)
 refine sk fun K6 hK6 => ?_
 refine dx ?_
 refine dn Tryz.underlying24 ?_
 refine dx ?_
 simp only [pq]
 refine wn hK6 ?_
 refine wp_block ?_
 refine wp_loop_g (fun mm aa w8 => ∃ (k : Nat) (u7 : Nat → Value), mm = l.length - k ∧ u7 = slots aa ∧ aa = ⟨#[(.slice a l.length c), undef, (u7 2), (u7 3), (u7 4), (u7 5), (u7 6), (.slice a l.length c), (nI l.length), bF, (.slice a l.length c), (nI l.length), (nI k), (u7 13), (u7 14), (u7 15), (u7 16), (u7 17), (u7 18), (u7 19), (u7 20), (u7 21), (u7 22), (u7 23), (u7 24), (u7 25), (u7 26), (u7 27), (u7 28), (u7 29), (u7 30), (u7 31), (u7 32), (u7 33), (u7 34), (u7 35), (u7 36), (u7 37), (u7 38), (u7 39), (u7 40), (u7 41), (u7 42), (u7 43), (u7 44), (u7 45), (u7 46), (u7 47)], []⟩ ∧ St w F w8 F [] [] ∧ (k ≤ l.length) ∧ (forestAt l l.length 0 = forestAt l (l.length - k) k)) _ ⟨0, _, rfl, rfl, rfl, S, (by omega), rfl⟩ ?_
 rintro m9 a10 w11 ⟨k, u7, rfl, -, rfl, S12, hk, hT⟩ K14 hK14
 refine sk fun K15 hK15 => ?_
 by_cases hc13 : k < l.length
 refine lssT ?_
 refine wn hK15 ?_
 refine wp_seq_k (fun K16 hK16 => ?_)
 refine wp_cond_true rfl ?_
 refine wp_skip ?_
 refine hK16 _ _ ?_
 refine wp_seq_k (fun K17 hK17 => ?_)
 refine wp_block ?_
 refine wp_seq_k (fun K18 hK18 => ?_)
 obtain ⟨t, hp⟩ : ∃ t, l[k]? = some t := ⟨l[k], List.getElem?_eq_getElem hc13⟩
 obtain ⟨b19, o20, ha21, xa23, xc24, xa27, xc28, c22, c26, r25, r29⟩ := Tns.get hv hp
 refine region_wl ?_
 refine dx ?_
 refine dr (pP b19 (o20 + k * 2)) (ex_at (i := k) (sz := 2) Tryz.underlying24 (sizeof_66 _) rfl ha21 rfl (by omega) rfl) ?_
 refine dr _ (ex_load rfl (loadM Tryz.underlying66 rfl (size_66) (range2 (St.fz S12 c22) (St.fz S12 c26)))) ?_
 simp only [pq]
 refine sA S12 (zero_66 _) fun n30 w31 S32 => ?_
 refine dy ?_
 refine sW 0 S32 (size_66) fun w33 S34 => ?_
 simp only [pq]
 refine wl_nil (hK18 _ _ ?_)
 refine wp_seq_k (fun K35 hK35 => ?_)
 refine sk fun K36 hK36 => ?_
 refine df (fa_66_0 _ _) ?_
 refine dl (nagg_25 _) S34 0 ?_
 refine stTells (v := (.int .i64 (nameN t.1.length))) S34 rfl (fn1 (ent_42 _ _)) (tells_same (name_len _ _ _ _)) (fun w37 S38 => ?_)
 refine dy ?_
 simp only [pq]
 refine wn hK36 ?_
 refine sk fun K39 hK39 => ?_
 refine dx ?_
 simp only [pq]
 by_cases hc21 : (nameN t.1.length) = (0 : Int)
 refine neqF ?_
 refine wn hK39 ?_
 refine wp_cond_false rfl ?_
 refine wp_skip ?_
 refine hK35 _ _ ?_
 refine wp_seq_k (fun K40 hK40 => ?_)
 refine sk fun K41 hK41 => ?_
 refine df (fa_66_1 _ _) ?_
 refine dl (nagg_47 _) S38 0 ?_
 refine dn Tryz.underlying47 ?_
 simp only [pq]
 by_cases hc26 : t.2.length = 0
 refine eqlT ?_
 refine wn hK41 ?_
 refine wp_cond_true rfl ?_
 refine sk fun K42 hK42 => ?_
 refine dy ?_
 refine wn hK42 ?_
 refine wp_ret ?_
 (try simp only [Exit.then, Exit.inBlock, ↓reduceIte, Nat.reduceEqDiff])
 refine bR (res_t rfl (gD rfl)) ?_
 exact ⟨by unfold forestE; rw [if_neg (by omega), hT, forestAt_at hp, if_neg (by omega), if_pos (by omega)], S38.gr.below⟩
 refine eqlF ?_
 simp only [pq]
 refine wn hK41 ?_
 refine wp_cond_false rfl ?_
 refine wp_skip ?_
 refine hK40 _ _ ?_
 refine wp_seq_k (fun K43 hK43 => ?_)
 refine sk fun K44 hK44 => ?_
 refine df (fa_66_1 _ _) ?_
 refine dl (nagg_47 _) S38 0 ?_
 refine stTells (v := (.int .i64 (treeE t.2))) S38 rfl (fn1 (ent_43 _ _)) (treeCheck_spec _ _ _ t.2 (S38).sat r29) (fun w45 S46 => ?_)
 refine dy ?_
 simp only [pq]
 refine wn hK44 ?_
 refine sk fun K47 hK47 => ?_
 refine dx ?_
 simp only [pq]
 by_cases hc31 : (treeE t.2) = (0 : Int)
 refine neqF ?_
 refine wn hK47 ?_
 refine wp_cond_false rfl ?_
 refine wp_skip ?_
 refine hK43 _ _ ?_
 refine wp_seq_k (fun K48 hK48 => ?_)
 by_cases h0 : 0 < k
 obtain ⟨q, hq⟩ : ∃ q, l[k - 1]? = some q := ⟨l[k - 1], List.getElem?_eq_getElem (by omega)⟩
 have hqd : l.getD (k - 1) ([], []) = q := by rw [List.getD_eq_getElem?_getD, hq]; rfl
 obtain ⟨b49, o50, ha51, xa53, xc54, xa57, xc58, c52, c56, r55, r59⟩ := Tns.get hv hq
 refine region_gw F 11 [] (by kernel_rfl) (by kernel_rfl) ?_
 simp only [List.take_succ_cons, List.take_zero]
 refine gm ?_
 refine gv bT (fun _ _ => ex_gtr (m := ((k : Nat) : Int)) (n := (0 : Int)) (b := true) rfl rfl (decide_eq_true (by omega))) ?_
 simp only [pq]
 iterate 3 refine gm ?_
 simp only [pq]
 refine gv (nI (k - 1)) (fun _ _ => ex_sub (m := ((k : Nat) : Int)) (n := (1 : Int)) (r := (((k - 1) : Nat) : Int)) rfl rfl (by omega) (by omega) (by omega)) ?_
 refine gv (pP b49 (o50 + (k - 1) * 2)) (fun _ _ => ex_at (i := (k - 1)) (sz := 2) Tryz.underlying24 (sizeof_66 _) rfl ha51 rfl (by omega) rfl) ?_
 refine gf (fa_66_0 _ _) ?_
 simp only [pq]
 refine gv _ (fun _ C60 => ex_load rfl (load1 (nagg_25 _) (St.fz (St.tells S46 C60) c52))) ?_
 refine gf (fa_66_0 _ _) ?_
 refine gl nagg_25 S46 0 ?_
 simp only [pq]
 refine gw_nil ?_
 intro w61 hC63 hF64
 clear hF64
 have S62 := St.tells S46 hC63
 simp only [List.drop_succ_cons, List.drop_zero]
 refine stTells (v := (.int .i64 (cmpL q.1 t.1))) S62 rfl (fn2 (ent_44 _ _)) (bytesCompare_spec _ _ _ _ q.1 t.1 (S62).sat r55 r25) (fun w65 S66 => ?_)
 simp only [pq]
 by_cases hc45 : (0 : Int) ≤ (cmpL q.1 t.1)
 refine geqT ?_
 refine dp ?_
 refine wl_nil (hK48 _ _ ?_)
 refine wp_cond_true rfl ?_
 refine sk fun K67 hK67 => ?_
 refine dy ?_
 simp only [pq]
 refine wn hK67 ?_
 refine wp_ret ?_
 (try simp only [Exit.then, Exit.inBlock, ↓reduceIte, Nat.reduceEqDiff])
 refine bR (res_t rfl (gD rfl)) ?_
 exact ⟨by unfold forestE; rw [if_neg (by omega), hT, forestAt_at hp, if_neg (by omega), if_neg (by omega), if_neg (by omega), if_pos ⟨h0, by rw [hqd]; exact hc45⟩], S66.gr.below⟩
 refine geqF ?_
 refine dp ?_
 refine wl_nil (hK48 _ _ ?_)
 refine wp_cond_false rfl ?_
 refine wp_skip ?_
 refine hK17 _ _ ?_
 refine region_wl ?_
 refine dAdd (k + 1) ?_
 refine dx ?_
 simp only [pq]
 refine wl_nil ?_
 have S66 := St.drop S66 (.cons _ (List.Sublist.refl _))
 exact hK14 _ _ _ (by omega) ⟨(k + 1), _, rfl, rfl, rfl, S66, (by omega), (by rw [hT, forestAt_at hp, if_neg (by omega), if_neg (by omega), if_neg (by omega), if_neg (fun h => hc45 (by have := h.2; rw [hqd] at this; exact this))])⟩
 refine region_gw F 11 [] (by kernel_rfl) (by kernel_rfl) ?_
 simp only [List.take_succ_cons, List.take_zero]
 refine gm ?_
 refine gv bF (fun _ _ => ex_gtr (m := ((k : Nat) : Int)) (n := (0 : Int)) (b := false) rfl rfl (decide_eq_false (by omega))) ?_
 refine gm ?_
 simp only [pq]
 refine gw_skip (wanted_no rfl rfl rfl (c := false) rfl (by decide)) ?_
 simp only [pq]
 refine gw_skip (wanted_no rfl rfl rfl (c := false) rfl (by decide)) ?_
 simp only [pq]
 refine gw_skip (wanted_no rfl rfl rfl (c := false) rfl (by decide)) ?_
 simp only [pq]
 refine gw_skip (wanted_no rfl rfl rfl (c := false) rfl (by decide)) ?_
 simp only [pq]
 refine gw_skip (wanted_no rfl rfl rfl (c := false) rfl (by decide)) ?_
 simp only [pq]
 refine gw_skip (wanted_no rfl rfl rfl (c := false) rfl (by decide)) ?_
 simp only [pq]
 refine gw_skip (wanted_no rfl rfl rfl (c := false) rfl (by decide)) ?_
 simp only [pq]
 refine gw_skip (wanted_no rfl rfl rfl (c := false) rfl (by decide)) ?_
 refine gw_nil ?_
 intro w69 hC71 hF72
 clear hF72
 have S70 := St.tells S46 hC71
 simp only [List.drop_succ_cons, List.drop_zero]
 refine nO ?_
 simp only [pq]
 refine nO ?_
 refine dp ?_
 refine wl_nil (hK48 _ _ ?_)
 refine wp_cond_false rfl ?_
 refine wp_skip ?_
 refine hK17 _ _ ?_
 refine region_wl ?_
 refine dAdd (k + 1) ?_
 refine dx ?_
 simp only [pq]
 refine wl_nil ?_
 have S70 := St.drop S70 (.cons _ (List.Sublist.refl _))
 exact hK14 _ _ _ (by omega) ⟨(k + 1), _, rfl, rfl, rfl, S70, (by omega), (by rw [hT, forestAt_at hp, if_neg (by omega), if_neg (by omega), if_neg (by omega), if_neg (fun h => h0 h.1)])⟩
 refine neqT ?_
 refine wn hK47 ?_
 refine wp_cond_true rfl ?_
 refine sk fun K73 hK73 => ?_
 refine dx ?_
 refine dy ?_
 simp only [pq]
 refine wn hK73 ?_
 refine wp_ret ?_
 (try simp only [Exit.then, Exit.inBlock, ↓reduceIte, Nat.reduceEqDiff])
 refine bR (res_t rfl (gD rfl)) ?_
 exact ⟨by unfold forestE; rw [if_neg (by omega), hT, forestAt_at hp, if_neg (by omega), if_neg (by omega), if_pos hc31], S46.gr.below⟩
 refine neqT ?_
 refine wn hK39 ?_
 refine wp_cond_true rfl ?_
 refine sk fun K74 hK74 => ?_
 refine dx ?_
 refine dy ?_
 simp only [pq]
 refine wn hK74 ?_
 refine wp_ret ?_
 (try simp only [Exit.then, Exit.inBlock, ↓reduceIte, Nat.reduceEqDiff])
 refine bR (res_t rfl (gD rfl)) ?_
 exact ⟨by unfold forestE; rw [if_neg (by omega), hT, forestAt_at hp, if_pos hc21], S38.gr.below⟩
 refine lssF ?_
 refine wn hK15 ?_
 refine wp_seq_k (fun K75 hK75 => ?_)
 refine wp_cond_false rfl ?_
 refine wp_exit ?_
 refine hK5 _ _ ?_
 refine sk fun K76 hK76 => ?_
 refine dy ?_
 refine wn hK76 ?_
 refine wp_ret ?_
 (try simp only [Exit.then, Exit.inBlock, ↓reduceIte, Nat.reduceEqDiff])
 refine bR (res_t rfl (gD rfl)) ?_
 exact ⟨by unfold forestE; rw [if_neg (by omega), hT, forestAt_end (by omega)], S12.gr.below⟩
theorem checkedT_spec (F : Fz) (w : World) (v u : Value) (l : Forest) (k : By) (hs : Sat w F) (hv : Tns F v l) (hu : Bs F u k) (ok1 : ForestOk 60 l) :
    Calls Tryz.prog 38 #[v, u] w (Tells w (.int .i64 (nameN k.length))) := by
 have ok := forestE_ok.2 ok1
 obtain ⟨a, c, rfl, hc1, hc2⟩ := Sl.shape hv
 obtain ⟨a2, c2, rfl, _⟩ := hu.shape
 have S := St.start hs
 go_enter Tryz.func38, Tryz.ntmps38
 refine sk fun K1 hK1 => ?_
 refine dy ?_
 refine wn hK1 ?_
 refine wp_seq_k (fun K2 hK2 => ?_)
 refine sk fun K3 hK3 => ?_
 refine dx ?_
 refine stTells (v := (.int .i64 (forestE l))) S rfl (fn1 (ent_32 _ _)) (forestCheck_spec _ _ _ l (S).sat hv) (fun w4 S5 => ?_)
 refine dy ?_
 simp only [pq]
 refine wn hK3 ?_
 refine sk fun K6 hK6 => ?_
 refine dx ?_
 refine dr bF (ex_neq (m := (forestE l)) (n := (0 : Int)) (b := false) rfl rfl (bne_eq_false_iff_eq.2 (ok))) ?_
 refine wn hK6 ?_
 refine wp_cond_false rfl ?_
 refine wp_skip ?_
 refine hK2 _ _ ?_
 refine sk fun K7 hK7 => ?_
 refine dx ?_
 simp only [pq]
 refine stTells (v := (.int .i64 (nameN k.length))) S5 rfl (fn1 (ent_42 _ _)) (tells_same (name_len _ _ _ _)) (fun w8 S9 => ?_)
 refine dy ?_
 refine wn hK7 ?_
 refine wp_ret ?_
 try simp only [xt]
 refine bR (res_t rfl (gD rfl)) ?_
 exact ⟨rfl, S9.gr.below⟩
theorem TnC.one (F : Fz) (cs : List Value) (p : By × List Pr) (h : TnC F cs p) : ∀ u ∈ cs, u.oneCell' = true := h.oneCell
theorem ForestOk.small {f : Forest} (h : ForestOk 60 f) {t : By × List Pr} (ht : t ∈ f) : t.1.length ≤ 100000 ∧ t.2.length ≤ 60 ∧ ∀ p ∈ t.2, p.1.length ≤ 100000 ∧ p.2.length ≤ 100000 := by
 have h1 := h.name t ht
 have h2 := h.tree t ht
 exact ⟨by have := h1.2; omega, h2.len, fun p hp => h2.small hp⟩
theorem ownT_spec (F : Fz) (w : World) (v : Value) (l : Forest) (hs : Sat w F) (hv : Tns F v l) (hl : l.length ≤ 100000) (hL : ∀ t ∈ l, t.1.length ≤ 100000 ∧ t.2.length ≤ 60 ∧ ∀ p ∈ t.2, p.1.length ≤ 100000 ∧ p.2.length ≤ 100000) :
    Calls Tryz.prog 33 #[v] w (GivesO w F 2 TnC 66 l) := by
 obtain ⟨a, c, rfl, hc1, hc2⟩ := Sl.shape hv
 unfold maxLen at hc2
 obtain ⟨i50, hi50, hz50, hs50, hb50⟩ := info_parts info_50
 obtain ⟨i66, hi66, hz66, hs66, hb66⟩ := info_parts info_66
 have S := St.start hs
 go_enter Tryz.func33, Tryz.ntmps33
 refine sk fun K1 hK1 => ?_
 refine dy ?_
 refine wn hK1 ?_
 refine sk fun K2 hK2 => ?_
 refine dy ?_
 refine wn hK2 ?_
 refine wp_seq_k (fun K3 hK3 => ?_)
 refine sk fun K4 hK4 => ?_
 refine dx ?_
 refine dn Tryz.underlying24 ?_
 refine dx ?_
 simp only [pq]
 refine wn hK4 ?_
 refine wp_block ?_
 have S5 := St.addNil S 2 TnC TnC.mono 66 w.heap.size
 refine wp_loop_g (fun mm aa w8 => ∃ (k : Nat) (v : Value) (F6 : Fz) (u7 : Nat → Value), mm = l.length - k ∧ u7 = slots aa ∧ aa = ⟨#[(.slice a l.length c), undef, Zn, v, undef, (u7 5), (u7 6), undef, (u7 8), (.slice a l.length c), (nI l.length), (nI k), (u7 12), (u7 13), (u7 14), (u7 15), (u7 16), (u7 17), (u7 18), (u7 19), (u7 20), (u7 21), (u7 22), (u7 23), (u7 24), (u7 25), (u7 26), (u7 27), (u7 28), (u7 29), (u7 30), (u7 31), (u7 32), (u7 33), (u7 34), (u7 35), (u7 36), (u7 37), (u7 38), (u7 39), (u7 40), (u7 41), (u7 42), (u7 43), undef], []⟩ ∧ St w F w8 F6 [] [ownP 2 TnC TnC.mono 66 w.heap.size v (l.take k)] ∧ Le F F6 ∧ (k ≤ l.length)) _ ⟨0, Zn, F, _, rfl, rfl, rfl, S5, Le.refl _, (by omega)⟩ ?_
 rintro m9 a10 w11 ⟨k, v, F6, u7, rfl, -, rfl, S12, le13, hk⟩ K14 hK14
 refine sk fun K15 hK15 => ?_
 by_cases hc12 : k < l.length
 refine lssT ?_
 refine wn hK15 ?_
 refine wp_seq_k (fun K16 hK16 => ?_)
 refine wp_cond_true rfl ?_
 refine wp_skip ?_
 refine hK16 _ _ ?_
 refine wp_seq_k (fun K17 hK17 => ?_)
 refine wp_block ?_
 refine wp_seq_k (fun K18 hK18 => ?_)
 obtain ⟨t, ht⟩ : ∃ t, l[k]? = some t := ⟨l[k], List.getElem?_eq_getElem hc12⟩
 obtain ⟨hs1, hs2, hs3⟩ := hL t (List.mem_of_getElem? ht)
 have htk : (l.take k).length = k := by rw [List.length_take]; omega
 obtain ⟨b19, o20, ha21, xa23, xc24, xa27, xc28, c22, c26, r25, r29⟩ := Tns.get (hv.mono le13) ht
 refine region_wl ?_
 refine dr (pP b19 (o20 + k * 2)) (ex_at (i := k) (sz := 2) Tryz.underlying24 (sizeof_66 _) rfl ha21 rfl (by omega) rfl) ?_
 refine dr _ (ex_load rfl (loadM Tryz.underlying66 rfl (size_66) (range2 (St.fz S12 c22) (St.fz S12 c26)))) ?_
 simp only [pq]
 refine sA S12 (zero_66 _) fun n30 w31 S32 => ?_
 refine sW 0 S32 (size_66) fun w33 S34 => ?_
 refine wl_nil (hK18 _ _ ?_)
 refine sk fun K35 hK35 => ?_
 refine df (fa_66_0 _ _) ?_
 refine dl (nagg_25 _) S34 0 ?_
 simp only [pq]
 refine stGives S34 rfl (fn1 (ent_45 _ _)) (clone_spec _ _ _ t.1 (S34).sat r25 (by omega)) ?_
 intro v41 w36 F38 S37 le39 R40
 obtain ⟨xa42, xc43, rfl, _⟩ := R40.shape
 refine dr (.agg #[(.slice xa42 t.1.length xc43), Zn]) (ex_build (bmap1 rfl) (by kernel_rfl)) ?_
 refine sA S37 (zero_66 _) fun n44 w45 S46 => ?_
 refine sW 0 S46 (size_66) fun w47 S48 => ?_
 simp only [pq]
 refine wn hK35 ?_
 refine wp_seq_k (fun K49 hK49 => ?_)
 refine sk fun K50 hK50 => ?_
 refine df (fa_66_1 _ _) ?_
 refine dl (nagg_47 _) S48 1 ?_
 refine dn Tryz.underlying47 ?_
 simp only [pq]
 refine dx ?_
 refine wn hK50 ?_
 refine wp_block ?_
 have S51 := St.addNil S48 2 PrC PrC.mono 50 w.heap.size
 refine wp_loop_g (fun mm aa w54 => ∃ (j : Nat) (v2 : Value) (F52 : Fz) (u53 : Nat → Value), mm = t.2.length - j ∧ u53 = slots aa ∧ aa = ⟨#[(.slice a l.length c), undef, Zn, v, undef, (pP n30 0), (pP n44 0), undef, (u53 8), (.slice a l.length c), (nI l.length), (nI k), bT, (pP b19 (o20 + k * 2)), (.agg #[(.slice xa23 t.1.length xc24), (.slice xa27 t.2.length xc28)]), (pP n30 0), (.slice xa23 t.1.length xc24), (.slice xa42 t.1.length xc43), (.agg #[(.slice xa42 t.1.length xc43), Zn]), (pP n30 1), (.slice xa27 t.2.length xc28), (nI t.2.length), (nI j), (u53 23), (u53 24), (u53 25), (u53 26), (u53 27), (u53 28), (u53 29), (u53 30), (u53 31), (u53 32), (u53 33), (u53 34), (u53 35), (u53 36), (u53 37), (u53 38), (u7 39), (u7 40), (u7 41), (u7 42), (u7 43), undef], []⟩ ∧ St w F w54 F52 [⟨n44, [(.slice xa42 t.1.length xc43), v2], 66⟩, ⟨n30, [(.slice xa23 t.1.length xc24), (.slice xa27 t.2.length xc28)], 66⟩] [ownP 2 PrC PrC.mono 50 w.heap.size v2 (t.2.take j), ownP 2 TnC TnC.mono 66 w.heap.size v (l.take k)] ∧ Le F38 F52 ∧ (j ≤ t.2.length)) _ ⟨0, Zn, F38, _, rfl, rfl, rfl, S51, Le.refl _, (by omega)⟩ ?_
 rintro m55 a56 w57 ⟨j, v2, F52, u53, rfl, -, rfl, S58, le59, hj⟩ K60 hK60
 refine sk fun K61 hK61 => ?_
 by_cases hc23 : j < t.2.length
 refine lssT ?_
 refine wn hK61 ?_
 refine wp_seq_k (fun K62 hK62 => ?_)
 refine wp_cond_true rfl ?_
 refine wp_skip ?_
 refine hK62 _ _ ?_
 refine wp_seq_k (fun K63 hK63 => ?_)
 refine wp_block ?_
 refine wp_seq_k (fun K64 hK64 => ?_)
 obtain ⟨p, hp⟩ : ∃ p, t.2[j]? = some p := ⟨t.2[j], List.getElem?_eq_getElem hc23⟩
 obtain ⟨hp1, hp2⟩ := hs3 p (List.mem_of_getElem? hp)
 have hpk : (t.2.take j).length = j := by rw [List.length_take]; omega
 obtain ⟨b65, o66, ha67, xa69, xc70, xa73, xc74, c68, c72, r71, r75⟩ := Prs.get (r29.mono (le39.trans le59)) hp
 refine region_wl ?_
 refine dr (pP b65 (o66 + j * 2)) (ex_at (i := j) (sz := 2) Tryz.underlying47 (sizeof_50 _) rfl ha67 rfl (by omega) rfl) ?_
 refine dr _ (ex_load rfl (loadM Tryz.underlying50 rfl (size_50) (range2 (St.fz S58 c68) (St.fz S58 c72)))) ?_
 simp only [pq]
 refine sA S58 (zero_50 _) fun n76 w77 S78 => ?_
 refine sW 0 S78 (size_50) fun w79 S80 => ?_
 refine wl_nil (hK64 _ _ ?_)
 refine region_gw F52 10 [(4, .made (fun F' u => Bs F' u p.1)), (7, .made (fun F' u => Bs F' u p.2)), (8, .made (fun F' u => Pr2V F' u (p.1, p.2))), (9, .made (fun F' u => Prs F' u [(p.1, p.2)]))] (by kernel_rfl) (by kernel_rfl) ?_
 simp only [List.take_succ_cons, List.take_zero]
 refine gf (fa_66_1 _ _) ?_
 simp only [pq]
 refine gl nagg_47 S80 1 ?_
 refine gf (fa_50_0 _ _) ?_
 refine gl nagg_25 S80 0 ?_
 simp only [pq]
 refine gw_rel rfl rfl (fun w81 C81 hF => does_call (ex_fn (vs := #[(.slice xa69 p.1.length xc70)]) (map1 rfl) rfl (ent_45 _ _)) (call_made S80.sat C81 (clone_spec _ _ _ p.1 ((St.tells S80 C81)).sat r71 (by omega)))) (fun v82 => ?_)
 refine gf (fa_50_1 _ _) ?_
 refine gl nagg_25 S80 0 ?_
 simp only [pq]
 refine gw_rel rfl rfl (fun w81 C81 hF => does_call (ex_fn (vs := #[(.slice xa73 p.2.length xc74)]) (map1 rfl) rfl (ent_45 _ _)) (call_made S80.sat C81 (clone_spec _ _ _ p.2 ((St.tells S80 C81)).sat r75 (by omega)))) (fun v83 => ?_)
 simp only [pq]
 refine gw_rel rfl rfl (fun w81 C81 hF_ => ?_) (fun v84 => ?_)
 obtain ⟨F85, g86, R87⟩ := hF_.get 4 (by kernel_rfl) rfl rfl
 obtain ⟨F90, g91, R92⟩ := hF_.get 7 (by kernel_rfl) rfl rfl
 have hR0 := (R87.mono (both_left F85 F90))
 obtain ⟨xa95, xc96, rfl, _⟩ := hR0.shape
 have hR1 := (R92.mono (both_right g86.sat g91.sat))
 obtain ⟨xa97, xc98, rfl, _⟩ := hR1.shape
 exact does_val (ex_build (bmap2 rfl rfl) (by kernel_rfl)) ⟨(both F85 F90), (g86.both g91), ⟨_, _, _, _, rfl, hR0, hR1⟩⟩ (Below.refl _ _)
 simp only [pq]
 refine gw_rel rfl rfl (fun w81 C81 hF_ => ?_) (fun v108 => ?_)
 obtain ⟨F105, g106, R107⟩ := hF_.get 8 (by kernel_rfl) rfl rfl
 obtain ⟨xa99, xc100, xa102, xc103, rfl, r101, r104⟩ := R107
 exact does_lit (k := 2) (R := PrC) (hR := PrC.mono) (p := (p.1, p.2)) (cs := [.slice xa99 _ xc100, .slice xa102 _ xc103]) (E := 50) g106 ⟨_, _, rfl, r101, r104⟩ rfl (ex_lit (E := 50) (cells := #[.slice xa99 _ xc100, .slice xa102 _ xc103]) (bmap1 rfl) (fun w => by kernel_rfl))
 refine gw_nil ?_
 intro w109 hC111 hF112
 obtain ⟨F113, g114, R115⟩ := hF112.get 9 rfl rfl
 have S110 := St.gives S80 g114
 have le117 : Le _ _ := g114.le S80.sat
 have R118 := R115
 generalize F113 = F116 at *
 obtain ⟨xa119, xc120, rfl, _⟩ := Sl.shape R118
 clear hF112
 simp only [List.drop_succ_cons, List.drop_zero]
 refine stAppendS (r := 0) (u := (.slice xa119 [(p.1, p.2)].length xc120)) S110 rfl i50 (.agg #[Zn, Zn]) 48 Tryz.underlying47 hi50 hz50 hs50 hb50 rfl (by decide) rfl rfl rfl (Sl.toW R118 (S110).sat) (fun F cs p h => PrC.one F cs p h) (Nat.le_refl _) S110.gr.below.size (by unfold maxLen; simp only [List.length_take, List.length_cons, List.length_nil]; omega) (by simp only [List.length_take, List.length_cons, List.length_nil]; omega) ?_
 intro v121 w122 S123 hn124
 simp only [pq]
 obtain ⟨a125, cap126, rfl, h127, h128⟩ := (S123.own (i := 0) rfl).shape
 unfold maxLen at h128
 refine df (fa_66_1 _ _) ?_
 refine sW 1 S123 (size_47) fun w129 S130 => ?_
 refine wl_nil (hK63 _ _ ?_)
 refine region_wl ?_
 refine dAdd (j + 1) ?_
 refine dx ?_
 simp only [pq]
 refine wl_nil ?_
 have S130 := St.drop S130 (.cons _ (List.Sublist.refl _))
 rw [← take_snoc hp] at S130
 exact hK60 _ _ _ (by omega) ⟨(j + 1), (.slice a125 (t.2.take (j + 1)).length cap126), F116, _, rfl, rfl, rfl, S130, (le59.trans le117), (by omega)⟩
 refine lssF ?_
 refine wn hK61 ?_
 refine wp_seq_k (fun K131 hK131 => ?_)
 refine wp_cond_false rfl ?_
 refine wp_exit ?_
 refine hK49 _ _ ?_
 have hj2 : t.2.take j = t.2 := List.take_of_length_le (by omega)
 rw [hj2] at S58
 obtain ⟨F132, S133, le134, hv135⟩ := St.freeze S58 (i := 0) rfl (Nat.le_refl _)
 have hv135 : Prs _ v2 t.2 := hv135
 obtain ⟨a136, c137, rfl, h138, h139⟩ := Sl.shape hv135
 unfold maxLen at h139
 refine region_wl ?_
 refine dx ?_
 refine dR S133 0 Tryz.underlying66 (size_66) ?_
 simp only [pq]
 refine stNew S133 (v := fun n => .slice (aA n 0) 1 1) rfl (ex_lit (ps := #[(0, (.agg #[(.slice xa42 t.1.length xc43), (.slice a136 t.2.length c137)]))]) (cells := #[(.slice xa42 t.1.length xc43), (.slice a136 t.2.length c137)]) (E := 66) (bmap1 rfl) (fun w => by kernel_rfl)) (fun n140 w141 S142 => ?_)
 refine stPush (i := 0) (r := 0) (p := t) (cs := [(.slice xa42 t.1.length xc43), (.slice a136 t.2.length c137)]) S142 rfl i66 (.agg #[Zn, Zn]) 48 Tryz.underlying24 hi66 hz66 hs66 hb66 rfl (by decide) rfl rfl rfl rfl rfl (TnC.oneCell (p := t) ⟨_, _, rfl, (R40.mono (le59.trans le134)), hv135⟩) (⟨_, _, rfl, (R40.mono (le59.trans le134)), hv135⟩) (Nat.le_refl _) S142.gr.below.size (by unfold maxLen; omega) (by omega) ?_
 intro v143 w144 S145 hn146
 simp only [pq]
 have S145 := St.drop S145 (.cons _ (List.Sublist.refl _))
 refine dy ?_
 refine wl_nil (hK17 _ _ ?_)
 refine region_wl ?_
 refine dAdd (k + 1) ?_
 refine dx ?_
 simp only [pq]
 refine wl_nil ?_
 have S145 := St.drop S145 (.cons _ (.cons _ (List.Sublist.refl _)))
 rw [← take_snoc ht] at S145
 exact hK14 _ _ _ (by omega) ⟨(k + 1), v143, F132, _, rfl, rfl, rfl, S145, (((le13.trans le39).trans le59).trans le134), (by omega)⟩
 refine lssF ?_
 refine wn hK15 ?_
 refine wp_seq_k (fun K147 hK147 => ?_)
 refine wp_cond_false rfl ?_
 refine wp_exit ?_
 refine hK3 _ _ ?_
 refine sk fun K148 hK148 => ?_
 refine dx ?_
 refine dy ?_
 simp only [pq]
 refine wn hK148 ?_
 refine wp_ret ?_
 (try simp only [Exit.then, Exit.inBlock, ↓reduceIte, Nat.reduceEqDiff])
 refine bR (res_t rfl (gD rfl)) ?_
 obtain rfl : k = l.length := by omega
 exact ⟨_, _, rfl, S12.gr, by have h := St.own (i := 0) S12 rfl; rwa [List.take_length] at h⟩
end Go.Proofs.YtilgpdpooildcaaGreatDoor
