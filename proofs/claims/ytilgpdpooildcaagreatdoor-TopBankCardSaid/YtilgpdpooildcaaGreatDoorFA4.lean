/- Rules, plain laws and walks: T4a T4b T4c P12 K1 K2 K3 F1 F2 -/
import Derived.Test.YtilgpdpooildcaaGreatDoorFA3
import Derived.Test.YtilgpdpooildcaaGreatDoorFA2
namespace Go.Proofs.YtilgpdpooildcaaGreatDoor
set_option maxHeartbeats 8000000
open Go.RowKit
set_option maxRecDepth 100000
set_option linter.unusedVariables false
set_option linter.unusedSimpArgs false
theorem kP {w : World} {g n : Nat} {c : List Value} {T : TypeId} (h : w.heap[n]? = some (.cells c.toArray T (0, 0))) : w.shape? n = some (T, c.length) ∧ w.frozen? ⟨n, g, none⟩ = false := by
 simp [World.shape?, World.frozen?, h]
theorem HC {w : World} {vn g o la ca lb cb : Nat} {c1 c2 : List Value} {T1 T2 : TypeId} (h1 : w.heap[vn]? = some (.cells c1.toArray T1 (0, 0))) (h2 : w.heap[g]? = some (.cells c2.toArray T2 (0, 0))) (hc : c2.length ≠ 0) (hne : vn ≠ g) :
    (callFunc 73 #[.slice (some ⟨vn, 0, none⟩) la ca, .slice (some ⟨g, o, none⟩) lb cb]).run Tryz.prog w = .ok (.value (.bool false)) w := by
 rw [run_callFunc_extern Tryz.func73 (by kernel_rfl) (by kernel_rfl) (by kernel_rfl) (e := Extern.SlicesOverlaps.overlaps #[47, 47] #[4]) (by kernel_rfl),
  Lib.run_overlaps_apart w 47 4 50 Tryz.underlying47 2 (fun w => cK w) ⟨vn, 0, none⟩ ⟨g, o, none⟩ la ca lb cb hne T1 T2 c1.length c2.length (kP (g := 0) h1).1 (kP (g := 0) h2).1 hc (kP h1).2 (kP h1).2]
 rfl
theorem CZ {w0 w : World} {F0 F : Fz} {L0 : List Blk} {M0 : List RowP} {α : Type} {R : Fz → List Value → α → Prop} {hR : ∀ F F' x p, Le F F' → R F x p → R F' x p} {v : Value} {l : List α} {p : α} {vn : Nat} {cs : List Value} (one : ∀ F cs p, R F cs p → ∀ u ∈ cs, u.oneCell' = true)
    (S : St w0 F0 w F (⟨vn, cs, 50⟩ :: L0) (bV 2 R hR 50 w0.heap.size v l :: M0)) (hcs : cs.length = 2) (hp : R F cs p) (hl : l.length ≤ 100000) :
    Calls Tryz.prog 65 #[v, .int .i64 (l.length : Nat), .slice (some ⟨vn, 0, none⟩) 1 1] w fun e w' => ∃ v', e = .returned v' ∧ St w0 F0 w' F L0 (bV 2 R hR 50 w0.heap.size v' (l ++ [p]) :: M0) := by
 obtain ⟨a, c, rfl, hc1, hc2⟩ := (S.own (i := 0) rfl).shape
 unfold maxLen at hc2
 obtain ⟨a5, a0, a1, a2, a3⟩ := info_parts oS
 go_enter Tryz.func65, Tryz.ntmps65
 refine sk fun K1 hK1 => ?_
 refine dy ?_
 refine wn hK1 ?_
 refine sk fun K2 hK2 => ?_
 iterate 2 refine dx ?_
 refine dr (.slice (if c = l.length then a else a.map (·.add (l.length * 2))) (l.length - l.length) (c - l.length)) (bA (l := l.length) (h := l.length) (sz := 2) Tryz.underlying47 rfl (cK _) (.inr ⟨_, rfl, rfl⟩) (.inl ⟨rfl, rfl⟩) (by omega) (by omega) (rfl)) ?_
 simp only [pq]
 refine wn hK2 ?_
 refine sk fun K3 hK3 => ?_
 refine aC ?_
 refine wn hK3 ?_
 refine aF fun K4 hK4 => ?_
 refine sk fun K5 hK5 => ?_
 refine dx ?_
 refine dr bF (cB (b := false) rfl rfl (by decide)) ?_
 refine wn hK5 ?_
 refine aG ?_
 refine aI ?_
 refine hK4 _ _ ?_
 refine sk fun K6 hK6 => ?_
 refine aC ?_
 refine wn hK6 ?_
 refine aF fun K7 hK7 => ?_
 refine sk fun K8 hK8 => ?_
 iterate 2 refine dx ?_
 refine dr bT (cB (m := ((l.length : Nat) : Int)) (n := ((l.length : Nat) : Int)) (b := true) rfl rfl (beq_iff_eq.2 (rfl))) ?_
 simp only [pq]
 refine wn hK8 ?_
 refine aK ?_
 refine sk fun K9 hK9 => ?_
 iterate 2 refine dx ?_
 refine eK (i := 0) (r := 0) (p := p) (cs := cs) S rfl a5 (.agg #[Zn, Zn]) 48 Tryz.underlying47 a0 a1 a2 a3 rfl (by decide) rfl rfl rfl rfl hcs (one _ _ _ hp) (hp) (Nat.le_refl _) S.gr.below.size (by unfold maxLen; omega) (by omega) ?_
 intro a7 a8 a4 a6
 simp only [pq]
 have a4 := St.drop a4 (.cons _ (List.Sublist.refl _))
 refine dy ?_
 refine wn hK9 ?_
 refine aO ?_
 try simp only [xt]
 refine bR (bC rfl (gD rfl)) ?_
 exact ⟨_, rfl, a4⟩
theorem DA {g cap i : Nat} {w0 w : World} {F0 F : Fz} {L0 : List Blk} {M0 : List RowP} {α : Type} {R : Fz → List Value → α → Prop} {hR : ∀ F F' x p, Le F F' → R F x p → R F' x p} {l : List α} {p : α} {vn : Nat} {cs : List Value} (one : ∀ F cs p, R F cs p → ∀ u ∈ cs, u.oneCell' = true)
    (S : St w0 F0 w F (⟨vn, cs, 50⟩ :: L0) (bV 2 R hR 50 w0.heap.size (.slice (some ⟨g, 0, none⟩) l.length cap) l :: M0)) (hcs : cs.length = 2) (hp : R F cs p) (hl : l.length ≤ 100000) (hi : i < l.length) :
    Calls Tryz.prog 65 #[.slice (some ⟨g, 0, none⟩) l.length cap, .int .i64 (i : Nat), .slice (some ⟨vn, 0, none⟩) 1 1] w fun e w' => ∃ v', e = .returned v' ∧ St w0 F0 w' F L0 (bV 2 R hR 50 w0.heap.size v' (l.take i ++ p :: l.drop i) :: M0) := by
 obtain ⟨d8, a4, a5, a6, a7⟩ := info_parts oS
 have hvg : vn ≠ g := fun e => S.rb _ (List.mem_cons_self ..) _ (List.mem_cons_self ..) (congrArg some e.symm)
 go_enter Tryz.func65, Tryz.ntmps65
 obtain ⟨c1, el2, S3, hn9, d2, a2, hcl4, htk5, hall6, hlen7, hbg8⟩ := St.rowBlk (r := 0) S rfl
 unfold maxLen at a2
 refine sk fun e8 a8 => ?_
 refine dy ?_
 refine wn a8 ?_
 refine sk fun e9 a9 => ?_
 iterate 2 refine dx ?_
 refine dr (.slice (some ⟨g, i * 2, none⟩) (l.length - i) (cap - i)) (bA (l := i) (h := l.length) (sz := 2) Tryz.underlying47 rfl (cK _) (.inr ⟨_, rfl, rfl⟩) (.inl ⟨rfl, rfl⟩) (by omega) (by omega) (fB (by omega) rfl rfl (by omega))) ?_
 simp only [pq]
 refine wn a9 ?_
 refine sk fun f0 b0 => ?_
 refine aC ?_
 refine wn b0 ?_
 refine aF fun f1 b1 => ?_
 refine sk fun f2 b2 => ?_
 refine dx ?_
 refine dr bF (cB (b := false) rfl rfl (by decide)) ?_
 refine wn b2 ?_
 refine aG ?_
 refine aI ?_
 refine b1 _ _ ?_
 refine sk fun f3 b3 => ?_
 refine aC ?_
 refine wn b3 ?_
 refine aF fun f4 b4 => ?_
 refine sk fun f5 b5 => ?_
 iterate 2 refine dx ?_
 refine gL ?_
 simp only [pq]
 refine wn b5 ?_
 refine aG ?_
 refine aI ?_
 refine b4 _ _ ?_
 refine aF fun f6 b6 => ?_
 refine sk fun f7 a3 => ?_
 iterate 2 refine dx ?_
 refine cD (l.length + 1) ?_
 simp only [pq]
 refine dx ?_
 refine dr (nI cap) (UJ Tryz.underlying47 rfl) ?_
 simp only [pq]
 by_cases d9 : cap < (l.length + 1)
 refine pR ?_
 refine wn a3 ?_
 refine aK ?_
 refine sk fun f8 b7 => ?_
 iterate 2 refine dx ?_
 refine dr (.slice (aA g 0) i cap) (bA (l := 0) (h := i) (sz := 2) Tryz.underlying47 rfl (cK _) (.inl ⟨rfl, rfl⟩) (.inr ⟨_, rfl, rfl⟩) (by omega) (by omega) (fE)) ?_
 simp only [pq]
 iterate 2 refine dx ?_
 refine cD (l.length + 1) ?_
 simp only [pq]
 refine dx ?_
 refine dr (nI ((l.length + 1) - i)) (uM (m := (((l.length + 1) : Nat) : Int)) (n := ((i : Nat) : Int)) (r := ((((l.length + 1) - i) : Nat) : Int)) rfl rfl (by omega) (by omega) (by omega)) ?_
 refine UF (k := 2) (n := i) (m := l.length + 1 - i) (l.length + 1) (c1.take (i * 2)) S3 rfl d8 (.agg #[Zn, Zn]) 48 Tryz.underlying47 Tryz.underlying3 a4 a5 a6 a7 rfl (by decide) rfl rfl (by omega) (by rw [List.length_take]; omega) (S3.srcT (i := 0) rfl _) (by omega) (by omega) (by unfold maxLen; omega) (by omega) ?_
 intro d3 a0 e0 e1 f9 g0 e2 e3 a1 d4
 unfold maxLen at e2
 refine dy ?_
 simp only [pq]
 refine wn b7 ?_
 refine sk fun g1 b9 => ?_
 iterate 2 refine dx ?_
 refine dr (.slice (some ⟨d3, i * 2, none⟩) ((l.length + 1) - i) (a0 - i)) (bA (l := i) (h := (l.length + 1)) (sz := 2) Tryz.underlying47 rfl (cK _) (.inr ⟨_, rfl, rfl⟩) (.inl ⟨rfl, rfl⟩) (by omega) (by omega) (fB (by omega) rfl rfl (by omega))) ?_
 simp only [pq]
 refine dx ?_
 refine rY (i := 0) (j := i * 2) 1 cs d4 rfl Tryz.underlying47 eE rfl rfl rfl (Nat.min_eq_left (by omega)) (hcs) (by rw [a1, hcs]; omega) (d4.src0 (i := 2) rfl) (one _ _ _ hp) (fun g2 e4 => ?_)
 refine wn b9 ?_
 refine aF fun g3 c0 => ?_
 refine aQ F 8 [] (by kernel_rfl) (by kernel_rfl) ?_
 simp only [cV]
 iterate 2 refine gm ?_
 simp only [pq]
 refine gm ?_
 refine gv (nI (i + 1)) (fun _ _ => fW (m := ((i : Nat) : Int)) (n := (1 : Int)) (r := (((i + 1) : Nat) : Int)) rfl rfl (by omega) (by omega) (by omega)) ?_
 refine gv (.slice (some ⟨d3, (i + 1) * 2, none⟩) ((l.length + 1) - (i + 1)) (a0 - (i + 1))) (fun _ _ => bA (l := (i + 1)) (h := (l.length + 1)) (sz := 2) Tryz.underlying47 rfl (cK _) (.inr ⟨_, rfl, rfl⟩) (.inl ⟨rfl, rfl⟩) (by omega) (by omega) (fB (by omega) rfl rfl (by omega))) ?_
 simp only [pq]
 iterate 2 refine gm ?_
 refine gv (.slice (some ⟨g, i * 2, none⟩) (l.length - i) (cap - i)) (fun _ _ => bA (l := i) (h := l.length) (sz := 2) Tryz.underlying47 rfl (cK _) (.inr ⟨_, rfl, rfl⟩) (.inl ⟨rfl, rfl⟩) (by omega) (by omega) (fB (by omega) rfl rfl (by omega))) ?_
 simp only [pq]
 refine bN ?_
 intro g4 c2 c3
 clear c3
 have d5 := St.tells e4 c2
 simp only [cW]
 have hml : ((c1.drop (i * 2)).take ((l.length - i) * 2)).length = (l.length - i) * 2 := by rw [List.length_take, List.length_drop, hcl4]; omega
 refine rY (i := 0) (j := (i + 1) * 2) (l.length - i) ((c1.drop (i * 2)).take ((l.length - i) * 2)) d5 rfl Tryz.underlying47 eE rfl rfl rfl (Nat.min_eq_left (by omega)) (hml) (by rw [bZ (by rw [a1, hcs]; omega), a1, hml]; omega) (d5.src (i := 1) rfl _ _) (tI one hall6 htk5 i) (fun g5 e5 => ?_)
 simp only [pq]
 refine wlK c0 ?_
 refine sk fun g6 c4 => ?_
 refine aC ?_
 refine wn c4 ?_
 refine aO ?_
 try simp only [xt]
 refine bR (bC rfl (gD rfl)) ?_
 have hdrop := St.drop e5 (.cons_cons _ (.cons _ (.cons _ (List.Sublist.refl _))))
 have hll : (l.take i ++ p :: l.drop i).length = l.length + 1 := by rw [List.length_append, List.length_cons, List.length_take, List.length_drop]; omega
 have hrow := St.blkRow (k := 2) (base := w0.heap.size) (R := R) (hR := hR) (l := l.take i ++ p :: l.drop i) (cap := a0) hdrop (el := el2.take i ++ cs :: el2.drop i) (by rw [hll]; exact (AW hlen7 htk5 (by omega) (by rw [hcl4]; omega) e3 hcs)) (oQ hall6 i hp) (qU hlen7 i hcs) (by rw [bZ (by rw [bZ (by rw [a1, hcs]; omega), a1, hml]; omega), bZ (by rw [a1, hcs]; omega), a1]) (by omega) (by unfold maxLen; omega) (hdrop.blk _ (List.mem_cons_self ..)).2.2
 rw [hll] at hrow
 exact ⟨_, rfl, hrow⟩
 refine lF ?_
 simp only [pq]
 refine wn a3 ?_
 refine aG ?_
 refine aI ?_
 refine b6 _ _ ?_
 refine sk fun g7 c5 => ?_
 refine aC ?_
 refine cD (l.length + 1) ?_
 refine dr (.slice (aA g 0) (l.length + 1) cap) (bA (l := 0) (h := (l.length + 1)) (sz := 2) Tryz.underlying47 rfl (cK _) (.inl ⟨rfl, rfl⟩) (.inr ⟨_, rfl, rfl⟩) (by omega) (by omega) (fE)) ?_
 refine dy ?_
 simp only [pq]
 refine wn c5 ?_
 refine aF fun g8 e6 => ?_
 refine sk fun g9 c6 => ?_
 refine aC ?_
 refine cD (i + 1) ?_
 refine dr (.slice (some ⟨g, (i + 1) * 2, none⟩) ((l.length + 1) - (i + 1)) (cap - (i + 1))) (bA (l := (i + 1)) (h := (l.length + 1)) (sz := 2) Tryz.underlying47 rfl (cK _) (.inr ⟨_, rfl, rfl⟩) (.inl ⟨rfl, rfl⟩) (by omega) (by omega) (fB (by omega) rfl rfl (by omega))) ?_
 simp only [pq]
 refine dr bF (MS (vs := #[(.slice (aA vn 0) 1 1), (.slice (some ⟨g, (i + 1) * 2, none⟩) ((l.length + 1) - (i + 1)) (cap - (i + 1)))]) (iX rfl rfl) rfl (HC (S3.blk ⟨vn, cs, 50⟩ (by simp)).1 (S3.blk ⟨g, c1, 50⟩ (by simp)).1 (by rw [hcl4]; omega) hvg)) ?_
 refine dt ?_
 refine wn c6 ?_
 refine aK ?_
 refine aF fun h0 c7 => ?_
 refine aQ F 8 [] (by kernel_rfl) (by kernel_rfl) ?_
 simp only [cV]
 refine gm ?_
 simp only [pq]
 iterate 2 refine gm ?_
 refine gv (nI (i + 1)) (fun _ _ => fW (m := ((i : Nat) : Int)) (n := (1 : Int)) (r := (((i + 1) : Nat) : Int)) rfl rfl (by omega) (by omega) (by omega)) ?_
 simp only [pq]
 refine gv (.slice (some ⟨g, (i + 1) * 2, none⟩) ((l.length + 1) - (i + 1)) (cap - (i + 1))) (fun _ _ => bA (l := (i + 1)) (h := (l.length + 1)) (sz := 2) Tryz.underlying47 rfl (cK _) (.inr ⟨_, rfl, rfl⟩) (.inl ⟨rfl, rfl⟩) (by omega) (by omega) (fB (by omega) rfl rfl (by omega))) ?_
 iterate 2 refine gm ?_
 simp only [pq]
 refine gv (.slice (some ⟨g, i * 2, none⟩) ((l.length + 1) - i) (cap - i)) (fun _ _ => bA (l := i) (h := (l.length + 1)) (sz := 2) Tryz.underlying47 rfl (cK _) (.inr ⟨_, rfl, rfl⟩) (.inl ⟨rfl, rfl⟩) (by omega) (by omega) (fB (by omega) rfl rfl (by omega))) ?_
 refine bN ?_
 intro h1 c8 c9
 clear c9
 have d6 := St.tells S3 c8
 simp only [cW]
 have hml : ((c1.drop (i * 2)).take ((l.length - i) * 2)).length = (l.length - i) * 2 := by rw [List.length_take, List.length_drop, hcl4]; omega
 refine rY (i := 0) (j := (i + 1) * 2) (l.length - i) ((c1.drop (i * 2)).take ((l.length - i) * 2)) d6 rfl Tryz.underlying47 eE rfl rfl rfl ((Nat.min_eq_right (by omega)).trans (by omega)) (hml) (by rw [hcl4, hml]; omega) (d6.src (i := 0) rfl _ _) (tI one hall6 htk5 i) (fun h2 d7 => ?_)
 simp only [pq]
 refine wlK c7 ?_
 refine sk fun h3 d0 => ?_
 iterate 2 refine dx ?_
 refine dr (.slice (some ⟨g, i * 2, none⟩) ((l.length + 1) - i) (cap - i)) (bA (l := i) (h := (l.length + 1)) (sz := 2) Tryz.underlying47 rfl (cK _) (.inr ⟨_, rfl, rfl⟩) (.inl ⟨rfl, rfl⟩) (by omega) (by omega) (fB (by omega) rfl rfl (by omega))) ?_
 simp only [pq]
 refine dx ?_
 refine rY (i := 0) (j := i * 2) 1 cs d7 rfl Tryz.underlying47 eE rfl rfl rfl (Nat.min_eq_left (by omega)) (hcs) (by rw [bZ (by rw [hcl4, hml]; omega), hcl4, hcs]; omega) (d7.src0 (i := 1) rfl) (one _ _ _ hp) (fun h4 e7 => ?_)
 refine wn d0 ?_
 refine sk fun h5 d1 => ?_
 refine aC ?_
 refine wn d1 ?_
 refine aO ?_
 try simp only [xt]
 refine bR (bC rfl (gD rfl)) ?_
 have hdrop := St.drop e7 (.cons_cons _ (.cons _ (List.Sublist.refl _)))
 have hll : (l.take i ++ p :: l.drop i).length = l.length + 1 := by rw [List.length_append, List.length_cons, List.length_take, List.length_drop]; omega
 have hrow := St.blkRow (k := 2) (base := w0.heap.size) (R := R) (hR := hR) (l := l.take i ++ p :: l.drop i) (cap := cap) hdrop (el := el2.take i ++ cs :: el2.drop i) (by rw [hll]; exact (EF hlen7 htk5 (by omega) (by rw [hcl4]; omega) hcs)) (oQ hall6 i hp) (qU hlen7 i hcs) (by rw [bZ (by rw [bZ (by rw [hcl4, hml]; omega), hcl4, hcs]; omega), bZ (by rw [hcl4, hml]; omega), hcl4]) (by omega) (by unfold maxLen; omega) (hdrop.blk _ (List.mem_cons_self ..)).2.2
 rw [hll] at hrow
 exact ⟨_, rfl, hrow⟩
theorem NE {i : Nat} {w0 w : World} {F0 F : Fz} {L0 : List Blk} {M0 : List RowP} {α : Type} {R : Fz → List Value → α → Prop} {hR : ∀ F F' x p, Le F F' → R F x p → R F' x p} {v : Value} {l : List α} {p : α} {vn : Nat} {cs : List Value} (one : ∀ F cs p, R F cs p → ∀ u ∈ cs, u.oneCell' = true)
    (S : St w0 F0 w F (⟨vn, cs, 50⟩ :: L0) (bV 2 R hR 50 w0.heap.size v l :: M0)) (hcs : cs.length = 2) (hp : R F cs p) (hl : l.length ≤ 100000) (hi : i ≤ l.length) :
    Calls Tryz.prog 65 #[v, .int .i64 (i : Nat), .slice (some ⟨vn, 0, none⟩) 1 1] w fun e w' => ∃ v', e = .returned v' ∧ St w0 F0 w' F L0 (bV 2 R hR 50 w0.heap.size v' (l.take i ++ p :: l.drop i) :: M0) := by
 rcases Nat.lt_or_ge i l.length with h | h
 ·obtain ⟨g, cap, rfl, _⟩ := (S.own (i := 0) rfl).form (by omega)
  exact DA one S hcs hp hl h
 ·obtain rfl : i = l.length := by omega
  have := CZ one S hcs hp hl
  rw [List.take_length, List.drop_length]
  exact this
theorem DB {g cap i : Nat} {w0 w : World} {F0 F : Fz} {L0 : List Blk} {M0 : List RowP} {α : Type} {R : Fz → List Value → α → Prop} {hR : ∀ F F' x p, Le F F' → R F x p → R F' x p} {l : List α} (one : ∀ F cs p, R F cs p → ∀ u ∈ cs, u.oneCell' = true)
    (S : St w0 F0 w F L0 (bV 2 R hR 50 w0.heap.size (.slice (some ⟨g, 0, none⟩) l.length cap) l :: M0)) (hl : l.length ≤ 100000) (hi : i < l.length) :
    Calls Tryz.prog 63 #[.slice (some ⟨g, 0, none⟩) l.length cap, .int .i64 (i : Nat), .int .i64 ((i + 1 : Nat) : Int)] w fun e w' => ∃ v', e = .returned v' ∧ St w0 F0 w' F L0 (bV 2 R hR 50 w0.heap.size v' (l.take i ++ l.drop (i + 1)) :: M0) := by
 obtain ⟨b6, a1, b7, a2, b9⟩ := info_parts oS
 go_enter Tryz.func63, Tryz.ntmps63
 obtain ⟨c1, el2, S3, hn9, b3, a0, hcl4, htk5, hall6, hlen7, hbg8⟩ := St.rowBlk (r := 0) S rfl
 unfold maxLen at a0
 refine sk fun c3 a3 => ?_
 refine dy ?_
 refine wn a3 ?_
 refine sk fun c4 a4 => ?_
 refine aC ?_
 refine dr (.slice (if l.length = i then ((aA g 0) : Option Addr) else ((aA g 0) : Option Addr).map (fun q => Addr.add q (i * 2))) ((i + 1) - i) (l.length - i)) (EH (l := i) (h := (i + 1)) (m := l.length) (sz := 2) Tryz.underlying47 rfl (cK _) rfl rfl rfl (by omega) (by omega) (by omega) rfl) ?_
 simp only [pq]
 refine wn a4 ?_
 refine aF fun c5 a5 => ?_
 refine sk fun c6 a6 => ?_
 iterate 2 refine dx ?_
 refine gL ?_
 simp only [pq]
 refine wn a6 ?_
 refine aG ?_
 refine aI ?_
 refine a5 _ _ ?_
 refine sk fun c7 a7 => ?_
 refine aC ?_
 refine wn a7 ?_
 refine aF fun c8 a8 => ?_
 refine aQ F 6 [] (by kernel_rfl) (by kernel_rfl) ?_
 simp only [cV]
 iterate 2 refine gm ?_
 refine gv (.slice (aA g 0) i cap) (fun _ _ => bA (l := 0) (h := i) (sz := 2) Tryz.underlying47 rfl (cK _) (.inl ⟨rfl, rfl⟩) (.inr ⟨_, rfl, rfl⟩) (by omega) (by omega) (fE)) ?_
 simp only [pq]
 iterate 2 refine gm ?_
 refine gv (.slice (if cap = i + 1 then some ⟨g, 0, none⟩ else some ⟨g, (i + 1) * 2, none⟩) (l.length - (i + 1)) (cap - (i + 1))) (fun _ _ => bA (l := (i + 1)) (h := l.length) (sz := 2) Tryz.underlying47 rfl (cK _) (.inr ⟨_, rfl, rfl⟩) (.inl ⟨rfl, rfl⟩) (by omega) (by omega) (by rw [show (some (⟨g, 0, none⟩ : Addr)).map (·.add ((i + 1) * 2)) = some ⟨g, (i + 1) * 2, none⟩ from by rw [Option.map_some, Addr.add_mid, Nat.zero_add]])) ?_
 simp only [pq]
 refine bN ?_
 intro c0 a9 b0
 clear b0
 have b4 := St.tells S3 a9
 simp only [cW]
 have hml : ((c1.drop ((i + 1) * 2)).take ((l.length - (i + 1)) * 2)).length = (l.length - (i + 1)) * 2 := by rw [List.length_take, List.length_drop, hcl4]; omega
 have hone := tI one hall6 htk5 (i + 1)
 have hsrc := b4.src (i := 0) rfl ((i + 1) * 2) ((l.length - (i + 1)) * 2)
 obtain ⟨ad, had, hsrc2⟩ : ∃ ad : Addr, (if cap = i + 1 then some (⟨g, 0, none⟩ : Addr) else some ⟨g, (i + 1) * 2, none⟩) = some ad ∧ ∀ q u, ((c1.drop ((i + 1) * 2)).take ((l.length - (i + 1)) * 2))[q]? = some u → c0.cell? (ad.add q) = some u := by
  by_cases hcc : cap = i + 1
  rw [if_pos hcc]
  refine ⟨_, rfl, fun q u hu => ?_⟩
  have hq := (List.getElem?_eq_some_iff.1 hu).1
  rw [hml] at hq
  omega
  rw [if_neg hcc]
  exact ⟨_, rfl, hsrc⟩
 refine UG (k := 2) (i := 0) (n := i) (m := l.length - (i + 1)) (ad := ad) (cp := cap - (i + 1)) (l.length - 1) ((c1.drop ((i + 1) * 2)).take ((l.length - (i + 1)) * 2)) b4 rfl b6 Tryz.underlying47 a1 a2 rfl (show _ = _ from by rw [← had]; rfl) rfl hml hsrc2 hone (by omega) (by omega) (by rw [hml, hcl4]; omega) (fun c9 c2 => ?_)
 simp only [pq]
 refine dy ?_
 refine wlK a8 ?_
 refine sk fun d0 b1 => ?_
 refine aC ?_
 refine dr (.slice (some ⟨g, (l.length - 1) * 2, none⟩) 1 (cap - (l.length - 1))) (bA (l := (l.length - 1)) (h := l.length) (sz := 2) Tryz.underlying47 rfl (cK _) (.inr ⟨_, rfl, rfl⟩) (.inr ⟨_, rfl, rfl⟩) (by omega) (by omega) (fB (by omega) (by omega) rfl (by omega))) ?_
 refine PF (i := 0) (n := 1) (.agg #[Zn, Zn]) [Zn, Zn] c2 rfl Tryz.underlying47 (fun w => vZ w) (by kernel_rfl) rfl (by decide) rfl (by rw [bZ (by rw [hml, hcl4]; omega), hcl4]; show _ + 2 ≤ _; omega) (by intro u hu; simp only [List.mem_cons, List.not_mem_nil, or_false] at hu; rcases hu with rfl | rfl <;> rfl) (fun d1 b5 => ?_)
 refine wn b1 ?_
 refine sk fun d2 b2 => ?_
 refine aC ?_
 refine wn b2 ?_
 refine aO ?_
 try simp only [xt]
 refine bR (bC rfl (gD rfl)) ?_
 have hll : (l.take i ++ l.drop (i + 1)).length = l.length - 1 := by rw [List.length_append, List.length_take, List.length_drop]; omega
 have hrow := St.blkRow (k := 2) (base := w0.heap.size) (R := R) (hR := hR) (l := l.take i ++ l.drop (i + 1)) (cap := cap) b5 (el := el2.take i ++ el2.drop (i + 1)) (by rw [hll]; exact EG (zs := [(.slice none 0 0), (.slice none 0 0)]) hlen7 htk5 hi (by rw [hcl4]; omega) rfl) (yH hall6 i) (AX hlen7 i) (by rw [bZ (by rw [bZ (by rw [hml, hcl4]; omega), hcl4]; show _ + 2 ≤ _; omega), bZ (by rw [hml, hcl4]; omega), hcl4]) (by omega) (by unfold maxLen; omega) (b5.blk _ (List.mem_cons_self ..)).2.2
 rw [hll] at hrow
 exact ⟨_, rfl, hrow⟩
theorem NF {i : Nat} {w0 w : World} {F0 F : Fz} {L0 : List Blk} {M0 : List RowP} {α : Type} {R : Fz → List Value → α → Prop} {hR : ∀ F F' x p, Le F F' → R F x p → R F' x p} {v : Value} {l : List α} (one : ∀ F cs p, R F cs p → ∀ u ∈ cs, u.oneCell' = true)
    (S : St w0 F0 w F L0 (bV 2 R hR 50 w0.heap.size v l :: M0)) (hl : l.length ≤ 100000) (hi : i < l.length) :
    Calls Tryz.prog 63 #[v, .int .i64 (i : Nat), .int .i64 ((i + 1 : Nat) : Int)] w fun e w' => ∃ v', e = .returned v' ∧ St w0 F0 w' F L0 (bV 2 R hR 50 w0.heap.size v' (l.take i ++ l.drop (i + 1)) :: M0) := by
 obtain ⟨g, cap, rfl, _⟩ := (S.own (i := 0) rfl).form (by omega)
 exact DB one S hl hi
theorem PrC.one (F : Fz) (cs : List Value) (p : Pr) (h : PrC F cs p) : ∀ u ∈ cs, u.oneCell' = true := h.oneCell
def PrsE (r : List Pr) (e : Int) (F : Fz) (u : Value) : Prop := ∃ x, u = .tuple #[x, .int .i64 e] ∧ Prs F x r
theorem PrsE.mono {F F' : Fz} {u : Value} {r : List Pr} {e : Int} (h : PrsE r e F u) (hl : Le F F') : PrsE r e F' u := by
 obtain ⟨x, rfl, h1⟩ := h; exact ⟨x, rfl, h1.mono hl⟩
def uB (l : List Pr) (p : Pr) : Int := if fM p ≠ 0 then fM p else if 60 < (eO l p.1 p.2).length then 11 else 0
def JA (l : List Pr) (p : Pr) : List Pr := if uB l p = 0 then eO l p.1 p.2 else []
theorem BI {l : List Pr} {k : By} (h : eW l k = true) : aS l k < l.length := by
 unfold eW yD at h
 rw [List.any_eq_true] at h
 obtain ⟨q, hq, he⟩ := h
 unfold aS lH
 obtain ⟨i, hi, rfl⟩ := List.mem_iff_getElem.1 hq
 have he' : l[i].1 = k := by simpa using he
 have hpre : (l.takeWhile fun p => Op.bytesLess p.1 k).length ≤ i := by
  rcases Nat.lt_or_ge i (l.takeWhile fun p => Op.bytesLess p.1 k).length with h1 | h1
  ·have e : (l.takeWhile fun p => Op.bytesLess p.1 k)[i] = l[i] := (List.takeWhile_prefix _).getElem h1
   have hp := List.all_eq_true.1 (List.all_takeWhile (p := fun p : Pr => Op.bytesLess p.1 k) (l := l)) _ (List.getElem_mem h1)
   rw [e, he', jA] at hp
   cases hp
  ·exact h1
 exact Nat.lt_of_le_of_lt hpre hi
def RN (k : By) : Int := cF k.length
def RO (l : List Pr) (k : By) : List Pr := if cF k.length = 0 then gG l k else []
def mT (a b : By) : Int := if cF a.length ≠ 0 then cF a.length else cF b.length
def xR (l : List Pr) (a b : By) : List Pr := if mT a b = 0 then gI l a b else []
theorem BJ {l : List Pr} (hr : fO l) (a b : By) : gI l a b = (l.take (max (aS l a) (FU l b))).drop (aS l a) := by
 rw [MO hr]
 rcases Nat.le_total (aS l a) (FU l b) with h | h
 ·rw [Nat.max_eq_right h]
 ·rw [Nat.max_eq_left h, List.drop_of_length_le, List.drop_of_length_le]
  ·rw [List.length_take]; omega
  ·rw [List.length_take]; omega
theorem BK (F : Fz) (w : World) (v u : Value) (l : List Pr) (p : Pr) (hs : Sat w F) (hv : Prs F v l) (hu : Pr2V F u p) (ok1 : TreeOk 60 l) (hk : p.1.length ≤ 100000) (hx : p.2.length ≤ 100000) :
    Calls Tryz.prog 48 #[v, u] w (dO w F (PrsE (JA l p) (uB l p))) := by
 have ok := pX.2 ok1
 have a3 := ok1.len
 obtain ⟨a, c, rfl, hc1, hc2⟩ := Sl.shape hv
 obtain ⟨x0, y0, x1, y1, rfl, h0, h1⟩ := hu
 unfold maxLen at hc2
 obtain ⟨g1, d5, d6, d7, d8⟩ := info_parts oS
 have S := St.start hs
 go_enter Tryz.func48, Tryz.ntmps48
 refine sk fun K1 hK1 => ?_
 refine aZ S (v := fun n => .pointer (aA n 0)) rfl (bW (v := (.agg #[(.slice x0 p.1.length y0), (.slice x1 p.2.length y1)])) rfl) (fun n2 w3 S4 => ?_)
 iterate 2 refine dy ?_
 refine wn hK1 ?_
 refine aF fun K5 hK5 => ?_
 refine sk fun K6 hK6 => ?_
 refine dx ?_
 simp only [pq]
 refine aL (v := (.int .i64 (iT l))) S4 rfl (fn1 (BF _ _)) (jG _ _ _ l (S4).sat hv) (fun w7 S8 => ?_)
 refine dy ?_
 refine wn hK6 ?_
 refine sk fun K9 hK9 => ?_
 refine dx ?_
 refine dr bF (cC (m := (iT l)) (n := (0 : Int)) (b := false) rfl rfl (bne_eq_false_iff_eq.2 (ok))) ?_
 simp only [pq]
 refine wn hK9 ?_
 refine aG ?_
 refine aI ?_
 refine hK5 _ _ ?_
 refine aF fun g2 b6 => ?_
 refine sk fun g3 b7 => ?_
 refine dR S8 0 Tryz.underlying50 (eE) ?_
 refine aL (v := (.int .i64 (fM p))) S8 rfl (fn1 (VA _ _)) (EK _ _ _ p (S8).sat ⟨_, _, _, _, rfl, h0, h1⟩) (fun g4 b9 => ?_)
 refine dy ?_
 refine wn b7 ?_
 refine sk fun g5 a6 => ?_
 refine dx ?_
 simp only [pq]
 by_cases a7 : (fM p) = (0 : Int)
 refine lQ ?_
 refine wn a6 ?_
 refine aG ?_
 refine aI ?_
 refine b6 _ _ ?_
 refine sk fun g6 c0 => ?_
 refine dx ?_
 refine nT PrC.mono b9 rfl (fn1 (GT _ _)) (wJ _ _ _ l (b9).sat hv (by have := ok1.len; omega) (fun p hp => ok1.small hp)) ?_
 intro d9 g7 g8 d3 a1
 refine dy ?_
 simp only [pq]
 refine wn c0 ?_
 refine sk fun g9 c1 => ?_
 refine aC ?_
 obtain ⟨h2, c2, c3, a8⟩ := nU d3 (i := 0) rfl
 refine aL (v := (.tuple #[(nI (aS l p.1)), (.bool (eW l p.1))])) d3 rfl (fn2 (BH _ _)) (pY _ _ _ _ l p.1 c2 a8 ((h0.mono a1).mono c3) ok1.rise (by have := ok1.len; omega)) (fun h3 a2 => ?_)
 refine aC ?_
 refine wn c1 ?_
 refine aF fun h4 a9 => ?_
 refine aM ?_
 refine sk fun h5 c4 => ?_
 refine aC ?_
 refine wn c4 ?_
 refine wp_cond_split rfl (fun a0 => ?_) (fun a0 => ?_)
 have hpos0 := BI a0
 obtain ⟨d4, b0, rfl, h6, e0, _⟩ := (a2.own (i := 0) rfl).form (by omega)
 unfold maxLen at e0
 refine aB ?_
 iterate 2 refine dx ?_
 refine dR a2 0 Tryz.underlying50 (eE) ?_
 simp only [pq]
 refine aY a2 rfl (fn1 (MY _ _)) (xQ _ _ _ p (a2).sat ⟨_, _, _, _, rfl, (h0.mono a1), (h1.mono a1)⟩ (by omega) (by omega)) ?_
 intro h7 h8 h9 e1 e2 e3
 obtain ⟨c5, c6, c7, c8, rfl, e4, e5⟩ := e3
 simp only [pq]
 have hpos := BI a0
 refine dr (pP d4 (0 + (aS l p.1) * 2)) (bK (i := (aS l p.1)) (sz := 2) Tryz.underlying47 (cK _) rfl rfl rfl (hpos) rfl) ?_
 refine AV (r := 0) (i := (aS l p.1)) (p := p) (u := (.agg #[(.slice c5 p.1.length c6), (.slice c7 p.2.length c8)])) e1 rfl rfl (by omega) rfl rfl (by omega) (eE) (Ch rfl rfl) rfl ⟨_, _, rfl, e4, e5⟩ (Nat.le_refl _) (fun i0 e6 => ?_)
 refine wlK a9 ?_
 refine sk fun i1 c9 => ?_
 refine aC ?_
 refine wn c9 ?_
 refine aO ?_
 try simp only [xt]
 refine bR (cI rfl (gD rfl) (gD rfl)) ?_
 have hpp : fM p = 0 := by omega
 have hlen := jB l p.1 p.2
 have a3 := ok1.len
 rw [if_pos a0] at hlen
 have hput := RM (v := p.2) a0
 have he : uB l p = 0 := by unfold uB; rw [if_neg (by omega), if_neg (by omega)]
 unfold JA
 rw [he, if_pos rfl, hput]
 obtain ⟨i2, e7, e8, a4⟩ := St.freeze e6 (i := 0) rfl (Nat.le_refl _)
 have a4 : Prs _ (.slice (some ⟨d4, 0, none⟩) l.length b0) (l.set (aS l p.1) p) := a4
 exact ⟨_, _, rfl, e7.gr, _, rfl, a4⟩
 refine sk fun i3 b1 => ?_
 refine aC ?_
 by_cases e9 : l.length = 60
 refine iR ?_
 refine dy ?_
 refine wn b1 ?_
 refine aK ?_
 refine sk fun i4 d0 => ?_
 refine aC ?_
 refine wn d0 ?_
 refine aO ?_
 try simp only [xt]
 refine bR (cI rfl (gD rfl) (gD rfl)) ?_
 have hpp : fM p = 0 := by omega
 have hlen := jB l p.1 p.2
 have a3 := ok1.len
 rw [if_neg (by rw [a0]; simp)] at hlen
 have he : uB l p = 11 := by unfold uB; rw [if_neg (by omega), if_pos (by omega)]
 unfold JA
 rw [he, if_neg (by decide)]
 exact ⟨_, _, rfl, a2.gr, _, rfl, Sl.nil _ _ _⟩
 refine gL ?_
 refine dy ?_
 refine wn b1 ?_
 refine aG ?_
 refine aB ?_
 iterate 2 refine dx ?_
 refine dR a2 0 Tryz.underlying50 (eE) ?_
 simp only [pq]
 refine aY a2 rfl (fn1 (MY _ _)) (xQ _ _ _ p (a2).sat ⟨_, _, _, _, rfl, (h0.mono a1), (h1.mono a1)⟩ (by omega) (by omega)) ?_
 intro i5 i6 i7 f0 f1 f2
 obtain ⟨b2, b3, b4, b5, rfl, f3, f4⟩ := f2
 refine aZ f0 (v := fun n => .slice (aA n 0) 1 1) rfl (bS (ps := #[(0, (.agg #[(.slice b2 p.1.length b3), (.slice b4 p.2.length b5)]))]) (cells := #[(.slice b2 p.1.length b3), (.slice b4 p.2.length b5)]) (E := 50) (cG rfl) (fun w => by kernel_rfl)) (fun f5 i8 f6 => ?_)
 simp only [pq]
 refine vX (L := [⟨n2, [(.slice x0 p.1.length y0), (.slice x1 p.2.length y1)], 50⟩]) (M := fun v_ => [bV 2 PrC PrC.mono 50 w.heap.size v_ (l.take (aS l p.1) ++ p :: l.drop (aS l p.1))]) rfl (cP (vs := #[d9, (nI (aS l p.1)), (.slice (aA f5 0) 1 1)]) (IU rfl rfl rfl) rfl (Dh _ _)) (NE (p := p) PrC.one f6 rfl ⟨_, _, rfl, f3, f4⟩ (by omega) (jU _ _ _)) ?_
 intro f7 i9 f8
 refine dy ?_
 refine wlK a9 ?_
 refine sk fun j0 d1 => ?_
 refine aC ?_
 refine wn d1 ?_
 refine aO ?_
 try simp only [xt]
 refine bR (cI rfl (gD rfl) (gD rfl)) ?_
 have hpp : fM p = 0 := by omega
 have hlen := jB l p.1 p.2
 have a3 := ok1.len
 rw [if_neg (by rw [a0]; simp)] at hlen
 have hput := VG (v := p.2) (by rw [a0]; simp)
 have he : uB l p = 0 := by unfold uB; rw [if_neg (by omega), if_neg (by omega)]
 unfold JA
 rw [he, if_pos rfl, hput]
 obtain ⟨j1, f9, g0, a5⟩ := St.freeze f8 (i := 0) rfl (Nat.le_refl _)
 have a5 : Prs _ f7 (l.take (aS l p.1) ++ p :: l.drop (aS l p.1)) := a5
 exact ⟨_, _, rfl, f9.gr, _, rfl, a5⟩
 refine mS ?_
 refine wn a6 ?_
 refine aK ?_
 refine sk fun j2 d2 => ?_
 refine aC ?_
 refine wn d2 ?_
 refine aO ?_
 try simp only [xt]
 refine bR (cI rfl (gD rfl) (gD rfl)) ?_
 have he : uB l p = fM p := by unfold uB; rw [if_pos a7]
 unfold JA
 rw [he, if_neg a7]
 exact ⟨_, _, rfl, b9.gr, _, rfl, Sl.nil _ _ _⟩
theorem yJ (F : Fz) (w : World) (v u : Value) (l : List Pr) (k : By) (hs : Sat w F) (hv : Prs F v l) (hu : Bs F u k) (ok1 : TreeOk 60 l) :
    Calls Tryz.prog 47 #[v, u] w (dO w F (PrsE (RO l k) (RN k))) := by
 have ok := pX.2 ok1
 have c3 := ok1.len
 obtain ⟨a, c, rfl, hc1, hc2⟩ := Sl.shape hv
 obtain ⟨a2, c2, rfl, _⟩ := hu.shape
 unfold maxLen at hc2
 obtain ⟨d4, c4, c5, c6, c7⟩ := info_parts oS
 have S := St.start hs
 go_enter Tryz.func47, Tryz.ntmps47
 refine sk fun K1 hK1 => ?_
 iterate 2 refine dy ?_
 refine wn hK1 ?_
 refine aF fun K2 hK2 => ?_
 refine sk fun K3 hK3 => ?_
 refine dx ?_
 simp only [pq]
 refine aL (v := (.int .i64 (iT l))) S rfl (fn1 (BF _ _)) (jG _ _ _ l (S).sat hv) (fun w4 S5 => ?_)
 refine dy ?_
 refine wn hK3 ?_
 refine sk fun K6 hK6 => ?_
 refine dx ?_
 refine dr bF (cC (m := (iT l)) (n := (0 : Int)) (b := false) rfl rfl (bne_eq_false_iff_eq.2 (ok))) ?_
 simp only [pq]
 refine wn hK6 ?_
 refine aG ?_
 refine aI ?_
 refine hK2 _ _ ?_
 refine aF fun K7 hK7 => ?_
 refine sk fun K8 hK8 => ?_
 refine dx ?_
 refine aL (v := (.int .i64 (cF k.length))) S5 rfl (fn1 (uQ _ _)) (fN (kF _ _ _ k hu)) (fun w9 a7 => ?_)
 refine dy ?_
 refine wn hK8 ?_
 refine sk fun d5 a4 => ?_
 refine dx ?_
 simp only [pq]
 by_cases a8 : (cF k.length) = (0 : Int)
 refine lQ ?_
 refine wn a4 ?_
 refine aG ?_
 refine aI ?_
 refine hK7 _ _ ?_
 refine sk fun d6 a9 => ?_
 refine dx ?_
 refine nT PrC.mono a7 rfl (fn1 (GT _ _)) (wJ _ _ _ l (a7).sat hv (by have := ok1.len; omega) (fun p hp => ok1.small hp)) ?_
 intro b9 d7 d8 c0 b0
 refine dy ?_
 simp only [pq]
 refine wn a9 ?_
 refine aF fun d9 a5 => ?_
 refine sk fun e0 b1 => ?_
 refine aC ?_
 obtain ⟨e1, b2, b3, a6⟩ := nU c0 (i := 0) rfl
 refine aL (v := (.tuple #[(nI (aS l k)), (.bool (eW l k))])) c0 rfl (fn2 (BH _ _)) (pY _ _ _ _ l k b2 a6 ((hu.mono b0).mono b3) ok1.rise (by have := ok1.len; omega)) (fun e2 c1 => ?_)
 refine aC ?_
 refine wn b1 ?_
 refine sk fun e3 b4 => ?_
 refine dx ?_
 simp only [pq]
 refine wn b4 ?_
 refine wp_cond_split rfl (fun a0 => ?_) (fun a0 => ?_)
 have hpos := BI a0
 refine aB ?_
 refine aC ?_
 refine cD ((aS l k) + 1) ?_
 refine vX (L := []) (M := fun v_ => [bV 2 PrC PrC.mono 50 w.heap.size v_ (l.take (aS l k) ++ l.drop ((aS l k) + 1))]) rfl (cP (vs := #[b9, (nI (aS l k)), (nI ((aS l k) + 1))]) (IU rfl rfl rfl) rfl (Dg _ _)) (NF PrC.one c1 (by omega) (hpos)) ?_
 intro c8 e4 c9
 refine dy ?_
 refine wlK a5 ?_
 refine sk fun e5 b5 => ?_
 refine aC ?_
 refine wn b5 ?_
 refine aO ?_
 try simp only [xt]
 refine bR (cI rfl (gD rfl) (gD rfl)) ?_
 have hcc : cF k.length = 0 := by omega
 unfold RO RN gG
 rw [hcc, if_pos rfl, if_pos a0]
 obtain ⟨e6, d0, d1, a1⟩ := St.freeze c9 (i := 0) rfl (Nat.le_refl _)
 have a1 : Prs _ c8 (l.take (aS l k) ++ l.drop ((aS l k) + 1)) := a1
 exact ⟨_, _, rfl, d0.gr, _, rfl, a1⟩
 refine aI ?_
 refine a5 _ _ ?_
 refine sk fun e7 b6 => ?_
 refine aC ?_
 refine wn b6 ?_
 refine aO ?_
 try simp only [xt]
 refine bR (cI rfl (gD rfl) (gD rfl)) ?_
 have hcc : cF k.length = 0 := by omega
 unfold RO RN gG
 rw [hcc, if_pos rfl, if_neg (by rw [a0]; simp)]
 obtain ⟨e8, d2, d3, a3⟩ := St.freeze c1 (i := 0) rfl (Nat.le_refl _)
 have a3 : Prs _ b9 l := a3
 exact ⟨_, _, rfl, d2.gr, _, rfl, a3⟩
 refine mS ?_
 refine wn a4 ?_
 refine aK ?_
 refine sk fun e9 b7 => ?_
 refine aC ?_
 refine wn b7 ?_
 refine aO ?_
 try simp only [xt]
 refine bR (cI rfl (gD rfl) (gD rfl)) ?_
 unfold RO RN
 rw [if_neg a8]
 exact ⟨_, _, rfl, a7.gr, _, rfl, Sl.nil _ _ _⟩
theorem Sl.dropAny {α : Type} {k : Nat} {R : Fz → List Value → α → Prop} {F : Fz} {a : Option Addr} {n c m : Nat} {l : List α} (hk : 0 < k) (h : Sl k R F (.slice a n c) l) (hm : m ≤ n) : Sl k R F (.slice (if c = m then a else a.map (·.add (m * k))) (n - m) (c - m)) (l.drop m) := by
 have hn := Sl.len h
 obtain ⟨el, h1, h2, h3⟩ := h
 obtain ⟨a0, c0, e1, q1, q2, q3, q4⟩ := h1
 injection e1 with e1 e2 e3
 subst e1; subst e3
 have hll := h2.len
 by_cases hmn : m = l.length
 have e : l.drop m = [] := List.drop_of_length_le (by omega)
 have e0 : n - m = 0 := by omega
 rw [e, e0]
 refine ⟨[], ⟨_, c - m, rfl, by simp, by omega, fun e => ?_, .inl rfl⟩, trivial, by simp⟩
 cases a with
 | none => have := q3 rfl; exact ⟨rfl, by omega⟩
 | some ad => split at e <;> cases e
 have hpos : el.flatten ≠ [] := by
  intro e
  have := congrArg List.length e
  rw [eY h3, hll] at this
  have := Nat.mul_pos (show 0 < l.length by omega) hk
  simp at *
  omega
 obtain ⟨b, o, e, hc⟩ := q4.resolve_left hpos
 subst e
 rw [if_neg (by omega)]
 have hs : Sl k R F (.slice (some ⟨b, o, none⟩) n c) l := ⟨el, ⟨_, _, by rw [hn], q1, q2, q3, .inr ⟨b, o, rfl, hc⟩⟩, h2, h3⟩
 have := Sl.dropN (m := m) hs hm rfl rfl
 show Sl k R F (.slice (some (Addr.add ⟨b, o, none⟩ (m * k))) _ _) _
 rw [Addr.add_mid]
 exact this
theorem EM {P : Program} {ρ : Operand → Value} {w : World} {d : Option Tmp} {t X E : TypeId} {n : Nat} {pos : String} {after : Array Edge} {guard : Option (Nat × Bool)} {x y : Operand} {cs : Array Value} {i : Nat} {v : Value} (hX : P.underlying X = some (.array n E)) (hs : (sizeOf E).run P w = .ok 1 w) (hx : ρ x = .agg cs) (hy : ρ y = .int .i64 i) (hi : i < n) (hb : (isAgg E).run P w = .ok false w) (hv : cs[i]? = some v) :
    (execOp ρ ⟨d, .index X x y, t, pos, after, guard⟩).run P w = .ok (.value v) w := by
 have h1 : (0 : Int) ≤ (i : Int) ∧ (i : Int) < (n : Int) := by omega
 simp [execOp, hx, hy, Instr.index, part, Sem.run_bind, run_underlying hX w, asIntOf, hs, h1, hb, hv, hi]
theorem NH (F : Fz) (w : World) (v u z : Value) (l : List Pr) (x y : By) (hs : Sat w F) (hv : Prs F v l) (hx : Bs F u x) (hy : Bs F z y) (ok1 : TreeOk 60 l) :
    Calls Tryz.prog 131 #[v, u, z] w (dO w F (PrsE (xR l x y) (mT x y))) := by
 have ok := pX.2 ok1
 have d1 := ok1.len
 obtain ⟨a, c, rfl, hc1, hc2⟩ := Sl.shape hv
 obtain ⟨a2, c2, rfl, _⟩ := hx.shape
 obtain ⟨a3, c3, rfl, _⟩ := hy.shape
 unfold maxLen at hc2
 obtain ⟨e9, d2, d3, d4, d5⟩ := info_parts oS
 have S := St.start hs
 go_enter Tryz.func131, Tryz.ntmps131
 refine sk fun K1 hK1 => ?_
 iterate 2 refine dy ?_
 refine wn hK1 ?_
 refine aF fun K2 hK2 => ?_
 refine sk fun K3 hK3 => ?_
 refine dx ?_
 simp only [pq]
 refine aL (v := (.int .i64 (iT l))) S rfl (fn1 (BF _ _)) (jG _ _ _ l (S).sat hv) (fun w4 S5 => ?_)
 refine dy ?_
 refine wn hK3 ?_
 refine sk fun K6 hK6 => ?_
 refine dx ?_
 refine dr bF (cC (m := (iT l)) (n := (0 : Int)) (b := false) rfl rfl (bne_eq_false_iff_eq.2 (ok))) ?_
 simp only [pq]
 refine wn hK6 ?_
 refine aG ?_
 refine aI ?_
 refine hK2 _ _ ?_
 refine aF fun K7 hK7 => ?_
 refine sk fun K8 hK8 => ?_
 iterate 2 refine dx ?_
 refine dr (.agg #[(.slice a2 x.length c2), (.slice a3 y.length c3)]) (aJ (eZ rfl rfl) (by kernel_rfl)) ?_
 simp only [pq]
 refine dx ?_
 refine wn hK8 ?_
 refine aM ?_
 refine aW (fun mm aa d6 => ∃ (k : Nat) (u9 : Nat → Value), mm = 2 - k ∧ u9 = dY aa ∧ aa = ⟨([(.slice a l.length c), (.slice a2 x.length c2), (.slice a3 y.length c3), undef, undef, undef, (u9 6), (u9 7), (.int .i64 (iT l)), undef, (u9 10), (u9 11)] ++ (udF 4 ([(.slice a l.length c), (.int .i64 (iT l)), (.int .i64 (iT l)), bF, undef, (.slice a2 x.length c2), (.slice a3 y.length c3), (.agg #[(.slice a2 x.length c2), (.slice a3 y.length c3)]), (nI k)] ++ (usF u9 25 8 (udF 22 []))))).toArray, []⟩ ∧ St w F d6 F [] [] ∧ (k ≤ 2) ∧ (1 ≤ k → cF x.length = 0) ∧ (2 ≤ k → cF y.length = 0)) _ ⟨0, _, rfl, rfl, rfl, S5, (by omega), (fun h => absurd h (by omega)), (fun h => absurd h (by omega))⟩ ?_
 rintro f0 f1 f2 ⟨k, u9, rfl, -, hfr, b3, hk, hq1, hq2⟩ f3 a6
 simp only [uzF, Nat.reduceAdd] at hfr; subst hfr
 refine sk fun f4 a7 => ?_
 by_cases d7 : k < 2
 refine fA ?_
 refine wn a7 ?_
 refine aF fun f5 b5 => ?_
 refine aK ?_
 refine aI ?_
 refine b5 _ _ ?_
 refine aF fun f6 a8 => ?_
 refine aM ?_
 refine aF fun f7 a9 => ?_
 obtain rfl | rfl : k = 0 ∨ k = 1 := by omega
 refine aB ?_
 refine dr (.slice a2 x.length c2) (EM (i := 0) Tryz.underlying230 (iV _) rfl rfl (by decide) (bD _) rfl) ?_
 refine dy ?_
 simp only [pq]
 refine wlK a9 ?_
 refine sk fun f8 b6 => ?_
 refine dx ?_
 refine aL (v := (.int .i64 (cF x.length))) b3 rfl (fn1 (uQ _ _)) (fN (kF _ _ _ x hx)) (fun f9 c8 => ?_)
 refine dy ?_
 refine wn b6 ?_
 refine sk fun g0 b0 => ?_
 refine dx ?_
 simp only [pq]
 by_cases a0 : (cF x.length) = (0 : Int)
 refine lQ ?_
 refine wn b0 ?_
 refine aG ?_
 refine aI ?_
 refine a8 _ _ ?_
 refine aB ?_
 refine cD 1 ?_
 refine dx ?_
 simp only [pq]
 refine aH ?_
 exact a6 _ _ _ (by omega) ⟨1, _, rfl, rfl, rfl, c8, (by omega), (fun _ => by omega), (fun h => absurd h (by omega))⟩
 refine mS ?_
 refine wn b0 ?_
 refine aK ?_
 refine sk fun g1 b7 => ?_
 refine aC ?_
 refine wn b7 ?_
 refine aO ?_
 try simp only [xt]
 refine bR (cI rfl (gD rfl) (gD rfl)) ?_
 have he : mT x y = cF x.length := by unfold mT; rw [if_pos a0]
 unfold xR
 rw [he, if_neg a0]
 exact ⟨_, _, rfl, c8.gr, _, rfl, Sl.nil _ _ _⟩
 refine aB ?_
 refine dr (.slice a3 y.length c3) (EM (i := 1) Tryz.underlying230 (iV _) rfl rfl (by decide) (bD _) rfl) ?_
 refine dy ?_
 refine wlK a9 ?_
 refine sk fun g2 b9 => ?_
 refine dx ?_
 simp only [pq]
 refine aL (v := (.int .i64 (cF y.length))) b3 rfl (fn1 (uQ _ _)) (fN (kF _ _ _ y hy)) (fun g3 c9 => ?_)
 refine dy ?_
 refine wn b9 ?_
 refine sk fun g4 b1 => ?_
 refine dx ?_
 simp only [pq]
 by_cases a0 : (cF y.length) = (0 : Int)
 refine lQ ?_
 refine wn b1 ?_
 refine aG ?_
 refine aI ?_
 refine a8 _ _ ?_
 refine aB ?_
 refine cD 2 ?_
 refine dx ?_
 simp only [pq]
 refine aH ?_
 exact a6 _ _ _ (by omega) ⟨2, _, rfl, rfl, rfl, c9, (by omega), (fun _ => hq1 (by omega)), (fun _ => by omega)⟩
 refine mS ?_
 refine wn b1 ?_
 refine aK ?_
 refine sk fun g5 c0 => ?_
 refine aC ?_
 refine wn c0 ?_
 refine aO ?_
 try simp only [xt]
 refine bR (cI rfl (gD rfl) (gD rfl)) ?_
 have he : mT x y = cF y.length := by unfold mT; rw [if_neg (by have := hq1 (by omega); omega)]
 unfold xR
 rw [he, if_neg a0]
 exact ⟨_, _, rfl, c9.gr, _, rfl, Sl.nil _ _ _⟩
 refine eM ?_
 refine wn a7 ?_
 refine aF fun g6 d8 => ?_
 refine aG ?_
 refine cS ?_
 refine hK7 _ _ ?_
 refine aF fun g7 c1 => ?_
 have hcx := hq1 (by omega)
 have hcy := hq2 (by omega)
 have hply : aS l y ≤ l.length := jU _ _ _
 refine aB ?_
 refine aC ?_
 refine aL (v := (.tuple #[(nI (aS l x)), (.bool (eW l x))])) b3 rfl (fn2 (BH _ _)) (pY _ _ _ _ l x (b3).sat hv hx ok1.rise (by have := ok1.len; omega)) (fun g8 d0 => ?_)
 refine aC ?_
 refine wlK c1 ?_
 refine sk fun g9 c4 => ?_
 refine aC ?_
 refine aL (v := (.tuple #[(nI (aS l y)), (.bool (eW l y))])) d0 rfl (fn2 (BH _ _)) (pY _ _ _ _ l y (d0).sat hv hy ok1.rise (by have := ok1.len; omega)) (fun h0 b4 => ?_)
 refine aC ?_
 refine wn c4 ?_
 refine aF fun h1 b2 => ?_
 refine sk fun h2 c5 => ?_
 refine dx ?_
 simp only [pq]
 refine wn c5 ?_
 refine wp_cond_split rfl (fun a1 => ?_) (fun a1 => ?_)
 refine aB ?_
 refine dx ?_
 refine cD ((aS l y) + 1) ?_
 refine dy ?_
 simp only [pq]
 refine wlK b2 ?_
 refine aF fun h3 c6 => ?_
 have hend : FU l y = ((aS l y) + 1) := by unfold FU; rw [a1]; simp
 have hel := OX ok1.rise y
 have hpl : aS l x ≤ l.length := jU _ _ _
 rw [hend] at hel
 refine aB ?_
 refine aC ?_
 refine dr (.int .i64 (((max (aS l x) ((aS l y) + 1)) : Nat) : Int)) (UK (m := (((aS l x) : Nat) : Int)) (n := ((((aS l y) + 1) : Nat) : Int)) (r := (((max (aS l x) ((aS l y) + 1)) : Nat) : Int)) rfl rfl (by omega)) ?_
 simp only [pq]
 have hcut := Sl.dropAny (m := (aS l x)) (by decide) (Sl.takeN (m := (max (aS l x) ((aS l y) + 1))) hv (by omega)) (by omega)
 refine dr (.slice (if c = (aS l x) then a else a.map (·.add ((aS l x) * 2))) ((max (aS l x) ((aS l y) + 1)) - (aS l x)) (c - (aS l x))) (bA (l := (aS l x)) (h := (max (aS l x) ((aS l y) + 1))) (sz := 2) Tryz.underlying47 rfl (cK _) (.inr ⟨_, rfl, rfl⟩) (.inr ⟨_, rfl, rfl⟩) (by omega) (by omega) (rfl)) ?_
 refine nT PrC.mono b4 rfl (cP (vs := #[(.slice (if c = (aS l x) then a else a.map (·.add ((aS l x) * 2))) ((max (aS l x) ((aS l y) + 1)) - (aS l x)) (c - (aS l x)))]) (kX rfl) rfl (GT _ _)) (wJ _ _ _ ((l.take (max (aS l x) ((aS l y) + 1))).drop (aS l x)) (b4).sat hcut (by rw [List.length_drop, List.length_take]; omega) (fun p hp => ok1.small (List.mem_of_mem_take (List.mem_of_mem_drop hp)))) ?_
 intro d9 h4 h5 e0 e1
 refine aC ?_
 refine wlK c6 ?_
 refine aO ?_
 try simp only [xt]
 refine bR (cI rfl (gD rfl) (gD rfl)) ?_
 have he : mT x y = 0 := by unfold mT; rw [if_neg (by omega)]; exact hcy
 unfold xR
 rw [he, if_pos rfl, BJ ok1.rise, hend]
 obtain ⟨h6, e2, e3, a4⟩ := St.freeze e0 (i := 0) rfl (Nat.le_refl _)
 have a4 : Prs _ d9 ((l.take (max (aS l x) ((aS l y) + 1))).drop (aS l x)) := a4
 exact ⟨_, _, rfl, e2.gr, _, rfl, a4⟩
 refine aI ?_
 refine b2 _ _ ?_
 refine aF fun h7 c7 => ?_
 have hend : FU l y = (aS l y) := by unfold FU; rw [a1]; simp
 have hel := OX ok1.rise y
 have hpl : aS l x ≤ l.length := jU _ _ _
 rw [hend] at hel
 refine aB ?_
 refine aC ?_
 refine dr (nI (max (aS l x) (aS l y))) (UK (m := (((aS l x) : Nat) : Int)) (n := (((aS l y) : Nat) : Int)) (r := (((max (aS l x) (aS l y)) : Nat) : Int)) rfl rfl (by omega)) ?_
 simp only [pq]
 have hcut := Sl.dropAny (m := (aS l x)) (by decide) (Sl.takeN (m := (max (aS l x) (aS l y))) hv (by omega)) (by omega)
 refine dr (.slice (if c = (aS l x) then a else a.map (·.add ((aS l x) * 2))) ((max (aS l x) (aS l y)) - (aS l x)) (c - (aS l x))) (bA (l := (aS l x)) (h := (max (aS l x) (aS l y))) (sz := 2) Tryz.underlying47 rfl (cK _) (.inr ⟨_, rfl, rfl⟩) (.inr ⟨_, rfl, rfl⟩) (by omega) (by omega) (rfl)) ?_
 refine nT PrC.mono b4 rfl (cP (vs := #[(.slice (if c = (aS l x) then a else a.map (·.add ((aS l x) * 2))) ((max (aS l x) (aS l y)) - (aS l x)) (c - (aS l x)))]) (kX rfl) rfl (GT _ _)) (wJ _ _ _ ((l.take (max (aS l x) (aS l y))).drop (aS l x)) (b4).sat hcut (by rw [List.length_drop, List.length_take]; omega) (fun p hp => ok1.small (List.mem_of_mem_take (List.mem_of_mem_drop hp)))) ?_
 intro e4 h8 h9 e5 e6
 refine aC ?_
 refine wlK c7 ?_
 refine aO ?_
 try simp only [xt]
 refine bR (cI rfl (gD rfl) (gD rfl)) ?_
 have he : mT x y = 0 := by unfold mT; rw [if_neg (by omega)]; exact hcy
 unfold xR
 rw [he, if_pos rfl, BJ ok1.rise, hend]
 obtain ⟨i0, e7, e8, a5⟩ := St.freeze e5 (i := 0) rfl (Nat.le_refl _)
 have a5 : Prs _ e4 ((l.take (max (aS l x) (aS l y))).drop (aS l x)) := a5
 exact ⟨_, _, rfl, e7.gr, _, rfl, a5⟩
theorem BL {w : World} {vn g o la ca lb cb : Nat} {c1 c2 : List Value} {T1 T2 : TypeId} (h1 : w.heap[vn]? = some (.cells c1.toArray T1 (0, 0))) (h2 : w.heap[g]? = some (.cells c2.toArray T2 (0, 0))) (hc : c2.length ≠ 0) (hne : vn ≠ g) :
    (callFunc 66 #[.slice (some ⟨vn, 0, none⟩) la ca, .slice (some ⟨g, o, none⟩) lb cb]).run Tryz.prog w = .ok (.value (.bool false)) w := by
 rw [run_callFunc_extern Tryz.func66 (by kernel_rfl) (by kernel_rfl) (by kernel_rfl) (e := Extern.SlicesOverlaps.overlaps #[24, 24] #[4]) (by kernel_rfl),
  Lib.run_overlaps_apart w 24 4 66 Tryz.underlying24 2 (fun w => cO w) ⟨vn, 0, none⟩ ⟨g, o, none⟩ la ca lb cb hne T1 T2 c1.length c2.length (kP (g := 0) h1).1 (kP (g := 0) h2).1 hc (kP h1).2 (kP h1).2]
 rfl
theorem yX {w0 w : World} {F0 F : Fz} {L0 : List Blk} {M0 : List RowP} {α : Type} {R : Fz → List Value → α → Prop} {hR : ∀ F F' x p, Le F F' → R F x p → R F' x p} {v : Value} {l : List α} {p : α} {vn : Nat} {cs : List Value} (one : ∀ F cs p, R F cs p → ∀ u ∈ cs, u.oneCell' = true)
    (S : St w0 F0 w F (⟨vn, cs, 66⟩ :: L0) (bV 2 R hR 66 w0.heap.size v l :: M0)) (hcs : cs.length = 2) (hp : R F cs p) (hl : l.length ≤ 100000) :
    Calls Tryz.prog 50 #[v, .int .i64 (l.length : Nat), .slice (some ⟨vn, 0, none⟩) 1 1] w fun e w' => ∃ v', e = .returned v' ∧ St w0 F0 w' F L0 (bV 2 R hR 66 w0.heap.size v' (l ++ [p]) :: M0) := by
 obtain ⟨a, c, rfl, hc1, hc2⟩ := (S.own (i := 0) rfl).shape
 unfold maxLen at hc2
 obtain ⟨a5, a0, a1, a2, a3⟩ := info_parts tL
 go_enter Tryz.func50, Tryz.ntmps50
 refine sk fun K1 hK1 => ?_
 refine dy ?_
 refine wn hK1 ?_
 refine sk fun K2 hK2 => ?_
 iterate 2 refine dx ?_
 refine dr (.slice (if c = l.length then a else a.map (·.add (l.length * 2))) (l.length - l.length) (c - l.length)) (bA (l := l.length) (h := l.length) (sz := 2) Tryz.underlying24 rfl (cO _) (.inr ⟨_, rfl, rfl⟩) (.inl ⟨rfl, rfl⟩) (by omega) (by omega) (rfl)) ?_
 simp only [pq]
 refine wn hK2 ?_
 refine sk fun K3 hK3 => ?_
 refine aC ?_
 refine wn hK3 ?_
 refine aF fun K4 hK4 => ?_
 refine sk fun K5 hK5 => ?_
 refine dx ?_
 refine dr bF (cB (b := false) rfl rfl (by decide)) ?_
 refine wn hK5 ?_
 refine aG ?_
 refine aI ?_
 refine hK4 _ _ ?_
 refine sk fun K6 hK6 => ?_
 refine aC ?_
 refine wn hK6 ?_
 refine aF fun K7 hK7 => ?_
 refine sk fun K8 hK8 => ?_
 iterate 2 refine dx ?_
 refine dr bT (cB (m := ((l.length : Nat) : Int)) (n := ((l.length : Nat) : Int)) (b := true) rfl rfl (beq_iff_eq.2 (rfl))) ?_
 simp only [pq]
 refine wn hK8 ?_
 refine aK ?_
 refine sk fun K9 hK9 => ?_
 iterate 2 refine dx ?_
 refine eK (i := 0) (r := 0) (p := p) (cs := cs) S rfl a5 (.agg #[Zn, Zn]) 48 Tryz.underlying24 a0 a1 a2 a3 rfl (by decide) rfl rfl rfl rfl hcs (one _ _ _ hp) (hp) (Nat.le_refl _) S.gr.below.size (by unfold maxLen; omega) (by omega) ?_
 intro a7 a8 a4 a6
 simp only [pq]
 have a4 := St.drop a4 (.cons _ (List.Sublist.refl _))
 refine dy ?_
 refine wn hK9 ?_
 refine aO ?_
 try simp only [xt]
 refine bR (bC rfl (gD rfl)) ?_
 exact ⟨_, rfl, a4⟩
theorem yY {g cap i : Nat} {w0 w : World} {F0 F : Fz} {L0 : List Blk} {M0 : List RowP} {α : Type} {R : Fz → List Value → α → Prop} {hR : ∀ F F' x p, Le F F' → R F x p → R F' x p} {l : List α} {p : α} {vn : Nat} {cs : List Value} (one : ∀ F cs p, R F cs p → ∀ u ∈ cs, u.oneCell' = true)
    (S : St w0 F0 w F (⟨vn, cs, 66⟩ :: L0) (bV 2 R hR 66 w0.heap.size (.slice (some ⟨g, 0, none⟩) l.length cap) l :: M0)) (hcs : cs.length = 2) (hp : R F cs p) (hl : l.length ≤ 100000) (hi : i < l.length) :
    Calls Tryz.prog 50 #[.slice (some ⟨g, 0, none⟩) l.length cap, .int .i64 (i : Nat), .slice (some ⟨vn, 0, none⟩) 1 1] w fun e w' => ∃ v', e = .returned v' ∧ St w0 F0 w' F L0 (bV 2 R hR 66 w0.heap.size v' (l.take i ++ p :: l.drop i) :: M0) := by
 obtain ⟨d8, a4, a5, a6, a7⟩ := info_parts tL
 have hvg : vn ≠ g := fun e => S.rb _ (List.mem_cons_self ..) _ (List.mem_cons_self ..) (congrArg some e.symm)
 go_enter Tryz.func50, Tryz.ntmps50
 obtain ⟨c1, el2, S3, hn9, d2, a2, hcl4, htk5, hall6, hlen7, hbg8⟩ := St.rowBlk (r := 0) S rfl
 unfold maxLen at a2
 refine sk fun e8 a8 => ?_
 refine dy ?_
 refine wn a8 ?_
 refine sk fun e9 a9 => ?_
 iterate 2 refine dx ?_
 refine dr (.slice (some ⟨g, i * 2, none⟩) (l.length - i) (cap - i)) (bA (l := i) (h := l.length) (sz := 2) Tryz.underlying24 rfl (cO _) (.inr ⟨_, rfl, rfl⟩) (.inl ⟨rfl, rfl⟩) (by omega) (by omega) (fB (by omega) rfl rfl (by omega))) ?_
 simp only [pq]
 refine wn a9 ?_
 refine sk fun f0 b0 => ?_
 refine aC ?_
 refine wn b0 ?_
 refine aF fun f1 b1 => ?_
 refine sk fun f2 b2 => ?_
 refine dx ?_
 refine dr bF (cB (b := false) rfl rfl (by decide)) ?_
 refine wn b2 ?_
 refine aG ?_
 refine aI ?_
 refine b1 _ _ ?_
 refine sk fun f3 b3 => ?_
 refine aC ?_
 refine wn b3 ?_
 refine aF fun f4 b4 => ?_
 refine sk fun f5 b5 => ?_
 iterate 2 refine dx ?_
 refine gL ?_
 simp only [pq]
 refine wn b5 ?_
 refine aG ?_
 refine aI ?_
 refine b4 _ _ ?_
 refine aF fun f6 b6 => ?_
 refine sk fun f7 a3 => ?_
 iterate 2 refine dx ?_
 refine cD (l.length + 1) ?_
 simp only [pq]
 refine dx ?_
 refine dr (nI cap) (UJ Tryz.underlying24 rfl) ?_
 simp only [pq]
 by_cases d9 : cap < (l.length + 1)
 refine pR ?_
 refine wn a3 ?_
 refine aK ?_
 refine sk fun f8 b7 => ?_
 iterate 2 refine dx ?_
 refine dr (.slice (aA g 0) i cap) (bA (l := 0) (h := i) (sz := 2) Tryz.underlying24 rfl (cO _) (.inl ⟨rfl, rfl⟩) (.inr ⟨_, rfl, rfl⟩) (by omega) (by omega) (fE)) ?_
 simp only [pq]
 iterate 2 refine dx ?_
 refine cD (l.length + 1) ?_
 simp only [pq]
 refine dx ?_
 refine dr (nI ((l.length + 1) - i)) (uM (m := (((l.length + 1) : Nat) : Int)) (n := ((i : Nat) : Int)) (r := ((((l.length + 1) - i) : Nat) : Int)) rfl rfl (by omega) (by omega) (by omega)) ?_
 refine UF (k := 2) (n := i) (m := l.length + 1 - i) (l.length + 1) (c1.take (i * 2)) S3 rfl d8 (.agg #[Zn, Zn]) 48 Tryz.underlying24 Tryz.underlying3 a4 a5 a6 a7 rfl (by decide) rfl rfl (by omega) (by rw [List.length_take]; omega) (S3.srcT (i := 0) rfl _) (by omega) (by omega) (by unfold maxLen; omega) (by omega) ?_
 intro d3 a0 e0 e1 f9 g0 e2 e3 a1 d4
 unfold maxLen at e2
 refine dy ?_
 simp only [pq]
 refine wn b7 ?_
 refine sk fun g1 b9 => ?_
 iterate 2 refine dx ?_
 refine dr (.slice (some ⟨d3, i * 2, none⟩) ((l.length + 1) - i) (a0 - i)) (bA (l := i) (h := (l.length + 1)) (sz := 2) Tryz.underlying24 rfl (cO _) (.inr ⟨_, rfl, rfl⟩) (.inl ⟨rfl, rfl⟩) (by omega) (by omega) (fB (by omega) rfl rfl (by omega))) ?_
 simp only [pq]
 refine dx ?_
 refine rY (i := 0) (j := i * 2) 1 cs d4 rfl Tryz.underlying24 kB rfl rfl rfl (Nat.min_eq_left (by omega)) (hcs) (by rw [a1, hcs]; omega) (d4.src0 (i := 2) rfl) (one _ _ _ hp) (fun g2 e4 => ?_)
 refine wn b9 ?_
 refine aF fun g3 c0 => ?_
 refine aQ F 8 [] (by kernel_rfl) (by kernel_rfl) ?_
 simp only [cV]
 iterate 2 refine gm ?_
 simp only [pq]
 refine gm ?_
 refine gv (nI (i + 1)) (fun _ _ => fW (m := ((i : Nat) : Int)) (n := (1 : Int)) (r := (((i + 1) : Nat) : Int)) rfl rfl (by omega) (by omega) (by omega)) ?_
 refine gv (.slice (some ⟨d3, (i + 1) * 2, none⟩) ((l.length + 1) - (i + 1)) (a0 - (i + 1))) (fun _ _ => bA (l := (i + 1)) (h := (l.length + 1)) (sz := 2) Tryz.underlying24 rfl (cO _) (.inr ⟨_, rfl, rfl⟩) (.inl ⟨rfl, rfl⟩) (by omega) (by omega) (fB (by omega) rfl rfl (by omega))) ?_
 simp only [pq]
 iterate 2 refine gm ?_
 refine gv (.slice (some ⟨g, i * 2, none⟩) (l.length - i) (cap - i)) (fun _ _ => bA (l := i) (h := l.length) (sz := 2) Tryz.underlying24 rfl (cO _) (.inr ⟨_, rfl, rfl⟩) (.inl ⟨rfl, rfl⟩) (by omega) (by omega) (fB (by omega) rfl rfl (by omega))) ?_
 simp only [pq]
 refine bN ?_
 intro g4 c2 c3
 clear c3
 have d5 := St.tells e4 c2
 simp only [cW]
 have hml : ((c1.drop (i * 2)).take ((l.length - i) * 2)).length = (l.length - i) * 2 := by rw [List.length_take, List.length_drop, hcl4]; omega
 refine rY (i := 0) (j := (i + 1) * 2) (l.length - i) ((c1.drop (i * 2)).take ((l.length - i) * 2)) d5 rfl Tryz.underlying24 kB rfl rfl rfl (Nat.min_eq_left (by omega)) (hml) (by rw [bZ (by rw [a1, hcs]; omega), a1, hml]; omega) (d5.src (i := 1) rfl _ _) (tI one hall6 htk5 i) (fun g5 e5 => ?_)
 simp only [pq]
 refine wlK c0 ?_
 refine sk fun g6 c4 => ?_
 refine aC ?_
 refine wn c4 ?_
 refine aO ?_
 try simp only [xt]
 refine bR (bC rfl (gD rfl)) ?_
 have hdrop := St.drop e5 (.cons_cons _ (.cons _ (.cons _ (List.Sublist.refl _))))
 have hll : (l.take i ++ p :: l.drop i).length = l.length + 1 := by rw [List.length_append, List.length_cons, List.length_take, List.length_drop]; omega
 have hrow := St.blkRow (k := 2) (base := w0.heap.size) (R := R) (hR := hR) (l := l.take i ++ p :: l.drop i) (cap := a0) hdrop (el := el2.take i ++ cs :: el2.drop i) (by rw [hll]; exact (AW hlen7 htk5 (by omega) (by rw [hcl4]; omega) e3 hcs)) (oQ hall6 i hp) (qU hlen7 i hcs) (by rw [bZ (by rw [bZ (by rw [a1, hcs]; omega), a1, hml]; omega), bZ (by rw [a1, hcs]; omega), a1]) (by omega) (by unfold maxLen; omega) (hdrop.blk _ (List.mem_cons_self ..)).2.2
 rw [hll] at hrow
 exact ⟨_, rfl, hrow⟩
 refine lF ?_
 simp only [pq]
 refine wn a3 ?_
 refine aG ?_
 refine aI ?_
 refine b6 _ _ ?_
 refine sk fun g7 c5 => ?_
 refine aC ?_
 refine cD (l.length + 1) ?_
 refine dr (.slice (aA g 0) (l.length + 1) cap) (bA (l := 0) (h := (l.length + 1)) (sz := 2) Tryz.underlying24 rfl (cO _) (.inl ⟨rfl, rfl⟩) (.inr ⟨_, rfl, rfl⟩) (by omega) (by omega) (fE)) ?_
 refine dy ?_
 simp only [pq]
 refine wn c5 ?_
 refine aF fun g8 e6 => ?_
 refine sk fun g9 c6 => ?_
 refine aC ?_
 refine cD (i + 1) ?_
 refine dr (.slice (some ⟨g, (i + 1) * 2, none⟩) ((l.length + 1) - (i + 1)) (cap - (i + 1))) (bA (l := (i + 1)) (h := (l.length + 1)) (sz := 2) Tryz.underlying24 rfl (cO _) (.inr ⟨_, rfl, rfl⟩) (.inl ⟨rfl, rfl⟩) (by omega) (by omega) (fB (by omega) rfl rfl (by omega))) ?_
 simp only [pq]
 refine dr bF (MS (vs := #[(.slice (aA vn 0) 1 1), (.slice (some ⟨g, (i + 1) * 2, none⟩) ((l.length + 1) - (i + 1)) (cap - (i + 1)))]) (iX rfl rfl) rfl (BL (S3.blk ⟨vn, cs, 66⟩ (by simp)).1 (S3.blk ⟨g, c1, 66⟩ (by simp)).1 (by rw [hcl4]; omega) hvg)) ?_
 refine dt ?_
 refine wn c6 ?_
 refine aK ?_
 refine aF fun h0 c7 => ?_
 refine aQ F 8 [] (by kernel_rfl) (by kernel_rfl) ?_
 simp only [cV]
 refine gm ?_
 simp only [pq]
 iterate 2 refine gm ?_
 refine gv (nI (i + 1)) (fun _ _ => fW (m := ((i : Nat) : Int)) (n := (1 : Int)) (r := (((i + 1) : Nat) : Int)) rfl rfl (by omega) (by omega) (by omega)) ?_
 simp only [pq]
 refine gv (.slice (some ⟨g, (i + 1) * 2, none⟩) ((l.length + 1) - (i + 1)) (cap - (i + 1))) (fun _ _ => bA (l := (i + 1)) (h := (l.length + 1)) (sz := 2) Tryz.underlying24 rfl (cO _) (.inr ⟨_, rfl, rfl⟩) (.inl ⟨rfl, rfl⟩) (by omega) (by omega) (fB (by omega) rfl rfl (by omega))) ?_
 iterate 2 refine gm ?_
 simp only [pq]
 refine gv (.slice (some ⟨g, i * 2, none⟩) ((l.length + 1) - i) (cap - i)) (fun _ _ => bA (l := i) (h := (l.length + 1)) (sz := 2) Tryz.underlying24 rfl (cO _) (.inr ⟨_, rfl, rfl⟩) (.inl ⟨rfl, rfl⟩) (by omega) (by omega) (fB (by omega) rfl rfl (by omega))) ?_
 refine bN ?_
 intro h1 c8 c9
 clear c9
 have d6 := St.tells S3 c8
 simp only [cW]
 have hml : ((c1.drop (i * 2)).take ((l.length - i) * 2)).length = (l.length - i) * 2 := by rw [List.length_take, List.length_drop, hcl4]; omega
 refine rY (i := 0) (j := (i + 1) * 2) (l.length - i) ((c1.drop (i * 2)).take ((l.length - i) * 2)) d6 rfl Tryz.underlying24 kB rfl rfl rfl ((Nat.min_eq_right (by omega)).trans (by omega)) (hml) (by rw [hcl4, hml]; omega) (d6.src (i := 0) rfl _ _) (tI one hall6 htk5 i) (fun h2 d7 => ?_)
 simp only [pq]
 refine wlK c7 ?_
 refine sk fun h3 d0 => ?_
 iterate 2 refine dx ?_
 refine dr (.slice (some ⟨g, i * 2, none⟩) ((l.length + 1) - i) (cap - i)) (bA (l := i) (h := (l.length + 1)) (sz := 2) Tryz.underlying24 rfl (cO _) (.inr ⟨_, rfl, rfl⟩) (.inl ⟨rfl, rfl⟩) (by omega) (by omega) (fB (by omega) rfl rfl (by omega))) ?_
 simp only [pq]
 refine dx ?_
 refine rY (i := 0) (j := i * 2) 1 cs d7 rfl Tryz.underlying24 kB rfl rfl rfl (Nat.min_eq_left (by omega)) (hcs) (by rw [bZ (by rw [hcl4, hml]; omega), hcl4, hcs]; omega) (d7.src0 (i := 1) rfl) (one _ _ _ hp) (fun h4 e7 => ?_)
 refine wn d0 ?_
 refine sk fun h5 d1 => ?_
 refine aC ?_
 refine wn d1 ?_
 refine aO ?_
 try simp only [xt]
 refine bR (bC rfl (gD rfl)) ?_
 have hdrop := St.drop e7 (.cons_cons _ (.cons _ (List.Sublist.refl _)))
 have hll : (l.take i ++ p :: l.drop i).length = l.length + 1 := by rw [List.length_append, List.length_cons, List.length_take, List.length_drop]; omega
 have hrow := St.blkRow (k := 2) (base := w0.heap.size) (R := R) (hR := hR) (l := l.take i ++ p :: l.drop i) (cap := cap) hdrop (el := el2.take i ++ cs :: el2.drop i) (by rw [hll]; exact (EF hlen7 htk5 (by omega) (by rw [hcl4]; omega) hcs)) (oQ hall6 i hp) (qU hlen7 i hcs) (by rw [bZ (by rw [bZ (by rw [hcl4, hml]; omega), hcl4, hcs]; omega), bZ (by rw [hcl4, hml]; omega), hcl4]) (by omega) (by unfold maxLen; omega) (hdrop.blk _ (List.mem_cons_self ..)).2.2
 rw [hll] at hrow
 exact ⟨_, rfl, hrow⟩
theorem wK {i : Nat} {w0 w : World} {F0 F : Fz} {L0 : List Blk} {M0 : List RowP} {α : Type} {R : Fz → List Value → α → Prop} {hR : ∀ F F' x p, Le F F' → R F x p → R F' x p} {v : Value} {l : List α} {p : α} {vn : Nat} {cs : List Value} (one : ∀ F cs p, R F cs p → ∀ u ∈ cs, u.oneCell' = true)
    (S : St w0 F0 w F (⟨vn, cs, 66⟩ :: L0) (bV 2 R hR 66 w0.heap.size v l :: M0)) (hcs : cs.length = 2) (hp : R F cs p) (hl : l.length ≤ 100000) (hi : i ≤ l.length) :
    Calls Tryz.prog 50 #[v, .int .i64 (i : Nat), .slice (some ⟨vn, 0, none⟩) 1 1] w fun e w' => ∃ v', e = .returned v' ∧ St w0 F0 w' F L0 (bV 2 R hR 66 w0.heap.size v' (l.take i ++ p :: l.drop i) :: M0) := by
 rcases Nat.lt_or_ge i l.length with h | h
 ·obtain ⟨g, cap, rfl, _⟩ := (S.own (i := 0) rfl).form (by omega)
  exact yY one S hcs hp hl h
 ·obtain rfl : i = l.length := by omega
  have := yX one S hcs hp hl
  rw [List.take_length, List.drop_length]
  exact this
theorem yZ {g cap i : Nat} {w0 w : World} {F0 F : Fz} {L0 : List Blk} {M0 : List RowP} {α : Type} {R : Fz → List Value → α → Prop} {hR : ∀ F F' x p, Le F F' → R F x p → R F' x p} {l : List α} (one : ∀ F cs p, R F cs p → ∀ u ∈ cs, u.oneCell' = true)
    (S : St w0 F0 w F L0 (bV 2 R hR 66 w0.heap.size (.slice (some ⟨g, 0, none⟩) l.length cap) l :: M0)) (hl : l.length ≤ 100000) (hi : i < l.length) :
    Calls Tryz.prog 49 #[.slice (some ⟨g, 0, none⟩) l.length cap, .int .i64 (i : Nat), .int .i64 ((i + 1 : Nat) : Int)] w fun e w' => ∃ v', e = .returned v' ∧ St w0 F0 w' F L0 (bV 2 R hR 66 w0.heap.size v' (l.take i ++ l.drop (i + 1)) :: M0) := by
 obtain ⟨b6, a1, b7, a2, b9⟩ := info_parts tL
 go_enter Tryz.func49, Tryz.ntmps49
 obtain ⟨c1, el2, S3, hn9, b3, a0, hcl4, htk5, hall6, hlen7, hbg8⟩ := St.rowBlk (r := 0) S rfl
 unfold maxLen at a0
 refine sk fun c3 a3 => ?_
 refine dy ?_
 refine wn a3 ?_
 refine sk fun c4 a4 => ?_
 refine aC ?_
 refine dr (.slice (if l.length = i then ((aA g 0) : Option Addr) else ((aA g 0) : Option Addr).map (fun q => Addr.add q (i * 2))) ((i + 1) - i) (l.length - i)) (EH (l := i) (h := (i + 1)) (m := l.length) (sz := 2) Tryz.underlying24 rfl (cO _) rfl rfl rfl (by omega) (by omega) (by omega) rfl) ?_
 simp only [pq]
 refine wn a4 ?_
 refine aF fun c5 a5 => ?_
 refine sk fun c6 a6 => ?_
 iterate 2 refine dx ?_
 refine gL ?_
 simp only [pq]
 refine wn a6 ?_
 refine aG ?_
 refine aI ?_
 refine a5 _ _ ?_
 refine sk fun c7 a7 => ?_
 refine aC ?_
 refine wn a7 ?_
 refine aF fun c8 a8 => ?_
 refine aQ F 6 [] (by kernel_rfl) (by kernel_rfl) ?_
 simp only [cV]
 iterate 2 refine gm ?_
 refine gv (.slice (aA g 0) i cap) (fun _ _ => bA (l := 0) (h := i) (sz := 2) Tryz.underlying24 rfl (cO _) (.inl ⟨rfl, rfl⟩) (.inr ⟨_, rfl, rfl⟩) (by omega) (by omega) (fE)) ?_
 simp only [pq]
 iterate 2 refine gm ?_
 refine gv (.slice (if cap = i + 1 then some ⟨g, 0, none⟩ else some ⟨g, (i + 1) * 2, none⟩) (l.length - (i + 1)) (cap - (i + 1))) (fun _ _ => bA (l := (i + 1)) (h := l.length) (sz := 2) Tryz.underlying24 rfl (cO _) (.inr ⟨_, rfl, rfl⟩) (.inl ⟨rfl, rfl⟩) (by omega) (by omega) (by rw [show (some (⟨g, 0, none⟩ : Addr)).map (·.add ((i + 1) * 2)) = some ⟨g, (i + 1) * 2, none⟩ from by rw [Option.map_some, Addr.add_mid, Nat.zero_add]])) ?_
 simp only [pq]
 refine bN ?_
 intro c0 a9 b0
 clear b0
 have b4 := St.tells S3 a9
 simp only [cW]
 have hml : ((c1.drop ((i + 1) * 2)).take ((l.length - (i + 1)) * 2)).length = (l.length - (i + 1)) * 2 := by rw [List.length_take, List.length_drop, hcl4]; omega
 have hone := tI one hall6 htk5 (i + 1)
 have hsrc := b4.src (i := 0) rfl ((i + 1) * 2) ((l.length - (i + 1)) * 2)
 obtain ⟨ad, had, hsrc2⟩ : ∃ ad : Addr, (if cap = i + 1 then some (⟨g, 0, none⟩ : Addr) else some ⟨g, (i + 1) * 2, none⟩) = some ad ∧ ∀ q u, ((c1.drop ((i + 1) * 2)).take ((l.length - (i + 1)) * 2))[q]? = some u → c0.cell? (ad.add q) = some u := by
  by_cases hcc : cap = i + 1
  rw [if_pos hcc]
  refine ⟨_, rfl, fun q u hu => ?_⟩
  have hq := (List.getElem?_eq_some_iff.1 hu).1
  rw [hml] at hq
  omega
  rw [if_neg hcc]
  exact ⟨_, rfl, hsrc⟩
 refine UG (k := 2) (i := 0) (n := i) (m := l.length - (i + 1)) (ad := ad) (cp := cap - (i + 1)) (l.length - 1) ((c1.drop ((i + 1) * 2)).take ((l.length - (i + 1)) * 2)) b4 rfl b6 Tryz.underlying24 a1 a2 rfl (show _ = _ from by rw [← had]; rfl) rfl hml hsrc2 hone (by omega) (by omega) (by rw [hml, hcl4]; omega) (fun c9 c2 => ?_)
 simp only [pq]
 refine dy ?_
 refine wlK a8 ?_
 refine sk fun d0 b1 => ?_
 refine aC ?_
 refine dr (.slice (some ⟨g, (l.length - 1) * 2, none⟩) 1 (cap - (l.length - 1))) (bA (l := (l.length - 1)) (h := l.length) (sz := 2) Tryz.underlying24 rfl (cO _) (.inr ⟨_, rfl, rfl⟩) (.inr ⟨_, rfl, rfl⟩) (by omega) (by omega) (fB (by omega) (by omega) rfl (by omega))) ?_
 refine PF (i := 0) (n := 1) (.agg #[Zn, Zn]) [Zn, Zn] c2 rfl Tryz.underlying24 (fun w => zL w) (by kernel_rfl) rfl (by decide) rfl (by rw [bZ (by rw [hml, hcl4]; omega), hcl4]; show _ + 2 ≤ _; omega) (by intro u hu; simp only [List.mem_cons, List.not_mem_nil, or_false] at hu; rcases hu with rfl | rfl <;> rfl) (fun d1 b5 => ?_)
 refine wn b1 ?_
 refine sk fun d2 b2 => ?_
 refine aC ?_
 refine wn b2 ?_
 refine aO ?_
 try simp only [xt]
 refine bR (bC rfl (gD rfl)) ?_
 have hll : (l.take i ++ l.drop (i + 1)).length = l.length - 1 := by rw [List.length_append, List.length_take, List.length_drop]; omega
 have hrow := St.blkRow (k := 2) (base := w0.heap.size) (R := R) (hR := hR) (l := l.take i ++ l.drop (i + 1)) (cap := cap) b5 (el := el2.take i ++ el2.drop (i + 1)) (by rw [hll]; exact EG (zs := [(.slice none 0 0), (.slice none 0 0)]) hlen7 htk5 hi (by rw [hcl4]; omega) rfl) (yH hall6 i) (AX hlen7 i) (by rw [bZ (by rw [bZ (by rw [hml, hcl4]; omega), hcl4]; show _ + 2 ≤ _; omega), bZ (by rw [hml, hcl4]; omega), hcl4]) (by omega) (by unfold maxLen; omega) (b5.blk _ (List.mem_cons_self ..)).2.2
 rw [hll] at hrow
 exact ⟨_, rfl, hrow⟩
theorem wL {i : Nat} {w0 w : World} {F0 F : Fz} {L0 : List Blk} {M0 : List RowP} {α : Type} {R : Fz → List Value → α → Prop} {hR : ∀ F F' x p, Le F F' → R F x p → R F' x p} {v : Value} {l : List α} (one : ∀ F cs p, R F cs p → ∀ u ∈ cs, u.oneCell' = true)
    (S : St w0 F0 w F L0 (bV 2 R hR 66 w0.heap.size v l :: M0)) (hl : l.length ≤ 100000) (hi : i < l.length) :
    Calls Tryz.prog 49 #[v, .int .i64 (i : Nat), .int .i64 ((i + 1 : Nat) : Int)] w fun e w' => ∃ v', e = .returned v' ∧ St w0 F0 w' F L0 (bV 2 R hR 66 w0.heap.size v' (l.take i ++ l.drop (i + 1)) :: M0) := by
 obtain ⟨g, cap, rfl, _⟩ := (S.own (i := 0) rfl).form (by omega)
 exact yZ one S hl hi
def wrE (w : Wr) : Int := if gX w.name.length ≠ 0 then gX w.name.length else if w.gone = true then (if cF w.key.length ≠ 0 then cF w.key.length else if 0 < w.value.length then 4 else 0) else fM (w.key, w.value)
theorem lS {n : Nat} : gX n = 0 ↔ 1 ≤ n ∧ n ≤ 8 := by unfold gX; split <;> simp_all
theorem iL {n : Nat} : cF n = 0 ↔ 1 ≤ n ∧ n ≤ 16 := by unfold cF; split <;> simp_all
theorem nZ {w : Wr} : wrE w = 0 ↔ WrOk w := by
 unfold wrE
 by_cases h1 : gX w.name.length = 0
 rw [if_neg (by simp [h1])]
 have hn := lS.1 h1
 cases hg : w.gone with
 | true =>
  simp only [if_true]
  by_cases h2 : cF w.key.length = 0
  rw [if_neg (by simp [h2])]
  have hk := iL.1 h2
  by_cases h3 : 0 < w.value.length
  rw [if_pos h3]
  refine ⟨fun h => by omega, fun h => ?_⟩
  have := h.gone hg
  rw [this] at h3; simp at h3
  rw [if_neg h3]
  have hv : w.value = [] := List.eq_nil_of_length_eq_zero (by omega)
  exact ⟨fun _ => ⟨hn, hk.1, hk.2, by rw [hv]; simp, fun _ => hv⟩, fun _ => rfl⟩
  rw [if_pos h2]
  exact ⟨fun h => absurd h h2, fun h => absurd (iL.2 ⟨h.key1, h.key2⟩) h2⟩
 | false =>
  simp only [Bool.false_eq_true, if_false]
  rw [sH]
  exact ⟨fun h => ⟨hn, h.1, h.2.1, h.2.2, fun h => by rw [hg] at h; cases h⟩, fun h => ⟨h.key1, h.key2, h.value⟩⟩
 rw [if_pos h1]
 exact ⟨fun h => absurd h h1, fun h => absurd (lS.2 h.name) h1⟩
theorem JB {f g : aP} (hf : ForestOk 60 f) {w : Wr} (hw : WrOk w) (h : eH f w = some g) : ForestOk 60 g := by
 have a0 := xK hf hw h
 refine ⟨a0.len, a0.name, a0.some, fun t ht => ?_, a0.rise⟩
 have a1 := a0.tree t ht
 refine ⟨?_, a1.ok, a1.rise⟩
 rcases rV h with ⟨_, rfl⟩ | ⟨h1, rfl, _⟩
 have : t ∈ f := by rw [pL _ hf.rise] at ht; exact rT ht
 exact (hf.tree t this).len
 rw [pK _ _ hf.rise] at ht
 rcases rS ht with rfl | ht
 show (iC w (dD f w.name)).length ≤ 60
 unfold eH at h
 dsimp only at h
 by_cases h2 : w.gone = false ∧ 60 < (iC w (dD f w.name)).length
 rw [if_pos h2] at h; cases h
 have hl := (nP hf w.name)
 cases hg : w.gone with
 | false => exact Nat.le_of_not_lt fun q => h2 ⟨hg, q⟩
 | true =>
  unfold iC
  rw [hg, if_pos rfl]
  exact (TreeOk.del hl).len
 exact (hf.tree t ht).len
def dH : aP → List Wr → Int × aP
  | f, [] => (0, f)
  | f, w :: ws => if wrE w ≠ 0 then (wrE w, []) else match eH f w with
    | none => (11, [])
    | some g => dH g ws
theorem qB : ∀ {ws : List Wr} {f : aP}, (∀ w ∈ ws, WrOk w) → dH f ws = match gJ f ws with | some g => (0, g) | none => (11, [])
  | [], f, _ => rfl
  | w :: ws, f, h => by
    have h0 := nZ.2 (h w (by simp))
    unfold dH gJ
    rw [if_neg (by simp [h0])]
    cases eH f w with
    | none => rfl
    | some g => exact qB fun x hx => h x (by simp [hx])
def jH (l : aP) : Nat → Nat → Int
  | 0, _ => 0
  | n + 1, k => match l[k]? with
    | none => 0
    | some t => if gX t.1.length ≠ 0 then gX t.1.length else if t.2.length = 0 then 4 else if iT t.2 ≠ 0 then iT t.2 else if 0 < k ∧ 0 ≤ eQ (l.getD (k - 1) ([], [])).1 t.1 then 3 else jH l n (k + 1)
def fF (l : aP) : Int := if 8 < l.length then 1 else jH l l.length 0
theorem kQ {l : aP} {k : Nat} {t : By × List Pr} (hp : l[k]? = some t) : jH l (l.length - k) k = if gX t.1.length ≠ 0 then gX t.1.length else if t.2.length = 0 then 4 else if iT t.2 ≠ 0 then iT t.2 else if 0 < k ∧ 0 ≤ eQ (l.getD (k - 1) ([], [])).1 t.1 then 3 else jH l (l.length - (k + 1)) (k + 1) := by
 obtain ⟨hk, _⟩ := List.getElem?_eq_some_iff.1 hp
 rw [show l.length - k = (l.length - (k + 1)) + 1 from by omega]
 simp only [jH, hp]
theorem HD {l : aP} {k : Nat} (hk : l.length ≤ k) : jH l (l.length - k) k = 0 := by rw [show l.length - k = 0 from by omega]; rfl
theorem qY {l : aP} : fF l = 0 ↔ ForestOk 60 l := by
 unfold fF
 by_cases hl : 8 < l.length
 rw [if_pos hl]
 exact ⟨fun h => by omega, fun h => by have := h.len; omega⟩
 rw [if_neg hl]
 have key : ∀ n k, n + k = l.length → (jH l n k = 0 ↔ ∀ i (hi : i < l.length), k ≤ i → (AO l[i].1 ∧ l[i].2 ≠ [] ∧ TreeOk 60 l[i].2) ∧ (0 < i → Lt (l.getD (i - 1) ([], [])).1 l[i].1)) := by
  intro n
  induction n with
  | zero => intro k hk; simp only [jH]; exact ⟨fun _ i hi h => by omega, fun _ => trivial⟩
  | succ n ih =>
   intro k hk
   have hk' : k < l.length := by omega
   simp only [jH, List.getElem?_eq_getElem hk']
   have ihk := ih (k + 1) (by omega)
   by_cases h1 : gX l[k].1.length = 0
   rw [if_neg (by simp [h1])]
   by_cases h2 : l[k].2.length = 0
   rw [if_pos h2]
   exact ⟨fun h => by omega, fun h => absurd (List.eq_nil_of_length_eq_zero h2) (h k hk' (Nat.le_refl _)).1.2.1⟩
   rw [if_neg h2]
   by_cases h3 : iT l[k].2 = 0
   rw [if_neg (by simp [h3])]
   by_cases hc : 0 < k ∧ 0 ≤ eQ (l.getD (k - 1) ([], [])).1 l[k].1
   rw [if_pos hc]
   refine ⟨fun h => by omega, fun h => ?_⟩
   have := (h k hk' (Nat.le_refl _)).2 hc.1
   have := qK.2 this
   omega
   rw [if_neg hc, ihk]
   refine ⟨fun h i hi hki => ?_, fun h i hi hki => h i hi (by omega)⟩
   by_cases e : i = k
   subst e
   refine ⟨⟨lS.1 h1, fun e => h2 (by rw [e]; rfl), pX.1 h3⟩, fun h0 => qK.1 ?_⟩
   have : ¬ 0 ≤ eQ (l.getD (i - 1) ([], [])).1 l[i].1 := fun h => hc ⟨h0, h⟩
   omega
   exact h i hi (by omega)
   rw [if_pos h3]
   exact ⟨fun h => absurd h h3, fun h => absurd (pX.2 (h k hk' (Nat.le_refl _)).1.2.2) h3⟩
   rw [if_pos h1]
   exact ⟨fun h => absurd h h1, fun h => absurd (lS.2 (h k hk' (Nat.le_refl _)).1.1) h1⟩
 rw [key l.length 0 (by omega)]
 constructor
 intro h
 have hm : ∀ t ∈ l, AO t.1 ∧ t.2 ≠ [] ∧ TreeOk 60 t.2 := fun t ht => by
  obtain ⟨i, hi, rfl⟩ := List.mem_iff_getElem.1 ht
  exact (h i hi (by omega)).1
 refine ⟨by omega, fun t ht => (hm t ht).1, fun t ht => (hm t ht).2.1, fun t ht => (hm t ht).2.2, ?_⟩
 have step : ∀ j i (hi : i < l.length) (hj : j < l.length), i < j → Lt l[i].1 l[j].1 := by
  intro j
  induction j with
  | zero => intro i _ _ h; omega
  | succ j ih =>
   intro i hi hj hij
   have h1 := (h (j + 1) hj (by omega)).2 (by omega)
   simp only [Nat.add_sub_cancel, List.getD, List.getElem?_eq_getElem (show j < l.length by omega), Option.getD_some] at h1
   by_cases e : i = j
   subst e; exact h1
   exact lO _ _ _ (ih i hi (by omega) (by omega)) h1
 exact List.pairwise_iff_getElem.2 fun i j hi hj hij => step j i hi hj hij
 intro h i hi _
 have hmem := List.getElem_mem hi
 refine ⟨⟨h.name _ hmem, h.some _ hmem, h.tree _ hmem⟩, fun h0 => ?_⟩
 simp only [List.getD, List.getElem?_eq_getElem (show i - 1 < l.length by omega), Option.getD_some]
 exact List.pairwise_iff_getElem.1 h.rise (i - 1) i (by omega) hi (by omega)
theorem uT (F : Fz) (w : World) (v u : Value) (l : List Pr) (k : By) (hs : Sat w F) (hv : Prs F v l) (hu : Bs F u k) (ok : TreeOk 60 l) (hk : 1 ≤ k.length ∧ k.length ≤ 16) :
    Calls Tryz.prog 47 #[v, u] w (dO w F (PrsE (gG l k) 0)) := by
 have := yJ F w v u l k hs hv hu ok
 have h := jL hk.1 hk.2
 unfold RO RN at this
 rw [if_pos h, h] at this
 exact this
theorem HF (F : Fz) (w : World) (v u z : Value) (l : List Pr) (x y : By) (hs : Sat w F) (hv : Prs F v l) (hx : Bs F u x) (hy : Bs F z y) (ok : TreeOk 60 l) (h1 : 1 ≤ x.length ∧ x.length ≤ 16) (h2 : 1 ≤ y.length ∧ y.length ≤ 16) :
    Calls Tryz.prog 131 #[v, u, z] w (dO w F (PrsE (gI l x y) 0)) := by
 have := NH F w v u z l x y hs hv hx hy ok
 have he : mT x y = 0 := by unfold mT; rw [jL h1.1 h1.2, jL h2.1 h2.2]; rfl
 unfold xR at this
 rw [he, if_pos rfl] at this
 exact this
theorem NI (F : Fz) (w : World) (v u : Value) (l : List Pr) (k : By) {o : Option By} (hs : Sat w F) (hv : Prs F v l) (hu : Bs F u k) (ok : TreeOk 60 l) (hk : 1 ≤ k.length ∧ k.length ≤ 16) (h : jM l k = o) :
    Calls Tryz.prog 39 #[v, u] w (dO w F (Dv o 0)) := by
 subst h; exact VJ F w v u l k hs hv hu ok hk.1 hk.2
theorem wM (F : Fz) (w : World) (v u : Value) (t : By × List Pr) (k : By) (hs : Sat w F) (hv : TnV F v t) (hu : Bs F u k) :
    Calls Tryz.prog 61 #[v, u] w (cY w (.int .i64 (eQ t.1 k))) := by
 obtain ⟨x0, y0, x1, y1, rfl, h0, h1⟩ := hv
 obtain ⟨a2, c2, rfl, _⟩ := hu.shape
 have S := St.start hs
 go_enter Tryz.func61, Tryz.ntmps61
 refine sk fun K1 hK1 => ?_
 refine aZ S (v := fun n => .pointer (aA n 0)) rfl (bW (v := (.agg #[(.slice x0 t.1.length y0), (.slice x1 t.2.length y1)])) rfl) (fun n2 w3 S4 => ?_)
 refine dy ?_
 refine wn hK1 ?_
 refine sk fun K5 hK5 => ?_
 refine aC ?_
 refine aL (v := (.int .i64 (eQ t.1 k))) S4 rfl (fn2 (uP _ _)) (eS _ _ _ _ t.1 k (S4).sat h0 hu) (fun w6 S7 => ?_)
 refine dy ?_
 refine wn hK5 ?_
 refine aO ?_
 try simp only [xt]
 refine bR (bC rfl (gD rfl)) ?_
 exact ⟨rfl, S7.gr.below⟩
theorem DC (F : Fz) (w : World) (v u : Value) (l : aP) (k : By) (hs : Sat w F) (hv : Tns F v l) (hu : Bs F u k) (hr : fO l) (hl : l.length ≤ 1000000) :
    Calls Tryz.prog 60 #[v, u, .func (.func 61) #[] #[]] w (cY w (.tuple #[.int .i64 (aS l k : Nat), .bool (eW l k)])) := by
 obtain ⟨a, c, rfl, hc1, hc2⟩ := Sl.shape hv
 obtain ⟨a2, c2, rfl, _⟩ := hu.shape
 unfold maxLen at hc2
 have S := St.start hs
 go_enter Tryz.func60, Tryz.ntmps60
 refine sk fun K1 hK1 => ?_
 iterate 2 refine dy ?_
 refine wn hK1 ?_
 refine sk fun K2 hK2 => ?_
 refine aC ?_
 refine wn hK2 ?_
 refine sk fun K3 hK3 => ?_
 refine aC ?_
 refine wn hK3 ?_
 refine aF fun K4 hK4 => ?_
 refine aM ?_
 refine aW (fun mm aa w6 => ∃ (i : Nat) (j : Nat) (u5 : Nat → Value), mm = j - i ∧ u5 = dY aa ∧ aa = ⟨([(.slice a l.length c), (.slice a2 k.length c2), (.func (.func 61) #[] #[]), undef, undef, undef, (iI 0), bF, (nI l.length), (nI i), (nI j), (u5 11), (.slice a l.length c), (nI l.length), (nI l.length)] ++ (usF u5 15 20 (udF 14 []))).toArray, []⟩ ∧ St w F w6 F [] [] ∧ (i ≤ j) ∧ (j ≤ l.length) ∧ (i ≤ aS l k) ∧ (aS l k ≤ j)) _ ⟨0, l.length, _, rfl, rfl, rfl, S, (by omega), (by omega), (by omega), (jU _ _ _)⟩ ?_
 rintro m7 a8 w9 ⟨i, j, u5, rfl, -, hfr, a0, hij, hj, hip, hjp⟩ d8 a4
 simp only [uzF, Nat.reduceAdd] at hfr; subst hfr
 refine aF fun d9 b7 => ?_
 refine sk fun e0 a5 => ?_
 refine aC ?_
 by_cases c5 : i < j
 ·refine fA ?_
  refine wn a5 ?_
  refine aK ?_
  refine aI ?_
  refine b7 _ _ ?_
  refine aM ?_
  refine sk fun e1 b9 => ?_
  iterate 2 refine dx ?_
  refine cD (i + j) ?_
  simp only [pq]
  refine dr (.int .u64 (((i + j) : Nat) : Int)) (aX (v := (nI (i + j))) rfl (PW (i + j) (by omega) _)) ?_
  refine dr (.int .u64 (((i + j) / 2 : Nat) : Int)) (NC (.inl rfl) rfl rfl (VH (i + j) _ _)) ?_
  refine dr (.int .i64 (((i + j) / 2 : Nat) : Int)) (aX (v := (.int .u64 (((i + j) / 2 : Nat) : Int))) rfl (PX ((i + j) / 2) (by omega) _)) ?_
  simp only [pq]
  refine dy ?_
  refine wn b9 ?_
  refine aF fun e3 a6 => ?_
  obtain ⟨t, hp⟩ : ∃ t, l[(i + j) / 2]? = some t := ⟨l[(i + j) / 2], List.getElem?_eq_getElem (by omega)⟩
  obtain ⟨c6, c7, c0, a7, a9, b0, b1, c8, c9, d0, d1⟩ := Tns.get hv hp
  refine aB ?_
  refine aC ?_
  refine dr (pP c6 (c7 + ((i + j) / 2) * 2)) (bK (i := (i + j) / 2) (sz := 2) Tryz.underlying24 (cO _) rfl c0 rfl (by omega) rfl) ?_
  refine dr _ (aE rfl (cU Tryz.underlying66 rfl (kB) (mR (St.fz a0 c8) (St.fz a0 c9)))) ?_
  refine dx ?_
  simp only [pq]
  refine aL (v := (.int .i64 (eQ t.1 k))) a0 rfl (uE (fs := #[]) (cs := #[]) (vs := #[(.agg #[(.slice a7 t.1.length a9), (.slice b0 t.2.length b1)]), (.slice a2 k.length c2)]) rfl (CY (fs := #[]) (cs := #[]) (xs := #[(.agg #[(.slice a7 t.1.length a9), (.slice b0 t.2.length b1)]), (.slice a2 k.length c2)]) (iX rfl rfl) (by simp)) (VB _ _)) (wM _ _ _ _ t k (a0).sat ⟨_, _, _, _, rfl, d0, d1⟩ hu) (fun e4 c3 => ?_)
  simp only [pq]
  by_cases a1 : (eQ t.1 k) < (0 : Int)
  ·refine fA ?_
   refine wlK a6 ?_
   refine aK ?_
   refine aB ?_
   refine dx ?_
   refine cD ((((i + j) / 2 + 1) : Nat) : Int) ?_
   refine dy ?_
   simp only [pq]
   refine aH ?_
   exact a4 _ _ _ (by omega) ⟨((i + j) / 2 + 1), j, _, rfl, rfl, rfl, c3, (by have := GY hr hp a1; omega), (by omega), (GY hr hp a1), (by omega)⟩
  ·refine eM ?_
   refine wlK a6 ?_
   refine aG ?_
   refine aB ?_
   refine aC ?_
   refine aH ?_
   exact a4 _ _ _ (by omega) ⟨i, (i + j) / 2, _, rfl, rfl, rfl, c3, (by omega), (by omega), (by omega), (VI hp a1)⟩
 ·refine eM ?_
  refine wn a5 ?_
  refine aG ?_
  refine cS ?_
  refine hK4 _ _ ?_
  refine aF fun e5 a3 => ?_
  have hip2 : aS l k = i := by omega
  by_cases h0 : i < l.length
  ·obtain ⟨t, hp⟩ : ∃ t, l[i]? = some t := ⟨l[i], List.getElem?_eq_getElem h0⟩
   obtain ⟨d2, d3, c1, b2, b3, b4, b5, d4, d5, d6, d7⟩ := Tns.get hv hp
   refine aB ?_
   refine aC ?_
   refine fA ?_
   refine aC ?_
   refine dr (pP d2 (d3 + i * 2)) (bK (i := i) (sz := 2) Tryz.underlying24 (cO _) rfl c1 rfl (by omega) rfl) ?_
   simp only [pq]
   refine dr _ (aE rfl (cU Tryz.underlying66 rfl (kB) (mR (St.fz a0 d4) (St.fz a0 d5)))) ?_
   refine dx ?_
   refine aL (v := (.int .i64 (eQ t.1 k))) a0 rfl (uE (fs := #[]) (cs := #[]) (vs := #[(.agg #[(.slice b2 t.1.length b3), (.slice b4 t.2.length b5)]), (.slice a2 k.length c2)]) rfl (CY (fs := #[]) (cs := #[]) (xs := #[(.agg #[(.slice b2 t.1.length b3), (.slice b4 t.2.length b5)]), (.slice a2 k.length c2)]) (iX rfl rfl) (by simp)) (VB _ _)) (wM _ _ _ _ t k (a0).sat ⟨_, _, _, _, rfl, d6, d7⟩ hu) (fun e6 c4 => ?_)
   simp only [pq]
   by_cases b6 : (eQ t.1 k) = (0 : Int)
   ·refine iR ?_
    refine aC ?_
    refine wlK a3 ?_
    refine aO ?_
    try simp only [xt]
    refine bR (cI rfl (gD rfl) (gD rfl)) ?_
    ·have e2 := PY hr (by rw [hip2]; exact hp) b6
     exact ⟨by rw [e2, hip2], c4.gr.below⟩
   ·refine gL ?_
    refine aC ?_
    refine wlK a3 ?_
    refine aO ?_
    try simp only [xt]
    refine bR (cI rfl (gD rfl) (gD rfl)) ?_
    ·have e2 := ND hr (by rw [hip2]; exact hp) b6
     exact ⟨by rw [e2, hip2], c4.gr.below⟩
  ·refine aB ?_
   refine aC ?_
   refine eM ?_
   refine aC ?_
   refine wlK a3 ?_
   refine aO ?_
   try simp only [xt]
   refine bR (cI rfl (gD rfl) (gD rfl)) ?_
   ·have e2 : eW l k = false := GZ hr (by omega)
    exact ⟨by rw [e2, hip2], a0.gr.below⟩
theorem BM (F : Fz) (w : World) (v u : Value) (l : aP) (k : By) (hs : Sat w F) (hv : Tns F v l) (hu : Bs F u k) (hr : fO l) (hl : l.length ≤ 1000000) :
    Calls Tryz.prog 46 #[v, u] w (cY w (.tuple #[.int .i64 (aS l k : Nat), .bool (eW l k)])) := by
 obtain ⟨a, c, rfl, hc1, hc2⟩ := Sl.shape hv
 obtain ⟨a2, c2, rfl, _⟩ := hu.shape
 have S := St.start hs
 go_enter Tryz.func46, Tryz.ntmps46
 refine sk fun K1 hK1 => ?_
 iterate 2 refine dy ?_
 refine wn hK1 ?_
 refine sk fun K2 hK2 => ?_
 refine aC ?_
 refine aL (v := (.tuple #[(nI (aS l k)), (.bool (eW l k))])) S rfl (fn3 (Df _ _)) (DC _ _ _ _ l k (S).sat hv hu hr hl) (fun w3 S4 => ?_)
 refine aC ?_
 refine wn hK2 ?_
 refine aO ?_
 try simp only [xt]
 refine bR (cI rfl (gD rfl) (gD rfl)) ?_
 exact ⟨rfl, S4.gr.below⟩
theorem EO {l : aP} (hr : fO l) {k : By} {t : By × List Pr} (h : eW l k = true) (hp : l[aS l k]? = some t) : dD l k = t.2 := by
 obtain ⟨hh, rfl⟩ := List.getElem?_eq_some_iff.1 hp
 obtain ⟨_, h2⟩ := (iA hr).1 h
 have := AM hr (List.getElem_mem hh)
 rw [show l[aS l k].1 = k from h2] at this
 unfold dD
 rw [this]
 rfl
theorem EP {l : aP} {k : By} (h : eW l k = false) : dD l k = [] := by
 unfold dD
 rw [PZ (by rw [h]; simp)]
 rfl
theorem JC {l : aP} (hr : fO l) {k : By} (h : eW l k = true) : aS l k < l.length := ((iA hr).1 h).1
theorem yK (F : Fz) (w : World) (v u : Value) (l : aP) (k : By) (hs : Sat w F) (hv : Tns F v l) (hu : Bs F u k) (hr : fO l) (hl : l.length ≤ 1000000) :
    Calls Tryz.prog 40 #[v, u] w fun e w' => ∃ x, e = .returned x ∧ Below w.heap.size w w' ∧ Prs F x (dD l k) := by
 obtain ⟨a, c, rfl, hc1, hc2⟩ := Sl.shape hv
 obtain ⟨a2, c2, rfl, _⟩ := hu.shape
 unfold maxLen at hc2
 have S := St.start hs
 go_enter Tryz.func40, Tryz.ntmps40
 refine sk fun K1 hK1 => ?_
 refine dy ?_
 refine wn hK1 ?_
 refine aF fun K2 hK2 => ?_
 refine sk fun K3 hK3 => ?_
 refine aC ?_
 refine aL (v := (.tuple #[(nI (aS l k)), (.bool (eW l k))])) S rfl (fn2 (MX _ _)) (BM _ _ _ _ l k (S).sat hv hu hr hl) (fun w4 S5 => ?_)
 refine aC ?_
 refine wn hK3 ?_
 refine sk fun K6 hK6 => ?_
 refine dx ?_
 simp only [pq]
 refine wn hK6 ?_
 refine wp_cond_split rfl (fun hc7 => ?_) (fun hc7 => ?_)
 refine aF fun K8 hK8 => ?_
 have hpos := JC hr hc7
 obtain ⟨t, hp⟩ : ∃ t, l[aS l k]? = some t := ⟨l[aS l k], List.getElem?_eq_getElem hpos⟩
 obtain ⟨b9, a3, a0, a4, a5, a6, a7, b0, a8, b1, a9⟩ := Tns.get hv hp
 refine aB ?_
 iterate 2 refine dx ?_
 refine dr (pP b9 (a3 + (aS l k) * 2)) (bK (i := (aS l k)) (sz := 2) Tryz.underlying24 (cO _) rfl a0 rfl (hpos) rfl) ?_
 simp only [pq]
 refine df (oT _ _) ?_
 refine dr _ (aE rfl (aT (tK _) (St.fz S5 a8))) ?_
 refine dy ?_
 simp only [pq]
 refine wlK hK8 ?_
 refine aO ?_
 try simp only [xt]
 refine bR (bC rfl (gD rfl)) ?_
 exact ⟨_, rfl, S5.gr.below, by rw [EO hr hc7 hp]; exact a9⟩
 refine aI ?_
 refine hK2 _ _ ?_
 refine sk fun b2 a1 => ?_
 refine dy ?_
 refine wn a1 ?_
 refine aO ?_
 try simp only [xt]
 refine bR (bC rfl (gD rfl)) ?_
 exact ⟨_, rfl, S5.gr.below, by rw [EP hc7]; exact Sl.nil _ _ _⟩
theorem lT (F : Fz) (w : World) (v : Value) (l : aP) (hs : Sat w F) (hv : Tns F v l) :
    Calls Tryz.prog 32 #[v] w (cY w (.int .i64 (fF l))) := by
 obtain ⟨a, c, rfl, hc1, hc2⟩ := Sl.shape hv
 unfold maxLen at hc2
 have S := St.start hs
 go_enter Tryz.func32, Tryz.ntmps32
 refine sk fun K1 hK1 => ?_
 refine dy ?_
 refine wn hK1 ?_
 refine aF fun K2 hK2 => ?_
 refine sk fun K3 hK3 => ?_
 refine aC ?_
 by_cases hc9 : 8 < l.length
 refine pR ?_
 refine wn hK3 ?_
 refine aK ?_
 refine sk fun K4 hK4 => ?_
 refine dy ?_
 refine wn hK4 ?_
 refine aO ?_
 try simp only [xt]
 refine bR (bC rfl (gD rfl)) ?_
 exact ⟨by unfold fF; rw [if_pos (by omega)], S.gr.below⟩
 refine lF ?_
 simp only [pq]
 refine wn hK3 ?_
 refine aG ?_
 refine aI ?_
 refine hK2 _ _ ?_
 refine aF fun K5 hK5 => ?_
 refine sk fun K6 hK6 => ?_
 refine aC ?_
 refine wn hK6 ?_
 refine aM ?_
 refine aW (fun mm aa w8 => ∃ (k : Nat) (u7 : Nat → Value), mm = l.length - k ∧ u7 = dY aa ∧ aa = ⟨([(.slice a l.length c), undef] ++ (usF u7 2 5 ([(.slice a l.length c), (nI l.length), bF, (.slice a l.length c), (nI l.length), (nI k)] ++ (usF u7 13 35 [])))).toArray, []⟩ ∧ St w F w8 F [] [] ∧ (k ≤ l.length) ∧ (jH l l.length 0 = jH l (l.length - k) k)) _ ⟨0, _, rfl, rfl, rfl, S, (by omega), rfl⟩ ?_
 rintro m9 f9 g0 ⟨k, u7, rfl, -, hfr, a9, hk, hT⟩ g1 a1
 simp only [uzF, Nat.reduceAdd] at hfr; subst hfr
 refine sk fun g2 a2 => ?_
 by_cases b2 : k < l.length
 refine fA ?_
 refine wn a2 ?_
 refine aF fun g3 b3 => ?_
 refine aK ?_
 refine aI ?_
 refine b3 _ _ ?_
 refine aF fun g4 a3 => ?_
 refine aM ?_
 refine aF fun g5 b4 => ?_
 obtain ⟨t, hp⟩ : ∃ t, l[k]? = some t := ⟨l[k], List.getElem?_eq_getElem b2⟩
 obtain ⟨d6, d7, b5, d8, d9, e0, e1, e2, e3, e4, e5⟩ := Tns.get hv hp
 refine aB ?_
 refine dx ?_
 refine dr (pP d6 (d7 + k * 2)) (bK (i := k) (sz := 2) Tryz.underlying24 (cO _) rfl b5 rfl (by omega) rfl) ?_
 refine dr _ (aE rfl (cU Tryz.underlying66 rfl (kB) (mR (St.fz a9 e2) (St.fz a9 e3)))) ?_
 simp only [pq]
 refine sA a9 (zL _) fun g6 g7 e6 => ?_
 refine dy ?_
 refine sW 0 e6 (kB) fun g8 e7 => ?_
 simp only [pq]
 refine wlK b4 ?_
 refine aF fun g9 b6 => ?_
 refine sk fun h1 b7 => ?_
 refine aC ?_
 refine aL (v := (.int .i64 (gX t.1.length))) e7 rfl (fn1 (GR _ _)) (fN (gS _ _ _ _)) (fun h2 b0 => ?_)
 refine dy ?_
 simp only [pq]
 refine wn b7 ?_
 refine sk fun h3 a4 => ?_
 refine dx ?_
 simp only [pq]
 by_cases b9 : (gX t.1.length) = (0 : Int)
 refine lQ ?_
 refine wn a4 ?_
 refine aG ?_
 refine aI ?_
 refine b6 _ _ ?_
 refine aF fun h4 c0 => ?_
 refine sk fun h5 a5 => ?_
 refine aC ?_
 by_cases e8 : t.2.length = 0
 refine iR ?_
 refine wn a5 ?_
 refine aK ?_
 refine sk fun h6 c1 => ?_
 refine dy ?_
 refine wn c1 ?_
 refine aO ?_
 try simp only [xt]
 refine bR (bC rfl (gD rfl)) ?_
 exact ⟨by unfold fF; rw [if_neg (by omega), hT, kQ hp, if_neg (by omega), if_pos (by omega)], b0.gr.below⟩
 refine gL ?_
 simp only [pq]
 refine wn a5 ?_
 refine aG ?_
 refine aI ?_
 refine c0 _ _ ?_
 refine aF fun h7 c2 => ?_
 refine sk fun h8 c3 => ?_
 refine aC ?_
 refine aL (v := (.int .i64 (iT t.2))) b0 rfl (fn1 (BF _ _)) (jG _ _ _ t.2 (b0).sat e5) (fun h9 a6 => ?_)
 refine dy ?_
 simp only [pq]
 refine wn c3 ?_
 refine sk fun i0 a7 => ?_
 refine dx ?_
 simp only [pq]
 by_cases c4 : (iT t.2) = (0 : Int)
 refine lQ ?_
 refine wn a7 ?_
 refine aG ?_
 refine aI ?_
 refine c2 _ _ ?_
 refine aF fun i1 a0 => ?_
 by_cases h0 : 0 < k
 obtain ⟨q, hq⟩ : ∃ q, l[k - 1]? = some q := ⟨l[k - 1], List.getElem?_eq_getElem (by omega)⟩
 have hqd : l.getD (k - 1) ([], []) = q := by rw [List.getD_eq_getElem?_getD, hq]; rfl
 obtain ⟨e9, f0, c5, f1, f2, f3, f4, f5, i2, f6, i3⟩ := Tns.get hv hq
 refine aQ F 11 [] (by kernel_rfl) (by kernel_rfl) ?_
 simp only [cV]
 refine gm ?_
 refine gv bT (fun _ _ => rW (m := ((k : Nat) : Int)) (n := (0 : Int)) (b := true) rfl rfl (decide_eq_true (by omega))) ?_
 simp only [pq]
 iterate 3 refine gm ?_
 simp only [pq]
 refine gv (nI (k - 1)) (fun _ _ => uM (m := ((k : Nat) : Int)) (n := (1 : Int)) (r := (((k - 1) : Nat) : Int)) rfl rfl (by omega) (by omega) (by omega)) ?_
 refine gv (pP e9 (f0 + (k - 1) * 2)) (fun _ _ => bK (i := (k - 1)) (sz := 2) Tryz.underlying24 (cO _) rfl c5 rfl (by omega) rfl) ?_
 refine gf (GE _ _) ?_
 simp only [pq]
 refine gv _ (fun _ f7 => aE rfl (aT (bD _) (St.fz (St.tells a6 f7) f5))) ?_
 refine gf (GE _ _) ?_
 refine gl bD a6 0 ?_
 simp only [pq]
 refine bN ?_
 intro i4 c6 c7
 clear c7
 have d5 := St.tells a6 c6
 simp only [cW]
 refine aL (v := (.int .i64 (eQ q.1 t.1))) d5 rfl (fn2 (uP _ _)) (eS _ _ _ _ q.1 t.1 (d5).sat f6 e4) (fun i5 b1 => ?_)
 simp only [pq]
 by_cases a8 : (0 : Int) ≤ (eQ q.1 t.1)
 refine UD ?_
 refine dp ?_
 refine wlK a0 ?_
 refine aK ?_
 refine sk fun i6 c8 => ?_
 refine dy ?_
 simp only [pq]
 refine wn c8 ?_
 refine aO ?_
 try simp only [xt]
 refine bR (bC rfl (gD rfl)) ?_
 exact ⟨by unfold fF; rw [if_neg (by omega), hT, kQ hp, if_neg (by omega), if_neg (by omega), if_neg (by omega), if_pos ⟨h0, by rw [hqd]; exact a8⟩], b1.gr.below⟩
 refine UE ?_
 refine dp ?_
 refine wlK a0 ?_
 refine aG ?_
 refine aI ?_
 refine a3 _ _ ?_
 refine aB ?_
 refine cD (k + 1) ?_
 refine dx ?_
 simp only [pq]
 refine aH ?_
 have b1 := St.drop b1 (.cons _ (List.Sublist.refl _))
 exact a1 _ _ _ (by omega) ⟨(k + 1), _, rfl, rfl, rfl, b1, (by omega), (by rw [hT, kQ hp, if_neg (by omega), if_neg (by omega), if_neg (by omega), if_neg (fun h => a8 (by have := h.2; rw [hqd] at this; exact this))])⟩
 refine aQ F 11 [] (by kernel_rfl) (by kernel_rfl) ?_
 simp only [cV]
 refine gm ?_
 refine gv bF (fun _ _ => rW (m := ((k : Nat) : Int)) (n := (0 : Int)) (b := false) rfl rfl (decide_eq_false (by omega))) ?_
 refine gm ?_
 simp only [pq]
 refine dN (bY rfl rfl rfl (c := false) rfl (by decide)) ?_
 simp only [pq]
 refine dN (bY rfl rfl rfl (c := false) rfl (by decide)) ?_
 simp only [pq]
 refine dN (bY rfl rfl rfl (c := false) rfl (by decide)) ?_
 simp only [pq]
 refine dN (bY rfl rfl rfl (c := false) rfl (by decide)) ?_
 simp only [pq]
 refine dN (bY rfl rfl rfl (c := false) rfl (by decide)) ?_
 simp only [pq]
 refine dN (bY rfl rfl rfl (c := false) rfl (by decide)) ?_
 simp only [pq]
 refine dN (bY rfl rfl rfl (c := false) rfl (by decide)) ?_
 simp only [pq]
 refine dN (bY rfl rfl rfl (c := false) rfl (by decide)) ?_
 refine bN ?_
 intro i7 c9 d0
 clear d0
 have d1 := St.tells a6 c9
 simp only [cW]
 refine aC ?_
 refine wlK a0 ?_
 refine aG ?_
 refine aI ?_
 refine a3 _ _ ?_
 refine aB ?_
 refine cD (k + 1) ?_
 refine dx ?_
 simp only [pq]
 refine aH ?_
 have d1 := St.drop d1 (.cons _ (List.Sublist.refl _))
 exact a1 _ _ _ (by omega) ⟨(k + 1), _, rfl, rfl, rfl, d1, (by omega), (by rw [hT, kQ hp, if_neg (by omega), if_neg (by omega), if_neg (by omega), if_neg (fun h => h0 h.1)])⟩
 refine mS ?_
 refine wn a7 ?_
 refine aK ?_
 refine sk fun i8 d2 => ?_
 refine aC ?_
 refine wn d2 ?_
 refine aO ?_
 try simp only [xt]
 refine bR (bC rfl (gD rfl)) ?_
 exact ⟨by unfold fF; rw [if_neg (by omega), hT, kQ hp, if_neg (by omega), if_neg (by omega), if_pos c4], a6.gr.below⟩
 refine mS ?_
 refine wn a4 ?_
 refine aK ?_
 refine sk fun i9 d3 => ?_
 refine aC ?_
 refine wn d3 ?_
 refine aO ?_
 try simp only [xt]
 refine bR (bC rfl (gD rfl)) ?_
 exact ⟨by unfold fF; rw [if_neg (by omega), hT, kQ hp, if_pos b9], b0.gr.below⟩
 refine eM ?_
 refine wn a2 ?_
 refine aF fun j0 f8 => ?_
 refine aG ?_
 refine cS ?_
 refine hK5 _ _ ?_
 refine sk fun j1 d4 => ?_
 refine dy ?_
 refine wn d4 ?_
 refine aO ?_
 try simp only [xt]
 refine bR (bC rfl (gD rfl)) ?_
 exact ⟨by unfold fF; rw [if_neg (by omega), hT, HD (by omega)], a9.gr.below⟩
theorem DD (F : Fz) (w : World) (v u : Value) (l : aP) (k : By) (hs : Sat w F) (hv : Tns F v l) (hu : Bs F u k) (ok1 : ForestOk 60 l) :
    Calls Tryz.prog 38 #[v, u] w (cY w (.int .i64 (gX k.length))) := by
 have ok := qY.2 ok1
 obtain ⟨a, c, rfl, hc1, hc2⟩ := Sl.shape hv
 obtain ⟨a2, c2, rfl, _⟩ := hu.shape
 have S := St.start hs
 go_enter Tryz.func38, Tryz.ntmps38
 refine sk fun K1 hK1 => ?_
 refine dy ?_
 refine wn hK1 ?_
 refine aF fun K2 hK2 => ?_
 refine sk fun K3 hK3 => ?_
 refine dx ?_
 refine aL (v := (.int .i64 (fF l))) S rfl (fn1 (MW _ _)) (lT _ _ _ l (S).sat hv) (fun w4 S5 => ?_)
 refine dy ?_
 simp only [pq]
 refine wn hK3 ?_
 refine sk fun K6 hK6 => ?_
 refine dx ?_
 refine dr bF (cC (m := (fF l)) (n := (0 : Int)) (b := false) rfl rfl (bne_eq_false_iff_eq.2 (ok))) ?_
 refine wn hK6 ?_
 refine aG ?_
 refine aI ?_
 refine hK2 _ _ ?_
 refine sk fun K7 hK7 => ?_
 refine dx ?_
 simp only [pq]
 refine aL (v := (.int .i64 (gX k.length))) S5 rfl (fn1 (GR _ _)) (fN (gS _ _ _ _)) (fun w8 S9 => ?_)
 refine dy ?_
 refine wn hK7 ?_
 refine aO ?_
 try simp only [xt]
 refine bR (bC rfl (gD rfl)) ?_
 exact ⟨rfl, S9.gr.below⟩
theorem TnC.one (F : Fz) (cs : List Value) (p : By × List Pr) (h : TnC F cs p) : ∀ u ∈ cs, u.oneCell' = true := h.oneCell
theorem ForestOk.small {f : aP} (h : ForestOk 60 f) {t : By × List Pr} (ht : t ∈ f) : t.1.length ≤ 100000 ∧ t.2.length ≤ 60 ∧ ∀ p ∈ t.2, p.1.length ≤ 100000 ∧ p.2.length ≤ 100000 := by
 have h1 := h.name t ht
 have h2 := h.tree t ht
 exact ⟨by have := h1.2; omega, h2.len, fun p hp => h2.small hp⟩
theorem RP (F : Fz) (w : World) (v : Value) (l : aP) (hs : Sat w F) (hv : Tns F v l) (hl : l.length ≤ 100000) (hL : ∀ t ∈ l, t.1.length ≤ 100000 ∧ t.2.length ≤ 60 ∧ ∀ p ∈ t.2, p.1.length ≤ 100000 ∧ p.2.length ≤ 100000) :
    Calls Tryz.prog 33 #[v] w (rX w F 2 TnC 66 l) := by
 obtain ⟨a, c, rfl, hc1, hc2⟩ := Sl.shape hv
 unfold maxLen at hc2
 obtain ⟨j6, e1, e2, e3, e4⟩ := info_parts oS
 obtain ⟨j7, e5, e6, e7, e8⟩ := info_parts tL
 have S := St.start hs
 go_enter Tryz.func33, Tryz.ntmps33
 refine sk fun K1 hK1 => ?_
 refine dy ?_
 refine wn hK1 ?_
 refine sk fun K2 hK2 => ?_
 refine dy ?_
 refine wn hK2 ?_
 refine aF fun K3 hK3 => ?_
 refine sk fun K4 hK4 => ?_
 refine aC ?_
 refine wn hK4 ?_
 refine aM ?_
 have S5 := St.addNil S 2 TnC TnC.mono 66 w.heap.size
 refine aW (fun mm aa w8 => ∃ (k : Nat) (v : Value) (F6 : Fz) (u7 : Nat → Value), mm = l.length - k ∧ u7 = dY aa ∧ aa = ⟨([(.slice a l.length c), undef, Zn, v, undef, (u7 5), (u7 6), undef, (u7 8), (.slice a l.length c), (nI l.length), (nI k)] ++ (usF u7 12 32 [undef])).toArray, []⟩ ∧ St w F w8 F6 [] [bV 2 TnC TnC.mono 66 w.heap.size v (l.take k)] ∧ Le F F6 ∧ (k ≤ l.length)) _ ⟨0, Zn, F, _, rfl, rfl, rfl, S5, Le.refl _, (by omega)⟩ ?_
 rintro m9 n6 n7 ⟨k, v, F6, u7, rfl, -, hfr, c2, c3, hk⟩ n8 e9
 simp only [uzF, Nat.reduceAdd] at hfr; subst hfr
 refine sk fun n9 c4 => ?_
 by_cases f0 : k < l.length
 refine fA ?_
 refine wn c4 ?_
 refine aF fun o0 f1 => ?_
 refine aK ?_
 refine aI ?_
 refine f1 _ _ ?_
 refine aF fun o1 f2 => ?_
 refine aM ?_
 refine aF fun o2 f3 => ?_
 obtain ⟨t, ht⟩ : ∃ t, l[k]? = some t := ⟨l[k], List.getElem?_eq_getElem f0⟩
 obtain ⟨hs1, hs2, hs3⟩ := hL t (List.mem_of_getElem? ht)
 have htk : (l.take k).length = k := by rw [List.length_take]; omega
 obtain ⟨i2, i3, f4, b2, b3, b4, b5, j8, j9, k0, k1⟩ := Tns.get (hv.mono c3) ht
 refine aB ?_
 refine dr (pP i2 (i3 + k * 2)) (bK (i := k) (sz := 2) Tryz.underlying24 (cO _) rfl f4 rfl (by omega) rfl) ?_
 refine dr _ (aE rfl (cU Tryz.underlying66 rfl (kB) (mR (St.fz c2 j8) (St.fz c2 j9)))) ?_
 simp only [pq]
 refine sA c2 (zL _) fun d8 o3 k2 => ?_
 refine sW 0 k2 (kB) fun o4 i4 => ?_
 refine wlK f3 ?_
 refine sk fun o5 f5 => ?_
 refine aC ?_
 refine aY i4 rfl (fn1 (gV _ _)) (dC _ _ _ t.1 (i4).sat k0 (by omega)) ?_
 intro o6 o7 i5 k3 c5 f6
 obtain ⟨a1, a2, rfl, _⟩ := f6.shape
 refine dr (.agg #[(.slice a1 t.1.length a2), Zn]) (aJ (cG rfl) (by kernel_rfl)) ?_
 refine sA k3 (zL _) fun i6 o8 k4 => ?_
 refine sW 0 k4 (kB) fun o9 k5 => ?_
 simp only [pq]
 refine wn f5 ?_
 refine aF fun p0 f7 => ?_
 refine sk fun p1 f8 => ?_
 refine aC ?_
 refine wn f8 ?_
 refine aM ?_
 have k6 := St.addNil k5 2 PrC PrC.mono 50 w.heap.size
 refine aW (fun mm aa k7 => ∃ (j : Nat) (v2 : Value) (d9 : Fz) (e0 : Nat → Value), mm = t.2.length - j ∧ e0 = dY aa ∧ aa = ⟨([(.slice a l.length c), undef, Zn, v, undef, (pP d8 0), (pP i6 0), undef, (e0 8), (.slice a l.length c), (nI l.length), (nI k), bT, (pP i2 (i3 + k * 2)), (.agg #[(.slice b2 t.1.length b3), (.slice b4 t.2.length b5)]), (pP d8 0), (.slice b2 t.1.length b3), (.slice a1 t.1.length a2), (.agg #[(.slice a1 t.1.length a2), Zn]), (pP d8 1), (.slice b4 t.2.length b5), (nI t.2.length), (nI j)] ++ (usF e0 23 16 (usF u7 39 5 [undef]))).toArray, []⟩ ∧ St w F k7 d9 [⟨i6, [(.slice a1 t.1.length a2), v2], 66⟩, ⟨d8, [(.slice b2 t.1.length b3), (.slice b4 t.2.length b5)], 66⟩] [bV 2 PrC PrC.mono 50 w.heap.size v2 (t.2.take j), bV 2 TnC TnC.mono 66 w.heap.size v (l.take k)] ∧ Le i5 d9 ∧ (j ≤ t.2.length)) _ ⟨0, Zn, i5, _, rfl, rfl, rfl, k6, Le.refl _, (by omega)⟩ ?_
 rintro p2 p3 p4 ⟨j, v2, d9, e0, rfl, -, hfr, c6, a4, hj⟩ p5 f9
 simp only [uzF, Nat.reduceAdd] at hfr; subst hfr
 refine sk fun p6 c7 => ?_
 by_cases g0 : j < t.2.length
 refine fA ?_
 refine wn c7 ?_
 refine aF fun p7 g1 => ?_
 refine aK ?_
 refine aI ?_
 refine g1 _ _ ?_
 refine aF fun p8 g2 => ?_
 refine aM ?_
 refine aF fun p9 g3 => ?_
 obtain ⟨p, hp⟩ : ∃ p, t.2[j]? = some p := ⟨t.2[j], List.getElem?_eq_getElem g0⟩
 obtain ⟨hp1, hp2⟩ := hs3 p (List.mem_of_getElem? hp)
 have hpk : (t.2.take j).length = j := by rw [List.length_take]; omega
 obtain ⟨k8, k9, g4, g5, g6, g7, g8, l0, l1, l2, l3⟩ := Prs.get (k1.mono (c5.trans a4)) hp
 refine aB ?_
 refine dr (pP k8 (k9 + j * 2)) (bK (i := j) (sz := 2) Tryz.underlying47 (cK _) rfl g4 rfl (by omega) rfl) ?_
 refine dr _ (aE rfl (cU Tryz.underlying50 rfl (eE) (mR (St.fz c6 l0) (St.fz c6 l1)))) ?_
 simp only [pq]
 refine sA c6 (vZ _) fun q0 q1 l4 => ?_
 refine sW 0 l4 (eE) fun q2 a6 => ?_
 refine wlK g3 ?_
 refine aQ d9 10 [(4, .made (fun F' u => Bs F' u p.1)), (7, .made (fun F' u => Bs F' u p.2)), (8, .made (fun F' u => Pr2V F' u (p.1, p.2))), (9, .made (fun F' u => Prs F' u [(p.1, p.2)]))] (by kernel_rfl) (by kernel_rfl) ?_
 simp only [cV]
 refine gf (oT _ _) ?_
 simp only [pq]
 refine gl tK a6 1 ?_
 refine gf (GD _ _) ?_
 refine gl bD a6 0 ?_
 simp only [pq]
 refine dJ rfl rfl (fun g9 b6 hF => bX (cP (vs := #[(.slice g5 p.1.length g6)]) (kX rfl) rfl (gV _ _)) (dI a6.sat b6 (dC _ _ _ p.1 ((St.tells a6 b6)).sat l2 (by omega)))) (fun q3 => ?_)
 refine gf (zK _ _) ?_
 refine gl bD a6 0 ?_
 simp only [pq]
 refine dJ rfl rfl (fun g9 b6 hF => bX (cP (vs := #[(.slice g7 p.2.length g8)]) (kX rfl) rfl (gV _ _)) (dI a6.sat b6 (dC _ _ _ p.2 ((St.tells a6 b6)).sat l3 (by omega)))) (fun q4 => ?_)
 simp only [pq]
 refine dJ rfl rfl (fun g9 b6 hF_ => ?_) (fun q5 => ?_)
 obtain ⟨i7, i8, l5⟩ := hF_.get 4 (by kernel_rfl) rfl rfl
 obtain ⟨i9, j0, l6⟩ := hF_.get 7 (by kernel_rfl) rfl rfl
 have hR0 := (l5.mono (kM i7 i9))
 obtain ⟨l7, l8, rfl, _⟩ := hR0.shape
 have hR1 := (l6.mono (lN i8.sat j0.sat))
 obtain ⟨l9, m0, rfl, _⟩ := hR1.shape
 exact fY (aJ (eZ rfl rfl) (by kernel_rfl)) ⟨(both i7 i9), (i8.both j0), ⟨_, _, _, _, rfl, hR0, hR1⟩⟩ (Below.refl _ _)
 simp only [pq]
 refine dJ rfl rfl (fun g9 b6 hF_ => ?_) (fun m1 => ?_)
 obtain ⟨m2, h0, h1⟩ := hF_.get 8 (by kernel_rfl) rfl rfl
 obtain ⟨c8, a8, a9, b0, rfl, h2, h3⟩ := h1
 exact sI (k := 2) (R := PrC) (hR := PrC.mono) (p := (p.1, p.2)) (cs := [.slice c8 _ a8, .slice a9 _ b0]) (E := 50) h0 ⟨_, _, rfl, h2, h3⟩ rfl (bS (E := 50) (cells := #[.slice c8 _ a8, .slice a9 _ b0]) (cG rfl) (fun w => by kernel_rfl))
 refine bN ?_
 intro m3 j1 b1
 obtain ⟨h4, c9, h5⟩ := b1.get 9 rfl rfl
 have b7 := St.gives a6 c9
 have d0 : Le _ _ := c9.le a6.sat
 have d1 := h5
 generalize h4 = h6 at *
 obtain ⟨d2, d3, rfl, _⟩ := Sl.shape d1
 clear b1
 simp only [cW]
 refine eG (r := 0) (u := (.slice d2 [(p.1, p.2)].length d3)) b7 rfl j6 (.agg #[Zn, Zn]) 48 Tryz.underlying47 e1 e2 e3 e4 rfl (by decide) rfl rfl rfl (Sl.toW d1 (b7).sat) (fun F cs p h => PrC.one F cs p h) (Nat.le_refl _) b7.gr.below.size (by unfold maxLen; simp only [List.length_take, List.length_cons, List.length_nil]; omega) (by simp only [List.length_take, List.length_cons, List.length_nil]; omega) ?_
 intro m4 m5 d4 j2
 simp only [pq]
 obtain ⟨h7, b9, rfl, m6, h8⟩ := (d4.own (i := 0) rfl).shape
 unfold maxLen at h8
 refine df (oT _ _) ?_
 refine sW 1 d4 (GB) fun m7 a7 => ?_
 refine wlK g2 ?_
 refine aB ?_
 refine cD (j + 1) ?_
 refine dx ?_
 simp only [pq]
 refine aH ?_
 have a7 := St.drop a7 (.cons _ (List.Sublist.refl _))
 rw [← fL hp] at a7
 exact f9 _ _ _ (by omega) ⟨(j + 1), (.slice h7 (t.2.take (j + 1)).length b9), h6, _, rfl, rfl, rfl, a7, (a4.trans d0), (by omega)⟩
 refine eM ?_
 refine wn c7 ?_
 refine aF fun m8 j3 => ?_
 refine aG ?_
 refine cS ?_
 refine f7 _ _ ?_
 have hj2 : t.2.take j = t.2 := List.take_of_length_le (by omega)
 rw [hj2] at c6
 obtain ⟨h9, d5, a5, a0⟩ := St.freeze c6 (i := 0) rfl (Nat.le_refl _)
 have a0 : Prs _ v2 t.2 := a0
 obtain ⟨c0, c1, rfl, n0, i0⟩ := Sl.shape a0
 unfold maxLen at i0
 refine aB ?_
 refine dx ?_
 refine dR d5 0 Tryz.underlying66 (kB) ?_
 simp only [pq]
 refine aZ d5 (v := fun n => .slice (aA n 0) 1 1) rfl (bS (ps := #[(0, (.agg #[(.slice a1 t.1.length a2), (.slice c0 t.2.length c1)]))]) (cells := #[(.slice a1 t.1.length a2), (.slice c0 t.2.length c1)]) (E := 66) (cG rfl) (fun w => by kernel_rfl)) (fun n1 n2 d6 => ?_)
 refine eK (i := 0) (r := 0) (p := t) (cs := [(.slice a1 t.1.length a2), (.slice c0 t.2.length c1)]) d6 rfl j7 (.agg #[Zn, Zn]) 48 Tryz.underlying24 e5 e6 e7 e8 rfl (by decide) rfl rfl rfl rfl rfl (TnC.oneCell (p := t) ⟨_, _, rfl, (f6.mono (a4.trans a5)), a0⟩) (⟨_, _, rfl, (f6.mono (a4.trans a5)), a0⟩) (Nat.le_refl _) d6.gr.below.size (by unfold maxLen; omega) (by omega) ?_
 intro i1 n3 a3 j4
 simp only [pq]
 have a3 := St.drop a3 (.cons _ (List.Sublist.refl _))
 refine dy ?_
 refine wlK f2 ?_
 refine aB ?_
 refine cD (k + 1) ?_
 refine dx ?_
 simp only [pq]
 refine aH ?_
 have a3 := St.drop a3 (.cons _ (.cons _ (List.Sublist.refl _)))
 rw [← fL ht] at a3
 exact e9 _ _ _ (by omega) ⟨(k + 1), i1, h9, _, rfl, rfl, rfl, a3, (((c3.trans c5).trans a4).trans a5), (by omega)⟩
 refine eM ?_
 refine wn c4 ?_
 refine aF fun n4 j5 => ?_
 refine aG ?_
 refine cS ?_
 refine hK3 _ _ ?_
 refine sk fun n5 d7 => ?_
 refine aC ?_
 refine wn d7 ?_
 refine aO ?_
 try simp only [xt]
 refine bR (bC rfl (gD rfl)) ?_
 obtain rfl : k = l.length := by omega
 exact ⟨_, _, rfl, c2.gr, by have h := St.own (i := 0) c2 rfl; rwa [List.take_length] at h⟩
end Go.Proofs.YtilgpdpooildcaaGreatDoor
