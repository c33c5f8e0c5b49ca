/- Rules, plain laws and walks: T4a T4b T4c P12 K1 K2 K3 -/
import Derived.Test.YtlimmmidfhpakaaGB2
import Derived.Test.YtlimmmidfhpakaaGB3
namespace Go.Proofs.Ytlimmmidfhpakaa
open Go.RowKit
set_option maxRecDepth 100000
set_option linter.unusedVariables false
set_option linter.unusedSimpArgs false
theorem cap_slice {w : World} {g n : Nat} {c : List Value} {T : TypeId} (h : w.heap[n]? = some (.cells c.toArray T (0, 0))) : w.shape? n = some (T, c.length) ∧ w.frozen? ⟨n, g, none⟩ = false := by
  simp [World.shape?, World.frozen?, h]
theorem overlapsPair {w : World} {vn g o la ca lb cb : Nat} {c1 c2 : List Value} {T1 T2 : TypeId} (h1 : w.heap[vn]? = some (.cells c1.toArray T1 (0, 0))) (h2 : w.heap[g]? = some (.cells c2.toArray T2 (0, 0))) (hc : c2.length ≠ 0) (hne : vn ≠ g) :
    (callFunc 43 #[.slice (some ⟨vn, 0, none⟩) la ca, .slice (some ⟨g, o, none⟩) lb cb]).run Try.prog w = .ok (.value (.bool false)) w := by
  rw [run_callFunc_extern Try.func43 (by kernel_rfl) (by kernel_rfl) (by kernel_rfl) (e := Extern.SlicesOverlaps.overlaps #[23, 23] #[4]) (by kernel_rfl),
    Lib.run_overlaps_apart w 23 4 36 Try.underlying23 2 (fun w => sizeof_36 w) ⟨vn, 0, none⟩ ⟨g, o, none⟩ la ca lb cb hne T1 T2 c1.length c2.length (cap_slice (g := 0) h1).1 (cap_slice (g := 0) h2).1 hc (cap_slice h1).2 (cap_slice h1).2]
  rfl
set_option maxHeartbeats 8000000 in
theorem insertEndPair {w0 w : World} {F0 F : Fz} {L0 : List Blk} {M0 : List RowP} {α : Type} {R : Fz → List Value → α → Prop} {hR : ∀ F F' x p, Le F F' → R F x p → R F' x p} {v : Value} {l : List α} {p : α} {vn : Nat} {cs : List Value} (one : ∀ F cs p, R F cs p → ∀ u ∈ cs, u.oneCell' = true)
    (S : St w0 F0 w F (⟨vn, cs, 36⟩ :: L0) (ownP 2 R hR 36 w0.heap.size v l :: M0)) (hcs : cs.length = 2) (hp : R F cs p) (hl : l.length ≤ 100000) :
    Calls Try.prog 29 #[v, .int .i64 (l.length : Nat), .slice (some ⟨vn, 0, none⟩) 1 1] w fun e w' => ∃ v', e = .returned v' ∧ St w0 F0 w' F L0 (ownP 2 R hR 36 w0.heap.size v' (l ++ [p]) :: M0) := by
 obtain ⟨a, c, rfl, hc1, hc2⟩ := (S.own (i := 0) rfl).shape
 unfold maxLen at hc2
 obtain ⟨i36, hi36, hz36, hs36, hb36⟩ := info_parts info_36
 go_enter Try.func29, Try.ntmps29
 refine wp_seq_k (fun K1 hK1 => region_wl ?_)
 refine do_ rfl (.slice none 0 0) (ex_assign _) ?_
 simp only [pS, pN, pA, pC, pZ]
 refine wl_nil (hK1 _ _ ?_)
 refine wp_seq_k (fun K2 hK2 => region_wl ?_)
 refine do_ rfl (.slice a l.length c) (ex_move _) ?_
 simp only [pS, pN, pA, pC, pZ]
 refine do_ rfl (.int .i64 ((l.length : Nat) : Int)) (ex_move _) ?_
 simp only [pS, pN, pA, pC, pZ]
 refine do_ rfl (.slice (if c = l.length then a else a.map (·.add (l.length * 2))) (l.length - l.length) (c - l.length)) (ex_slice (l := l.length) (h := l.length) (sz := 2) Try.underlying23 rfl (sizeof_36 _) (.inr ⟨_, rfl, rfl⟩) (.inl ⟨rfl, rfl⟩) (by omega) (by omega) (rfl)) ?_
 simp only [pS, pN, pA, pC, pZ]
 refine wl_nil (hK2 _ _ ?_)
 refine wp_seq_k (fun K3 hK3 => region_wl ?_)
 refine do_ rfl (.slice (some ⟨vn, 0, none⟩) 1 1) (ex_move _) ?_
 simp only [pS, pN, pA, pC, pZ]
 refine do_ rfl (.int .i64 1) (ex_len Try.underlying23 rfl) ?_
 simp only [pS, pN, pA, pC, pZ]
 refine do_ rfl (.int .i64 1) (ex_assign _) ?_
 simp only [pS, pN, pA, pC, pZ]
 refine wl_nil (hK3 _ _ ?_)
 refine wp_seq_k (fun K4 hK4 => ?_)
 refine wp_seq_k (fun K5 hK5 => region_wl ?_)
 refine do_ rfl (.int .i64 1) (ex_move _) ?_
 simp only [pS, pN, pA, pC, pZ]
 refine do_ rfl (.bool false) (ex_eql (b := false) rfl rfl (by decide)) ?_
 simp only [pS, pN, pA, pC, pZ]
 refine wl_nil (hK5 _ _ ?_)
 refine wp_cond_false rfl ?_
 refine wp_skip ?_
 refine hK4 _ _ ?_
 refine wp_seq_k (fun K6 hK6 => region_wl ?_)
 refine do_ rfl (.slice a l.length c) (ex_move _) ?_
 simp only [pS, pN, pA, pC, pZ]
 refine do_ rfl (.int .i64 ((l.length : Nat) : Int)) (ex_len Try.underlying23 rfl) ?_
 simp only [pS, pN, pA, pC, pZ]
 refine do_ rfl (.int .i64 ((l.length : Nat) : Int)) (ex_assign _) ?_
 simp only [pS, pN, pA, pC, pZ]
 refine wl_nil (hK6 _ _ ?_)
 refine wp_seq_k (fun K7 hK7 => ?_)
 refine wp_seq_k (fun K8 hK8 => region_wl ?_)
 refine do_ rfl (.int .i64 ((l.length : Nat) : Int)) (ex_move _) ?_
 simp only [pS, pN, pA, pC, pZ]
 refine do_ rfl (.int .i64 ((l.length : Nat) : Int)) (ex_move _) ?_
 simp only [pS, pN, pA, pC, pZ]
 refine do_ rfl (.bool true) (ex_eql (m := ((l.length : Nat) : Int)) (n := ((l.length : Nat) : Int)) (b := true) rfl rfl (beq_iff_eq.2 (rfl))) ?_
 simp only [pS, pN, pA, pC, pZ]
 refine wl_nil (hK8 _ _ ?_)
 refine wp_cond_true rfl ?_
 refine wp_seq_k (fun K9 hK9 => region_wl ?_)
 refine do_ rfl (.slice a l.length c) (ex_move _) ?_
 simp only [pS, pN, pA, pC, pZ]
 refine do_ rfl (.slice (some ⟨vn, 0, none⟩) 1 1) (ex_move _) ?_
 simp only [pS, pN, pA, pC, pZ]
 refine stPush (i := 0) (r := 0) (p := p) (cs := cs) S rfl i36 (.agg #[(.slice none 0 0), (.slice none 0 0)]) 48 Try.underlying23 hi36 hz36 hs36 hb36 rfl (by decide) rfl rfl rfl rfl hcs (one _ _ _ hp) (hp) (Nat.le_refl _) S.gr.below.size (by unfold maxLen; omega) (by omega) ?_
 intro v10 w11 S12 hn13
 simp only [pS, pN, pA, pC, pZ]
 have S12 := St.drop S12 (L' := (L0)) (.cons _ (List.Sublist.refl _))
 have S12 : St w0 F0 w11 F (L0) (ownP 2 R hR 36 w0.heap.size v10 (l ++ [p]) :: M0) := S12
 refine do_ rfl v10 (ex_assign _) ?_
 simp only [pS, pN, pA, pC, pZ]
 refine wl_nil (hK9 _ _ ?_)
 refine wp_ret ?_
 (try simp only [Exit.then, Exit.inBlock, ↓reduceIte, Nat.reduceEqDiff])
 refine bodyPost_ret (v := v10) ?_ rfl ?_
 ·exact res_t rfl rfl
 ·exact ⟨_, rfl, S12⟩
set_option maxHeartbeats 8000000 in
theorem insertMidPair {g cap i : Nat} {w0 w : World} {F0 F : Fz} {L0 : List Blk} {M0 : List RowP} {α : Type} {R : Fz → List Value → α → Prop} {hR : ∀ F F' x p, Le F F' → R F x p → R F' x p} {l : List α} {p : α} {vn : Nat} {cs : List Value} (one : ∀ F cs p, R F cs p → ∀ u ∈ cs, u.oneCell' = true)
    (S : St w0 F0 w F (⟨vn, cs, 36⟩ :: L0) (ownP 2 R hR 36 w0.heap.size (.slice (some ⟨g, 0, none⟩) l.length cap) l :: M0)) (hcs : cs.length = 2) (hp : R F cs p) (hl : l.length ≤ 100000) (hi : i < l.length) :
    Calls Try.prog 29 #[.slice (some ⟨g, 0, none⟩) l.length cap, .int .i64 (i : Nat), .slice (some ⟨vn, 0, none⟩) 1 1] w fun e w' => ∃ v', e = .returned v' ∧ St w0 F0 w' F L0 (ownP 2 R hR 36 w0.heap.size v' (l.take i ++ p :: l.drop i) :: M0) := by
 obtain ⟨i36, hi36, hz36, hs36, hb36⟩ := info_parts info_36
 have hvg : vn ≠ g := fun e => S.rb _ (List.mem_cons_self ..) _ (List.mem_cons_self ..) (congrArg some e.symm)
 go_enter Try.func29, Try.ntmps29
 obtain ⟨c1, el2, S3, hn9, hcp10, hmx11, hcl4, htk5, hall6, hlen7, hbg8⟩ := St.rowBlk (r := 0) S rfl
 have S3 : St w0 F0 w F (⟨g, c1, 36⟩ :: ⟨vn, cs, 36⟩ :: L0) (M0) := S3
 unfold maxLen at hmx11
 refine wp_seq_k (fun K12 hK12 => region_wl ?_)
 refine do_ rfl (.slice none 0 0) (ex_assign _) ?_
 simp only [pS, pN, pA, pC, pZ]
 refine wl_nil (hK12 _ _ ?_)
 refine wp_seq_k (fun K13 hK13 => region_wl ?_)
 refine do_ rfl (.slice (some ⟨g, 0, none⟩) l.length cap) (ex_move _) ?_
 simp only [pS, pN, pA, pC, pZ]
 refine do_ rfl (.int .i64 ((i : Nat) : Int)) (ex_move _) ?_
 simp only [pS, pN, pA, pC, pZ]
 refine do_ rfl (.slice (some ⟨g, i * 2, none⟩) (l.length - i) (cap - i)) (ex_slice (l := i) (h := l.length) (sz := 2) Try.underlying23 rfl (sizeof_36 _) (.inr ⟨_, rfl, rfl⟩) (.inl ⟨rfl, rfl⟩) (by omega) (by omega) (slice_at (by omega) rfl rfl (by omega))) ?_
 simp only [pS, pN, pA, pC, pZ]
 refine wl_nil (hK13 _ _ ?_)
 refine wp_seq_k (fun K14 hK14 => region_wl ?_)
 refine do_ rfl (.slice (some ⟨vn, 0, none⟩) 1 1) (ex_move _) ?_
 simp only [pS, pN, pA, pC, pZ]
 refine do_ rfl (.int .i64 1) (ex_len Try.underlying23 rfl) ?_
 simp only [pS, pN, pA, pC, pZ]
 refine do_ rfl (.int .i64 1) (ex_assign _) ?_
 simp only [pS, pN, pA, pC, pZ]
 refine wl_nil (hK14 _ _ ?_)
 refine wp_seq_k (fun K15 hK15 => ?_)
 refine wp_seq_k (fun K16 hK16 => region_wl ?_)
 refine do_ rfl (.int .i64 1) (ex_move _) ?_
 simp only [pS, pN, pA, pC, pZ]
 refine do_ rfl (.bool false) (ex_eql (b := false) rfl rfl (by decide)) ?_
 simp only [pS, pN, pA, pC, pZ]
 refine wl_nil (hK16 _ _ ?_)
 refine wp_cond_false rfl ?_
 refine wp_skip ?_
 refine hK15 _ _ ?_
 refine wp_seq_k (fun K17 hK17 => region_wl ?_)
 refine do_ rfl (.slice (some ⟨g, 0, none⟩) l.length cap) (ex_move _) ?_
 simp only [pS, pN, pA, pC, pZ]
 refine do_ rfl (.int .i64 ((l.length : Nat) : Int)) (ex_len Try.underlying23 rfl) ?_
 simp only [pS, pN, pA, pC, pZ]
 refine do_ rfl (.int .i64 ((l.length : Nat) : Int)) (ex_assign _) ?_
 simp only [pS, pN, pA, pC, pZ]
 refine wl_nil (hK17 _ _ ?_)
 refine wp_seq_k (fun K18 hK18 => ?_)
 refine wp_seq_k (fun K19 hK19 => region_wl ?_)
 refine do_ rfl (.int .i64 ((i : Nat) : Int)) (ex_move _) ?_
 simp only [pS, pN, pA, pC, pZ]
 refine do_ rfl (.int .i64 ((l.length : Nat) : Int)) (ex_move _) ?_
 simp only [pS, pN, pA, pC, pZ]
 refine do_ rfl (.bool false) (ex_eql (m := ((i : Nat) : Int)) (n := ((l.length : Nat) : Int)) (b := false) rfl rfl (beq_eq_false_iff_ne.2 (by omega))) ?_
 simp only [pS, pN, pA, pC, pZ]
 refine wl_nil (hK19 _ _ ?_)
 refine wp_cond_false rfl ?_
 refine wp_skip ?_
 refine hK18 _ _ ?_
 refine wp_seq_k (fun K20 hK20 => ?_)
 refine wp_seq_k (fun K21 hK21 => region_wl ?_)
 refine do_ rfl (.int .i64 ((l.length : Nat) : Int)) (ex_move _) ?_
 simp only [pS, pN, pA, pC, pZ]
 refine do_ rfl (.int .i64 1) (ex_move _) ?_
 simp only [pS, pN, pA, pC, pZ]
 refine do_ rfl (.int .i64 (((l.length + 1) : Nat) : Int)) (ex_add (m := ((l.length : Nat) : Int)) (n := (1 : Int)) (r := (((l.length + 1) : Nat) : Int)) rfl rfl (by omega) (by omega) (by omega)) ?_
 simp only [pS, pN, pA, pC, pZ]
 refine do_ rfl (.slice (some ⟨g, 0, none⟩) l.length cap) (ex_move _) ?_
 simp only [pS, pN, pA, pC, pZ]
 refine do_ rfl (.int .i64 ((cap : Nat) : Int)) (ex_cap Try.underlying23 rfl) ?_
 simp only [pS, pN, pA, pC, pZ]
 by_cases hc31 : cap < (l.length + 1)
 ·refine do_ rfl (.bool true) (ex_gtr (m := (((l.length + 1) : Nat) : Int)) (n := ((cap : Nat) : Int)) (b := true) rfl rfl (decide_eq_true (by omega))) ?_
  simp only [pS, pN, pA, pC, pZ]
  refine wl_nil (hK21 _ _ ?_)
  refine wp_cond_true rfl ?_
  refine wp_seq_k (fun K22 hK22 => region_wl ?_)
  refine do_ rfl (.slice (some ⟨g, 0, none⟩) l.length cap) (ex_move _) ?_
  simp only [pS, pN, pA, pC, pZ]
  refine do_ rfl (.int .i64 ((i : Nat) : Int)) (ex_move _) ?_
  simp only [pS, pN, pA, pC, pZ]
  refine do_ rfl (.slice (some ⟨g, 0, none⟩) i cap) (ex_slice (l := 0) (h := i) (sz := 2) Try.underlying23 rfl (sizeof_36 _) (.inl ⟨rfl, rfl⟩) (.inr ⟨_, rfl, rfl⟩) (by omega) (by omega) (slice_zero)) ?_
  simp only [pS, pN, pA, pC, pZ]
  refine do_ rfl (.int .i64 ((l.length : Nat) : Int)) (ex_move _) ?_
  simp only [pS, pN, pA, pC, pZ]
  refine do_ rfl (.int .i64 1) (ex_move _) ?_
  simp only [pS, pN, pA, pC, pZ]
  refine do_ rfl (.int .i64 (((l.length + 1) : Nat) : Int)) (ex_add (m := ((l.length : Nat) : Int)) (n := (1 : Int)) (r := (((l.length + 1) : Nat) : Int)) rfl rfl (by omega) (by omega) (by omega)) ?_
  simp only [pS, pN, pA, pC, pZ]
  refine do_ rfl (.int .i64 ((i : Nat) : Int)) (ex_move _) ?_
  simp only [pS, pN, pA, pC, pZ]
  refine do_ rfl (.int .i64 ((((l.length + 1) - i) : Nat) : Int)) (ex_sub (m := (((l.length + 1) : Nat) : Int)) (n := ((i : Nat) : Int)) (r := ((((l.length + 1) - i) : Nat) : Int)) rfl rfl (by omega) (by omega) (by omega)) ?_
  simp only [pS, pN, pA, pC, pZ]
  refine stGrow (k := 2) (n := i) (m := l.length + 1 - i) (l.length + 1) (c1.take (i * 2)) S3 rfl i36 (.agg #[(.slice none 0 0), (.slice none 0 0)]) 48 Try.underlying23 Try.underlying3 hi36 hz36 hs36 hb36 rfl (by decide) rfl rfl (by omega) (by rw [List.length_take]; omega) (S3.srcT (i := 0) rfl _) (by omega) (by omega) (by unfold maxLen; omega) (by omega) ?_
  intro g25 cp26 nw27 mo28 w23 h29 h30 h31 h32 S24
  unfold maxLen at h30
  simp only [pS, pN, pA, pC, pZ]
  have S24 : St w0 F0 w23 F (⟨g25, (c1.take (i * 2) ++ nw27 ++ mo28), 36⟩ :: ⟨g, c1, 36⟩ :: ⟨vn, cs, 36⟩ :: L0) (M0) := S24
  refine do_ rfl (.slice (some ⟨g25, 0, none⟩) (l.length + 1) cp26) (ex_assign _) ?_
  simp only [pS, pN, pA, pC, pZ]
  refine wl_nil (hK22 _ _ ?_)
  refine wp_seq_k (fun K33 hK33 => region_wl ?_)
  refine do_ rfl (.slice (some ⟨g25, 0, none⟩) (l.length + 1) cp26) (ex_move _) ?_
  simp only [pS, pN, pA, pC, pZ]
  refine do_ rfl (.int .i64 ((i : Nat) : Int)) (ex_move _) ?_
  simp only [pS, pN, pA, pC, pZ]
  refine do_ rfl (.slice (some ⟨g25, i * 2, none⟩) ((l.length + 1) - i) (cp26 - i)) (ex_slice (l := i) (h := (l.length + 1)) (sz := 2) Try.underlying23 rfl (sizeof_36 _) (.inr ⟨_, rfl, rfl⟩) (.inl ⟨rfl, rfl⟩) (by omega) (by omega) (slice_at (by omega) rfl rfl (by omega))) ?_
  simp only [pS, pN, pA, pC, pZ]
  refine do_ rfl (.slice (some ⟨vn, 0, none⟩) 1 1) (ex_move _) ?_
  simp only [pS, pN, pA, pC, pZ]
  refine stCopy (i := 0) (j := i * 2) 1 cs S24 rfl Try.underlying23 size_36 rfl rfl rfl (Nat.min_eq_left (by omega)) (hcs) (by rw [h32, hcs]; omega) (S24.src0 (i := 2) rfl) (one _ _ _ hp) (fun w34 S35 => ?_)
  simp only [pS, pN, pA, pC, pZ]
  have S35 : St w0 F0 w34 F (⟨g25, (splice (c1.take (i * 2) ++ nw27 ++ mo28) (i * 2) cs), 36⟩ :: ⟨g, c1, 36⟩ :: ⟨vn, cs, 36⟩ :: L0) (M0) := S35
  refine wl_nil (hK33 _ _ ?_)
  refine wp_seq_k (fun K36 hK36 => ?_)
  refine region_gw F 8 [] (by kernel_rfl) (by kernel_rfl) ?_
  simp only [List.take_succ_cons, List.take_zero]
  refine gw_pure rfl rfl (.slice (some ⟨g25, 0, none⟩) (l.length + 1) cp26) (fun w37 hCw37 => pureAt_of (ex_move _)) ?_
  simp only [pS, pN, pA, pC, pZ]
  refine gw_pure rfl rfl (.int .i64 ((i : Nat) : Int)) (fun w37 hCw37 => pureAt_of (ex_move _)) ?_
  simp only [pS, pN, pA, pC, pZ]
  refine gw_pure rfl rfl (.int .i64 1) (fun w37 hCw37 => pureAt_of (ex_move _)) ?_
  simp only [pS, pN, pA, pC, pZ]
  refine gw_pure rfl rfl (.int .i64 (((i + 1) : Nat) : Int)) (fun w37 hCw37 => pureAt_of (ex_add (m := ((i : Nat) : Int)) (n := (1 : Int)) (r := (((i + 1) : Nat) : Int)) rfl rfl (by omega) (by omega) (by omega))) ?_
  simp only [pS, pN, pA, pC, pZ]
  refine gw_pure rfl rfl (.slice (some ⟨g25, (i + 1) * 2, none⟩) ((l.length + 1) - (i + 1)) (cp26 - (i + 1))) (fun w37 hCw37 => pureAt_of (ex_slice (l := (i + 1)) (h := (l.length + 1)) (sz := 2) Try.underlying23 rfl (sizeof_36 _) (.inr ⟨_, rfl, rfl⟩) (.inl ⟨rfl, rfl⟩) (by omega) (by omega) (slice_at (by omega) rfl rfl (by omega)))) ?_
  simp only [pS, pN, pA, pC, pZ]
  refine gw_pure rfl rfl (.slice (some ⟨g, 0, none⟩) l.length cap) (fun w37 hCw37 => pureAt_of (ex_move _)) ?_
  simp only [pS, pN, pA, pC, pZ]
  refine gw_pure rfl rfl (.int .i64 ((i : Nat) : Int)) (fun w37 hCw37 => pureAt_of (ex_move _)) ?_
  simp only [pS, pN, pA, pC, pZ]
  refine gw_pure rfl rfl (.slice (some ⟨g, i * 2, none⟩) (l.length - i) (cap - i)) (fun w37 hCw37 => pureAt_of (ex_slice (l := i) (h := l.length) (sz := 2) Try.underlying23 rfl (sizeof_36 _) (.inr ⟨_, rfl, rfl⟩) (.inl ⟨rfl, rfl⟩) (by omega) (by omega) (slice_at (by omega) rfl rfl (by omega)))) ?_
  simp only [pS, pN, pA, pC, pZ]
  refine gw_nil ?_
  intro w38 hC40 hF41
  clear hF41
  have S39 := St.tells S35 hC40
  simp only [List.drop_succ_cons, List.drop_zero]
  have hml : ((c1.drop (i * 2)).take ((l.length - i) * 2)).length = (l.length - i) * 2 := by rw [List.length_take, List.length_drop, hcl4]; omega
  refine stCopy (i := 0) (j := (i + 1) * 2) (l.length - i) ((c1.drop (i * 2)).take ((l.length - i) * 2)) S39 rfl Try.underlying23 size_36 rfl rfl rfl (Nat.min_eq_left (by omega)) (hml) (by rw [splice_len (by rw [h32, hcs]; omega), h32, hml]; omega) (S39.src (i := 1) rfl _ _) (one_mid one hall6 htk5 i) (fun w42 S43 => ?_)
  simp only [pS, pN, pA, pC, pZ]
  have S43 : St w0 F0 w42 F (⟨g25, (splice (splice (c1.take (i * 2) ++ nw27 ++ mo28) (i * 2) cs) ((i + 1) * 2) ((c1.drop (i * 2)).take ((l.length - i) * 2))), 36⟩ :: ⟨g, c1, 36⟩ :: ⟨vn, cs, 36⟩ :: L0) (M0) := S43
  refine wl_nil (hK36 _ _ ?_)
  refine wp_seq_k (fun K44 hK44 => region_wl ?_)
  refine do_ rfl (.slice (some ⟨g25, 0, none⟩) (l.length + 1) cp26) (ex_move _) ?_
  simp only [pS, pN, pA, pC, pZ]
  refine do_ rfl (.slice (some ⟨g25, 0, none⟩) (l.length + 1) cp26) (ex_assign _) ?_
  simp only [pS, pN, pA, pC, pZ]
  refine wl_nil (hK44 _ _ ?_)
  refine wp_ret ?_
  (try simp only [Exit.then, Exit.inBlock, ↓reduceIte, Nat.reduceEqDiff])
  refine bodyPost_ret (v := (.slice (some ⟨g25, 0, none⟩) (l.length + 1) cp26)) ?_ rfl ?_
  ·exact res_t rfl rfl
  ·have hdrop := St.drop S43 (L' := ⟨g25, splice (splice (c1.take (i * 2) ++ nw27 ++ mo28) (i * 2) cs) ((i + 1) * 2) ((c1.drop (i * 2)).take ((l.length - i) * 2)), 36⟩ :: L0) (.cons_cons _ (.cons _ (.cons _ (List.Sublist.refl _))))
   have hll : (l.take i ++ p :: l.drop i).length = l.length + 1 := by rw [List.length_append, List.length_cons, List.length_take, List.length_drop]; omega
   have hrow := St.blkRow (k := 2) (base := w0.heap.size) (R := R) (hR := hR) (l := l.take i ++ p :: l.drop i) (cap := cp26) hdrop (el := el2.take i ++ cs :: el2.drop i) (by rw [hll]; exact (cells_grow hlen7 htk5 (by omega) (by rw [hcl4]; omega) h31 hcs)) (allR_insert hall6 i hp) (len_insert hlen7 i hcs) (by rw [splice_len (by rw [splice_len (by rw [h32, hcs]; omega), h32, hml]; omega), splice_len (by rw [h32, hcs]; omega), h32]) (by omega) (by unfold maxLen; omega) (hdrop.blk _ (List.mem_cons_self ..)).2.2
   rw [hll] at hrow
   exact ⟨_, rfl, hrow⟩
 ·refine do_ rfl (.bool false) (ex_gtr (m := (((l.length + 1) : Nat) : Int)) (n := ((cap : Nat) : Int)) (b := false) rfl rfl (decide_eq_false (by omega))) ?_
  simp only [pS, pN, pA, pC, pZ]
  refine wl_nil (hK21 _ _ ?_)
  refine wp_cond_false rfl ?_
  refine wp_skip ?_
  refine hK20 _ _ ?_
  refine wp_seq_k (fun K45 hK45 => region_wl ?_)
  refine do_ rfl (.slice (some ⟨g, 0, none⟩) l.length cap) (ex_move _) ?_
  simp only [pS, pN, pA, pC, pZ]
  refine do_ rfl (.int .i64 ((l.length : Nat) : Int)) (ex_move _) ?_
  simp only [pS, pN, pA, pC, pZ]
  refine do_ rfl (.int .i64 1) (ex_move _) ?_
  simp only [pS, pN, pA, pC, pZ]
  refine do_ rfl (.int .i64 (((l.length + 1) : Nat) : Int)) (ex_add (m := ((l.length : Nat) : Int)) (n := (1 : Int)) (r := (((l.length + 1) : Nat) : Int)) rfl rfl (by omega) (by omega) (by omega)) ?_
  simp only [pS, pN, pA, pC, pZ]
  refine do_ rfl (.slice (some ⟨g, 0, none⟩) (l.length + 1) cap) (ex_slice (l := 0) (h := (l.length + 1)) (sz := 2) Try.underlying23 rfl (sizeof_36 _) (.inl ⟨rfl, rfl⟩) (.inr ⟨_, rfl, rfl⟩) (by omega) (by omega) (slice_zero)) ?_
  simp only [pS, pN, pA, pC, pZ]
  refine do_ rfl (.slice (some ⟨g, 0, none⟩) (l.length + 1) cap) (ex_assign _) ?_
  simp only [pS, pN, pA, pC, pZ]
  refine wl_nil (hK45 _ _ ?_)
  refine wp_seq_k (fun K46 hK46 => ?_)
  refine wp_seq_k (fun K47 hK47 => region_wl ?_)
  refine do_ rfl (.slice (some ⟨vn, 0, none⟩) 1 1) (ex_move _) ?_
  simp only [pS, pN, pA, pC, pZ]
  refine do_ rfl (.slice (some ⟨g, 0, none⟩) (l.length + 1) cap) (ex_move _) ?_
  simp only [pS, pN, pA, pC, pZ]
  refine do_ rfl (.int .i64 ((i : Nat) : Int)) (ex_move _) ?_
  simp only [pS, pN, pA, pC, pZ]
  refine do_ rfl (.int .i64 1) (ex_move _) ?_
  simp only [pS, pN, pA, pC, pZ]
  refine do_ rfl (.int .i64 (((i + 1) : Nat) : Int)) (ex_add (m := ((i : Nat) : Int)) (n := (1 : Int)) (r := (((i + 1) : Nat) : Int)) rfl rfl (by omega) (by omega) (by omega)) ?_
  simp only [pS, pN, pA, pC, pZ]
  refine do_ rfl (.slice (some ⟨g, (i + 1) * 2, none⟩) ((l.length + 1) - (i + 1)) (cap - (i + 1))) (ex_slice (l := (i + 1)) (h := (l.length + 1)) (sz := 2) Try.underlying23 rfl (sizeof_36 _) (.inr ⟨_, rfl, rfl⟩) (.inl ⟨rfl, rfl⟩) (by omega) (by omega) (slice_at (by omega) rfl rfl (by omega))) ?_
  simp only [pS, pN, pA, pC, pZ]
  refine do_ rfl (.bool false) (ex_fnv (vs := #[(.slice (some ⟨vn, 0, none⟩) 1 1), (.slice (some ⟨g, (i + 1) * 2, none⟩) ((l.length + 1) - (i + 1)) (cap - (i + 1)))]) (map2 rfl rfl) rfl (overlapsPair (S3.blk ⟨vn, cs, 36⟩ (by simp)).1 (S3.blk ⟨g, c1, 36⟩ (by simp)).1 (by rw [hcl4]; omega) hvg)) ?_
  simp only [pS, pN, pA, pC, pZ]
  refine do_ rfl (.bool true) (ex_not (b := false) rfl rfl) ?_
  simp only [pS, pN, pA, pC, pZ]
  refine wl_nil (hK47 _ _ ?_)
  refine wp_cond_true rfl ?_
  refine wp_seq_k (fun K48 hK48 => ?_)
  refine region_gw F 8 [] (by kernel_rfl) (by kernel_rfl) ?_
  simp only [List.take_succ_cons, List.take_zero]
  refine gw_pure rfl rfl (.slice (some ⟨g, 0, none⟩) (l.length + 1) cap) (fun w49 hCw49 => pureAt_of (ex_move _)) ?_
  simp only [pS, pN, pA, pC, pZ]
  refine gw_pure rfl rfl (.int .i64 ((i : Nat) : Int)) (fun w49 hCw49 => pureAt_of (ex_move _)) ?_
  simp only [pS, pN, pA, pC, pZ]
  refine gw_pure rfl rfl (.int .i64 1) (fun w49 hCw49 => pureAt_of (ex_move _)) ?_
  simp only [pS, pN, pA, pC, pZ]
  refine gw_pure rfl rfl (.int .i64 (((i + 1) : Nat) : Int)) (fun w49 hCw49 => pureAt_of (ex_add (m := ((i : Nat) : Int)) (n := (1 : Int)) (r := (((i + 1) : Nat) : Int)) rfl rfl (by omega) (by omega) (by omega))) ?_
  simp only [pS, pN, pA, pC, pZ]
  refine gw_pure rfl rfl (.slice (some ⟨g, (i + 1) * 2, none⟩) ((l.length + 1) - (i + 1)) (cap - (i + 1))) (fun w49 hCw49 => pureAt_of (ex_slice (l := (i + 1)) (h := (l.length + 1)) (sz := 2) Try.underlying23 rfl (sizeof_36 _) (.inr ⟨_, rfl, rfl⟩) (.inl ⟨rfl, rfl⟩) (by omega) (by omega) (slice_at (by omega) rfl rfl (by omega)))) ?_
  simp only [pS, pN, pA, pC, pZ]
  refine gw_pure rfl rfl (.slice (some ⟨g, 0, none⟩) (l.length + 1) cap) (fun w49 hCw49 => pureAt_of (ex_move _)) ?_
  simp only [pS, pN, pA, pC, pZ]
  refine gw_pure rfl rfl (.int .i64 ((i : Nat) : Int)) (fun w49 hCw49 => pureAt_of (ex_move _)) ?_
  simp only [pS, pN, pA, pC, pZ]
  refine gw_pure rfl rfl (.slice (some ⟨g, i * 2, none⟩) ((l.length + 1) - i) (cap - i)) (fun w49 hCw49 => pureAt_of (ex_slice (l := i) (h := (l.length + 1)) (sz := 2) Try.underlying23 rfl (sizeof_36 _) (.inr ⟨_, rfl, rfl⟩) (.inl ⟨rfl, rfl⟩) (by omega) (by omega) (slice_at (by omega) rfl rfl (by omega)))) ?_
  simp only [pS, pN, pA, pC, pZ]
  refine gw_nil ?_
  intro w50 hC52 hF53
  clear hF53
  have S51 := St.tells S3 hC52
  simp only [List.drop_succ_cons, List.drop_zero]
  have hml : ((c1.drop (i * 2)).take ((l.length - i) * 2)).length = (l.length - i) * 2 := by rw [List.length_take, List.length_drop, hcl4]; omega
  refine stCopy (i := 0) (j := (i + 1) * 2) (l.length - i) ((c1.drop (i * 2)).take ((l.length - i) * 2)) S51 rfl Try.underlying23 size_36 rfl rfl rfl ((Nat.min_eq_right (by omega)).trans (by omega)) (hml) (by rw [hcl4, hml]; omega) (S51.src (i := 0) rfl _ _) (one_mid one hall6 htk5 i) (fun w54 S55 => ?_)
  simp only [pS, pN, pA, pC, pZ]
  have S55 : St w0 F0 w54 F (⟨g, (splice c1 ((i + 1) * 2) ((c1.drop (i * 2)).take ((l.length - i) * 2))), 36⟩ :: ⟨vn, cs, 36⟩ :: L0) (M0) := S55
  refine wl_nil (hK48 _ _ ?_)
  refine wp_seq_k (fun K56 hK56 => region_wl ?_)
  refine do_ rfl (.slice (some ⟨g, 0, none⟩) (l.length + 1) cap) (ex_move _) ?_
  simp only [pS, pN, pA, pC, pZ]
  refine do_ rfl (.int .i64 ((i : Nat) : Int)) (ex_move _) ?_
  simp only [pS, pN, pA, pC, pZ]
  refine do_ rfl (.slice (some ⟨g, i * 2, none⟩) ((l.length + 1) - i) (cap - i)) (ex_slice (l := i) (h := (l.length + 1)) (sz := 2) Try.underlying23 rfl (sizeof_36 _) (.inr ⟨_, rfl, rfl⟩) (.inl ⟨rfl, rfl⟩) (by omega) (by omega) (slice_at (by omega) rfl rfl (by omega))) ?_
  simp only [pS, pN, pA, pC, pZ]
  refine do_ rfl (.slice (some ⟨vn, 0, none⟩) 1 1) (ex_move _) ?_
  simp only [pS, pN, pA, pC, pZ]
  refine stCopy (i := 0) (j := i * 2) 1 cs S55 rfl Try.underlying23 size_36 rfl rfl rfl (Nat.min_eq_left (by omega)) (hcs) (by rw [splice_len (by rw [hcl4, hml]; omega), hcl4, hcs]; omega) (S55.src0 (i := 1) rfl) (one _ _ _ hp) (fun w57 S58 => ?_)
  simp only [pS, pN, pA, pC, pZ]
  have S58 : St w0 F0 w57 F (⟨g, (splice (splice c1 ((i + 1) * 2) ((c1.drop (i * 2)).take ((l.length - i) * 2))) (i * 2) cs), 36⟩ :: ⟨vn, cs, 36⟩ :: L0) (M0) := S58
  refine wl_nil (hK56 _ _ ?_)
  refine wp_seq_k (fun K59 hK59 => region_wl ?_)
  refine do_ rfl (.slice (some ⟨g, 0, none⟩) (l.length + 1) cap) (ex_move _) ?_
  simp only [pS, pN, pA, pC, pZ]
  refine do_ rfl (.slice (some ⟨g, 0, none⟩) (l.length + 1) cap) (ex_assign _) ?_
  simp only [pS, pN, pA, pC, pZ]
  refine wl_nil (hK59 _ _ ?_)
  refine wp_ret ?_
  (try simp only [Exit.then, Exit.inBlock, ↓reduceIte, Nat.reduceEqDiff])
  refine bodyPost_ret (v := (.slice (some ⟨g, 0, none⟩) (l.length + 1) cap)) ?_ rfl ?_
  ·exact res_t rfl rfl
  ·have hdrop := St.drop S58 (L' := ⟨g, splice (splice c1 ((i + 1) * 2) ((c1.drop (i * 2)).take ((l.length - i) * 2))) (i * 2) cs, 36⟩ :: L0) (.cons_cons _ (.cons _ (List.Sublist.refl _)))
   have hll : (l.take i ++ p :: l.drop i).length = l.length + 1 := by rw [List.length_append, List.length_cons, List.length_take, List.length_drop]; omega
   have hrow := St.blkRow (k := 2) (base := w0.heap.size) (R := R) (hR := hR) (l := l.take i ++ p :: l.drop i) (cap := cap) hdrop (el := el2.take i ++ cs :: el2.drop i) (by rw [hll]; exact (cells_ins hlen7 htk5 (by omega) (by rw [hcl4]; omega) hcs)) (allR_insert hall6 i hp) (len_insert hlen7 i hcs) (by rw [splice_len (by rw [splice_len (by rw [hcl4, hml]; omega), hcl4, hcs]; omega), splice_len (by rw [hcl4, hml]; omega), hcl4]) (by omega) (by unfold maxLen; omega) (hdrop.blk _ (List.mem_cons_self ..)).2.2
   rw [hll] at hrow
   exact ⟨_, rfl, hrow⟩
theorem insertPair {i : Nat} {w0 w : World} {F0 F : Fz} {L0 : List Blk} {M0 : List RowP} {α : Type} {R : Fz → List Value → α → Prop} {hR : ∀ F F' x p, Le F F' → R F x p → R F' x p} {v : Value} {l : List α} {p : α} {vn : Nat} {cs : List Value} (one : ∀ F cs p, R F cs p → ∀ u ∈ cs, u.oneCell' = true)
    (S : St w0 F0 w F (⟨vn, cs, 36⟩ :: L0) (ownP 2 R hR 36 w0.heap.size v l :: M0)) (hcs : cs.length = 2) (hp : R F cs p) (hl : l.length ≤ 100000) (hi : i ≤ l.length) :
    Calls Try.prog 29 #[v, .int .i64 (i : Nat), .slice (some ⟨vn, 0, none⟩) 1 1] w fun e w' => ∃ v', e = .returned v' ∧ St w0 F0 w' F L0 (ownP 2 R hR 36 w0.heap.size v' (l.take i ++ p :: l.drop i) :: M0) := by
  rcases Nat.lt_or_ge i l.length with h | h
  · obtain ⟨g, cap, rfl, _⟩ := (S.own (i := 0) rfl).form (by omega)
    exact insertMidPair one S hcs hp hl h
  · obtain rfl : i = l.length := by omega
    have := insertEndPair one S hcs hp hl
    rw [List.take_length, List.drop_length]
    exact this
set_option maxHeartbeats 8000000 in
theorem deleteMidPair {g cap i : Nat} {w0 w : World} {F0 F : Fz} {L0 : List Blk} {M0 : List RowP} {α : Type} {R : Fz → List Value → α → Prop} {hR : ∀ F F' x p, Le F F' → R F x p → R F' x p} {l : List α} (one : ∀ F cs p, R F cs p → ∀ u ∈ cs, u.oneCell' = true)
    (S : St w0 F0 w F L0 (ownP 2 R hR 36 w0.heap.size (.slice (some ⟨g, 0, none⟩) l.length cap) l :: M0)) (hl : l.length ≤ 100000) (hi : i < l.length) :
    Calls Try.prog 26 #[.slice (some ⟨g, 0, none⟩) l.length cap, .int .i64 (i : Nat), .int .i64 ((i + 1 : Nat) : Int)] w fun e w' => ∃ v', e = .returned v' ∧ St w0 F0 w' F L0 (ownP 2 R hR 36 w0.heap.size v' (l.take i ++ l.drop (i + 1)) :: M0) := by
 obtain ⟨i36, hi36, hz36, hs36, hb36⟩ := info_parts info_36
 go_enter Try.func26, Try.ntmps26
 obtain ⟨c1, el2, S3, hn9, hcp10, hmx11, hcl4, htk5, hall6, hlen7, hbg8⟩ := St.rowBlk (r := 0) S rfl
 have S3 : St w0 F0 w F (⟨g, c1, 36⟩ :: L0) (M0) := S3
 unfold maxLen at hmx11
 refine wp_seq_k (fun K12 hK12 => region_wl ?_)
 refine do_ rfl (.slice none 0 0) (ex_assign _) ?_
 simp only [pS, pN, pA, pC, pZ]
 refine wl_nil (hK12 _ _ ?_)
 refine wp_seq_k (fun K13 hK13 => region_wl ?_)
 refine do_ rfl (.slice (some ⟨g, 0, none⟩) l.length cap) (ex_move _) ?_
 simp only [pS, pN, pA, pC, pZ]
 refine do_ rfl (.int .i64 ((i : Nat) : Int)) (ex_move _) ?_
 simp only [pS, pN, pA, pC, pZ]
 refine do_ rfl (.int .i64 (((i + 1) : Nat) : Int)) (ex_move _) ?_
 simp only [pS, pN, pA, pC, pZ]
 refine do_ rfl (.slice (some ⟨g, 0, none⟩) l.length cap) (ex_move _) ?_
 simp only [pS, pN, pA, pC, pZ]
 refine do_ rfl (.int .i64 ((l.length : Nat) : Int)) (ex_len Try.underlying23 rfl) ?_
 simp only [pS, pN, pA, pC, pZ]
 refine do_ rfl (.slice (if l.length = i then ((some ⟨g, 0, none⟩) : Option Addr) else ((some ⟨g, 0, none⟩) : Option Addr).map (fun q => Addr.add q (i * 2))) ((i + 1) - i) (l.length - i)) (ex_slice3 (l := i) (h := (i + 1)) (m := l.length) (sz := 2) Try.underlying23 rfl (sizeof_36 _) rfl rfl rfl (by omega) (by omega) (by omega) rfl) ?_
 simp only [pS, pN, pA, pC, pZ]
 refine wl_nil (hK13 _ _ ?_)
 refine wp_seq_k (fun K14 hK14 => ?_)
 refine wp_seq_k (fun K15 hK15 => region_wl ?_)
 refine do_ rfl (.int .i64 ((i : Nat) : Int)) (ex_move _) ?_
 simp only [pS, pN, pA, pC, pZ]
 refine do_ rfl (.int .i64 (((i + 1) : Nat) : Int)) (ex_move _) ?_
 simp only [pS, pN, pA, pC, pZ]
 refine do_ rfl (.bool false) (ex_eql (m := ((i : Nat) : Int)) (n := (((i + 1) : Nat) : Int)) (b := false) rfl rfl (beq_eq_false_iff_ne.2 (by omega))) ?_
 simp only [pS, pN, pA, pC, pZ]
 refine wl_nil (hK15 _ _ ?_)
 refine wp_cond_false rfl ?_
 refine wp_skip ?_
 refine hK14 _ _ ?_
 refine wp_seq_k (fun K16 hK16 => region_wl ?_)
 refine do_ rfl (.slice (some ⟨g, 0, none⟩) l.length cap) (ex_move _) ?_
 simp only [pS, pN, pA, pC, pZ]
 refine do_ rfl (.int .i64 ((l.length : Nat) : Int)) (ex_len Try.underlying23 rfl) ?_
 simp only [pS, pN, pA, pC, pZ]
 refine do_ rfl (.int .i64 ((l.length : Nat) : Int)) (ex_assign _) ?_
 simp only [pS, pN, pA, pC, pZ]
 refine wl_nil (hK16 _ _ ?_)
 refine wp_seq_k (fun K17 hK17 => ?_)
 refine region_gw F 6 [] (by kernel_rfl) (by kernel_rfl) ?_
 simp only [List.take_succ_cons, List.take_zero]
 refine gw_pure rfl rfl (.slice (some ⟨g, 0, none⟩) l.length cap) (fun w18 hCw18 => pureAt_of (ex_move _)) ?_
 simp only [pS, pN, pA, pC, pZ]
 refine gw_pure rfl rfl (.int .i64 ((i : Nat) : Int)) (fun w18 hCw18 => pureAt_of (ex_move _)) ?_
 simp only [pS, pN, pA, pC, pZ]
 refine gw_pure rfl rfl (.slice (some ⟨g, 0, none⟩) i cap) (fun w18 hCw18 => pureAt_of (ex_slice (l := 0) (h := i) (sz := 2) Try.underlying23 rfl (sizeof_36 _) (.inl ⟨rfl, rfl⟩) (.inr ⟨_, rfl, rfl⟩) (by omega) (by omega) (slice_zero))) ?_
 simp only [pS, pN, pA, pC, pZ]
 refine gw_pure rfl rfl (.slice (some ⟨g, 0, none⟩) l.length cap) (fun w18 hCw18 => pureAt_of (ex_move _)) ?_
 simp only [pS, pN, pA, pC, pZ]
 refine gw_pure rfl rfl (.int .i64 (((i + 1) : Nat) : Int)) (fun w18 hCw18 => pureAt_of (ex_move _)) ?_
 simp only [pS, pN, pA, pC, pZ]
 refine gw_pure rfl rfl (.slice (if cap = i + 1 then some ⟨g, 0, none⟩ else some ⟨g, (i + 1) * 2, none⟩) (l.length - (i + 1)) (cap - (i + 1))) (fun w18 hCw18 => pureAt_of (ex_slice (l := (i + 1)) (h := l.length) (sz := 2) Try.underlying23 rfl (sizeof_36 _) (.inr ⟨_, rfl, rfl⟩) (.inl ⟨rfl, rfl⟩) (by omega) (by omega) (by rw [show (some (⟨g, 0, none⟩ : Addr)).map (·.add ((i + 1) * 2)) = some ⟨g, (i + 1) * 2, none⟩ from by rw [Option.map_some, Addr.add_mid, Nat.zero_add]]))) ?_
 simp only [pS, pN, pA, pC, pZ]
 refine gw_nil ?_
 intro w19 hC21 hF22
 clear hF22
 have S20 := St.tells S3 hC21
 simp only [List.drop_succ_cons, List.drop_zero]
 have hml : ((c1.drop ((i + 1) * 2)).take ((l.length - (i + 1)) * 2)).length = (l.length - (i + 1)) * 2 := by rw [List.length_take, List.length_drop, hcl4]; omega
 have hone := one_mid one hall6 htk5 (i + 1)
 have hsrc := S20.src (i := 0) rfl ((i + 1) * 2) ((l.length - (i + 1)) * 2)
 obtain ⟨ad, had, hsrc2⟩ : ∃ ad : Addr, (if cap = i + 1 then some (⟨g, 0, none⟩ : Addr) else some ⟨g, (i + 1) * 2, none⟩) = some ad ∧ ∀ q u, ((c1.drop ((i + 1) * 2)).take ((l.length - (i + 1)) * 2))[q]? = some u → w19.cell? (ad.add q) = some u := by
  by_cases hcc : cap = i + 1
  ·rw [if_pos hcc]
   refine ⟨_, rfl, fun q u hu => ?_⟩
   have hq := (List.getElem?_eq_some_iff.1 hu).1
   rw [hml] at hq
   omega
  ·rw [if_neg hcc]
   exact ⟨_, rfl, hsrc⟩
 refine stRoom (k := 2) (i := 0) (n := i) (m := l.length - (i + 1)) (ad := ad) (cp := cap - (i + 1)) (l.length - 1) ((c1.drop ((i + 1) * 2)).take ((l.length - (i + 1)) * 2)) S20 rfl i36 Try.underlying23 hi36 hs36 rfl (show _ = _ from by rw [← had]; rfl) rfl hml hsrc2 hone (by omega) (by omega) (by rw [hml, hcl4]; omega) (fun w23 S24 => ?_)
 simp only [pS, pN, pA, pC, pZ]
 have S24 : St w0 F0 w23 F (⟨g, (splice c1 (i * 2) ((c1.drop ((i + 1) * 2)).take ((l.length - (i + 1)) * 2))), 36⟩ :: L0) (M0) := S24
 refine do_ rfl (.slice (some ⟨g, 0, none⟩) (l.length - 1) cap) (ex_assign _) ?_
 simp only [pS, pN, pA, pC, pZ]
 refine wl_nil (hK17 _ _ ?_)
 refine wp_seq_k (fun K25 hK25 => region_wl ?_)
 refine do_ rfl (.slice (some ⟨g, 0, none⟩) (l.length - 1) cap) (ex_move _) ?_
 simp only [pS, pN, pA, pC, pZ]
 refine do_ rfl (.slice (some ⟨g, 0, none⟩) (l.length - 1) cap) (ex_move _) ?_
 simp only [pS, pN, pA, pC, pZ]
 refine do_ rfl (.int .i64 (((l.length - 1) : Nat) : Int)) (ex_len Try.underlying23 rfl) ?_
 simp only [pS, pN, pA, pC, pZ]
 refine do_ rfl (.int .i64 ((l.length : Nat) : Int)) (ex_move _) ?_
 simp only [pS, pN, pA, pC, pZ]
 refine do_ rfl (.slice (some ⟨g, (l.length - 1) * 2, none⟩) 1 (cap - (l.length - 1))) (ex_slice (l := (l.length - 1)) (h := l.length) (sz := 2) Try.underlying23 rfl (sizeof_36 _) (.inr ⟨_, rfl, rfl⟩) (.inr ⟨_, rfl, rfl⟩) (by omega) (by omega) (slice_at (by omega) (by omega) rfl (by omega))) ?_
 simp only [pS, pN, pA, pC, pZ]
 refine stClear (i := 0) (n := 1) (.agg #[(.slice none 0 0), (.slice none 0 0)]) [(.slice none 0 0), (.slice none 0 0)] S24 rfl Try.underlying23 (fun w => zero_36 w) (by kernel_rfl) rfl (by decide) rfl (by rw [splice_len (by rw [hml, hcl4]; omega), hcl4]; show _ + 2 ≤ _; omega) (by intro u hu; simp only [List.mem_cons, List.not_mem_nil, or_false] at hu; rcases hu with rfl | rfl <;> rfl) (fun w26 S27 => ?_)
 simp only [pS, pN, pA, pC, pZ]
 have S27 : St w0 F0 w26 F (⟨g, (splice (splice c1 (i * 2) ((c1.drop ((i + 1) * 2)).take ((l.length - (i + 1)) * 2))) ((l.length - 1) * 2) [(.slice none 0 0), (.slice none 0 0)]), 36⟩ :: L0) (M0) := S27
 refine wl_nil (hK25 _ _ ?_)
 refine wp_seq_k (fun K28 hK28 => region_wl ?_)
 refine do_ rfl (.slice (some ⟨g, 0, none⟩) (l.length - 1) cap) (ex_move _) ?_
 simp only [pS, pN, pA, pC, pZ]
 refine do_ rfl (.slice (some ⟨g, 0, none⟩) (l.length - 1) cap) (ex_assign _) ?_
 simp only [pS, pN, pA, pC, pZ]
 refine wl_nil (hK28 _ _ ?_)
 refine wp_ret ?_
 (try simp only [Exit.then, Exit.inBlock, ↓reduceIte, Nat.reduceEqDiff])
 refine bodyPost_ret (v := (.slice (some ⟨g, 0, none⟩) (l.length - 1) cap)) ?_ rfl ?_
 ·exact res_t rfl rfl
 ·have hll : (l.take i ++ l.drop (i + 1)).length = l.length - 1 := by rw [List.length_append, List.length_take, List.length_drop]; omega
  have hrow := St.blkRow (k := 2) (base := w0.heap.size) (R := R) (hR := hR) (l := l.take i ++ l.drop (i + 1)) (cap := cap) S27 (el := el2.take i ++ el2.drop (i + 1)) (by rw [hll]; exact cells_del (zs := [(.slice none 0 0), (.slice none 0 0)]) hlen7 htk5 hi (by rw [hcl4]; omega) rfl) (allR_delete hall6 i) (len_delete hlen7 i) (by rw [splice_len (by rw [splice_len (by rw [hml, hcl4]; omega), hcl4]; show _ + 2 ≤ _; omega), splice_len (by rw [hml, hcl4]; omega), hcl4]) (by omega) (by unfold maxLen; omega) (S27.blk _ (List.mem_cons_self ..)).2.2
  rw [hll] at hrow
  exact ⟨_, rfl, hrow⟩
theorem deletePair {i : Nat} {w0 w : World} {F0 F : Fz} {L0 : List Blk} {M0 : List RowP} {α : Type} {R : Fz → List Value → α → Prop} {hR : ∀ F F' x p, Le F F' → R F x p → R F' x p} {v : Value} {l : List α} (one : ∀ F cs p, R F cs p → ∀ u ∈ cs, u.oneCell' = true)
    (S : St w0 F0 w F L0 (ownP 2 R hR 36 w0.heap.size v l :: M0)) (hl : l.length ≤ 100000) (hi : i < l.length) :
    Calls Try.prog 26 #[v, .int .i64 (i : Nat), .int .i64 ((i + 1 : Nat) : Int)] w fun e w' => ∃ v', e = .returned v' ∧ St w0 F0 w' F L0 (ownP 2 R hR 36 w0.heap.size v' (l.take i ++ l.drop (i + 1)) :: M0) := by
  obtain ⟨g, cap, rfl, _⟩ := (S.own (i := 0) rfl).form (by omega)
  exact deleteMidPair one S hl hi
end Go.Proofs.Ytlimmmidfhpakaa
namespace Go.Proofs.Ytlimmmidfhpakaa
open Go.RowKit
set_option maxRecDepth 100000
set_option linter.unusedVariables false
set_option linter.unusedSimpArgs false
theorem PrC.one (F : Fz) (cs : List Value) (p : Pr) (h : PrC F cs p) : ∀ u ∈ cs, u.oneCell' = true := h.oneCell
def PrsE (r : List Pr) (e : Int) (F : Fz) (u : Value) : Prop := ∃ x, u = .tuple #[x, .int .i64 e] ∧ Prs F x r
theorem PrsE.mono {F F' : Fz} {u : Value} {r : List Pr} {e : Int} (h : PrsE r e F u) (hl : Le F F') : PrsE r e F' u := by
  obtain ⟨x, rfl, h1⟩ := h; exact ⟨x, rfl, h1.mono hl⟩
def putE (l : List Pr) (p : Pr) : Int := if pairE p ≠ 0 then pairE p else if 60 < (putT l p.1 p.2).length then 11 else 0
def putR (l : List Pr) (p : Pr) : List Pr := if putE l p = 0 then putT l p.1 p.2 else []
theorem hasT_pos {l : List Pr} {k : By} (h : hasT l k = true) : posT l k < l.length := by
  unfold hasT hasBy at h
  rw [List.any_eq_true] at h
  obtain ⟨q, hq, he⟩ := h
  unfold posT posBy
  obtain ⟨i, hi, rfl⟩ := List.mem_iff_getElem.1 hq
  have he' : l[i].1 = k := by simpa using he
  have hpre : (l.takeWhile fun p => Op.bytesLess p.1 k).length ≤ i := by
    rcases Nat.lt_or_ge i (l.takeWhile fun p => Op.bytesLess p.1 k).length with h1 | h1
    · have e : (l.takeWhile fun p => Op.bytesLess p.1 k)[i] = l[i] := (List.takeWhile_prefix _).getElem h1
      have hp := List.all_eq_true.1 (List.all_takeWhile (p := fun p : Pr => Op.bytesLess p.1 k) (l := l)) _ (List.getElem_mem h1)
      rw [e, he', less_irrefl] at hp
      cases hp
    · exact h1
  exact Nat.lt_of_le_of_lt hpre hi
def delE (k : By) : Int := checkN k.length
def delR (l : List Pr) (k : By) : List Pr := if checkN k.length = 0 then delT l k else []
set_option maxHeartbeats 8000000 in
theorem put_spec (F : Fz) (w : World) (v u : Value) (l : List Pr) (p : Pr) (hs : Sat w F) (hv : Prs F v l) (hu : Pr2V F u p) (ok1 : TreeOk 60 l) (hk : p.1.length ≤ 100000) (hx : p.2.length ≤ 100000) :
    Calls Try.prog 8 #[v, u] w (Gives w F (PrsE (putR l p) (putE l p))) := by
 have ok := treeE_ok.2 ok1
 have hl60 := ok1.len
 obtain ⟨a, c, rfl, hc1, hc2⟩ := Sl.shape hv
 obtain ⟨x0, y0, x1, y1, rfl, h0, h1⟩ := hu
 unfold maxLen at hc2
 obtain ⟨i36, hi36, hz36, hs36, hb36⟩ := info_parts info_36
 have S := St.start hs
 go_enter Try.func8, Try.ntmps8
 refine wp_seq_k (fun K1 hK1 => region_wl ?_)
 refine stNew S (v := fun n => .pointer (some ⟨n, 0, none⟩)) rfl (ex_box (v := (.agg #[(.slice x0 p.1.length y0), (.slice x1 p.2.length y1)])) rfl) (fun n2 w3 S4 => ?_)
 simp only [pS, pN, pA, pC, pZ]
 have S4 : St w F w3 F [⟨n2, [(.slice x0 p.1.length y0), (.slice x1 p.2.length y1)], 36⟩] [] := S4
 refine do_ rfl (.slice none 0 0) (ex_assign _) ?_
 simp only [pS, pN, pA, pC, pZ]
 refine do_ rfl (.int .i64 0) (ex_assign _) ?_
 simp only [pS, pN, pA, pC, pZ]
 refine wl_nil (hK1 _ _ ?_)
 refine wp_seq_k (fun K5 hK5 => ?_)
 refine wp_seq_k (fun K6 hK6 => region_wl ?_)
 refine do_ rfl (.slice a l.length c) (ex_move _) ?_
 simp only [pS, pN, pA, pC, pZ]
 refine stTells (v := (.int .i64 (treeE l))) S4 rfl (ex_fn (vs := #[(.slice a l.length c)]) (map1 rfl) rfl (ent_10 _ _)) (treeCheck_spec _ _ _ l (S4).sat hv) (fun w7 S8 => ?_)
 simp only [pS, pN, pA, pC, pZ]
 refine do_ rfl (.int .i64 (treeE l)) (ex_assign _) ?_
 simp only [pS, pN, pA, pC, pZ]
 refine wl_nil (hK6 _ _ ?_)
 refine wp_seq_k (fun K9 hK9 => region_wl ?_)
 refine do_ rfl (.int .i64 (treeE l)) (ex_move _) ?_
 simp only [pS, pN, pA, pC, pZ]
 refine do_ rfl (.bool false) (ex_neq (m := (treeE l)) (n := (0 : Int)) (b := false) rfl rfl (bne_eq_false_iff_eq.2 (ok))) ?_
 simp only [pS, pN, pA, pC, pZ]
 refine wl_nil (hK9 _ _ ?_)
 refine wp_cond_false rfl ?_
 refine wp_skip ?_
 refine hK5 _ _ ?_
 refine wp_seq_k (fun K10 hK10 => ?_)
 refine wp_seq_k (fun K11 hK11 => region_wl ?_)
 refine do_ rfl (.agg #[(.slice x0 p.1.length y0), (.slice x1 p.2.length y1)]) (ex_load rfl (loadN (cs := [(.slice x0 p.1.length y0), (.slice x1 p.2.length y1)]) Try.underlying36 rfl (size_36) (St.range S8 (i := 0) rfl 0 [(.slice x0 p.1.length y0), (.slice x1 p.2.length y1)] (sub_range 0 rfl)))) ?_
 simp only [pS, pN, pA, pC, pZ]
 refine stTells (v := (.int .i64 (pairE p))) S8 rfl (ex_fn (vs := #[(.agg #[(.slice x0 p.1.length y0), (.slice x1 p.2.length y1)])]) (map1 rfl) rfl (ent_27 _ _)) (pair_spec _ _ _ p (S8).sat ⟨_, _, _, _, rfl, h0, h1⟩) (fun w12 S13 => ?_)
 simp only [pS, pN, pA, pC, pZ]
 refine do_ rfl (.int .i64 (pairE p)) (ex_assign _) ?_
 simp only [pS, pN, pA, pC, pZ]
 refine wl_nil (hK11 _ _ ?_)
 refine wp_seq_k (fun K14 hK14 => region_wl ?_)
 refine do_ rfl (.int .i64 (pairE p)) (ex_move _) ?_
 simp only [pS, pN, pA, pC, pZ]
 by_cases hc19 : (pairE p) = (0 : Int)
 ·refine do_ rfl (.bool false) (ex_neq (m := (pairE p)) (n := (0 : Int)) (b := false) rfl rfl (bne_eq_false_iff_eq.2 (by omega))) ?_
  simp only [pS, pN, pA, pC, pZ]
  refine wl_nil (hK14 _ _ ?_)
  refine wp_cond_false rfl ?_
  refine wp_skip ?_
  refine hK10 _ _ ?_
  refine wp_seq_k (fun K15 hK15 => region_wl ?_)
  refine do_ rfl (.slice a l.length c) (ex_move _) ?_
  simp only [pS, pN, pA, pC, pZ]
  refine stGivesO PrC.mono S13 rfl (ex_fn (vs := #[(.slice a l.length c)]) (map1 rfl) rfl (ent_24 _ _)) (all_spec _ _ _ l (S13).sat hv (by have := ok1.len; omega) (fun p hp => ok1.small hp)) ?_
  intro v20 w16 F18 S17 le19
  simp only [pS, pN, pA, pC, pZ]
  have S17 : St w F w16 F18 [⟨n2, [(.slice x0 p.1.length y0), (.slice x1 p.2.length y1)], 36⟩] [ownP 2 PrC PrC.mono 36 w.heap.size v20 l] := S17
  refine do_ rfl v20 (ex_assign _) ?_
  simp only [pS, pN, pA, pC, pZ]
  refine wl_nil (hK15 _ _ ?_)
  refine wp_seq_k (fun K21 hK21 => region_wl ?_)
  refine do_ rfl v20 (ex_move _) ?_
  simp only [pS, pN, pA, pC, pZ]
  refine do_ rfl (.pointer (some ⟨n2, 0, none⟩)) (ex_field (q := ⟨n2, 0, none⟩) rfl (fa_36_0 _ _)) ?_
  simp only [pS, pN, pA, pC, pZ]
  refine do_ rfl (.slice x0 p.1.length y0) (ex_load rfl (load1 (nagg_25 _) (St.cell S17 (i := 0) rfl rfl))) ?_
  simp only [pS, pN, pA, pC, pZ]
  obtain ⟨F22, hs23, le24, hsl25⟩ := own_peek S17 (i := 0) rfl
  refine stTells (v := (.tuple #[(.int .i64 (((posT l p.1) : Nat) : Int)), (.bool (hasT l p.1))])) S17 rfl (ex_fn (vs := #[v20, (.slice x0 p.1.length y0)]) (map2 rfl rfl) rfl (ent_25 _ _)) (find_spec _ _ _ _ l p.1 hs23 hsl25 ((h0.mono le19).mono le24) ok1.rise (by have := ok1.len; omega)) (fun w26 S27 => ?_)
  simp only [pS, pN, pA, pC, pZ]
  refine do_ rfl (.tuple #[(.int .i64 (((posT l p.1) : Nat) : Int)), (.bool (hasT l p.1))]) (ex_move _) ?_
  simp only [pS, pN, pA, pC, pZ]
  refine do_ rfl (.int .i64 (((posT l p.1) : Nat) : Int)) (ex_extract rfl rfl) ?_
  simp only [pS, pN, pA, pC, pZ]
  refine do_ rfl (.bool (hasT l p.1)) (ex_extract rfl rfl) ?_
  simp only [pS, pN, pA, pC, pZ]
  refine do_ rfl (.int .i64 (((posT l p.1) : Nat) : Int)) (ex_assign _) ?_
  simp only [pS, pN, pA, pC, pZ]
  refine do_ rfl (.bool (hasT l p.1)) (ex_assign _) ?_
  simp only [pS, pN, pA, pC, pZ]
  refine wl_nil (hK21 _ _ ?_)
  refine wp_seq_k (fun K28 hK28 => ?_)
  refine wp_block ?_
  refine wp_seq_k (fun K29 hK29 => region_wl ?_)
  refine do_ rfl (.bool (hasT l p.1)) (ex_move _) ?_
  simp only [pS, pN, pA, pC, pZ]
  refine do_ rfl (.bool (hasT l p.1)) (ex_assign _) ?_
  simp only [pS, pN, pA, pC, pZ]
  refine wl_nil (hK29 _ _ ?_)
  refine wp_cond_split rfl (fun hc30 => ?_) (fun hc30 => ?_)
  ·have hpos0 := hasT_pos hc30
   obtain ⟨g31, cap32, rfl, h33, h34, _⟩ := (S27.own (i := 0) rfl).form (by omega)
   unfold maxLen at h34
   refine region_wl ?_
   refine do_ rfl (.slice (some ⟨g31, 0, none⟩) l.length cap32) (ex_move _) ?_
   simp only [pS, pN, pA, pC, pZ]
   refine do_ rfl (.int .i64 (((posT l p.1) : Nat) : Int)) (ex_move _) ?_
   simp only [pS, pN, pA, pC, pZ]
   refine do_ rfl (.agg #[(.slice x0 p.1.length y0), (.slice x1 p.2.length y1)]) (ex_load rfl (loadN (cs := [(.slice x0 p.1.length y0), (.slice x1 p.2.length y1)]) Try.underlying36 rfl (size_36) (St.range S27 (i := 0) rfl 0 [(.slice x0 p.1.length y0), (.slice x1 p.2.length y1)] (sub_range 0 rfl)))) ?_
   simp only [pS, pN, pA, pC, pZ]
   refine stGives S27 rfl (ex_fn (vs := #[(.agg #[(.slice x0 p.1.length y0), (.slice x1 p.2.length y1)])]) (map1 rfl) rfl (ent_28 _ _)) (own2_spec _ _ _ p (S27).sat ⟨_, _, _, _, rfl, (h0.mono le19), (h1.mono le19)⟩ (by omega) (by omega)) ?_
   intro v41 w36 F38 S37 le39 R40
   obtain ⟨xa42, xc43, xa44, xc45, rfl, r46, r47⟩ := R40
   simp only [pS, pN, pA, pC, pZ]
   have hpos := hasT_pos hc30
   refine do_ rfl (.pointer (some ⟨g31, 0 + (posT l p.1) * 2, none⟩)) (ex_at (i := (posT l p.1)) (sz := 2) Try.underlying23 (sizeof_36 _) rfl rfl rfl (hpos) rfl) ?_
   simp only [pS, pN, pA, pC, pZ]
   refine stSetRow (r := 0) (i := (posT l p.1)) (p := p) (u := (.agg #[(.slice xa42 p.1.length xc43), (.slice xa44 p.2.length xc45)])) S37 rfl rfl (by omega) rfl rfl (by omega) (size_36) (allc2 rfl rfl) rfl ⟨_, _, rfl, r46, r47⟩ (Nat.le_refl _) (fun w48 S49 => ?_)
   simp only [pS, pN, pA, pC, pZ]
   have S49 : St w F w48 F38 [⟨n2, [(.slice x0 p.1.length y0), (.slice x1 p.2.length y1)], 36⟩] [ownP 2 PrC PrC.mono 36 w.heap.size (.slice (some ⟨g31, 0, none⟩) l.length cap32) (l.set (posT l p.1) p)] := S49
   refine wl_nil (hK28 _ _ ?_)
   refine wp_seq_k (fun K50 hK50 => region_wl ?_)
   refine do_ rfl (.slice (some ⟨g31, 0, none⟩) l.length cap32) (ex_move _) ?_
   simp only [pS, pN, pA, pC, pZ]
   refine do_ rfl (.slice (some ⟨g31, 0, none⟩) l.length cap32) (ex_assign _) ?_
   simp only [pS, pN, pA, pC, pZ]
   refine do_ rfl (.int .i64 0) (ex_assign _) ?_
   simp only [pS, pN, pA, pC, pZ]
   refine wl_nil (hK50 _ _ ?_)
   refine wp_ret ?_
   (try simp only [Exit.then, Exit.inBlock, ↓reduceIte, Nat.reduceEqDiff])
   refine bodyPost_ret (v := (.tuple #[(.slice (some ⟨g31, 0, none⟩) l.length cap32), (.int .i64 0)])) ?_ rfl ?_
   ·exact res_tt rfl rfl rfl
   ·have hpp : pairE p = 0 := by omega
    have hlen := len_putT l p.1 p.2
    have hl60 := ok1.len
    rw [if_pos hc30] at hlen
    have hput := putT_have (v := p.2) hc30
    have he : putE l p = 0 := by unfold putE; rw [if_neg (by omega), if_neg (by omega)]
    unfold putR
    rw [he, if_pos rfl, hput]
    obtain ⟨F51, S52, le53, hv54⟩ := St.freeze S49 (i := 0) rfl (Nat.le_refl _)
    have S52 : St w F w48 F51 [⟨n2, [(.slice x0 p.1.length y0), (.slice x1 p.2.length y1)], 36⟩] [] := S52
    have hv54 : Prs _ (.slice (some ⟨g31, 0, none⟩) l.length cap32) (l.set (posT l p.1) p) := hv54
    exact ⟨_, _, rfl, S52.gr, _, rfl, hv54⟩
  ·refine wp_seq_k (fun K55 hK55 => region_wl ?_)
   refine do_ rfl (.slice a l.length c) (ex_move _) ?_
   simp only [pS, pN, pA, pC, pZ]
   refine do_ rfl (.int .i64 ((l.length : Nat) : Int)) (ex_len Try.underlying23 rfl) ?_
   simp only [pS, pN, pA, pC, pZ]
   by_cases hc46 : l.length = 60
   ·refine do_ rfl (.bool true) (ex_eql (m := ((l.length : Nat) : Int)) (n := (60 : Int)) (b := true) rfl rfl (beq_iff_eq.2 (by omega))) ?_
    simp only [pS, pN, pA, pC, pZ]
    refine do_ rfl (.bool true) (ex_assign _) ?_
    simp only [pS, pN, pA, pC, pZ]
    refine wl_nil (hK55 _ _ ?_)
    refine wp_cond_true rfl ?_
    refine wp_seq_k (fun K56 hK56 => region_wl ?_)
    refine do_ rfl (.slice none 0 0) (ex_assign _) ?_
    simp only [pS, pN, pA, pC, pZ]
    refine do_ rfl (.int .i64 11) (ex_assign _) ?_
    simp only [pS, pN, pA, pC, pZ]
    refine wl_nil (hK56 _ _ ?_)
    refine wp_ret ?_
    (try simp only [Exit.then, Exit.inBlock, ↓reduceIte, Nat.reduceEqDiff])
    refine bodyPost_ret (v := (.tuple #[(.slice none 0 0), (.int .i64 11)])) ?_ rfl ?_
    ·exact res_tt rfl rfl rfl
    ·have hpp : pairE p = 0 := by omega
     have hlen := len_putT l p.1 p.2
     have hl60 := ok1.len
     rw [if_neg (by rw [hc30]; simp)] at hlen
     have he : putE l p = 11 := by unfold putE; rw [if_neg (by omega), if_pos (by omega)]
     unfold putR
     rw [he, if_neg (by decide)]
     exact ⟨_, _, rfl, S27.gr, _, rfl, Sl.nil _ _ _⟩
   ·refine do_ rfl (.bool false) (ex_eql (m := ((l.length : Nat) : Int)) (n := (60 : Int)) (b := false) rfl rfl (beq_eq_false_iff_ne.2 (by omega))) ?_
    simp only [pS, pN, pA, pC, pZ]
    refine do_ rfl (.bool false) (ex_assign _) ?_
    simp only [pS, pN, pA, pC, pZ]
    refine wl_nil (hK55 _ _ ?_)
    refine wp_cond_false rfl ?_
    refine region_wl ?_
    refine do_ rfl v20 (ex_move _) ?_
    simp only [pS, pN, pA, pC, pZ]
    refine do_ rfl (.int .i64 (((posT l p.1) : Nat) : Int)) (ex_move _) ?_
    simp only [pS, pN, pA, pC, pZ]
    refine do_ rfl (.agg #[(.slice x0 p.1.length y0), (.slice x1 p.2.length y1)]) (ex_load rfl (loadN (cs := [(.slice x0 p.1.length y0), (.slice x1 p.2.length y1)]) Try.underlying36 rfl (size_36) (St.range S27 (i := 0) rfl 0 [(.slice x0 p.1.length y0), (.slice x1 p.2.length y1)] (sub_range 0 rfl)))) ?_
    simp only [pS, pN, pA, pC, pZ]
    refine stGives S27 rfl (ex_fn (vs := #[(.agg #[(.slice x0 p.1.length y0), (.slice x1 p.2.length y1)])]) (map1 rfl) rfl (ent_28 _ _)) (own2_spec _ _ _ p (S27).sat ⟨_, _, _, _, rfl, (h0.mono le19), (h1.mono le19)⟩ (by omega) (by omega)) ?_
    intro v62 w57 F59 S58 le60 R61
    obtain ⟨xa63, xc64, xa65, xc66, rfl, r67, r68⟩ := R61
    simp only [pS, pN, pA, pC, pZ]
    refine stNew S58 (v := fun n => .slice (some ⟨n, 0, none⟩) 1 1) rfl (ex_lit (ps := #[(0, (.agg #[(.slice xa63 p.1.length xc64), (.slice xa65 p.2.length xc66)]))]) (cells := #[(.slice xa63 p.1.length xc64), (.slice xa65 p.2.length xc66)]) (E := 36) (bmap1 rfl) (fun w => by kernel_rfl)) (fun n69 w70 S71 => ?_)
    simp only [pS, pN, pA, pC, pZ]
    have S71 : St w F w70 F59 [⟨n69, [(.slice xa63 p.1.length xc64), (.slice xa65 p.2.length xc66)], 36⟩, ⟨n2, [(.slice x0 p.1.length y0), (.slice x1 p.2.length y1)], 36⟩] [ownP 2 PrC PrC.mono 36 w.heap.size v20 l] := S71
    refine stOwn (L := [⟨n2, [(.slice x0 p.1.length y0), (.slice x1 p.2.length y1)], 36⟩]) (M := fun v_ => [ownP 2 PrC PrC.mono 36 w.heap.size v_ (l.take (posT l p.1) ++ p :: l.drop (posT l p.1))]) rfl (ex_fn (vs := #[v20, (.int .i64 (((posT l p.1) : Nat) : Int)), (.slice (some ⟨n69, 0, none⟩) 1 1)]) (map3 rfl rfl rfl) rfl (ent_29 _ _)) (insertPair (p := p) PrC.one S71 rfl ⟨_, _, rfl, r67, r68⟩ (by omega) (posBy_le _ _ _)) ?_
    intro v72 w73 S74
    simp only [pS, pN, pA, pC, pZ]
    have S74 : St w F w73 F59 [⟨n2, [(.slice x0 p.1.length y0), (.slice x1 p.2.length y1)], 36⟩] [ownP 2 PrC PrC.mono 36 w.heap.size v72 (l.take (posT l p.1) ++ p :: l.drop (posT l p.1))] := S74
    refine do_ rfl v72 (ex_assign _) ?_
    simp only [pS, pN, pA, pC, pZ]
    refine wl_nil (hK28 _ _ ?_)
    refine wp_seq_k (fun K75 hK75 => region_wl ?_)
    refine do_ rfl v72 (ex_move _) ?_
    simp only [pS, pN, pA, pC, pZ]
    refine do_ rfl v72 (ex_assign _) ?_
    simp only [pS, pN, pA, pC, pZ]
    refine do_ rfl (.int .i64 0) (ex_assign _) ?_
    simp only [pS, pN, pA, pC, pZ]
    refine wl_nil (hK75 _ _ ?_)
    refine wp_ret ?_
    (try simp only [Exit.then, Exit.inBlock, ↓reduceIte, Nat.reduceEqDiff])
    refine bodyPost_ret (v := (.tuple #[v72, (.int .i64 0)])) ?_ rfl ?_
    ·exact res_tt rfl rfl rfl
    ·have hpp : pairE p = 0 := by omega
     have hlen := len_putT l p.1 p.2
     have hl60 := ok1.len
     rw [if_neg (by rw [hc30]; simp)] at hlen
     have hput := putT_new (v := p.2) (by rw [hc30]; simp)
     have he : putE l p = 0 := by unfold putE; rw [if_neg (by omega), if_neg (by omega)]
     unfold putR
     rw [he, if_pos rfl, hput]
     obtain ⟨F76, S77, le78, hv79⟩ := St.freeze S74 (i := 0) rfl (Nat.le_refl _)
     have S77 : St w F w73 F76 [⟨n2, [(.slice x0 p.1.length y0), (.slice x1 p.2.length y1)], 36⟩] [] := S77
     have hv79 : Prs _ v72 (l.take (posT l p.1) ++ p :: l.drop (posT l p.1)) := hv79
     exact ⟨_, _, rfl, S77.gr, _, rfl, hv79⟩
 ·refine do_ rfl (.bool true) (ex_neq (m := (pairE p)) (n := (0 : Int)) (b := true) rfl rfl (bne_iff_ne.2 (by omega))) ?_
  simp only [pS, pN, pA, pC, pZ]
  refine wl_nil (hK14 _ _ ?_)
  refine wp_cond_true rfl ?_
  refine wp_seq_k (fun K80 hK80 => region_wl ?_)
  refine do_ rfl (.int .i64 (pairE p)) (ex_move _) ?_
  simp only [pS, pN, pA, pC, pZ]
  refine do_ rfl (.slice none 0 0) (ex_assign _) ?_
  simp only [pS, pN, pA, pC, pZ]
  refine do_ rfl (.int .i64 (pairE p)) (ex_assign _) ?_
  simp only [pS, pN, pA, pC, pZ]
  refine wl_nil (hK80 _ _ ?_)
  refine wp_ret ?_
  (try simp only [Exit.then, Exit.inBlock, ↓reduceIte, Nat.reduceEqDiff])
  refine bodyPost_ret (v := (.tuple #[(.slice none 0 0), (.int .i64 (pairE p))])) ?_ rfl ?_
  ·exact res_tt rfl rfl rfl
  ·have he : putE l p = pairE p := by unfold putE; rw [if_pos hc19]
   unfold putR
   rw [he, if_neg hc19]
   exact ⟨_, _, rfl, S13.gr, _, rfl, Sl.nil _ _ _⟩
set_option maxHeartbeats 8000000 in
theorem delete_spec (F : Fz) (w : World) (v u : Value) (l : List Pr) (k : By) (hs : Sat w F) (hv : Prs F v l) (hu : Bs F u k) (ok1 : TreeOk 60 l) :
    Calls Try.prog 7 #[v, u] w (Gives w F (PrsE (delR l k) (delE k))) := by
 have ok := treeE_ok.2 ok1
 have hl60 := ok1.len
 obtain ⟨a, c, rfl, hc1, hc2⟩ := Sl.shape hv
 obtain ⟨a2, c2, rfl, _⟩ := hu.shape
 unfold maxLen at hc2
 obtain ⟨i36, hi36, hz36, hs36, hb36⟩ := info_parts info_36
 have S := St.start hs
 go_enter Try.func7, Try.ntmps7
 refine wp_seq_k (fun K1 hK1 => region_wl ?_)
 refine do_ rfl (.slice none 0 0) (ex_assign _) ?_
 simp only [pS, pN, pA, pC, pZ]
 refine do_ rfl (.int .i64 0) (ex_assign _) ?_
 simp only [pS, pN, pA, pC, pZ]
 refine wl_nil (hK1 _ _ ?_)
 refine wp_seq_k (fun K2 hK2 => ?_)
 refine wp_seq_k (fun K3 hK3 => region_wl ?_)
 refine do_ rfl (.slice a l.length c) (ex_move _) ?_
 simp only [pS, pN, pA, pC, pZ]
 refine stTells (v := (.int .i64 (treeE l))) S rfl (ex_fn (vs := #[(.slice a l.length c)]) (map1 rfl) rfl (ent_10 _ _)) (treeCheck_spec _ _ _ l (S).sat hv) (fun w4 S5 => ?_)
 simp only [pS, pN, pA, pC, pZ]
 refine do_ rfl (.int .i64 (treeE l)) (ex_assign _) ?_
 simp only [pS, pN, pA, pC, pZ]
 refine wl_nil (hK3 _ _ ?_)
 refine wp_seq_k (fun K6 hK6 => region_wl ?_)
 refine do_ rfl (.int .i64 (treeE l)) (ex_move _) ?_
 simp only [pS, pN, pA, pC, pZ]
 refine do_ rfl (.bool false) (ex_neq (m := (treeE l)) (n := (0 : Int)) (b := false) rfl rfl (bne_eq_false_iff_eq.2 (ok))) ?_
 simp only [pS, pN, pA, pC, pZ]
 refine wl_nil (hK6 _ _ ?_)
 refine wp_cond_false rfl ?_
 refine wp_skip ?_
 refine hK2 _ _ ?_
 refine wp_seq_k (fun K7 hK7 => ?_)
 refine wp_seq_k (fun K8 hK8 => region_wl ?_)
 refine do_ rfl (.slice a2 k.length c2) (ex_move _) ?_
 simp only [pS, pN, pA, pC, pZ]
 refine stTells (v := (.int .i64 (checkN k.length))) S5 rfl (ex_fn (vs := #[(.slice a2 k.length c2)]) (map1 rfl) rfl (ent_23 _ _)) (tells_same (check_spec _ _ _ k hu)) (fun w9 S10 => ?_)
 simp only [pS, pN, pA, pC, pZ]
 refine do_ rfl (.int .i64 (checkN k.length)) (ex_assign _) ?_
 simp only [pS, pN, pA, pC, pZ]
 refine wl_nil (hK8 _ _ ?_)
 refine wp_seq_k (fun K11 hK11 => region_wl ?_)
 refine do_ rfl (.int .i64 (checkN k.length)) (ex_move _) ?_
 simp only [pS, pN, pA, pC, pZ]
 by_cases hc19 : (checkN k.length) = (0 : Int)
 ·refine do_ rfl (.bool false) (ex_neq (m := (checkN k.length)) (n := (0 : Int)) (b := false) rfl rfl (bne_eq_false_iff_eq.2 (by omega))) ?_
  simp only [pS, pN, pA, pC, pZ]
  refine wl_nil (hK11 _ _ ?_)
  refine wp_cond_false rfl ?_
  refine wp_skip ?_
  refine hK7 _ _ ?_
  refine wp_seq_k (fun K12 hK12 => region_wl ?_)
  refine do_ rfl (.slice a l.length c) (ex_move _) ?_
  simp only [pS, pN, pA, pC, pZ]
  refine stGivesO PrC.mono S10 rfl (ex_fn (vs := #[(.slice a l.length c)]) (map1 rfl) rfl (ent_24 _ _)) (all_spec _ _ _ l (S10).sat hv (by have := ok1.len; omega) (fun p hp => ok1.small hp)) ?_
  intro v17 w13 F15 S14 le16
  simp only [pS, pN, pA, pC, pZ]
  have S14 : St w F w13 F15 [] [ownP 2 PrC PrC.mono 36 w.heap.size v17 l] := S14
  refine do_ rfl v17 (ex_assign _) ?_
  simp only [pS, pN, pA, pC, pZ]
  refine wl_nil (hK12 _ _ ?_)
  refine wp_seq_k (fun K18 hK18 => ?_)
  refine wp_seq_k (fun K19 hK19 => region_wl ?_)
  refine do_ rfl v17 (ex_move _) ?_
  simp only [pS, pN, pA, pC, pZ]
  refine do_ rfl (.slice a2 k.length c2) (ex_move _) ?_
  simp only [pS, pN, pA, pC, pZ]
  obtain ⟨F20, hs21, le22, hsl23⟩ := own_peek S14 (i := 0) rfl
  refine stTells (v := (.tuple #[(.int .i64 (((posT l k) : Nat) : Int)), (.bool (hasT l k))])) S14 rfl (ex_fn (vs := #[v17, (.slice a2 k.length c2)]) (map2 rfl rfl) rfl (ent_25 _ _)) (find_spec _ _ _ _ l k hs21 hsl23 ((hu.mono le16).mono le22) ok1.rise (by have := ok1.len; omega)) (fun w24 S25 => ?_)
  simp only [pS, pN, pA, pC, pZ]
  refine do_ rfl (.tuple #[(.int .i64 (((posT l k) : Nat) : Int)), (.bool (hasT l k))]) (ex_move _) ?_
  simp only [pS, pN, pA, pC, pZ]
  refine do_ rfl (.int .i64 (((posT l k) : Nat) : Int)) (ex_extract rfl rfl) ?_
  simp only [pS, pN, pA, pC, pZ]
  refine do_ rfl (.bool (hasT l k)) (ex_extract rfl rfl) ?_
  simp only [pS, pN, pA, pC, pZ]
  refine do_ rfl (.int .i64 (((posT l k) : Nat) : Int)) (ex_assign _) ?_
  simp only [pS, pN, pA, pC, pZ]
  refine do_ rfl (.bool (hasT l k)) (ex_assign _) ?_
  simp only [pS, pN, pA, pC, pZ]
  refine wl_nil (hK19 _ _ ?_)
  refine wp_seq_k (fun K26 hK26 => region_wl ?_)
  refine do_ rfl (.bool (hasT l k)) (ex_move _) ?_
  simp only [pS, pN, pA, pC, pZ]
  refine wl_nil (hK26 _ _ ?_)
  refine wp_cond_split rfl (fun hc27 => ?_) (fun hc27 => ?_)
  ·have hpos := hasT_pos hc27
   refine region_wl ?_
   refine do_ rfl v17 (ex_move _) ?_
   simp only [pS, pN, pA, pC, pZ]
   refine do_ rfl (.int .i64 (((posT l k) : Nat) : Int)) (ex_move _) ?_
   simp only [pS, pN, pA, pC, pZ]
   refine do_ rfl (.int .i64 (((posT l k) : Nat) : Int)) (ex_move _) ?_
   simp only [pS, pN, pA, pC, pZ]
   refine do_ rfl (.int .i64 ((((posT l k) + 1) : Nat) : Int)) (ex_add (m := (((posT l k) : Nat) : Int)) (n := (1 : Int)) (r := ((((posT l k) + 1) : Nat) : Int)) rfl rfl (by omega) (by omega) (by omega)) ?_
   simp only [pS, pN, pA, pC, pZ]
   refine stOwn (L := []) (M := fun v_ => [ownP 2 PrC PrC.mono 36 w.heap.size v_ (l.take (posT l k) ++ l.drop ((posT l k) + 1))]) rfl (ex_fn (vs := #[v17, (.int .i64 (((posT l k) : Nat) : Int)), (.int .i64 ((((posT l k) + 1) : Nat) : Int))]) (map3 rfl rfl rfl) rfl (ent_26 _ _)) (deletePair PrC.one S25 (by omega) (hpos)) ?_
   intro v28 w29 S30
   simp only [pS, pN, pA, pC, pZ]
   have S30 : St w F w29 F15 [] [ownP 2 PrC PrC.mono 36 w.heap.size v28 (l.take (posT l k) ++ l.drop ((posT l k) + 1))] := S30
   refine do_ rfl v28 (ex_assign _) ?_
   simp only [pS, pN, pA, pC, pZ]
   refine wl_nil (hK18 _ _ ?_)
   refine wp_seq_k (fun K31 hK31 => region_wl ?_)
   refine do_ rfl v28 (ex_move _) ?_
   simp only [pS, pN, pA, pC, pZ]
   refine do_ rfl v28 (ex_assign _) ?_
   simp only [pS, pN, pA, pC, pZ]
   refine do_ rfl (.int .i64 0) (ex_assign _) ?_
   simp only [pS, pN, pA, pC, pZ]
   refine wl_nil (hK31 _ _ ?_)
   refine wp_ret ?_
   (try simp only [Exit.then, Exit.inBlock, ↓reduceIte, Nat.reduceEqDiff])
   refine bodyPost_ret (v := (.tuple #[v28, (.int .i64 0)])) ?_ rfl ?_
   ·exact res_tt rfl rfl rfl
   ·have hcc : checkN k.length = 0 := by omega
    unfold delR delE delT
    rw [hcc, if_pos rfl, if_pos hc27]
    obtain ⟨F32, S33, le34, hv35⟩ := St.freeze S30 (i := 0) rfl (Nat.le_refl _)
    have S33 : St w F w29 F32 [] [] := S33
    have hv35 : Prs _ v28 (l.take (posT l k) ++ l.drop ((posT l k) + 1)) := hv35
    exact ⟨_, _, rfl, S33.gr, _, rfl, hv35⟩
  ·refine wp_skip ?_
   refine hK18 _ _ ?_
   refine wp_seq_k (fun K36 hK36 => region_wl ?_)
   refine do_ rfl v17 (ex_move _) ?_
   simp only [pS, pN, pA, pC, pZ]
   refine do_ rfl v17 (ex_assign _) ?_
   simp only [pS, pN, pA, pC, pZ]
   refine do_ rfl (.int .i64 0) (ex_assign _) ?_
   simp only [pS, pN, pA, pC, pZ]
   refine wl_nil (hK36 _ _ ?_)
   refine wp_ret ?_
   (try simp only [Exit.then, Exit.inBlock, ↓reduceIte, Nat.reduceEqDiff])
   refine bodyPost_ret (v := (.tuple #[v17, (.int .i64 0)])) ?_ rfl ?_
   ·exact res_tt rfl rfl rfl
   ·have hcc : checkN k.length = 0 := by omega
    unfold delR delE delT
    rw [hcc, if_pos rfl, if_neg (by rw [hc27]; simp)]
    obtain ⟨F37, S38, le39, hv40⟩ := St.freeze S25 (i := 0) rfl (Nat.le_refl _)
    have S38 : St w F w24 F37 [] [] := S38
    have hv40 : Prs _ v17 l := hv40
    exact ⟨_, _, rfl, S38.gr, _, rfl, hv40⟩
 ·refine do_ rfl (.bool true) (ex_neq (m := (checkN k.length)) (n := (0 : Int)) (b := true) rfl rfl (bne_iff_ne.2 (by omega))) ?_
  simp only [pS, pN, pA, pC, pZ]
  refine wl_nil (hK11 _ _ ?_)
  refine wp_cond_true rfl ?_
  refine wp_seq_k (fun K41 hK41 => region_wl ?_)
  refine do_ rfl (.int .i64 (checkN k.length)) (ex_move _) ?_
  simp only [pS, pN, pA, pC, pZ]
  refine do_ rfl (.slice none 0 0) (ex_assign _) ?_
  simp only [pS, pN, pA, pC, pZ]
  refine do_ rfl (.int .i64 (checkN k.length)) (ex_assign _) ?_
  simp only [pS, pN, pA, pC, pZ]
  refine wl_nil (hK41 _ _ ?_)
  refine wp_ret ?_
  (try simp only [Exit.then, Exit.inBlock, ↓reduceIte, Nat.reduceEqDiff])
  refine bodyPost_ret (v := (.tuple #[(.slice none 0 0), (.int .i64 (checkN k.length))])) ?_ rfl ?_
  ·exact res_tt rfl rfl rfl
  ·unfold delR delE
   rw [if_neg hc19]
   exact ⟨_, _, rfl, S10.gr, _, rfl, Sl.nil _ _ _⟩
theorem Sl.dropAny {α : Type} {k : Nat} {R : Fz → List Value → α → Prop} {F : Fz} {a : Option Addr} {n c m : Nat} {l : List α} (hk : 0 < k) (h : Sl k R F (.slice a n c) l) (hm : m ≤ n) : Sl k R F (.slice (if c = m then a else a.map (·.add (m * k))) (n - m) (c - m)) (l.drop m) := by
  have hn := Sl.len h
  obtain ⟨el, h1, h2, h3⟩ := h
  obtain ⟨a0, c0, e1, q1, q2, q3, q4⟩ := h1
  injection e1 with e1 e2 e3
  subst e1; subst e3
  have hll := h2.len
  by_cases hmn : m = l.length
  · have e : l.drop m = [] := List.drop_of_length_le (by omega)
    have e0 : n - m = 0 := by omega
    rw [e, e0]
    refine ⟨[], ⟨_, c - m, rfl, by simp, by omega, fun e => ?_, .inl rfl⟩, trivial, by simp⟩
    cases a with
    | none => have := q3 rfl; exact ⟨rfl, by omega⟩
    | some ad => split at e <;> cases e
  · have hpos : el.flatten ≠ [] := by
      intro e
      have := congrArg List.length e
      rw [flatten_len h3, hll] at this
      have := Nat.mul_pos (show 0 < l.length by omega) hk
      simp at *
      omega
    obtain ⟨b, o, e, hc⟩ := q4.resolve_left hpos
    subst e
    rw [if_neg (by omega)]
    have hs : Sl k R F (.slice (some ⟨b, o, none⟩) n c) l := ⟨el, ⟨_, _, by rw [hn], q1, q2, q3, .inr ⟨b, o, rfl, hc⟩⟩, h2, h3⟩
    have := Sl.dropN (m := m) hs hm rfl rfl
    show Sl k R F (.slice (some (Addr.add ⟨b, o, none⟩ (m * k))) _ _) _
    rw [Addr.add_mid]
    exact this
end Go.Proofs.Ytlimmmidfhpakaa
namespace Go.Proofs.Ytlimmmidfhpakaa
open Go.RowKit
set_option maxRecDepth 100000
set_option linter.unusedVariables false
set_option linter.unusedSimpArgs false
theorem overlapsTenant {w : World} {vn g o la ca lb cb : Nat} {c1 c2 : List Value} {T1 T2 : TypeId} (h1 : w.heap[vn]? = some (.cells c1.toArray T1 (0, 0))) (h2 : w.heap[g]? = some (.cells c2.toArray T2 (0, 0))) (hc : c2.length ≠ 0) (hne : vn ≠ g) :
    (callFunc 63 #[.slice (some ⟨vn, 0, none⟩) la ca, .slice (some ⟨g, o, none⟩) lb cb]).run Try.prog w = .ok (.value (.bool false)) w := by
  rw [run_callFunc_extern Try.func63 (by kernel_rfl) (by kernel_rfl) (by kernel_rfl) (e := Extern.SlicesOverlaps.overlaps #[52, 52] #[4]) (by kernel_rfl),
    Lib.run_overlaps_apart w 52 4 80 Try.underlying52 2 (fun w => sizeof_80 w) ⟨vn, 0, none⟩ ⟨g, o, none⟩ la ca lb cb hne T1 T2 c1.length c2.length (cap_slice (g := 0) h1).1 (cap_slice (g := 0) h2).1 hc (cap_slice h1).2 (cap_slice h1).2]
  rfl
set_option maxHeartbeats 8000000 in
theorem insertEndTenant {w0 w : World} {F0 F : Fz} {L0 : List Blk} {M0 : List RowP} {α : Type} {R : Fz → List Value → α → Prop} {hR : ∀ F F' x p, Le F F' → R F x p → R F' x p} {v : Value} {l : List α} {p : α} {vn : Nat} {cs : List Value} (one : ∀ F cs p, R F cs p → ∀ u ∈ cs, u.oneCell' = true)
    (S : St w0 F0 w F (⟨vn, cs, 80⟩ :: L0) (ownP 2 R hR 80 w0.heap.size v l :: M0)) (hcs : cs.length = 2) (hp : R F cs p) (hl : l.length ≤ 100000) :
    Calls Try.prog 54 #[v, .int .i64 (l.length : Nat), .slice (some ⟨vn, 0, none⟩) 1 1] w fun e w' => ∃ v', e = .returned v' ∧ St w0 F0 w' F L0 (ownP 2 R hR 80 w0.heap.size v' (l ++ [p]) :: M0) := by
 obtain ⟨a, c, rfl, hc1, hc2⟩ := (S.own (i := 0) rfl).shape
 unfold maxLen at hc2
 obtain ⟨i80, hi80, hz80, hs80, hb80⟩ := info_parts info_80
 go_enter Try.func54, Try.ntmps54
 refine wp_seq_k (fun K1 hK1 => region_wl ?_)
 refine do_ rfl (.slice none 0 0) (ex_assign _) ?_
 simp only [pS, pN, pA, pC, pZ]
 refine wl_nil (hK1 _ _ ?_)
 refine wp_seq_k (fun K2 hK2 => region_wl ?_)
 refine do_ rfl (.slice a l.length c) (ex_move _) ?_
 simp only [pS, pN, pA, pC, pZ]
 refine do_ rfl (.int .i64 ((l.length : Nat) : Int)) (ex_move _) ?_
 simp only [pS, pN, pA, pC, pZ]
 refine do_ rfl (.slice (if c = l.length then a else a.map (·.add (l.length * 2))) (l.length - l.length) (c - l.length)) (ex_slice (l := l.length) (h := l.length) (sz := 2) Try.underlying52 rfl (sizeof_80 _) (.inr ⟨_, rfl, rfl⟩) (.inl ⟨rfl, rfl⟩) (by omega) (by omega) (rfl)) ?_
 simp only [pS, pN, pA, pC, pZ]
 refine wl_nil (hK2 _ _ ?_)
 refine wp_seq_k (fun K3 hK3 => region_wl ?_)
 refine do_ rfl (.slice (some ⟨vn, 0, none⟩) 1 1) (ex_move _) ?_
 simp only [pS, pN, pA, pC, pZ]
 refine do_ rfl (.int .i64 1) (ex_len Try.underlying52 rfl) ?_
 simp only [pS, pN, pA, pC, pZ]
 refine do_ rfl (.int .i64 1) (ex_assign _) ?_
 simp only [pS, pN, pA, pC, pZ]
 refine wl_nil (hK3 _ _ ?_)
 refine wp_seq_k (fun K4 hK4 => ?_)
 refine wp_seq_k (fun K5 hK5 => region_wl ?_)
 refine do_ rfl (.int .i64 1) (ex_move _) ?_
 simp only [pS, pN, pA, pC, pZ]
 refine do_ rfl (.bool false) (ex_eql (b := false) rfl rfl (by decide)) ?_
 simp only [pS, pN, pA, pC, pZ]
 refine wl_nil (hK5 _ _ ?_)
 refine wp_cond_false rfl ?_
 refine wp_skip ?_
 refine hK4 _ _ ?_
 refine wp_seq_k (fun K6 hK6 => region_wl ?_)
 refine do_ rfl (.slice a l.length c) (ex_move _) ?_
 simp only [pS, pN, pA, pC, pZ]
 refine do_ rfl (.int .i64 ((l.length : Nat) : Int)) (ex_len Try.underlying52 rfl) ?_
 simp only [pS, pN, pA, pC, pZ]
 refine do_ rfl (.int .i64 ((l.length : Nat) : Int)) (ex_assign _) ?_
 simp only [pS, pN, pA, pC, pZ]
 refine wl_nil (hK6 _ _ ?_)
 refine wp_seq_k (fun K7 hK7 => ?_)
 refine wp_seq_k (fun K8 hK8 => region_wl ?_)
 refine do_ rfl (.int .i64 ((l.length : Nat) : Int)) (ex_move _) ?_
 simp only [pS, pN, pA, pC, pZ]
 refine do_ rfl (.int .i64 ((l.length : Nat) : Int)) (ex_move _) ?_
 simp only [pS, pN, pA, pC, pZ]
 refine do_ rfl (.bool true) (ex_eql (m := ((l.length : Nat) : Int)) (n := ((l.length : Nat) : Int)) (b := true) rfl rfl (beq_iff_eq.2 (rfl))) ?_
 simp only [pS, pN, pA, pC, pZ]
 refine wl_nil (hK8 _ _ ?_)
 refine wp_cond_true rfl ?_
 refine wp_seq_k (fun K9 hK9 => region_wl ?_)
 refine do_ rfl (.slice a l.length c) (ex_move _) ?_
 simp only [pS, pN, pA, pC, pZ]
 refine do_ rfl (.slice (some ⟨vn, 0, none⟩) 1 1) (ex_move _) ?_
 simp only [pS, pN, pA, pC, pZ]
 refine stPush (i := 0) (r := 0) (p := p) (cs := cs) S rfl i80 (.agg #[(.slice none 0 0), (.slice none 0 0)]) 48 Try.underlying52 hi80 hz80 hs80 hb80 rfl (by decide) rfl rfl rfl rfl hcs (one _ _ _ hp) (hp) (Nat.le_refl _) S.gr.below.size (by unfold maxLen; omega) (by omega) ?_
 intro v10 w11 S12 hn13
 simp only [pS, pN, pA, pC, pZ]
 have S12 := St.drop S12 (L' := (L0)) (.cons _ (List.Sublist.refl _))
 have S12 : St w0 F0 w11 F (L0) (ownP 2 R hR 80 w0.heap.size v10 (l ++ [p]) :: M0) := S12
 refine do_ rfl v10 (ex_assign _) ?_
 simp only [pS, pN, pA, pC, pZ]
 refine wl_nil (hK9 _ _ ?_)
 refine wp_ret ?_
 (try simp only [Exit.then, Exit.inBlock, ↓reduceIte, Nat.reduceEqDiff])
 refine bodyPost_ret (v := v10) ?_ rfl ?_
 ·exact res_t rfl rfl
 ·exact ⟨_, rfl, S12⟩
set_option maxHeartbeats 8000000 in
theorem insertMidTenant {g cap i : Nat} {w0 w : World} {F0 F : Fz} {L0 : List Blk} {M0 : List RowP} {α : Type} {R : Fz → List Value → α → Prop} {hR : ∀ F F' x p, Le F F' → R F x p → R F' x p} {l : List α} {p : α} {vn : Nat} {cs : List Value} (one : ∀ F cs p, R F cs p → ∀ u ∈ cs, u.oneCell' = true)
    (S : St w0 F0 w F (⟨vn, cs, 80⟩ :: L0) (ownP 2 R hR 80 w0.heap.size (.slice (some ⟨g, 0, none⟩) l.length cap) l :: M0)) (hcs : cs.length = 2) (hp : R F cs p) (hl : l.length ≤ 100000) (hi : i < l.length) :
    Calls Try.prog 54 #[.slice (some ⟨g, 0, none⟩) l.length cap, .int .i64 (i : Nat), .slice (some ⟨vn, 0, none⟩) 1 1] w fun e w' => ∃ v', e = .returned v' ∧ St w0 F0 w' F L0 (ownP 2 R hR 80 w0.heap.size v' (l.take i ++ p :: l.drop i) :: M0) := by
 obtain ⟨i80, hi80, hz80, hs80, hb80⟩ := info_parts info_80
 have hvg : vn ≠ g := fun e => S.rb _ (List.mem_cons_self ..) _ (List.mem_cons_self ..) (congrArg some e.symm)
 go_enter Try.func54, Try.ntmps54
 obtain ⟨c1, el2, S3, hn9, hcp10, hmx11, hcl4, htk5, hall6, hlen7, hbg8⟩ := St.rowBlk (r := 0) S rfl
 have S3 : St w0 F0 w F (⟨g, c1, 80⟩ :: ⟨vn, cs, 80⟩ :: L0) (M0) := S3
 unfold maxLen at hmx11
 refine wp_seq_k (fun K12 hK12 => region_wl ?_)
 refine do_ rfl (.slice none 0 0) (ex_assign _) ?_
 simp only [pS, pN, pA, pC, pZ]
 refine wl_nil (hK12 _ _ ?_)
 refine wp_seq_k (fun K13 hK13 => region_wl ?_)
 refine do_ rfl (.slice (some ⟨g, 0, none⟩) l.length cap) (ex_move _) ?_
 simp only [pS, pN, pA, pC, pZ]
 refine do_ rfl (.int .i64 ((i : Nat) : Int)) (ex_move _) ?_
 simp only [pS, pN, pA, pC, pZ]
 refine do_ rfl (.slice (some ⟨g, i * 2, none⟩) (l.length - i) (cap - i)) (ex_slice (l := i) (h := l.length) (sz := 2) Try.underlying52 rfl (sizeof_80 _) (.inr ⟨_, rfl, rfl⟩) (.inl ⟨rfl, rfl⟩) (by omega) (by omega) (slice_at (by omega) rfl rfl (by omega))) ?_
 simp only [pS, pN, pA, pC, pZ]
 refine wl_nil (hK13 _ _ ?_)
 refine wp_seq_k (fun K14 hK14 => region_wl ?_)
 refine do_ rfl (.slice (some ⟨vn, 0, none⟩) 1 1) (ex_move _) ?_
 simp only [pS, pN, pA, pC, pZ]
 refine do_ rfl (.int .i64 1) (ex_len Try.underlying52 rfl) ?_
 simp only [pS, pN, pA, pC, pZ]
 refine do_ rfl (.int .i64 1) (ex_assign _) ?_
 simp only [pS, pN, pA, pC, pZ]
 refine wl_nil (hK14 _ _ ?_)
 refine wp_seq_k (fun K15 hK15 => ?_)
 refine wp_seq_k (fun K16 hK16 => region_wl ?_)
 refine do_ rfl (.int .i64 1) (ex_move _) ?_
 simp only [pS, pN, pA, pC, pZ]
 refine do_ rfl (.bool false) (ex_eql (b := false) rfl rfl (by decide)) ?_
 simp only [pS, pN, pA, pC, pZ]
 refine wl_nil (hK16 _ _ ?_)
 refine wp_cond_false rfl ?_
 refine wp_skip ?_
 refine hK15 _ _ ?_
 refine wp_seq_k (fun K17 hK17 => region_wl ?_)
 refine do_ rfl (.slice (some ⟨g, 0, none⟩) l.length cap) (ex_move _) ?_
 simp only [pS, pN, pA, pC, pZ]
 refine do_ rfl (.int .i64 ((l.length : Nat) : Int)) (ex_len Try.underlying52 rfl) ?_
 simp only [pS, pN, pA, pC, pZ]
 refine do_ rfl (.int .i64 ((l.length : Nat) : Int)) (ex_assign _) ?_
 simp only [pS, pN, pA, pC, pZ]
 refine wl_nil (hK17 _ _ ?_)
 refine wp_seq_k (fun K18 hK18 => ?_)
 refine wp_seq_k (fun K19 hK19 => region_wl ?_)
 refine do_ rfl (.int .i64 ((i : Nat) : Int)) (ex_move _) ?_
 simp only [pS, pN, pA, pC, pZ]
 refine do_ rfl (.int .i64 ((l.length : Nat) : Int)) (ex_move _) ?_
 simp only [pS, pN, pA, pC, pZ]
 refine do_ rfl (.bool false) (ex_eql (m := ((i : Nat) : Int)) (n := ((l.length : Nat) : Int)) (b := false) rfl rfl (beq_eq_false_iff_ne.2 (by omega))) ?_
 simp only [pS, pN, pA, pC, pZ]
 refine wl_nil (hK19 _ _ ?_)
 refine wp_cond_false rfl ?_
 refine wp_skip ?_
 refine hK18 _ _ ?_
 refine wp_seq_k (fun K20 hK20 => ?_)
 refine wp_seq_k (fun K21 hK21 => region_wl ?_)
 refine do_ rfl (.int .i64 ((l.length : Nat) : Int)) (ex_move _) ?_
 simp only [pS, pN, pA, pC, pZ]
 refine do_ rfl (.int .i64 1) (ex_move _) ?_
 simp only [pS, pN, pA, pC, pZ]
 refine do_ rfl (.int .i64 (((l.length + 1) : Nat) : Int)) (ex_add (m := ((l.length : Nat) : Int)) (n := (1 : Int)) (r := (((l.length + 1) : Nat) : Int)) rfl rfl (by omega) (by omega) (by omega)) ?_
 simp only [pS, pN, pA, pC, pZ]
 refine do_ rfl (.slice (some ⟨g, 0, none⟩) l.length cap) (ex_move _) ?_
 simp only [pS, pN, pA, pC, pZ]
 refine do_ rfl (.int .i64 ((cap : Nat) : Int)) (ex_cap Try.underlying52 rfl) ?_
 simp only [pS, pN, pA, pC, pZ]
 by_cases hc31 : cap < (l.length + 1)
 ·refine do_ rfl (.bool true) (ex_gtr (m := (((l.length + 1) : Nat) : Int)) (n := ((cap : Nat) : Int)) (b := true) rfl rfl (decide_eq_true (by omega))) ?_
  simp only [pS, pN, pA, pC, pZ]
  refine wl_nil (hK21 _ _ ?_)
  refine wp_cond_true rfl ?_
  refine wp_seq_k (fun K22 hK22 => region_wl ?_)
  refine do_ rfl (.slice (some ⟨g, 0, none⟩) l.length cap) (ex_move _) ?_
  simp only [pS, pN, pA, pC, pZ]
  refine do_ rfl (.int .i64 ((i : Nat) : Int)) (ex_move _) ?_
  simp only [pS, pN, pA, pC, pZ]
  refine do_ rfl (.slice (some ⟨g, 0, none⟩) i cap) (ex_slice (l := 0) (h := i) (sz := 2) Try.underlying52 rfl (sizeof_80 _) (.inl ⟨rfl, rfl⟩) (.inr ⟨_, rfl, rfl⟩) (by omega) (by omega) (slice_zero)) ?_
  simp only [pS, pN, pA, pC, pZ]
  refine do_ rfl (.int .i64 ((l.length : Nat) : Int)) (ex_move _) ?_
  simp only [pS, pN, pA, pC, pZ]
  refine do_ rfl (.int .i64 1) (ex_move _) ?_
  simp only [pS, pN, pA, pC, pZ]
  refine do_ rfl (.int .i64 (((l.length + 1) : Nat) : Int)) (ex_add (m := ((l.length : Nat) : Int)) (n := (1 : Int)) (r := (((l.length + 1) : Nat) : Int)) rfl rfl (by omega) (by omega) (by omega)) ?_
  simp only [pS, pN, pA, pC, pZ]
  refine do_ rfl (.int .i64 ((i : Nat) : Int)) (ex_move _) ?_
  simp only [pS, pN, pA, pC, pZ]
  refine do_ rfl (.int .i64 ((((l.length + 1) - i) : Nat) : Int)) (ex_sub (m := (((l.length + 1) : Nat) : Int)) (n := ((i : Nat) : Int)) (r := ((((l.length + 1) - i) : Nat) : Int)) rfl rfl (by omega) (by omega) (by omega)) ?_
  simp only [pS, pN, pA, pC, pZ]
  refine stGrow (k := 2) (n := i) (m := l.length + 1 - i) (l.length + 1) (c1.take (i * 2)) S3 rfl i80 (.agg #[(.slice none 0 0), (.slice none 0 0)]) 48 Try.underlying52 Try.underlying3 hi80 hz80 hs80 hb80 rfl (by decide) rfl rfl (by omega) (by rw [List.length_take]; omega) (S3.srcT (i := 0) rfl _) (by omega) (by omega) (by unfold maxLen; omega) (by omega) ?_
  intro g25 cp26 nw27 mo28 w23 h29 h30 h31 h32 S24
  unfold maxLen at h30
  simp only [pS, pN, pA, pC, pZ]
  have S24 : St w0 F0 w23 F (⟨g25, (c1.take (i * 2) ++ nw27 ++ mo28), 80⟩ :: ⟨g, c1, 80⟩ :: ⟨vn, cs, 80⟩ :: L0) (M0) := S24
  refine do_ rfl (.slice (some ⟨g25, 0, none⟩) (l.length + 1) cp26) (ex_assign _) ?_
  simp only [pS, pN, pA, pC, pZ]
  refine wl_nil (hK22 _ _ ?_)
  refine wp_seq_k (fun K33 hK33 => region_wl ?_)
  refine do_ rfl (.slice (some ⟨g25, 0, none⟩) (l.length + 1) cp26) (ex_move _) ?_
  simp only [pS, pN, pA, pC, pZ]
  refine do_ rfl (.int .i64 ((i : Nat) : Int)) (ex_move _) ?_
  simp only [pS, pN, pA, pC, pZ]
  refine do_ rfl (.slice (some ⟨g25, i * 2, none⟩) ((l.length + 1) - i) (cp26 - i)) (ex_slice (l := i) (h := (l.length + 1)) (sz := 2) Try.underlying52 rfl (sizeof_80 _) (.inr ⟨_, rfl, rfl⟩) (.inl ⟨rfl, rfl⟩) (by omega) (by omega) (slice_at (by omega) rfl rfl (by omega))) ?_
  simp only [pS, pN, pA, pC, pZ]
  refine do_ rfl (.slice (some ⟨vn, 0, none⟩) 1 1) (ex_move _) ?_
  simp only [pS, pN, pA, pC, pZ]
  refine stCopy (i := 0) (j := i * 2) 1 cs S24 rfl Try.underlying52 size_80 rfl rfl rfl (Nat.min_eq_left (by omega)) (hcs) (by rw [h32, hcs]; omega) (S24.src0 (i := 2) rfl) (one _ _ _ hp) (fun w34 S35 => ?_)
  simp only [pS, pN, pA, pC, pZ]
  have S35 : St w0 F0 w34 F (⟨g25, (splice (c1.take (i * 2) ++ nw27 ++ mo28) (i * 2) cs), 80⟩ :: ⟨g, c1, 80⟩ :: ⟨vn, cs, 80⟩ :: L0) (M0) := S35
  refine wl_nil (hK33 _ _ ?_)
  refine wp_seq_k (fun K36 hK36 => ?_)
  refine region_gw F 8 [] (by kernel_rfl) (by kernel_rfl) ?_
  simp only [List.take_succ_cons, List.take_zero]
  refine gw_pure rfl rfl (.slice (some ⟨g25, 0, none⟩) (l.length + 1) cp26) (fun w37 hCw37 => pureAt_of (ex_move _)) ?_
  simp only [pS, pN, pA, pC, pZ]
  refine gw_pure rfl rfl (.int .i64 ((i : Nat) : Int)) (fun w37 hCw37 => pureAt_of (ex_move _)) ?_
  simp only [pS, pN, pA, pC, pZ]
  refine gw_pure rfl rfl (.int .i64 1) (fun w37 hCw37 => pureAt_of (ex_move _)) ?_
  simp only [pS, pN, pA, pC, pZ]
  refine gw_pure rfl rfl (.int .i64 (((i + 1) : Nat) : Int)) (fun w37 hCw37 => pureAt_of (ex_add (m := ((i : Nat) : Int)) (n := (1 : Int)) (r := (((i + 1) : Nat) : Int)) rfl rfl (by omega) (by omega) (by omega))) ?_
  simp only [pS, pN, pA, pC, pZ]
  refine gw_pure rfl rfl (.slice (some ⟨g25, (i + 1) * 2, none⟩) ((l.length + 1) - (i + 1)) (cp26 - (i + 1))) (fun w37 hCw37 => pureAt_of (ex_slice (l := (i + 1)) (h := (l.length + 1)) (sz := 2) Try.underlying52 rfl (sizeof_80 _) (.inr ⟨_, rfl, rfl⟩) (.inl ⟨rfl, rfl⟩) (by omega) (by omega) (slice_at (by omega) rfl rfl (by omega)))) ?_
  simp only [pS, pN, pA, pC, pZ]
  refine gw_pure rfl rfl (.slice (some ⟨g, 0, none⟩) l.length cap) (fun w37 hCw37 => pureAt_of (ex_move _)) ?_
  simp only [pS, pN, pA, pC, pZ]
  refine gw_pure rfl rfl (.int .i64 ((i : Nat) : Int)) (fun w37 hCw37 => pureAt_of (ex_move _)) ?_
  simp only [pS, pN, pA, pC, pZ]
  refine gw_pure rfl rfl (.slice (some ⟨g, i * 2, none⟩) (l.length - i) (cap - i)) (fun w37 hCw37 => pureAt_of (ex_slice (l := i) (h := l.length) (sz := 2) Try.underlying52 rfl (sizeof_80 _) (.inr ⟨_, rfl, rfl⟩) (.inl ⟨rfl, rfl⟩) (by omega) (by omega) (slice_at (by omega) rfl rfl (by omega)))) ?_
  simp only [pS, pN, pA, pC, pZ]
  refine gw_nil ?_
  intro w38 hC40 hF41
  clear hF41
  have S39 := St.tells S35 hC40
  simp only [List.drop_succ_cons, List.drop_zero]
  have hml : ((c1.drop (i * 2)).take ((l.length - i) * 2)).length = (l.length - i) * 2 := by rw [List.length_take, List.length_drop, hcl4]; omega
  refine stCopy (i := 0) (j := (i + 1) * 2) (l.length - i) ((c1.drop (i * 2)).take ((l.length - i) * 2)) S39 rfl Try.underlying52 size_80 rfl rfl rfl (Nat.min_eq_left (by omega)) (hml) (by rw [splice_len (by rw [h32, hcs]; omega), h32, hml]; omega) (S39.src (i := 1) rfl _ _) (one_mid one hall6 htk5 i) (fun w42 S43 => ?_)
  simp only [pS, pN, pA, pC, pZ]
  have S43 : St w0 F0 w42 F (⟨g25, (splice (splice (c1.take (i * 2) ++ nw27 ++ mo28) (i * 2) cs) ((i + 1) * 2) ((c1.drop (i * 2)).take ((l.length - i) * 2))), 80⟩ :: ⟨g, c1, 80⟩ :: ⟨vn, cs, 80⟩ :: L0) (M0) := S43
  refine wl_nil (hK36 _ _ ?_)
  refine wp_seq_k (fun K44 hK44 => region_wl ?_)
  refine do_ rfl (.slice (some ⟨g25, 0, none⟩) (l.length + 1) cp26) (ex_move _) ?_
  simp only [pS, pN, pA, pC, pZ]
  refine do_ rfl (.slice (some ⟨g25, 0, none⟩) (l.length + 1) cp26) (ex_assign _) ?_
  simp only [pS, pN, pA, pC, pZ]
  refine wl_nil (hK44 _ _ ?_)
  refine wp_ret ?_
  (try simp only [Exit.then, Exit.inBlock, ↓reduceIte, Nat.reduceEqDiff])
  refine bodyPost_ret (v := (.slice (some ⟨g25, 0, none⟩) (l.length + 1) cp26)) ?_ rfl ?_
  ·exact res_t rfl rfl
  ·have hdrop := St.drop S43 (L' := ⟨g25, splice (splice (c1.take (i * 2) ++ nw27 ++ mo28) (i * 2) cs) ((i + 1) * 2) ((c1.drop (i * 2)).take ((l.length - i) * 2)), 80⟩ :: L0) (.cons_cons _ (.cons _ (.cons _ (List.Sublist.refl _))))
   have hll : (l.take i ++ p :: l.drop i).length = l.length + 1 := by rw [List.length_append, List.length_cons, List.length_take, List.length_drop]; omega
   have hrow := St.blkRow (k := 2) (base := w0.heap.size) (R := R) (hR := hR) (l := l.take i ++ p :: l.drop i) (cap := cp26) hdrop (el := el2.take i ++ cs :: el2.drop i) (by rw [hll]; exact (cells_grow hlen7 htk5 (by omega) (by rw [hcl4]; omega) h31 hcs)) (allR_insert hall6 i hp) (len_insert hlen7 i hcs) (by rw [splice_len (by rw [splice_len (by rw [h32, hcs]; omega), h32, hml]; omega), splice_len (by rw [h32, hcs]; omega), h32]) (by omega) (by unfold maxLen; omega) (hdrop.blk _ (List.mem_cons_self ..)).2.2
   rw [hll] at hrow
   exact ⟨_, rfl, hrow⟩
 ·refine do_ rfl (.bool false) (ex_gtr (m := (((l.length + 1) : Nat) : Int)) (n := ((cap : Nat) : Int)) (b := false) rfl rfl (decide_eq_false (by omega))) ?_
  simp only [pS, pN, pA, pC, pZ]
  refine wl_nil (hK21 _ _ ?_)
  refine wp_cond_false rfl ?_
  refine wp_skip ?_
  refine hK20 _ _ ?_
  refine wp_seq_k (fun K45 hK45 => region_wl ?_)
  refine do_ rfl (.slice (some ⟨g, 0, none⟩) l.length cap) (ex_move _) ?_
  simp only [pS, pN, pA, pC, pZ]
  refine do_ rfl (.int .i64 ((l.length : Nat) : Int)) (ex_move _) ?_
  simp only [pS, pN, pA, pC, pZ]
  refine do_ rfl (.int .i64 1) (ex_move _) ?_
  simp only [pS, pN, pA, pC, pZ]
  refine do_ rfl (.int .i64 (((l.length + 1) : Nat) : Int)) (ex_add (m := ((l.length : Nat) : Int)) (n := (1 : Int)) (r := (((l.length + 1) : Nat) : Int)) rfl rfl (by omega) (by omega) (by omega)) ?_
  simp only [pS, pN, pA, pC, pZ]
  refine do_ rfl (.slice (some ⟨g, 0, none⟩) (l.length + 1) cap) (ex_slice (l := 0) (h := (l.length + 1)) (sz := 2) Try.underlying52 rfl (sizeof_80 _) (.inl ⟨rfl, rfl⟩) (.inr ⟨_, rfl, rfl⟩) (by omega) (by omega) (slice_zero)) ?_
  simp only [pS, pN, pA, pC, pZ]
  refine do_ rfl (.slice (some ⟨g, 0, none⟩) (l.length + 1) cap) (ex_assign _) ?_
  simp only [pS, pN, pA, pC, pZ]
  refine wl_nil (hK45 _ _ ?_)
  refine wp_seq_k (fun K46 hK46 => ?_)
  refine wp_seq_k (fun K47 hK47 => region_wl ?_)
  refine do_ rfl (.slice (some ⟨vn, 0, none⟩) 1 1) (ex_move _) ?_
  simp only [pS, pN, pA, pC, pZ]
  refine do_ rfl (.slice (some ⟨g, 0, none⟩) (l.length + 1) cap) (ex_move _) ?_
  simp only [pS, pN, pA, pC, pZ]
  refine do_ rfl (.int .i64 ((i : Nat) : Int)) (ex_move _) ?_
  simp only [pS, pN, pA, pC, pZ]
  refine do_ rfl (.int .i64 1) (ex_move _) ?_
  simp only [pS, pN, pA, pC, pZ]
  refine do_ rfl (.int .i64 (((i + 1) : Nat) : Int)) (ex_add (m := ((i : Nat) : Int)) (n := (1 : Int)) (r := (((i + 1) : Nat) : Int)) rfl rfl (by omega) (by omega) (by omega)) ?_
  simp only [pS, pN, pA, pC, pZ]
  refine do_ rfl (.slice (some ⟨g, (i + 1) * 2, none⟩) ((l.length + 1) - (i + 1)) (cap - (i + 1))) (ex_slice (l := (i + 1)) (h := (l.length + 1)) (sz := 2) Try.underlying52 rfl (sizeof_80 _) (.inr ⟨_, rfl, rfl⟩) (.inl ⟨rfl, rfl⟩) (by omega) (by omega) (slice_at (by omega) rfl rfl (by omega))) ?_
  simp only [pS, pN, pA, pC, pZ]
  refine do_ rfl (.bool false) (ex_fnv (vs := #[(.slice (some ⟨vn, 0, none⟩) 1 1), (.slice (some ⟨g, (i + 1) * 2, none⟩) ((l.length + 1) - (i + 1)) (cap - (i + 1)))]) (map2 rfl rfl) rfl (overlapsTenant (S3.blk ⟨vn, cs, 80⟩ (by simp)).1 (S3.blk ⟨g, c1, 80⟩ (by simp)).1 (by rw [hcl4]; omega) hvg)) ?_
  simp only [pS, pN, pA, pC, pZ]
  refine do_ rfl (.bool true) (ex_not (b := false) rfl rfl) ?_
  simp only [pS, pN, pA, pC, pZ]
  refine wl_nil (hK47 _ _ ?_)
  refine wp_cond_true rfl ?_
  refine wp_seq_k (fun K48 hK48 => ?_)
  refine region_gw F 8 [] (by kernel_rfl) (by kernel_rfl) ?_
  simp only [List.take_succ_cons, List.take_zero]
  refine gw_pure rfl rfl (.slice (some ⟨g, 0, none⟩) (l.length + 1) cap) (fun w49 hCw49 => pureAt_of (ex_move _)) ?_
  simp only [pS, pN, pA, pC, pZ]
  refine gw_pure rfl rfl (.int .i64 ((i : Nat) : Int)) (fun w49 hCw49 => pureAt_of (ex_move _)) ?_
  simp only [pS, pN, pA, pC, pZ]
  refine gw_pure rfl rfl (.int .i64 1) (fun w49 hCw49 => pureAt_of (ex_move _)) ?_
  simp only [pS, pN, pA, pC, pZ]
  refine gw_pure rfl rfl (.int .i64 (((i + 1) : Nat) : Int)) (fun w49 hCw49 => pureAt_of (ex_add (m := ((i : Nat) : Int)) (n := (1 : Int)) (r := (((i + 1) : Nat) : Int)) rfl rfl (by omega) (by omega) (by omega))) ?_
  simp only [pS, pN, pA, pC, pZ]
  refine gw_pure rfl rfl (.slice (some ⟨g, (i + 1) * 2, none⟩) ((l.length + 1) - (i + 1)) (cap - (i + 1))) (fun w49 hCw49 => pureAt_of (ex_slice (l := (i + 1)) (h := (l.length + 1)) (sz := 2) Try.underlying52 rfl (sizeof_80 _) (.inr ⟨_, rfl, rfl⟩) (.inl ⟨rfl, rfl⟩) (by omega) (by omega) (slice_at (by omega) rfl rfl (by omega)))) ?_
  simp only [pS, pN, pA, pC, pZ]
  refine gw_pure rfl rfl (.slice (some ⟨g, 0, none⟩) (l.length + 1) cap) (fun w49 hCw49 => pureAt_of (ex_move _)) ?_
  simp only [pS, pN, pA, pC, pZ]
  refine gw_pure rfl rfl (.int .i64 ((i : Nat) : Int)) (fun w49 hCw49 => pureAt_of (ex_move _)) ?_
  simp only [pS, pN, pA, pC, pZ]
  refine gw_pure rfl rfl (.slice (some ⟨g, i * 2, none⟩) ((l.length + 1) - i) (cap - i)) (fun w49 hCw49 => pureAt_of (ex_slice (l := i) (h := (l.length + 1)) (sz := 2) Try.underlying52 rfl (sizeof_80 _) (.inr ⟨_, rfl, rfl⟩) (.inl ⟨rfl, rfl⟩) (by omega) (by omega) (slice_at (by omega) rfl rfl (by omega)))) ?_
  simp only [pS, pN, pA, pC, pZ]
  refine gw_nil ?_
  intro w50 hC52 hF53
  clear hF53
  have S51 := St.tells S3 hC52
  simp only [List.drop_succ_cons, List.drop_zero]
  have hml : ((c1.drop (i * 2)).take ((l.length - i) * 2)).length = (l.length - i) * 2 := by rw [List.length_take, List.length_drop, hcl4]; omega
  refine stCopy (i := 0) (j := (i + 1) * 2) (l.length - i) ((c1.drop (i * 2)).take ((l.length - i) * 2)) S51 rfl Try.underlying52 size_80 rfl rfl rfl ((Nat.min_eq_right (by omega)).trans (by omega)) (hml) (by rw [hcl4, hml]; omega) (S51.src (i := 0) rfl _ _) (one_mid one hall6 htk5 i) (fun w54 S55 => ?_)
  simp only [pS, pN, pA, pC, pZ]
  have S55 : St w0 F0 w54 F (⟨g, (splice c1 ((i + 1) * 2) ((c1.drop (i * 2)).take ((l.length - i) * 2))), 80⟩ :: ⟨vn, cs, 80⟩ :: L0) (M0) := S55
  refine wl_nil (hK48 _ _ ?_)
  refine wp_seq_k (fun K56 hK56 => region_wl ?_)
  refine do_ rfl (.slice (some ⟨g, 0, none⟩) (l.length + 1) cap) (ex_move _) ?_
  simp only [pS, pN, pA, pC, pZ]
  refine do_ rfl (.int .i64 ((i : Nat) : Int)) (ex_move _) ?_
  simp only [pS, pN, pA, pC, pZ]
  refine do_ rfl (.slice (some ⟨g, i * 2, none⟩) ((l.length + 1) - i) (cap - i)) (ex_slice (l := i) (h := (l.length + 1)) (sz := 2) Try.underlying52 rfl (sizeof_80 _) (.inr ⟨_, rfl, rfl⟩) (.inl ⟨rfl, rfl⟩) (by omega) (by omega) (slice_at (by omega) rfl rfl (by omega))) ?_
  simp only [pS, pN, pA, pC, pZ]
  refine do_ rfl (.slice (some ⟨vn, 0, none⟩) 1 1) (ex_move _) ?_
  simp only [pS, pN, pA, pC, pZ]
  refine stCopy (i := 0) (j := i * 2) 1 cs S55 rfl Try.underlying52 size_80 rfl rfl rfl (Nat.min_eq_left (by omega)) (hcs) (by rw [splice_len (by rw [hcl4, hml]; omega), hcl4, hcs]; omega) (S55.src0 (i := 1) rfl) (one _ _ _ hp) (fun w57 S58 => ?_)
  simp only [pS, pN, pA, pC, pZ]
  have S58 : St w0 F0 w57 F (⟨g, (splice (splice c1 ((i + 1) * 2) ((c1.drop (i * 2)).take ((l.length - i) * 2))) (i * 2) cs), 80⟩ :: ⟨vn, cs, 80⟩ :: L0) (M0) := S58
  refine wl_nil (hK56 _ _ ?_)
  refine wp_seq_k (fun K59 hK59 => region_wl ?_)
  refine do_ rfl (.slice (some ⟨g, 0, none⟩) (l.length + 1) cap) (ex_move _) ?_
  simp only [pS, pN, pA, pC, pZ]
  refine do_ rfl (.slice (some ⟨g, 0, none⟩) (l.length + 1) cap) (ex_assign _) ?_
  simp only [pS, pN, pA, pC, pZ]
  refine wl_nil (hK59 _ _ ?_)
  refine wp_ret ?_
  (try simp only [Exit.then, Exit.inBlock, ↓reduceIte, Nat.reduceEqDiff])
  refine bodyPost_ret (v := (.slice (some ⟨g, 0, none⟩) (l.length + 1) cap)) ?_ rfl ?_
  ·exact res_t rfl rfl
  ·have hdrop := St.drop S58 (L' := ⟨g, splice (splice c1 ((i + 1) * 2) ((c1.drop (i * 2)).take ((l.length - i) * 2))) (i * 2) cs, 80⟩ :: L0) (.cons_cons _ (.cons _ (List.Sublist.refl _)))
   have hll : (l.take i ++ p :: l.drop i).length = l.length + 1 := by rw [List.length_append, List.length_cons, List.length_take, List.length_drop]; omega
   have hrow := St.blkRow (k := 2) (base := w0.heap.size) (R := R) (hR := hR) (l := l.take i ++ p :: l.drop i) (cap := cap) hdrop (el := el2.take i ++ cs :: el2.drop i) (by rw [hll]; exact (cells_ins hlen7 htk5 (by omega) (by rw [hcl4]; omega) hcs)) (allR_insert hall6 i hp) (len_insert hlen7 i hcs) (by rw [splice_len (by rw [splice_len (by rw [hcl4, hml]; omega), hcl4, hcs]; omega), splice_len (by rw [hcl4, hml]; omega), hcl4]) (by omega) (by unfold maxLen; omega) (hdrop.blk _ (List.mem_cons_self ..)).2.2
   rw [hll] at hrow
   exact ⟨_, rfl, hrow⟩
theorem insertTenant {i : Nat} {w0 w : World} {F0 F : Fz} {L0 : List Blk} {M0 : List RowP} {α : Type} {R : Fz → List Value → α → Prop} {hR : ∀ F F' x p, Le F F' → R F x p → R F' x p} {v : Value} {l : List α} {p : α} {vn : Nat} {cs : List Value} (one : ∀ F cs p, R F cs p → ∀ u ∈ cs, u.oneCell' = true)
    (S : St w0 F0 w F (⟨vn, cs, 80⟩ :: L0) (ownP 2 R hR 80 w0.heap.size v l :: M0)) (hcs : cs.length = 2) (hp : R F cs p) (hl : l.length ≤ 100000) (hi : i ≤ l.length) :
    Calls Try.prog 54 #[v, .int .i64 (i : Nat), .slice (some ⟨vn, 0, none⟩) 1 1] w fun e w' => ∃ v', e = .returned v' ∧ St w0 F0 w' F L0 (ownP 2 R hR 80 w0.heap.size v' (l.take i ++ p :: l.drop i) :: M0) := by
  rcases Nat.lt_or_ge i l.length with h | h
  · obtain ⟨g, cap, rfl, _⟩ := (S.own (i := 0) rfl).form (by omega)
    exact insertMidTenant one S hcs hp hl h
  · obtain rfl : i = l.length := by omega
    have := insertEndTenant one S hcs hp hl
    rw [List.take_length, List.drop_length]
    exact this
set_option maxHeartbeats 8000000 in
theorem deleteMidTenant {g cap i : Nat} {w0 w : World} {F0 F : Fz} {L0 : List Blk} {M0 : List RowP} {α : Type} {R : Fz → List Value → α → Prop} {hR : ∀ F F' x p, Le F F' → R F x p → R F' x p} {l : List α} (one : ∀ F cs p, R F cs p → ∀ u ∈ cs, u.oneCell' = true)
    (S : St w0 F0 w F L0 (ownP 2 R hR 80 w0.heap.size (.slice (some ⟨g, 0, none⟩) l.length cap) l :: M0)) (hl : l.length ≤ 100000) (hi : i < l.length) :
    Calls Try.prog 53 #[.slice (some ⟨g, 0, none⟩) l.length cap, .int .i64 (i : Nat), .int .i64 ((i + 1 : Nat) : Int)] w fun e w' => ∃ v', e = .returned v' ∧ St w0 F0 w' F L0 (ownP 2 R hR 80 w0.heap.size v' (l.take i ++ l.drop (i + 1)) :: M0) := by
 obtain ⟨i80, hi80, hz80, hs80, hb80⟩ := info_parts info_80
 go_enter Try.func53, Try.ntmps53
 obtain ⟨c1, el2, S3, hn9, hcp10, hmx11, hcl4, htk5, hall6, hlen7, hbg8⟩ := St.rowBlk (r := 0) S rfl
 have S3 : St w0 F0 w F (⟨g, c1, 80⟩ :: L0) (M0) := S3
 unfold maxLen at hmx11
 refine wp_seq_k (fun K12 hK12 => region_wl ?_)
 refine do_ rfl (.slice none 0 0) (ex_assign _) ?_
 simp only [pS, pN, pA, pC, pZ]
 refine wl_nil (hK12 _ _ ?_)
 refine wp_seq_k (fun K13 hK13 => region_wl ?_)
 refine do_ rfl (.slice (some ⟨g, 0, none⟩) l.length cap) (ex_move _) ?_
 simp only [pS, pN, pA, pC, pZ]
 refine do_ rfl (.int .i64 ((i : Nat) : Int)) (ex_move _) ?_
 simp only [pS, pN, pA, pC, pZ]
 refine do_ rfl (.int .i64 (((i + 1) : Nat) : Int)) (ex_move _) ?_
 simp only [pS, pN, pA, pC, pZ]
 refine do_ rfl (.slice (some ⟨g, 0, none⟩) l.length cap) (ex_move _) ?_
 simp only [pS, pN, pA, pC, pZ]
 refine do_ rfl (.int .i64 ((l.length : Nat) : Int)) (ex_len Try.underlying52 rfl) ?_
 simp only [pS, pN, pA, pC, pZ]
 refine do_ rfl (.slice (if l.length = i then ((some ⟨g, 0, none⟩) : Option Addr) else ((some ⟨g, 0, none⟩) : Option Addr).map (fun q => Addr.add q (i * 2))) ((i + 1) - i) (l.length - i)) (ex_slice3 (l := i) (h := (i + 1)) (m := l.length) (sz := 2) Try.underlying52 rfl (sizeof_80 _) rfl rfl rfl (by omega) (by omega) (by omega) rfl) ?_
 simp only [pS, pN, pA, pC, pZ]
 refine wl_nil (hK13 _ _ ?_)
 refine wp_seq_k (fun K14 hK14 => ?_)
 refine wp_seq_k (fun K15 hK15 => region_wl ?_)
 refine do_ rfl (.int .i64 ((i : Nat) : Int)) (ex_move _) ?_
 simp only [pS, pN, pA, pC, pZ]
 refine do_ rfl (.int .i64 (((i + 1) : Nat) : Int)) (ex_move _) ?_
 simp only [pS, pN, pA, pC, pZ]
 refine do_ rfl (.bool false) (ex_eql (m := ((i : Nat) : Int)) (n := (((i + 1) : Nat) : Int)) (b := false) rfl rfl (beq_eq_false_iff_ne.2 (by omega))) ?_
 simp only [pS, pN, pA, pC, pZ]
 refine wl_nil (hK15 _ _ ?_)
 refine wp_cond_false rfl ?_
 refine wp_skip ?_
 refine hK14 _ _ ?_
 refine wp_seq_k (fun K16 hK16 => region_wl ?_)
 refine do_ rfl (.slice (some ⟨g, 0, none⟩) l.length cap) (ex_move _) ?_
 simp only [pS, pN, pA, pC, pZ]
 refine do_ rfl (.int .i64 ((l.length : Nat) : Int)) (ex_len Try.underlying52 rfl) ?_
 simp only [pS, pN, pA, pC, pZ]
 refine do_ rfl (.int .i64 ((l.length : Nat) : Int)) (ex_assign _) ?_
 simp only [pS, pN, pA, pC, pZ]
 refine wl_nil (hK16 _ _ ?_)
 refine wp_seq_k (fun K17 hK17 => ?_)
 refine region_gw F 6 [] (by kernel_rfl) (by kernel_rfl) ?_
 simp only [List.take_succ_cons, List.take_zero]
 refine gw_pure rfl rfl (.slice (some ⟨g, 0, none⟩) l.length cap) (fun w18 hCw18 => pureAt_of (ex_move _)) ?_
 simp only [pS, pN, pA, pC, pZ]
 refine gw_pure rfl rfl (.int .i64 ((i : Nat) : Int)) (fun w18 hCw18 => pureAt_of (ex_move _)) ?_
 simp only [pS, pN, pA, pC, pZ]
 refine gw_pure rfl rfl (.slice (some ⟨g, 0, none⟩) i cap) (fun w18 hCw18 => pureAt_of (ex_slice (l := 0) (h := i) (sz := 2) Try.underlying52 rfl (sizeof_80 _) (.inl ⟨rfl, rfl⟩) (.inr ⟨_, rfl, rfl⟩) (by omega) (by omega) (slice_zero))) ?_
 simp only [pS, pN, pA, pC, pZ]
 refine gw_pure rfl rfl (.slice (some ⟨g, 0, none⟩) l.length cap) (fun w18 hCw18 => pureAt_of (ex_move _)) ?_
 simp only [pS, pN, pA, pC, pZ]
 refine gw_pure rfl rfl (.int .i64 (((i + 1) : Nat) : Int)) (fun w18 hCw18 => pureAt_of (ex_move _)) ?_
 simp only [pS, pN, pA, pC, pZ]
 refine gw_pure rfl rfl (.slice (if cap = i + 1 then some ⟨g, 0, none⟩ else some ⟨g, (i + 1) * 2, none⟩) (l.length - (i + 1)) (cap - (i + 1))) (fun w18 hCw18 => pureAt_of (ex_slice (l := (i + 1)) (h := l.length) (sz := 2) Try.underlying52 rfl (sizeof_80 _) (.inr ⟨_, rfl, rfl⟩) (.inl ⟨rfl, rfl⟩) (by omega) (by omega) (by rw [show (some (⟨g, 0, none⟩ : Addr)).map (·.add ((i + 1) * 2)) = some ⟨g, (i + 1) * 2, none⟩ from by rw [Option.map_some, Addr.add_mid, Nat.zero_add]]))) ?_
 simp only [pS, pN, pA, pC, pZ]
 refine gw_nil ?_
 intro w19 hC21 hF22
 clear hF22
 have S20 := St.tells S3 hC21
 simp only [List.drop_succ_cons, List.drop_zero]
 have hml : ((c1.drop ((i + 1) * 2)).take ((l.length - (i + 1)) * 2)).length = (l.length - (i + 1)) * 2 := by rw [List.length_take, List.length_drop, hcl4]; omega
 have hone := one_mid one hall6 htk5 (i + 1)
 have hsrc := S20.src (i := 0) rfl ((i + 1) * 2) ((l.length - (i + 1)) * 2)
 obtain ⟨ad, had, hsrc2⟩ : ∃ ad : Addr, (if cap = i + 1 then some (⟨g, 0, none⟩ : Addr) else some ⟨g, (i + 1) * 2, none⟩) = some ad ∧ ∀ q u, ((c1.drop ((i + 1) * 2)).take ((l.length - (i + 1)) * 2))[q]? = some u → w19.cell? (ad.add q) = some u := by
  by_cases hcc : cap = i + 1
  ·rw [if_pos hcc]
   refine ⟨_, rfl, fun q u hu => ?_⟩
   have hq := (List.getElem?_eq_some_iff.1 hu).1
   rw [hml] at hq
   omega
  ·rw [if_neg hcc]
   exact ⟨_, rfl, hsrc⟩
 refine stRoom (k := 2) (i := 0) (n := i) (m := l.length - (i + 1)) (ad := ad) (cp := cap - (i + 1)) (l.length - 1) ((c1.drop ((i + 1) * 2)).take ((l.length - (i + 1)) * 2)) S20 rfl i80 Try.underlying52 hi80 hs80 rfl (show _ = _ from by rw [← had]; rfl) rfl hml hsrc2 hone (by omega) (by omega) (by rw [hml, hcl4]; omega) (fun w23 S24 => ?_)
 simp only [pS, pN, pA, pC, pZ]
 have S24 : St w0 F0 w23 F (⟨g, (splice c1 (i * 2) ((c1.drop ((i + 1) * 2)).take ((l.length - (i + 1)) * 2))), 80⟩ :: L0) (M0) := S24
 refine do_ rfl (.slice (some ⟨g, 0, none⟩) (l.length - 1) cap) (ex_assign _) ?_
 simp only [pS, pN, pA, pC, pZ]
 refine wl_nil (hK17 _ _ ?_)
 refine wp_seq_k (fun K25 hK25 => region_wl ?_)
 refine do_ rfl (.slice (some ⟨g, 0, none⟩) (l.length - 1) cap) (ex_move _) ?_
 simp only [pS, pN, pA, pC, pZ]
 refine do_ rfl (.slice (some ⟨g, 0, none⟩) (l.length - 1) cap) (ex_move _) ?_
 simp only [pS, pN, pA, pC, pZ]
 refine do_ rfl (.int .i64 (((l.length - 1) : Nat) : Int)) (ex_len Try.underlying52 rfl) ?_
 simp only [pS, pN, pA, pC, pZ]
 refine do_ rfl (.int .i64 ((l.length : Nat) : Int)) (ex_move _) ?_
 simp only [pS, pN, pA, pC, pZ]
 refine do_ rfl (.slice (some ⟨g, (l.length - 1) * 2, none⟩) 1 (cap - (l.length - 1))) (ex_slice (l := (l.length - 1)) (h := l.length) (sz := 2) Try.underlying52 rfl (sizeof_80 _) (.inr ⟨_, rfl, rfl⟩) (.inr ⟨_, rfl, rfl⟩) (by omega) (by omega) (slice_at (by omega) (by omega) rfl (by omega))) ?_
 simp only [pS, pN, pA, pC, pZ]
 refine stClear (i := 0) (n := 1) (.agg #[(.slice none 0 0), (.slice none 0 0)]) [(.slice none 0 0), (.slice none 0 0)] S24 rfl Try.underlying52 (fun w => zero_80 w) (by kernel_rfl) rfl (by decide) rfl (by rw [splice_len (by rw [hml, hcl4]; omega), hcl4]; show _ + 2 ≤ _; omega) (by intro u hu; simp only [List.mem_cons, List.not_mem_nil, or_false] at hu; rcases hu with rfl | rfl <;> rfl) (fun w26 S27 => ?_)
 simp only [pS, pN, pA, pC, pZ]
 have S27 : St w0 F0 w26 F (⟨g, (splice (splice c1 (i * 2) ((c1.drop ((i + 1) * 2)).take ((l.length - (i + 1)) * 2))) ((l.length - 1) * 2) [(.slice none 0 0), (.slice none 0 0)]), 80⟩ :: L0) (M0) := S27
 refine wl_nil (hK25 _ _ ?_)
 refine wp_seq_k (fun K28 hK28 => region_wl ?_)
 refine do_ rfl (.slice (some ⟨g, 0, none⟩) (l.length - 1) cap) (ex_move _) ?_
 simp only [pS, pN, pA, pC, pZ]
 refine do_ rfl (.slice (some ⟨g, 0, none⟩) (l.length - 1) cap) (ex_assign _) ?_
 simp only [pS, pN, pA, pC, pZ]
 refine wl_nil (hK28 _ _ ?_)
 refine wp_ret ?_
 (try simp only [Exit.then, Exit.inBlock, ↓reduceIte, Nat.reduceEqDiff])
 refine bodyPost_ret (v := (.slice (some ⟨g, 0, none⟩) (l.length - 1) cap)) ?_ rfl ?_
 ·exact res_t rfl rfl
 ·have hll : (l.take i ++ l.drop (i + 1)).length = l.length - 1 := by rw [List.length_append, List.length_take, List.length_drop]; omega
  have hrow := St.blkRow (k := 2) (base := w0.heap.size) (R := R) (hR := hR) (l := l.take i ++ l.drop (i + 1)) (cap := cap) S27 (el := el2.take i ++ el2.drop (i + 1)) (by rw [hll]; exact cells_del (zs := [(.slice none 0 0), (.slice none 0 0)]) hlen7 htk5 hi (by rw [hcl4]; omega) rfl) (allR_delete hall6 i) (len_delete hlen7 i) (by rw [splice_len (by rw [splice_len (by rw [hml, hcl4]; omega), hcl4]; show _ + 2 ≤ _; omega), splice_len (by rw [hml, hcl4]; omega), hcl4]) (by omega) (by unfold maxLen; omega) (S27.blk _ (List.mem_cons_self ..)).2.2
  rw [hll] at hrow
  exact ⟨_, rfl, hrow⟩
theorem deleteTenant {i : Nat} {w0 w : World} {F0 F : Fz} {L0 : List Blk} {M0 : List RowP} {α : Type} {R : Fz → List Value → α → Prop} {hR : ∀ F F' x p, Le F F' → R F x p → R F' x p} {v : Value} {l : List α} (one : ∀ F cs p, R F cs p → ∀ u ∈ cs, u.oneCell' = true)
    (S : St w0 F0 w F L0 (ownP 2 R hR 80 w0.heap.size v l :: M0)) (hl : l.length ≤ 100000) (hi : i < l.length) :
    Calls Try.prog 53 #[v, .int .i64 (i : Nat), .int .i64 ((i + 1 : Nat) : Int)] w fun e w' => ∃ v', e = .returned v' ∧ St w0 F0 w' F L0 (ownP 2 R hR 80 w0.heap.size v' (l.take i ++ l.drop (i + 1)) :: M0) := by
  obtain ⟨g, cap, rfl, _⟩ := (S.own (i := 0) rfl).form (by omega)
  exact deleteMidTenant one S hl hi
end Go.Proofs.Ytlimmmidfhpakaa
namespace Go.Proofs.Ytlimmmidfhpakaa
open Go.RowKit
/-- What is wrong with a write by itself. -/
def wrE (w : Wr) : Int := if nameN w.name.length ≠ 0 then nameN w.name.length else if w.gone = true then (if checkN w.key.length ≠ 0 then checkN w.key.length else if 0 < w.value.length then 4 else 0) else pairE (w.key, w.value)
theorem nameN_zero {n : Nat} : nameN n = 0 ↔ 1 ≤ n ∧ n ≤ 8 := by unfold nameN; split <;> simp_all
theorem checkN_zero {n : Nat} : checkN n = 0 ↔ 1 ≤ n ∧ n ≤ 16 := by unfold checkN; split <;> simp_all
theorem wrE_ok {w : Wr} : wrE w = 0 ↔ WrOk w := by
  unfold wrE
  by_cases h1 : nameN w.name.length = 0
  · rw [if_neg (by simp [h1])]
    have hn := nameN_zero.1 h1
    cases hg : w.gone with
    | true =>
      simp only [if_true]
      by_cases h2 : checkN w.key.length = 0
      · rw [if_neg (by simp [h2])]
        have hk := checkN_zero.1 h2
        by_cases h3 : 0 < w.value.length
        · rw [if_pos h3]
          refine ⟨fun h => by omega, fun h => ?_⟩
          have := h.gone hg
          rw [this] at h3; simp at h3
        · rw [if_neg h3]
          have hv : w.value = [] := List.eq_nil_of_length_eq_zero (by omega)
          exact ⟨fun _ => ⟨hn, hk.1, hk.2, by rw [hv]; simp, fun _ => hv⟩, fun _ => rfl⟩
      · rw [if_pos h2]
        exact ⟨fun h => absurd h h2, fun h => absurd (checkN_zero.2 ⟨h.key1, h.key2⟩) h2⟩
    | false =>
      simp only [Bool.false_eq_true, if_false]
      rw [pairE_ok]
      exact ⟨fun h => ⟨hn, h.1, h.2.1, h.2.2, fun h => by rw [hg] at h; cases h⟩, fun h => ⟨h.key1, h.key2, h.value⟩⟩
  · rw [if_pos h1]
    exact ⟨fun h => absurd h h1, fun h => absurd (nameN_zero.2 h.name) h1⟩
theorem writeF_ok60 {f g : Forest} (hf : ForestOk 60 f) {w : Wr} (hw : WrOk w) (h : writeF f w = some g) : ForestOk 60 g := by
  have h61 := writeF_ok hf hw h
  refine ⟨h61.len, h61.name, h61.some, fun t ht => ?_, h61.rise⟩
  have ht61 := h61.tree t ht
  refine ⟨?_, ht61.ok, ht61.rise⟩
  rcases writeF_some h with ⟨_, rfl⟩ | ⟨h1, rfl, _⟩
  · have : t ∈ f := by rw [delT_rem _ hf.rise] at ht; exact mem_remT ht
    exact (hf.tree t this).len
  · rw [putT_ins _ _ hf.rise] at ht
    rcases mem_insT ht with rfl | ht
    · show (nextT w (treeF f w.name)).length ≤ 60
      unfold writeF at h
      dsimp only at h
      by_cases h2 : w.gone = false ∧ 60 < (nextT w (treeF f w.name)).length
      · rw [if_pos h2] at h; cases h
      · have hl := (treeF_ok hf w.name)
        cases hg : w.gone with
        | false => exact Nat.le_of_not_lt fun q => h2 ⟨hg, q⟩
        | true =>
          unfold nextT
          rw [hg, if_pos rfl]
          exact (TreeOk.del hl).len
    · exact (hf.tree t ht).len
/-- Writes, one behind the other: what they tell, and the forest. -/
def applyR : Forest → List Wr → Int × Forest
  | f, [] => (0, f)
  | f, w :: ws => if wrE w ≠ 0 then (wrE w, []) else match writeF f w with
    | none => (11, [])
    | some g => applyR g ws
theorem applyR_ok : ∀ {ws : List Wr} {f : Forest}, (∀ w ∈ ws, WrOk w) → applyR f ws = match applyF f ws with | some g => (0, g) | none => (11, [])
  | [], f, _ => rfl
  | w :: ws, f, h => by
    have h0 := wrE_ok.2 (h w (by simp))
    unfold applyR applyF
    rw [if_neg (by simp [h0])]
    cases writeF f w with
    | none => rfl
    | some g => exact applyR_ok fun x hx => h x (by simp [hx])
/-- What forest.Check tells. -/
def forestAt (l : Forest) : Nat → Nat → Int
  | 0, _ => 0
  | n + 1, k => match l[k]? with
    | none => 0
    | some t => if nameN t.1.length ≠ 0 then nameN t.1.length else if t.2.length = 0 then 4 else if treeE t.2 ≠ 0 then treeE t.2 else if 0 < k ∧ 0 ≤ cmpL (l.getD (k - 1) ([], [])).1 t.1 then 3 else forestAt l n (k + 1)
def forestE (l : Forest) : Int := if 8 < l.length then 1 else forestAt l l.length 0
theorem forestAt_at {l : Forest} {k : Nat} {t : By × List Pr} (hp : l[k]? = some t) : forestAt l (l.length - k) k = if nameN t.1.length ≠ 0 then nameN t.1.length else if t.2.length = 0 then 4 else if treeE t.2 ≠ 0 then treeE t.2 else if 0 < k ∧ 0 ≤ cmpL (l.getD (k - 1) ([], [])).1 t.1 then 3 else forestAt l (l.length - (k + 1)) (k + 1) := by
  obtain ⟨hk, _⟩ := List.getElem?_eq_some_iff.1 hp
  rw [show l.length - k = (l.length - (k + 1)) + 1 from by omega]
  simp only [forestAt, hp]
theorem forestAt_end {l : Forest} {k : Nat} (hk : l.length ≤ k) : forestAt l (l.length - k) k = 0 := by rw [show l.length - k = 0 from by omega]; rfl
theorem forestE_ok {l : Forest} : forestE l = 0 ↔ ForestOk 60 l := by
  unfold forestE
  by_cases hl : 8 < l.length
  · rw [if_pos hl]
    exact ⟨fun h => by omega, fun h => by have := h.len; omega⟩
  · rw [if_neg hl]
    have key : ∀ n k, n + k = l.length → (forestAt l n k = 0 ↔ ∀ i (hi : i < l.length), k ≤ i → (NameOk l[i].1 ∧ l[i].2 ≠ [] ∧ TreeOk 60 l[i].2) ∧ (0 < i → Lt (l.getD (i - 1) ([], [])).1 l[i].1)) := by
      intro n
      induction n with
      | zero => intro k hk; simp only [forestAt]; exact ⟨fun _ i hi h => by omega, fun _ => trivial⟩
      | succ n ih =>
        intro k hk
        have hk' : k < l.length := by omega
        simp only [forestAt, List.getElem?_eq_getElem hk']
        have ihk := ih (k + 1) (by omega)
        by_cases h1 : nameN l[k].1.length = 0
        · rw [if_neg (by simp [h1])]
          by_cases h2 : l[k].2.length = 0
          · rw [if_pos h2]
            exact ⟨fun h => by omega, fun h => absurd (List.eq_nil_of_length_eq_zero h2) (h k hk' (Nat.le_refl _)).1.2.1⟩
          · rw [if_neg h2]
            by_cases h3 : treeE l[k].2 = 0
            · rw [if_neg (by simp [h3])]
              by_cases hc : 0 < k ∧ 0 ≤ cmpL (l.getD (k - 1) ([], [])).1 l[k].1
              · rw [if_pos hc]
                refine ⟨fun h => by omega, fun h => ?_⟩
                have := (h k hk' (Nat.le_refl _)).2 hc.1
                have := cmpL_lt.2 this
                omega
              · rw [if_neg hc, ihk]
                refine ⟨fun h i hi hki => ?_, fun h i hi hki => h i hi (by omega)⟩
                by_cases e : i = k
                · subst e
                  refine ⟨⟨nameN_zero.1 h1, fun e => h2 (by rw [e]; rfl), treeE_ok.1 h3⟩, fun h0 => cmpL_lt.1 ?_⟩
                  have : ¬ 0 ≤ cmpL (l.getD (i - 1) ([], [])).1 l[i].1 := fun h => hc ⟨h0, h⟩
                  omega
                · exact h i hi (by omega)
            · rw [if_pos h3]
              exact ⟨fun h => absurd h h3, fun h => absurd (treeE_ok.2 (h k hk' (Nat.le_refl _)).1.2.2) h3⟩
        · rw [if_pos h1]
          exact ⟨fun h => absurd h h1, fun h => absurd (nameN_zero.2 (h k hk' (Nat.le_refl _)).1.1) h1⟩
    rw [key l.length 0 (by omega)]
    constructor
    · intro h
      have hm : ∀ t ∈ l, NameOk t.1 ∧ t.2 ≠ [] ∧ TreeOk 60 t.2 := fun t ht => by
        obtain ⟨i, hi, rfl⟩ := List.mem_iff_getElem.1 ht
        exact (h i hi (by omega)).1
      refine ⟨by omega, fun t ht => (hm t ht).1, fun t ht => (hm t ht).2.1, fun t ht => (hm t ht).2.2, ?_⟩
      have step : ∀ j i (hi : i < l.length) (hj : j < l.length), i < j → Lt l[i].1 l[j].1 := by
        intro j
        induction j with
        | zero => intro i _ _ h; omega
        | succ j ih =>
          intro i hi hj hij
          have h1 := (h (j + 1) hj (by omega)).2 (by omega)
          simp only [Nat.add_sub_cancel, List.getD, List.getElem?_eq_getElem (show j < l.length by omega), Option.getD_some] at h1
          by_cases e : i = j
          · subst e; exact h1
          · exact less_trans _ _ _ (ih i hi (by omega) (by omega)) h1
      exact List.pairwise_iff_getElem.2 fun i j hi hj hij => step j i hi hj hij
    · intro h i hi _
      have hmem := List.getElem_mem hi
      refine ⟨⟨h.name _ hmem, h.some _ hmem, h.tree _ hmem⟩, fun h0 => ?_⟩
      simp only [List.getD, List.getElem?_eq_getElem (show i - 1 < l.length by omega), Option.getD_some]
      exact List.pairwise_iff_getElem.1 h.rise (i - 1) i (by omega) hi (by omega)
end Go.Proofs.Ytlimmmidfhpakaa
namespace Go.Proofs.Ytlimmmidfhpakaa
open Go.RowKit
set_option maxRecDepth 100000
set_option linter.unusedVariables false
set_option linter.unusedSimpArgs false
set_option maxHeartbeats 8000000 in
theorem samePair_spec (F : Fz) (w : World) (v u : Value) (p q : Pr) (hs : Sat w F) (hv : Pr2V F v p) (hu : Pr2V F u q) :
    Calls Try.prog 55 #[v, u] w (Tells w (.bool (decide (p = q)))) := by
 obtain ⟨x0, y0, x1, y1, rfl, h0, h1⟩ := hv
 obtain ⟨x0q, y0q, x1q, y1q, rfl, k0, k1⟩ := hu
 have S := St.start hs
 go_enter Try.func55, Try.ntmps55
 refine wp_seq_k (fun K1 hK1 => region_wl ?_)
 refine stNew S (v := fun n => .pointer (some ⟨n, 0, none⟩)) rfl (ex_box (v := (.agg #[(.slice x0 p.1.length y0), (.slice x1 p.2.length y1)])) rfl) (fun n2 w3 S4 => ?_)
 simp only [pS, pN, pA, pC, pZ]
 have S4 : St w F w3 F [⟨n2, [(.slice x0 p.1.length y0), (.slice x1 p.2.length y1)], 36⟩] [] := S4
 refine stNew S4 (v := fun n => .pointer (some ⟨n, 0, none⟩)) rfl (ex_box (v := (.agg #[(.slice x0q q.1.length y0q), (.slice x1q q.2.length y1q)])) rfl) (fun n5 w6 S7 => ?_)
 simp only [pS, pN, pA, pC, pZ]
 have S7 : St w F w6 F [⟨n5, [(.slice x0q q.1.length y0q), (.slice x1q q.2.length y1q)], 36⟩, ⟨n2, [(.slice x0 p.1.length y0), (.slice x1 p.2.length y1)], 36⟩] [] := S7
 refine do_ rfl (.bool false) (ex_assign _) ?_
 simp only [pS, pN, pA, pC, pZ]
 refine wl_nil (hK1 _ _ ?_)
 refine wp_seq_k (fun K8 hK8 => ?_)
 by_cases e1 : p.1 = q.1
 ·refine region_wl ?_
  refine do_ rfl (.pointer (some ⟨n2, 0, none⟩)) (ex_field (q := ⟨n2, 0, none⟩) rfl (fa_36_0 _ _)) ?_
  simp only [pS, pN, pA, pC, pZ]
  refine do_ rfl (.slice x0 p.1.length y0) (ex_load rfl (load1 (nagg_25 _) (St.cell S7 (i := 1) rfl rfl))) ?_
  simp only [pS, pN, pA, pC, pZ]
  refine do_ rfl (.pointer (some ⟨n5, 0, none⟩)) (ex_field (q := ⟨n5, 0, none⟩) rfl (fa_36_0 _ _)) ?_
  simp only [pS, pN, pA, pC, pZ]
  refine do_ rfl (.slice x0q q.1.length y0q) (ex_load rfl (load1 (nagg_25 _) (St.cell S7 (i := 0) rfl rfl))) ?_
  simp only [pS, pN, pA, pC, pZ]
  refine stTells (v := (.bool true)) S7 rfl (ex_fn (vs := #[(.slice x0 p.1.length y0), (.slice x0q q.1.length y0q)]) (map2 rfl rfl) rfl (ent_14 _ _)) (tells_bool (tells_same (same_spec _ _ _ _ p.1 q.1 (S7).sat h0 k0)) (beq_iff_eq.2 e1)) (fun w9 S10 => ?_)
  simp only [pS, pN, pA, pC, pZ]
  refine do_ rfl (.bool true) (ex_move _) ?_
  simp only [pS, pN, pA, pC, pZ]
  refine do_ rfl (.pointer (some ⟨n2, 1, none⟩)) (ex_field (q := ⟨n2, 1, none⟩) rfl (fa_36_1 _ _)) ?_
  simp only [pS, pN, pA, pC, pZ]
  refine do_ rfl (.slice x1 p.2.length y1) (ex_load rfl (load1 (nagg_25 _) (St.cell S10 (i := 1) rfl rfl))) ?_
  simp only [pS, pN, pA, pC, pZ]
  refine do_ rfl (.pointer (some ⟨n5, 1, none⟩)) (ex_field (q := ⟨n5, 1, none⟩) rfl (fa_36_1 _ _)) ?_
  simp only [pS, pN, pA, pC, pZ]
  refine do_ rfl (.slice x1q q.2.length y1q) (ex_load rfl (load1 (nagg_25 _) (St.cell S10 (i := 0) rfl rfl))) ?_
  simp only [pS, pN, pA, pC, pZ]
  refine stTells (v := (.bool (p.2 == q.2))) S10 rfl (ex_fn (vs := #[(.slice x1 p.2.length y1), (.slice x1q q.2.length y1q)]) (map2 rfl rfl) rfl (ent_14 _ _)) (tells_same (same_spec _ _ _ _ p.2 q.2 (S10).sat h1 k1)) (fun w11 S12 => ?_)
  simp only [pS, pN, pA, pC, pZ]
  refine do_ rfl (.bool (p.2 == q.2)) (ex_pick (b := true) rfl) ?_
  simp only [pS, pN, pA, pC, pZ]
  refine do_ rfl (.bool (p.2 == q.2)) (ex_assign _) ?_
  simp only [pS, pN, pA, pC, pZ]
  refine wl_nil (hK8 _ _ ?_)
  refine wp_ret ?_
  (try simp only [Exit.then, Exit.inBlock, ↓reduceIte, Nat.reduceEqDiff])
  refine bodyPost_ret (v := (.bool (p.2 == q.2))) ?_ rfl ?_
  ·exact res_t rfl rfl
  ·exact ⟨by rw [show decide (p = q) = (p.2 == q.2) from by rw [Bool.eq_iff_iff, decide_eq_true_iff, beq_iff_eq]; exact ⟨fun e => congrArg Prod.snd e, fun e => Prod.ext e1 e⟩], S12.gr.below⟩
 ·refine region_wl ?_
  refine do_ rfl (.pointer (some ⟨n2, 0, none⟩)) (ex_field (q := ⟨n2, 0, none⟩) rfl (fa_36_0 _ _)) ?_
  simp only [pS, pN, pA, pC, pZ]
  refine do_ rfl (.slice x0 p.1.length y0) (ex_load rfl (load1 (nagg_25 _) (St.cell S7 (i := 1) rfl rfl))) ?_
  simp only [pS, pN, pA, pC, pZ]
  refine do_ rfl (.pointer (some ⟨n5, 0, none⟩)) (ex_field (q := ⟨n5, 0, none⟩) rfl (fa_36_0 _ _)) ?_
  simp only [pS, pN, pA, pC, pZ]
  refine do_ rfl (.slice x0q q.1.length y0q) (ex_load rfl (load1 (nagg_25 _) (St.cell S7 (i := 0) rfl rfl))) ?_
  simp only [pS, pN, pA, pC, pZ]
  refine stTells (v := (.bool false)) S7 rfl (ex_fn (vs := #[(.slice x0 p.1.length y0), (.slice x0q q.1.length y0q)]) (map2 rfl rfl) rfl (ent_14 _ _)) (tells_bool (tells_same (same_spec _ _ _ _ p.1 q.1 (S7).sat h0 k0)) (beq_eq_false_iff_ne.2 e1)) (fun w13 S14 => ?_)
  simp only [pS, pN, pA, pC, pZ]
  refine do_ rfl (.bool false) (ex_move _) ?_
  simp only [pS, pN, pA, pC, pZ]
  refine doN (wanted_no rfl rfl rfl (c := false) rfl (by decide)) ?_
  simp only [pS, pN, pA, pC, pZ]
  refine doN (wanted_no rfl rfl rfl (c := false) rfl (by decide)) ?_
  simp only [pS, pN, pA, pC, pZ]
  refine doN (wanted_no rfl rfl rfl (c := false) rfl (by decide)) ?_
  simp only [pS, pN, pA, pC, pZ]
  refine doN (wanted_no rfl rfl rfl (c := false) rfl (by decide)) ?_
  simp only [pS, pN, pA, pC, pZ]
  refine doN (wanted_no rfl rfl rfl (c := false) rfl (by decide)) ?_
  simp only [pS, pN, pA, pC, pZ]
  refine do_ rfl (.bool false) (ex_pick (b := false) rfl) ?_
  simp only [pS, pN, pA, pC, pZ]
  refine do_ rfl (.bool false) (ex_assign _) ?_
  simp only [pS, pN, pA, pC, pZ]
  refine wl_nil (hK8 _ _ ?_)
  refine wp_ret ?_
  (try simp only [Exit.then, Exit.inBlock, ↓reduceIte, Nat.reduceEqDiff])
  refine bodyPost_ret (v := (.bool false)) ?_ rfl ?_
  ·exact res_t rfl rfl
  ·exact ⟨by rw [decide_eq_false (fun e => e1 (congrArg Prod.fst e))], S14.gr.below⟩
set_option maxHeartbeats 8000000 in
theorem samePairs_spec (F : Fz) (w : World) (v u : Value) (l m : List Pr) (hs : Sat w F) (hv : Prs F v l) (hu : Prs F u m) (hl : l.length ≤ 1000000) :
    Calls Try.prog 41 #[v, u] w (Tells w (.bool (decide (l = m)))) := by
 obtain ⟨a, c, rfl, hc1, hc2⟩ := Sl.shape hv
 obtain ⟨a2, c2, rfl, hc3, hc4⟩ := Sl.shape hu
 unfold maxLen at hc2 hc4
 have S := St.start hs
 go_enter Try.func41, Try.ntmps41
 refine wp_seq_k (fun K1 hK1 => region_wl ?_)
 refine do_ rfl (.bool false) (ex_assign _) ?_
 simp only [pS, pN, pA, pC, pZ]
 refine wl_nil (hK1 _ _ ?_)
 refine wp_seq_k (fun K2 hK2 => ?_)
 refine wp_seq_k (fun K3 hK3 => region_wl ?_)
 refine do_ rfl (.slice a l.length c) (ex_move _) ?_
 simp only [pS, pN, pA, pC, pZ]
 refine do_ rfl (.int .i64 ((l.length : Nat) : Int)) (ex_len Try.underlying23 rfl) ?_
 simp only [pS, pN, pA, pC, pZ]
 refine do_ rfl (.slice a2 m.length c2) (ex_move _) ?_
 simp only [pS, pN, pA, pC, pZ]
 refine do_ rfl (.int .i64 ((m.length : Nat) : Int)) (ex_len Try.underlying23 rfl) ?_
 simp only [pS, pN, pA, pC, pZ]
 by_cases hc10 : l.length = m.length
 ·refine do_ rfl (.bool false) (ex_neq (m := ((l.length : Nat) : Int)) (n := ((m.length : Nat) : Int)) (b := false) rfl rfl (bne_eq_false_iff_eq.2 (by omega))) ?_
  simp only [pS, pN, pA, pC, pZ]
  refine wl_nil (hK3 _ _ ?_)
  refine wp_cond_false rfl ?_
  refine wp_skip ?_
  refine hK2 _ _ ?_
  refine wp_seq_k (fun K4 hK4 => ?_)
  refine wp_seq_k (fun K5 hK5 => region_wl ?_)
  refine do_ rfl (.int .i64 0) (ex_assign _) ?_
  simp only [pS, pN, pA, pC, pZ]
  refine wl_nil (hK5 _ _ ?_)
  refine wp_block ?_
  refine wp_loop_g (fun mm aa w7 => ∃ (k : Nat) (u6 : Nat → Value), mm = l.length - k ∧ u6 = slots aa ∧ aa = ⟨#[(.slice a l.length c), (.slice a2 m.length c2), undef, undef, (u6 4), (.int .i64 ((k : Nat) : Int)), (.slice a l.length c), (.int .i64 ((l.length : Nat) : Int)), (.slice a2 m.length c2), (.int .i64 ((m.length : Nat) : Int)), (.bool false), (u6 11), (u6 12), (u6 13), (u6 14), (u6 15), (u6 16), (u6 17), (u6 18), (u6 19), (u6 20), (u6 21), (u6 22), (u6 23), (u6 24), (u6 25), (u6 26)], []⟩ ∧ St w F w7 F [] [] ∧ (k ≤ l.length) ∧ (∀ i, i < k → l[i]? = m[i]?)) _ ⟨0, _, rfl, rfl, rfl, S, (by omega), (fun i hi => absurd hi (by omega))⟩ ?_
  rintro m8 a9 w10 ⟨k, u6, rfl, -, rfl, S11, hk, hsm⟩ K13 hK13
  refine wp_seq_k (fun K14 hK14 => ?_)
  refine wp_seq_k (fun K15 hK15 => region_wl ?_)
  refine do_ rfl (.int .i64 ((k : Nat) : Int)) (ex_move _) ?_
  simp only [pS, pN, pA, pC, pZ]
  refine do_ rfl (.slice a l.length c) (ex_move _) ?_
  simp only [pS, pN, pA, pC, pZ]
  refine do_ rfl (.int .i64 ((l.length : Nat) : Int)) (ex_len Try.underlying23 rfl) ?_
  simp only [pS, pN, pA, pC, pZ]
  by_cases hc14 : k < l.length
  ·refine do_ rfl (.bool true) (ex_lss (m := ((k : Nat) : Int)) (n := ((l.length : Nat) : Int)) (b := true) rfl rfl (decide_eq_true (by omega))) ?_
   simp only [pS, pN, pA, pC, pZ]
   refine wl_nil (hK15 _ _ ?_)
   refine wp_cond_true rfl ?_
   refine wp_skip ?_
   refine hK14 _ _ ?_
   refine wp_seq_k (fun K16 hK16 => ?_)
   refine wp_block ?_
   refine wp_seq_k (fun K17 hK17 => ?_)
   obtain ⟨p, hp⟩ : ∃ p, l[k]? = some p := ⟨l[k], List.getElem?_eq_getElem hc14⟩
   obtain ⟨q, hq⟩ : ∃ q, m[k]? = some q := ⟨m[k]'(by omega), List.getElem?_eq_getElem (by omega)⟩
   obtain ⟨b18, o19, ha20, xa22, xc23, xa26, xc27, c21, c25, r24, r28⟩ := Prs.get hv hp
   obtain ⟨b29, o30, ha31, xa33, xc34, xa37, xc38, c32, c36, r35, r39⟩ := Prs.get hu hq
   refine region_gw F 8 [] (by kernel_rfl) (by kernel_rfl) ?_
   simp only [List.take_succ_cons, List.take_zero]
   refine gw_pure rfl rfl (.slice a l.length c) (fun w40 hCw40 => pureAt_of (ex_move _)) ?_
   simp only [pS, pN, pA, pC, pZ]
   refine gw_pure rfl rfl (.int .i64 ((k : Nat) : Int)) (fun w40 hCw40 => pureAt_of (ex_move _)) ?_
   simp only [pS, pN, pA, pC, pZ]
   refine gw_pure rfl rfl (.pointer (some ⟨b18, o19 + k * 2, none⟩)) (fun w40 hCw40 => pureAt_of (ex_at (i := k) (sz := 2) Try.underlying23 (sizeof_36 _) rfl ha20 rfl (by omega) rfl)) ?_
   simp only [pS, pN, pA, pC, pZ]
   refine gw_pure rfl rfl (.agg #[(.slice xa22 p.1.length xc23), (.slice xa26 p.2.length xc27)]) (fun w40 hCw40 => pureAt_of (ex_load rfl (loadN (cs := [(.slice xa22 p.1.length xc23), (.slice xa26 p.2.length xc27)]) Try.underlying36 rfl (size_36) (range2 (St.fz (St.tells S11 hCw40) c21) (St.fz (St.tells S11 hCw40) c25))))) ?_
   simp only [pS, pN, pA, pC, pZ]
   refine gw_pure rfl rfl (.slice a2 m.length c2) (fun w40 hCw40 => pureAt_of (ex_move _)) ?_
   simp only [pS, pN, pA, pC, pZ]
   refine gw_pure rfl rfl (.int .i64 ((k : Nat) : Int)) (fun w40 hCw40 => pureAt_of (ex_move _)) ?_
   simp only [pS, pN, pA, pC, pZ]
   refine gw_pure rfl rfl (.pointer (some ⟨b29, o30 + k * 2, none⟩)) (fun w40 hCw40 => pureAt_of (ex_at (i := k) (sz := 2) Try.underlying23 (sizeof_36 _) rfl ha31 rfl (by omega) rfl)) ?_
   simp only [pS, pN, pA, pC, pZ]
   refine gw_pure rfl rfl (.agg #[(.slice xa33 q.1.length xc34), (.slice xa37 q.2.length xc38)]) (fun w40 hCw40 => pureAt_of (ex_load rfl (loadN (cs := [(.slice xa33 q.1.length xc34), (.slice xa37 q.2.length xc38)]) Try.underlying36 rfl (size_36) (range2 (St.fz (St.tells S11 hCw40) c32) (St.fz (St.tells S11 hCw40) c36))))) ?_
   simp only [pS, pN, pA, pC, pZ]
   refine gw_nil ?_
   intro w41 hC43 hF44
   clear hF44
   have S42 := St.tells S11 hC43
   simp only [List.drop_succ_cons, List.drop_zero]
   refine stTells (v := (.bool (decide (p = q)))) S42 rfl (ex_fn (vs := #[(.agg #[(.slice xa22 p.1.length xc23), (.slice xa26 p.2.length xc27)]), (.agg #[(.slice xa33 q.1.length xc34), (.slice xa37 q.2.length xc38)])]) (map2 rfl rfl) rfl (ent_55 _ _)) (samePair_spec _ _ _ _ p q (S42).sat ⟨_, _, _, _, rfl, r24, r28⟩ ⟨_, _, _, _, rfl, r35, r39⟩) (fun w45 S46 => ?_)
   simp only [pS, pN, pA, pC, pZ]
   refine do_ rfl (.bool (!(decide (p = q)))) (ex_not rfl rfl) ?_
   simp only [pS, pN, pA, pC, pZ]
   refine wl_nil (hK17 _ _ ?_)
   refine wp_cond_split rfl (fun hc47 => ?_) (fun hc47 => ?_)
   ·refine wp_seq_k (fun K48 hK48 => region_wl ?_)
    refine do_ rfl (.bool false) (ex_assign _) ?_
    simp only [pS, pN, pA, pC, pZ]
    refine wl_nil (hK48 _ _ ?_)
    refine wp_ret ?_
    (try simp only [Exit.then, Exit.inBlock, ↓reduceIte, Nat.reduceEqDiff])
    refine bodyPost_ret (v := (.bool false)) ?_ rfl ?_
    ·exact res_t rfl rfl
    ·exact ⟨by rw [decide_eq_false (fun e => by rw [e] at hp; rw [hp] at hq; cases hq; simp at hc47)], S46.gr.below⟩
   ·refine wp_skip ?_
    refine hK16 _ _ ?_
    refine region_wl ?_
    refine do_ rfl (.int .i64 ((k : Nat) : Int)) (ex_move _) ?_
    simp only [pS, pN, pA, pC, pZ]
    refine do_ rfl (.int .i64 (((k + 1) : Nat) : Int)) (ex_add (m := ((k : Nat) : Int)) (n := (1 : Int)) (r := (((k + 1) : Nat) : Int)) rfl rfl (by omega) (by omega) (by omega)) ?_
    simp only [pS, pN, pA, pC, pZ]
    refine do_ rfl (.int .i64 (((k + 1) : Nat) : Int)) (ex_assign _) ?_
    simp only [pS, pN, pA, pC, pZ]
    refine wl_nil ?_
    exact hK13 _ _ _ (by omega) ⟨(k + 1), _, rfl, rfl, rfl, S46, (by omega), (fun i hi => by rcases Nat.lt_succ_iff_lt_or_eq.1 hi with h | rfl; exact hsm i h; rw [hp, hq, show p = q from by simpa using hc47])⟩
  ·refine do_ rfl (.bool false) (ex_lss (m := ((k : Nat) : Int)) (n := ((l.length : Nat) : Int)) (b := false) rfl rfl (decide_eq_false (by omega))) ?_
   simp only [pS, pN, pA, pC, pZ]
   refine wl_nil (hK15 _ _ ?_)
   refine wp_cond_false rfl ?_
   refine wp_exit ?_
   refine hK4 _ _ ?_
   refine wp_seq_k (fun K49 hK49 => region_wl ?_)
   refine do_ rfl (.bool true) (ex_assign _) ?_
   simp only [pS, pN, pA, pC, pZ]
   refine wl_nil (hK49 _ _ ?_)
   refine wp_ret ?_
   (try simp only [Exit.then, Exit.inBlock, ↓reduceIte, Nat.reduceEqDiff])
   refine bodyPost_ret (v := (.bool true)) ?_ rfl ?_
   ·exact res_t rfl rfl
   ·exact ⟨by rw [decide_eq_true (List.ext_getElem? fun i => by rcases Nat.lt_or_ge i k with h | h; exact hsm i h; rw [List.getElem?_eq_none (by omega), List.getElem?_eq_none (by omega)])], S11.gr.below⟩
 ·refine do_ rfl (.bool true) (ex_neq (m := ((l.length : Nat) : Int)) (n := ((m.length : Nat) : Int)) (b := true) rfl rfl (bne_iff_ne.2 (by omega))) ?_
  simp only [pS, pN, pA, pC, pZ]
  refine wl_nil (hK3 _ _ ?_)
  refine wp_cond_true rfl ?_
  refine wp_seq_k (fun K50 hK50 => region_wl ?_)
  refine do_ rfl (.bool false) (ex_assign _) ?_
  simp only [pS, pN, pA, pC, pZ]
  refine wl_nil (hK50 _ _ ?_)
  refine wp_ret ?_
  (try simp only [Exit.then, Exit.inBlock, ↓reduceIte, Nat.reduceEqDiff])
  refine bodyPost_ret (v := (.bool false)) ?_ rfl ?_
  ·exact res_t rfl rfl
  ·exact ⟨by rw [decide_eq_false (fun e => hc10 (by rw [e]))], S.gr.below⟩
end Go.Proofs.Ytlimmmidfhpakaa
namespace Go.Proofs.Ytlimmmidfhpakaa
open Go.RowKit
set_option maxRecDepth 100000
set_option linter.unusedVariables false
set_option linter.unusedSimpArgs false
end Go.Proofs.Ytlimmmidfhpakaa
namespace Go.Proofs.Ytlimmmidfhpakaa
open Go.RowKit
set_option maxRecDepth 100000
set_option linter.unusedVariables false
set_option linter.unusedSimpArgs false
theorem delOk_spec (F : Fz) (w : World) (v u : Value) (l : List Pr) (k : By) (hs : Sat w F) (hv : Prs F v l) (hu : Bs F u k) (ok : TreeOk 60 l) (hk : 1 ≤ k.length ∧ k.length ≤ 16) :
    Calls Try.prog 7 #[v, u] w (Gives w F (PrsE (delT l k) 0)) := by
  have := delete_spec F w v u l k hs hv hu ok
  have h := checkN_ok hk.1 hk.2
  unfold delR delE at this
  rw [if_pos h, h] at this
  exact this
theorem getIs_spec (F : Fz) (w : World) (v u : Value) (l : List Pr) (k : By) {o : Option By} (hs : Sat w F) (hv : Prs F v l) (hu : Bs F u k) (ok : TreeOk 60 l) (hk : 1 ≤ k.length ∧ k.length ≤ 16) (h : getT l k = o) :
    Calls Try.prog 9 #[v, u] w (Gives w F (GetR o 0)) := by
  subst h; exact get_spec F w v u l k hs hv hu ok hk.1 hk.2
end Go.Proofs.Ytlimmmidfhpakaa
