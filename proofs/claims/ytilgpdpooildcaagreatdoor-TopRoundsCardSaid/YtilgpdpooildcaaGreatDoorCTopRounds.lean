/- The walk of TopRounds -/
import Derived.Test.YtilgpdpooildcaaGreatDoorBV12
import Derived.Test.YtilgpdpooildcaaGreatDoorBV2
namespace Go.Proofs.YtilgpdpooildcaaGreatDoor
set_option maxHeartbeats 8000000
open Go.RowKit
set_option maxRecDepth 100000
set_option linter.unusedVariables false
set_option linter.unusedSimpArgs false
theorem rndS_len {l : List Ge} {n : Nat} (h : n ≤ l.length) : ((rndS l n).map Rc.ac).length = 4 * n := by
 unfold rndS
 rw [roundsR_len, List.length_map, List.length_take]; omega
theorem scrB_append (a b : List Rc) (ha : a.all rcB = true) (hb : b.all rcB = true) (h : ((a ++ b).map fun x => if rcC x then 1 else 0).sum ≤ 149) (hl : (a ++ b).length ≤ 100000) : scrB (a ++ b) = true := by
 simp only [scrB, Bool.and_eq_true, decide_eq_true_eq, List.all_append]
 exact ⟨⟨⟨ha, hb⟩, h⟩, hl⟩
theorem rcB_rq {s : Nat} {q : Nat × Rq} (hs : s < 8) (ok : RqOk q.1 q.2) : rcB (.rq s q.1 q.2) = true := by
 have h1 := ok.kind
 have h2 := ok.fits
 simp only [rcB, Bool.and_eq_true, decide_eq_true_eq, beq_iff_eq]
 exact ⟨⟨⟨hs, h1.1⟩, h1.2⟩, h2⟩
theorem rounds_all : ∀ (qs : List (Nat × Rq)), (∀ q ∈ qs, (q.1 = 4 ∨ q.1 = 5) ∧ RqOk q.1 q.2) → (roundsR qs).all rcB = true ∧ (roundsR qs).any rcP = false ∧ (roundsR qs).any rcK = false ∧ ((roundsR qs).map fun x => if rcC x then 1 else 0).sum = qs.length ∧ (roundsR qs).length = 4 * qs.length
  | [], _ => ⟨rfl, rfl, rfl, rfl, rfl⟩
  | q :: qs, h => by
    obtain ⟨h1, h2, h3, h4, h5⟩ := rounds_all qs fun x hx => h x (by simp [hx])
    obtain ⟨hk, ok⟩ := h q (by simp)
    have e : roundsR (q :: qs) = roundR q ++ roundsR qs := rfl
    have c8 : (q.1 == 8) = false := by rw [beq_eq_false_iff_ne]; omega
    have c6 : (q.1 == 6) = false := by rw [beq_eq_false_iff_ne]; omega
    have b1 : rcB (.rq 0 1 rq0) = true := by kernel_rfl
    have b2 : rcB (.rq 0 6 rq0) = true := by kernel_rfl
    have b3 := rcB_rq (s := 0) (by decide) ok
    rw [e]
    refine ⟨?_, ?_, ?_, ?_, ?_⟩
    · rw [List.all_append, h1]; simp [roundR, b1, b2, b3]; rfl
    · rw [List.any_append, h2]; simp [roundR, rcP, c8]
    · rw [List.any_append, h3]; simp [roundR, rcK]
    · rw [List.map_append, List.sum_append, h4]; simp [roundR, rcC, c6]; omega
    · rw [List.length_append, h5]; simp [roundR]; omega
theorem rnd_scr (l : List Ge) (n : Nat) (hn : n ≤ 20) (hl : n ≤ l.length) : ScrOk ((rndS l n).map Rc.ac) ∧ runE ((rndS l n).map Rc.ac) = runR (rndS l n) := by
 have e : ((l.take n).map rndQ).length = n := by rw [List.length_map, List.length_take]; omega
 obtain ⟨h1, h2, h3, h4, h5⟩ := rounds_all ((l.take n).map rndQ) (fun q hq => by obtain ⟨g, _, rfl⟩ := List.mem_map.1 hq; exact ⟨rndQ_kind g, reqG_ok _⟩)
 have hs : scrB (roundsR ((l.take n).map rndQ)) = true := by
  unfold scrB
  rw [h1, h4, h5, e]
  simp
  omega
 refine scr_no ?_
 show (scrB (roundsR ((l.take n).map rndQ)) && !(roundsR ((l.take n).map rndQ)).any rcP && !(roundsR ((l.take n).map rndQ)).any rcK) = true
 rw [hs, h2, h3]; rfl
theorem rndG_ok {g : Ge} (h : GeOk g) : GeOk (rndG g) := by
 obtain ⟨h1, h2, h3, h4, h5⟩ := h
 have := pickN_lt g.kind (m := 2) (by decide)
 refine ⟨?_, by unfold I64 rndG; simp, h3, h4, h5⟩
 unfold I64 rndG
 simp only
 omega
theorem topRounds_walk (W : World) (hT : Has W ∧ Tabs W) (v0 : Value) (l0 : List Ge) (z0 : Ges (whole W) v0 l0) :
    Calls Tryz.prog 3 #[v0] W (Tells W (.bool true)) := by
 obtain ⟨a0, c0, rfl, q0, q0'⟩ := Sl.shape z0
 unfold maxLen at q0'
 obtain ⟨i33, hi33, hz33, hs33, hb33⟩ := info_parts info_33
 have S := St.start (Sat.whole W)
 go_enter Tryz.func3, Tryz.ntmps3
 refine sk fun K101 hK101 => ?_
 refine dy ?_
 refine wn hK101 ?_
 refine sk fun K102 hK102 => ?_
 refine dy ?_
 refine wn hK102 ?_
 refine sk fun K103 hK103 => ?_
 refine dy ?_
 simp only [pq]
 refine wn hK103 ?_
 refine wp_seq_k (fun K104 hK104 => ?_)
 have S105 := St.addNil S 4 AcC AcC.mono 33 W.heap.size
 refine region_wl ?_
 refine dy ?_
 refine wl_nil (hK104 _ _ ?_)
 refine wp_seq_k (fun K106 hK106 => ?_)
 have hJ113 : ∀ (a110 : Act) (w109 : World), (∃ (i : Nat) (ra : Option Addr) (rc : Nat) (wa : Option Addr) (wc : Nat) (F107 : Fz) (u108 : Nat → Value), u108 = slots a110 ∧ a110 = ⟨#[(.slice a0 l0.length c0), undef, (u108 2), (.slice ra ((rndS l0 i).map Rc.ac).length rc), (.slice wa (rndF l0 i).length wc), (.int .i64 ((i : Nat) : Int)), (.int .i64 ((i : Nat) : Int)), (u108 7), (u108 8), (u108 9), undef, undef, undef, (u108 13), (u108 14), (u108 15), (u108 16), (u108 17), (u108 18), (u108 19), (u108 20), (u108 21), (u108 22), (u108 23), (u108 24), (u108 25), (u108 26), (u108 27), (u108 28), (u108 29), (u108 30), (u108 31), (u108 32), (u108 33), (u108 34), (u108 35), (u108 36), (u108 37), (u108 38), (u108 39), (u108 40), (u108 41), (u108 42), (u108 43), (u108 44), (u108 45), (u108 46), (u108 47), (u108 48), (u108 49), (u108 50), (u108 51), (u108 52), (u108 53), (u108 54), (u108 55), (u108 56), (u108 57), (u108 58), (u108 59), (u108 60), (u108 61), (u108 62), (u108 63), (u108 64), (u108 65), (u108 66), (u108 67), (u108 68), (u108 69), (u108 70), (u108 71), (u108 72), (u108 73), (u108 74), (u108 75), (u108 76), (u108 77), (u108 78), undef, undef, undef, undef, undef, undef, undef, undef, undef, undef, undef, undef, undef, undef, undef, undef, undef, undef, undef, undef, undef, undef, undef, undef, undef, undef, undef, undef, undef, undef, undef, undef, undef, undef, undef, undef, undef, undef, undef, undef, undef, undef, undef, undef, undef, undef, undef, undef, undef, undef, undef, undef, undef, undef, undef], []⟩ ∧ St W (whole W) w109 F107 [] [ownP 4 AcC AcC.mono 33 W.heap.size (.slice ra ((rndS l0 i).map Rc.ac).length rc) ((rndS l0 i).map Rc.ac)] ∧ Le (whole W) F107 ∧ (i ≤ l0.length) ∧ (i ≤ 20) ∧ (Tns F107 (.slice wa (rndF l0 i).length wc) (rndF l0 i))) → K106 a110 w109 := by
  rintro a110 w109 ⟨i, ra, rc, wa, wc, F107, u108, -, rfl, S111, le112, hi, him, hwa⟩
  refine hK106 _ _ ?_
  refine sk fun K114 hK114 => ?_
  refine dx ?_
  simp only [pq]
  obtain ⟨G, h1, ge1, ge2, ge3, ge4⟩ : ∃ G, (ScrOk (((rndS l0 i).map Rc.ac)) ∧ runE (((rndS l0 i).map Rc.ac)) = G) ∧ G.synced = i ∧ G.replies.length = 3 * i ∧ G.forest G.synced = (rndF l0 i) ∧ (∀ j, j < i → G.replies[3 * j]? = some (repT 0 (j : Nat)) ∧ G.replies[3 * j + 2]? = some (repT 0 ((j + 1 : Nat) : Int))) := ⟨_, rnd_scr l0 i (by omega) (by omega), rounds_run l0 i (by omega) (by omega)⟩
  obtain ⟨F115, S116, le117, hv118⟩ := St.freeze S111 (i := 0) rfl (Nat.le_refl _)
  have hv118 : Acs _ (.slice ra ((rndS l0 i).map Rc.ac).length rc) ((rndS l0 i).map Rc.ac) := hv118
  refine stGives S116 rfl (fn1 (ent_23 _ _)) (ranIs_spec _ _ _ ((rndS l0 i).map Rc.ac) (S116).sat (hT.1.below S116.gr.below) (hT.2.at S116.gr.below) hv118 h1.1 h1.2) ?_
  intro v124 w119 F121 S120 le122 R123
  obtain ⟨_, rfl, R125⟩ := R123
  obtain ⟨a126, c127, a128, c129, rfl, r130, r131⟩ := R125
  refine dx ?_
  iterate 2 refine de ?_
  simp only [pq]
  refine sA S120 (zero_43 _) fun n132 w133 S134 => ?_
  refine sW 0 S134 (size_43) fun w135 S136 => ?_
  refine dy ?_
  simp only [pq]
  refine wn hK114 ?_
  refine wp_seq_k (fun K137 hK137 => ?_)
  refine wp_seq_k (fun K138 hK138 => ?_)
  have hfo3 : ForestOk i (G.forest G.synced) := by rw [ge3]; exact (rnd_state l0 i (by omega)).1
  refine region_wl ?_
  refine dx ?_
  refine dt ?_
  refine dx ?_
  simp only [pq]
  refine df (fa_43_1 _ _) ?_
  refine dl (nagg_3 _) S136 0 ?_
  refine dx ?_
  simp only [pq]
  refine neqF ?_
  refine dp ?_
  refine dx ?_
  simp only [pq]
  refine df (fa_43_4 _ _) ?_
  refine dl (nagg_41 _) S136 0 ?_
  refine dn Tryz.underlying41 ?_
  simp only [pq]
  refine dx ?_
  refine dr (nI (3 * i)) (ex_mul (m := (3 : Int)) (n := ((i : Nat) : Int)) (r := (((3 * i) : Nat) : Int)) rfl rfl (by omega) (by omega) (by omega)) ?_
  refine neqF ?_
  simp only [pq]
  refine dp ?_
  refine dx ?_
  refine df (fa_43_3 _ _) ?_
  simp only [pq]
  refine dl (nagg_24 _) S136 0 ?_
  refine dx ?_
  refine stTells (v := bT) S136 rfl (fn2 (ent_24 _ _)) (tells_bool (SameForest_spec _ _ _ _ (G.forest G.synced) (rndF l0 i) (S136).sat r130 (hwa.mono (le117.trans le122)) (by have := ForestOk.len hfo3; omega) (fun t ht => by have := (ForestOk.tree hfo3 t ht).len; omega)) (decide_eq_true (ge3))) (fun w139 S140 => ?_)
  refine dt ?_
  refine dp ?_
  simp only [pq]
  refine wl_nil (hK138 _ _ ?_)
  refine wp_cond_false rfl ?_
  refine wp_skip ?_
  refine hK137 _ _ ?_
  refine wp_seq_k (fun K141 hK141 => ?_)
  refine sk fun K142 hK142 => ?_
  refine dy ?_
  refine wn hK142 ?_
  refine wp_block ?_
  refine wp_loop_g (fun mm aa w145 => ∃ (j : Nat) (F143 : Fz) (u144 : Nat → Value), mm = i - j ∧ u144 = slots aa ∧ aa = ⟨#[(.slice a0 l0.length c0), undef, (u144 2), (.slice ra ((rndS l0 i).map Rc.ac).length rc), (.slice wa (rndF l0 i).length wc), (nI i), (nI i), (u108 7), (u108 8), (u108 9), (pP n132 0), bT, (nI j), (u108 13), (u108 14), (u108 15), (u108 16), (u108 17), (u108 18), (u108 19), (u108 20), (u108 21), (u108 22), (u108 23), (u108 24), (u108 25), (u108 26), (u108 27), (u108 28), (u108 29), (u108 30), (u108 31), (u108 32), (u108 33), (u108 34), (u108 35), (u108 36), (u108 37), (u108 38), (u108 39), (u108 40), (u108 41), (u108 42), (u108 43), (u108 44), (u108 45), (u108 46), (u108 47), (u108 48), (u108 49), (u108 50), (u108 51), (u108 52), (u108 53), (u108 54), (u108 55), (u108 56), (u108 57), (u108 58), (u108 59), (u108 60), (u108 61), (u108 62), (u108 63), (u108 64), (u108 65), (u108 66), (u108 67), (u108 68), (u108 69), (u108 70), (u108 71), (u108 72), (u108 73), (u108 74), (u108 75), (u108 76), (u108 77), (u108 78), (.tuple #[(.agg #[(.bool G.up), (nI G.synced), (nI G.waiting.length), (.slice a126 (G.forest G.synced).length c127), (.slice a128 G.replies.length c129)]), bT]), (.slice ra ((rndS l0 i).map Rc.ac).length rc), (.tuple #[(.agg #[(.bool G.up), (nI G.synced), (nI G.waiting.length), (.slice a126 (G.forest G.synced).length c127), (.slice a128 G.replies.length c129)]), bT]), (.agg #[(.bool G.up), (nI G.synced), (nI G.waiting.length), (.slice a126 (G.forest G.synced).length c127), (.slice a128 G.replies.length c129)]), bT, bT, bF, bF, (pP n132 1), (nI G.synced), (nI i), bF, bF, bF, (pP n132 4), (.slice a128 G.replies.length c129), (nI G.replies.length), (nI i), (nI (3 * i)), bF, bF, bF, (pP n132 3), (.slice a126 (G.forest G.synced).length c127), (.slice wa (rndF l0 i).length wc), bT, bF, bF, (u144 107), (u144 108), (u144 109), (u144 110), (u144 111), (u144 112), (u144 113), (u144 114), (u144 115), (u144 116), (u144 117), (u144 118), (u144 119), (u144 120), (u144 121), (u144 122), (u144 123), (u144 124), (u144 125), (u144 126), (u144 127), (u144 128), (u144 129), (u144 130), (u144 131), (u144 132), (u144 133)], []⟩ ∧ St W (whole W) w145 F143 [⟨n132, [(.bool G.up), (nI G.synced), (nI G.waiting.length), (.slice a126 (G.forest G.synced).length c127), (.slice a128 G.replies.length c129)], 43⟩] [] ∧ Le F121 F143 ∧ (j ≤ i)) _ ⟨0, F121, _, rfl, rfl, rfl, S140, Le.refl _, (by omega)⟩ ?_
  rintro m146 a147 w148 ⟨j, F143, u144, rfl, -, rfl, S149, le150, hj⟩ K151 hK151
  refine wp_seq_k (fun K152 hK152 => ?_)
  refine sk fun K153 hK153 => ?_
  iterate 2 refine dx ?_
  simp only [pq]
  by_cases hc109 : j < i
  refine lssT ?_
  refine wn hK153 ?_
  refine wp_cond_true rfl ?_
  refine wp_skip ?_
  refine hK152 _ _ ?_
  refine wp_seq_k (fun K154 hK154 => ?_)
  refine wp_block ?_
  refine wp_seq_k (fun K155 hK155 => ?_)
  obtain ⟨hr1, hr2⟩ := ge4 j (by omega)
  obtain ⟨b156, o157, ha158, xa159, xc160, xa161, xc162, xa163, xc164, c165, c166, c167, c168, c169, c170, c171, r172, r173, r174⟩ := Rps.get (r131.mono le150) hr1
  obtain ⟨b175, o176, ha177, xa178, xc179, xa180, xc181, xa182, xc183, c184, c185, c186, c187, c188, c189, c190, r191, r192, r193⟩ := Rps.get (r131.mono le150) hr2
  obtain ⟨rfl, rfl⟩ : b156 = b175 ∧ o157 = o176 := by
   have e := ha158.symm.trans ha177; injection e with e; injection e with e1 e2; exact ⟨e1, e2⟩
  refine region_wl ?_
  refine df (fa_43_4 _ _) ?_
  refine dl (nagg_41 _) S149 0 ?_
  refine dx ?_
  simp only [pq]
  refine dr (nI (3 * j)) (ex_mul (m := (3 : Int)) (n := ((j : Nat) : Int)) (r := (((3 * j) : Nat) : Int)) rfl rfl (by omega) (by omega) (by omega)) ?_
  refine dr (pP b156 (o157 + (3 * j) * 15)) (ex_at (i := (3 * j)) (sz := 15) Tryz.underlying41 (sizeof_54 _) rfl ha158 rfl (by omega) rfl) ?_
  refine df (fa_54_2 _ _) ?_
  simp only [pq]
  refine dr _ (ex_load rfl (load1 (nagg_3 _) (St.fz S149 c167))) ?_
  refine dx ?_
  refine dr bF (ex_neq (m := (repT 0 ((j : Nat) : Int)).turn) (n := ((j : Nat) : Int)) (b := false) rfl rfl (bne_eq_false_iff_eq.2 (rfl))) ?_
  simp only [pq]
  refine dx ?_
  refine df (fa_43_4 _ _) ?_
  refine dl (nagg_41 _) S149 0 ?_
  simp only [pq]
  refine dx ?_
  refine dr (nI (3 * j)) (ex_mul (m := (3 : Int)) (n := ((j : Nat) : Int)) (r := (((3 * j) : Nat) : Int)) rfl rfl (by omega) (by omega) (by omega)) ?_
  refine dAdd ((3 * j) + 2) ?_
  simp only [pq]
  refine dr (pP b156 (o157 + ((3 * j) + 2) * 15)) (ex_at (i := ((3 * j) + 2)) (sz := 15) Tryz.underlying41 (sizeof_54 _) rfl ha158 rfl (by omega) rfl) ?_
  refine df (fa_54_2 _ _) ?_
  refine dr _ (ex_load rfl (load1 (nagg_3 _) (St.fz S149 c186))) ?_
  simp only [pq]
  refine dx ?_
  refine dAdd (j + 1) ?_
  refine dr bF (ex_neq (m := (repT 0 ((j + 1 : Nat) : Int)).turn) (n := (((j + 1) : Nat) : Int)) (b := false) rfl rfl (bne_eq_false_iff_eq.2 (rfl))) ?_
  simp only [pq]
  refine dp ?_
  refine wl_nil (hK155 _ _ ?_)
  refine wp_cond_false rfl ?_
  refine wp_skip ?_
  refine hK154 _ _ ?_
  refine region_wl ?_
  refine dx ?_
  refine dAdd (j + 1) ?_
  refine dy ?_
  simp only [pq]
  refine wl_nil ?_
  exact hK151 _ _ _ (by omega) ⟨(j + 1), F143, _, rfl, rfl, rfl, S149, le150, (by omega)⟩
  refine lssF ?_
  refine wn hK153 ?_
  refine wp_cond_false rfl ?_
  refine wp_exit ?_
  refine hK141 _ _ ?_
  refine sk fun K194 hK194 => ?_
  refine dy ?_
  refine wn hK194 ?_
  refine wp_ret ?_
  (try simp only [Exit.then, Exit.inBlock, ↓reduceIte, Nat.reduceEqDiff])
  refine bR (res_t rfl (gD rfl)) ?_
  exact ⟨rfl, S149.gr.below⟩
 refine sk fun K195 hK195 => ?_
 refine dy ?_
 simp only [pq]
 refine wn hK195 ?_
 refine wp_block ?_
 refine wp_loop_g (fun mm aa w198 => ∃ (i : Nat) (ra : Option Addr) (rc : Nat) (wa : Option Addr) (wc : Nat) (F196 : Fz) (u197 : Nat → Value), mm = l0.length - i ∧ u197 = slots aa ∧ aa = ⟨#[(.slice a0 l0.length c0), undef, (u197 2), (.slice ra ((rndS l0 i).map Rc.ac).length rc), (.slice wa (rndF l0 i).length wc), (nI i), (nI i), (u197 7), (u197 8), (u197 9), undef, undef, undef, (u197 13), (u197 14), (u197 15), (u197 16), (u197 17), (u197 18), (u197 19), (u197 20), (u197 21), (u197 22), (u197 23), (u197 24), (u197 25), (u197 26), (u197 27), (u197 28), (u197 29), (u197 30), (u197 31), (u197 32), (u197 33), (u197 34), (u197 35), (u197 36), (u197 37), (u197 38), (u197 39), (u197 40), (u197 41), (u197 42), (u197 43), (u197 44), (u197 45), (u197 46), (u197 47), (u197 48), (u197 49), (u197 50), (u197 51), (u197 52), (u197 53), (u197 54), (u197 55), (u197 56), (u197 57), (u197 58), (u197 59), (u197 60), (u197 61), (u197 62), (u197 63), (u197 64), (u197 65), (u197 66), (u197 67), (u197 68), (u197 69), (u197 70), (u197 71), (u197 72), (u197 73), (u197 74), (u197 75), (u197 76), (u197 77), (u197 78), undef, undef, undef, undef, undef, undef, undef, undef, undef, undef, undef, undef, undef, undef, undef, undef, undef, undef, undef, undef, undef, undef, undef, undef, undef, undef, undef, undef, undef, undef, undef, undef, undef, undef, undef, undef, undef, undef, undef, undef, undef, undef, undef, undef, undef, undef, undef, undef, undef, undef, undef, undef, undef, undef, undef], []⟩ ∧ St W (whole W) w198 F196 [] [ownP 4 AcC AcC.mono 33 W.heap.size (.slice ra ((rndS l0 i).map Rc.ac).length rc) ((rndS l0 i).map Rc.ac)] ∧ Le (whole W) F196 ∧ (i ≤ l0.length) ∧ (i ≤ 20) ∧ (Tns F196 (.slice wa (rndF l0 i).length wc) (rndF l0 i))) _ ⟨0, none, 0, none, 0, (whole W), _, rfl, rfl, rfl, S105, Le.refl _, (by omega), (by omega), (Sl.nil _ _ _)⟩ ?_
 rintro m199 a200 w201 ⟨i, ra, rc, wa, wc, F196, u197, rfl, -, rfl, S202, le203, hi, him, hwa⟩ K204 hK204
 refine wp_seq_k (fun K205 hK205 => ?_)
 refine sk fun K206 hK206 => ?_
 iterate 2 refine dx ?_
 refine dn Tryz.underlying22 ?_
 simp only [pq]
 by_cases hc16 : i < l0.length
 refine lssT ?_
 iterate 2 refine dx ?_
 simp only [pq]
 by_cases hc19 : i < 20
 refine lssT ?_
 refine dp ?_
 refine wn hK206 ?_
 refine wp_cond_true rfl ?_
 refine wp_skip ?_
 refine hK205 _ _ ?_
 refine wp_seq_k (fun K207 hK207 => ?_)
 refine wp_block ?_
 refine wp_seq_k (fun K208 hK208 => ?_)
 obtain ⟨g, hz_g⟩ : ∃ g, l0[i]? = some g := ⟨l0[i]'(by omega), List.getElem?_eq_getElem (by omega)⟩
 obtain ⟨b209, o210, ha211, c212, hz_g_b⟩ := Ges.get (z0.mono le203) hz_g
 have hp2 := pickN_lt g.kind (m := 2) (by decide)
 have hgk := hz_g_b
 obtain ⟨⟨bk, bk'⟩, _, ⟨bn, bn'⟩, ⟨by_, by_'⟩, bv_, bv_'⟩ := hz_g_b
 refine region_gw F196 26 [(5, .is (nI (pickN g.kind 2))), (24, .made (fun F' u => ReqR F' u (rndQ g))), (25, .rel (NewAt w201 [(iI 0), Zn, Zn, Zn, Zn] 27) (NewAt.stable _ _ _))] (by kernel_rfl) (by kernel_rfl) ?_
 simp only [List.take_succ_cons, List.take_zero]
 refine gm ?_
 simp only [pq]
 refine gm ?_
 refine gv (pP b209 (o210 + i * 5)) (fun _ _ => ex_at (i := i) (sz := 5) Tryz.underlying22 (sizeof_31 _) rfl ha211 rfl (by omega) rfl) ?_
 refine gf (fa_31_0 _ _) ?_
 simp only [pq]
 refine gv _ (fun _ C213 => ex_load rfl (load1 (nagg_3 _) (St.fz (St.tells S202 C213) (c212 0 _ rfl)))) ?_
 simp only [pq]
 refine gw_const rfl rfl (v := (nI (pickN g.kind 2))) (fun w213 C213 _ => does_call (ex_fn (vs := #[(.int .i64 g.kind), (iI 2)]) (map2 rfl rfl) rfl (ent_20 _ _)) (call_tells (PickedN_spec g.kind 2 _ (by omega) (by omega) (by decide) (by decide)))) ?_
 refine gv (nI (4 * (pickN g.kind 2))) (fun _ _ => ex_mul (m := (4 : Int)) (n := (((pickN g.kind 2) : Nat) : Int)) (r := (((4 * (pickN g.kind 2)) : Nat) : Int)) rfl rfl (by omega) (by omega) (by omega)) ?_
 refine gv (.int .i64 (((8 + (4 * (pickN g.kind 2))) : Nat) : Int)) (fun _ _ => ex_add (m := (8 : Int)) (n := (((4 * (pickN g.kind 2)) : Nat) : Int)) (r := (((8 + (4 * (pickN g.kind 2))) : Nat) : Int)) rfl rfl (by omega) (by omega) (by omega)) ?_
 refine gm ?_
 simp only [pq]
 refine gm ?_
 refine gv (pP b209 (o210 + i * 5)) (fun _ _ => ex_at (i := i) (sz := 5) Tryz.underlying22 (sizeof_31 _) rfl ha211 rfl (by omega) rfl) ?_
 refine gf (fa_31_2 _ _) ?_
 simp only [pq]
 refine gv _ (fun _ C213 => ex_load rfl (load1 (nagg_3 _) (St.fz (St.tells S202 C213) (c212 2 _ rfl)))) ?_
 iterate 2 refine gm ?_
 simp only [pq]
 refine gv (pP b209 (o210 + i * 5)) (fun _ _ => ex_at (i := i) (sz := 5) Tryz.underlying22 (sizeof_31 _) rfl ha211 rfl (by omega) rfl) ?_
 refine gf (fa_31_3 _ _) ?_
 refine gv _ (fun _ C213 => ex_load rfl (load1 (nagg_3 _) (St.fz (St.tells S202 C213) (c212 3 _ rfl)))) ?_
 simp only [pq]
 iterate 2 refine gm ?_
 refine gv (pP b209 (o210 + i * 5)) (fun _ _ => ex_at (i := i) (sz := 5) Tryz.underlying22 (sizeof_31 _) rfl ha211 rfl (by omega) rfl) ?_
 simp only [pq]
 refine gf (fa_31_4 _ _) ?_
 refine gv _ (fun _ C213 => ex_load rfl (load1 (nagg_3 _) (St.fz (St.tells S202 C213) (c212 4 _ rfl)))) ?_
 refine gv (.agg #[(.int .i64 (((8 + (4 * (pickN g.kind 2))) : Nat) : Int)), (iI 0), (.int .i64 g.name), (.int .i64 g.key), (.int .i64 g.value)]) (fun _ _ => ex_build (ps := #[(0, (.int .i64 (((8 + (4 * (pickN g.kind 2))) : Nat) : Int))), (2, (.int .i64 g.name)), (3, (.int .i64 g.key)), (4, (.int .i64 g.value))]) (bmap4 rfl rfl rfl rfl) (by kernel_rfl)) ?_
 simp only [pq]
 refine gw_rel rfl rfl (fun w213 C213 hF => does_call (ex_fn (vs := #[(.agg #[(.int .i64 (((8 + (4 * (pickN g.kind 2))) : Nat) : Int)), (iI 0), (.int .i64 g.name), (.int .i64 g.key), (.int .i64 g.value)])]) (map1 rfl) rfl (ent_19 _ _)) (call_made S202.sat C213 (request_spec _ _ (rndG g) ((St.tells S202 C213)).sat (rndG_ok hgk)))) (fun v215 => ?_)
 simp only [pq]
 refine gw_rel rfl rfl (fun w213 C213 _ => does_alloc (cs := [(iI 0), Zn, Zn, Zn, Zn]) (zero_27 _) rfl C213) (fun v216 => ?_)
 refine gw_nil ?_
 intro w217 hC219 hF220
 obtain ⟨n221, rfl, hn222, hb223⟩ := hF220.getR 25 rfl rfl
 have hnbn221 : ∀ u ∈ [(.int .i64 0), (.slice none 0 0), (.slice none 0 0), (.slice none 0 0), (.slice none 0 0)], ∀ x, u ≠ bv x := by intro u hu x; simp only [List.mem_cons, List.not_mem_nil, or_false] at hu; rcases hu with rfl | rfl | rfl | rfl | rfl <;> (unfold bv; simp)
 obtain ⟨F224, g225, R226⟩ := hF220.get 24 rfl rfl
 have g227 := g225.dropF S202.sat hn222
 have R228 := ReqR.dropF g225.sat hb223 hnbn221 R226
 have S218 := St.addBlk (cs := [(.int .i64 0), (.slice none 0 0), (.slice none 0 0), (.slice none 0 0), (.slice none 0 0)]) S202 g227 hn222 (dropF_at _ _) hb223
 have le230 : Le _ _ := g227.le S202.sat
 have R231 := R228
 generalize (dropF F224 n221) = F229 at *
 obtain ⟨xa232, xc233, xa234, xc235, xa236, xc237, xa238, xc239, rfl, r240, r241, r242, r243⟩ := R231
 clear hF220
 simp only [List.drop_succ_cons, List.drop_zero]
 refine sW 0 S218 (size_27) fun w244 S245 => ?_
 simp only [pq]
 refine wl_nil (hK208 _ _ ?_)
 refine wp_seq_k (fun K246 hK246 => ?_)
 obtain ⟨S247, le248, hc249⟩ := St.freezeBlk S245 (i := 0) rfl
 generalize addF F229 w244 n221 = F250 at *
 refine region_gw F250 9 [(2, .made (fun F' u => AcV F' u (Ac.ask 0 (encQ 1 (⟨[], [], [], []⟩ : Rq))))), (4, .made (fun F' u => AcV F' u (Ac.ask 0 (encQ ((rndQ g).1) (rndQ g).2)))), (6, .made (fun F' u => AcV F' u (Ac.ask 0 (encQ 6 (⟨[], [], [], []⟩ : Rq))))), (8, .made (fun F' u => Acs F' u ([(Ac.ask 0 (encQ 1 (⟨[], [], [], []⟩ : Rq))), (Ac.ask 0 (encQ ((rndQ g).1) (rndQ g).2)), (Ac.ask 0 (encQ 6 (⟨[], [], [], []⟩ : Rq))), Ac.sync] : List Ac)))] (by kernel_rfl) (by kernel_rfl) ?_
 simp only [List.take_succ_cons, List.take_zero]
 refine gm ?_
 refine gv (.agg #[(iI 1), Zn, Zn, Zn, Zn]) (fun _ _ => ex_build (ps := #[(0, (iI 1))]) (bmap1 rfl) (by kernel_rfl)) ?_
 simp only [pq]
 refine gw_rel rfl rfl (fun w251 C251 hF => does_call (ex_fn (vs := #[(iI 0), (.agg #[(iI 1), Zn, Zn, Zn, Zn])]) (map2 rfl rfl) rfl (ent_21 _ _)) (call_made S247.sat C251 (topAsk_spec _ _ _ 0 1 (⟨[], [], [], []⟩ : Rq) ((St.tells S247 C251)).sat (hT.1.below (St.tells S247 C251).gr.below) ⟨_, _, _, _, rfl, (Bs.nil _), (Bs.nil _), (Bs.nil _), (Bs.nil _)⟩ ⟨by decide, by kernel_rfl⟩))) (fun v252 => ?_)
 refine gv _ (fun _ C251 => ex_load rfl (loadM Tryz.underlying27 rfl (size_27) (rangeF (c := [(.int .i64 (((rndQ g).1 : Nat) : Int)), (.slice xa232 ((rndQ g).2.name).length xc233), (.slice xa234 ((rndQ g).2.key).length xc235), (.slice xa236 ((rndQ g).2.last).length xc237), (.slice xa238 ((rndQ g).2.value).length xc239)]) (St.tells S247 C251).sat hc249))) ?_
 simp only [pq]
 refine gw_rel rfl rfl (fun w251 C251 hF => does_call (ex_fn (vs := #[(iI 0), (.agg #[(.int .i64 (((rndQ g).1 : Nat) : Int)), (.slice xa232 ((rndQ g).2.name).length xc233), (.slice xa234 ((rndQ g).2.key).length xc235), (.slice xa236 ((rndQ g).2.last).length xc237), (.slice xa238 ((rndQ g).2.value).length xc239)])]) (map2 rfl rfl) rfl (ent_21 _ _)) (call_made S247.sat C251 (topAsk_spec _ _ _ 0 ((rndQ g).1) (rndQ g).2 ((St.tells S247 C251)).sat (hT.1.below (St.tells S247 C251).gr.below) ⟨_, _, _, _, rfl, (r240.mono le248), (r241.mono le248), (r242.mono le248), (r243.mono le248)⟩ (reqG_ok _)))) (fun v253 => ?_)
 refine gv (.agg #[(iI 6), Zn, Zn, Zn, Zn]) (fun _ _ => ex_build (ps := #[(0, (iI 6))]) (bmap1 rfl) (by kernel_rfl)) ?_
 simp only [pq]
 refine gw_rel rfl rfl (fun w251 C251 hF => does_call (ex_fn (vs := #[(iI 0), (.agg #[(iI 6), Zn, Zn, Zn, Zn])]) (map2 rfl rfl) rfl (ent_21 _ _)) (call_made S247.sat C251 (topAsk_spec _ _ _ 0 6 (⟨[], [], [], []⟩ : Rq) ((St.tells S247 C251)).sat (hT.1.below (St.tells S247 C251).gr.below) ⟨_, _, _, _, rfl, (Bs.nil _), (Bs.nil _), (Bs.nil _), (Bs.nil _)⟩ ⟨by decide, by kernel_rfl⟩))) (fun v254 => ?_)
 refine gv (.agg #[(iI 2), (iI 0), (iI 0), Zn]) (fun _ _ => ex_build (ps := #[(0, (iI 2))]) (bmap1 rfl) (by kernel_rfl)) ?_
 simp only [pq]
 refine gw_rel rfl rfl (fun w251 C251 hF_ => ?_) (fun v255 => ?_)
 obtain ⟨F256, g257, R258⟩ := hF_.get 2 (by kernel_rfl) rfl rfl
 obtain ⟨F259, g260, R261⟩ := hF_.get 4 (by kernel_rfl) rfl rfl
 obtain ⟨F262, g263, R264⟩ := hF_.get 6 (by kernel_rfl) rfl rfl
 obtain ⟨xa265, xc266, rfl, r267⟩ := (R258.mono ((both_left F256 F259).trans (both_left (both F256 F259) F262)))
 obtain ⟨xa268, xc269, rfl, r270⟩ := (R261.mono ((both_right g257.sat g260.sat).trans (both_left (both F256 F259) F262)))
 obtain ⟨xa271, xc272, rfl, r273⟩ := (R264.mono (both_right (g257.both g260).sat g263.sat))
 exact does_litN (k := 4) (R := AcC) AcC.mono (l := [(Ac.ask 0 (encQ 1 (⟨[], [], [], []⟩ : Rq))), (Ac.ask 0 (encQ ((rndQ g).1) (rndQ g).2)), (Ac.ask 0 (encQ 6 (⟨[], [], [], []⟩ : Rq))), Ac.sync]) (el := [[_, _, _, .slice xa265 _ xc266], [_, _, _, .slice xa268 _ xc269], [_, _, _, .slice xa271 _ xc272], [(.int .i64 2), (.int .i64 0), (.int .i64 0), (.slice none 0 0)]]) (E := 33) ((g257.both g260).both g263) ⟨⟨_, rfl, r267⟩, ⟨_, rfl, r270⟩, ⟨_, rfl, r273⟩, ⟨_, rfl, Bs.nil _⟩, trivial⟩ (by simp) (by unfold maxLen; simp) (ex_lit (E := 33) (cells := #[_, _, _, .slice xa265 _ xc266, _, _, _, .slice xa268 _ xc269, _, _, _, .slice xa271 _ xc272, (.int .i64 2), (.int .i64 0), (.int .i64 0), (.slice none 0 0)]) (bmap4 rfl rfl rfl rfl) (fun w => by kernel_rfl))
 refine gw_nil ?_
 intro w274 hC276 hF277
 obtain ⟨F278, g279, R280⟩ := hF277.get 8 rfl rfl
 have S275 := St.gives S247 g279
 have le282 : Le _ _ := g279.le S247.sat
 have R283 := R280
 generalize F278 = F281 at *
 obtain ⟨xa284, xc285, rfl, _⟩ := Sl.shape R283
 clear hF277
 simp only [List.drop_succ_cons, List.drop_zero]
 refine stAppendS (r := 0) (u := (.slice xa284 ([(Ac.ask 0 (encQ 1 (⟨[], [], [], []⟩ : Rq))), (Ac.ask 0 (encQ ((rndQ g).1) (rndQ g).2)), (Ac.ask 0 (encQ 6 (⟨[], [], [], []⟩ : Rq))), Ac.sync] : List Ac).length xc285)) S275 rfl i33 (.agg #[(iI 0), (iI 0), (iI 0), Zn]) 48 Tryz.underlying23 hi33 hz33 hs33 hb33 rfl (by decide) rfl rfl rfl (Sl.toW R283 (S275).sat) AcC.one (Nat.le_refl _) S275.gr.below.size (by unfold maxLen; (simp; have := rndS_len (l := l0) (n := i) (by omega); simp at this; omega)) (by (simp; have := rndS_len (l := l0) (n := i) (by omega); simp at this; omega)) ?_
 intro v286 w287 S288 hn289
 simp only [pq]
 obtain ⟨a290, cap291, rfl, h292, h293⟩ := (S288.own (i := 0) rfl).shape
 unfold maxLen at h293
 refine dy ?_
 refine wl_nil (hK246 _ _ ?_)
 refine wp_seq_k (fun K294 hK294 => ?_)
 rcases rndQ_kind g with hk | hk
 refine region_wl ?_
 refine dx ?_
 refine df (fa_27_1 _ _) ?_
 refine dr _ (ex_load rfl (load1 (nagg_25 _) (St.fz S288 (Le.cell le282 (hc249 1 _ rfl))))) ?_
 simp only [pq]
 refine df (fa_27_2 _ _) ?_
 refine dr _ (ex_load rfl (load1 (nagg_25 _) (St.fz S288 (Le.cell le282 (hc249 2 _ rfl))))) ?_
 refine df (fa_27_0 _ _) ?_
 simp only [pq]
 refine dr _ (ex_load rfl (load1 (nagg_3 _) (St.fz S288 (Le.cell le282 (hc249 0 _ rfl))))) ?_
 refine eqlF ?_
 refine df (fa_27_4 _ _) ?_
 simp only [pq]
 refine dr _ (ex_load rfl (load1 (nagg_25 _) (St.fz S288 (Le.cell le282 (hc249 4 _ rfl))))) ?_
 refine dr (.agg #[(.slice xa232 ((rndQ g).2.name).length xc233), (.slice xa234 ((rndQ g).2.key).length xc235), bF, (.slice xa238 ((rndQ g).2.value).length xc239)]) (ex_build (bmap4 rfl rfl rfl rfl) (by kernel_rfl)) ?_
 refine stNew S288 (v := fun n => .slice (aA n 0) 1 1) rfl (ex_lit (ps := #[(0, (.agg #[(.slice xa232 ((rndQ g).2.name).length xc233), (.slice xa234 ((rndQ g).2.key).length xc235), bF, (.slice xa238 ((rndQ g).2.value).length xc239)]))]) (cells := #[(.slice xa232 ((rndQ g).2.name).length xc233), (.slice xa234 ((rndQ g).2.key).length xc235), bF, (.slice xa238 ((rndQ g).2.value).length xc239)]) (E := 39) (bmap1 rfl) (fun w => by kernel_rfl)) (fun n295 w296 S297 => ?_)
 simp only [pq]
 obtain ⟨S298, le299, hc300⟩ := St.freezeBlk S297 (i := 0) rfl
 have hgone : (rcW (rndQ g)).gone = false := by show ((rndQ g).1 == 5) = _; rw [hk]; rfl
 have r302 : Wrs _ (.slice (some ⟨n295, 0, none⟩) 1 1) [rcW (rndQ g)] := sl_of_block (R := WrC) (l := [rcW (rndQ g)]) (el := [[(.slice xa232 ((rndQ g).2.name).length xc233), (.slice xa234 ((rndQ g).2.key).length xc235), (.bool false), (.slice xa238 ((rndQ g).2.value).length xc239)]]) hc300 rfl ⟨⟨_, _, _, _, rfl, ((r240.mono (le248.trans le282)).mono le299), ((r241.mono (le248.trans le282)).mono le299), congrArg Value.bool hgone.symm, ((r243.mono (le248.trans le282)).mono le299)⟩, trivial⟩ (by simp) (by unfold maxLen; simp)
 generalize addF F281 w296 n295 = F301 at *
 refine stGives S298 rfl (fn2 (ent_22 _ _)) (apply_is (S298).sat (hwa.mono (((le230.trans le248).trans le282).trans le299)) r302 ((rnd_state l0 i (by omega)).1.mono (by omega)) (fun w hw => by rw [List.mem_singleton.1 hw]; exact rndQ_ok g) (by rw [applyE_one (rndQ_ok g), rnd_write (by omega) hz_g])) ?_
 intro v308 w303 F305 S304 le306 R307
 obtain ⟨_, rfl, r311⟩ := R307
 obtain ⟨a309, c310, rfl, h312, h313⟩ := Sl.shape r311
 unfold maxLen at h313
 have h312 : (rndF l0 (i + 1)).length ≤ c310 := h312
 have r311 : Tns _ (.slice a309 (rndF l0 (i + 1)).length c310) (rndF l0 (i + 1)) := r311
 refine dx ?_
 iterate 2 refine de ?_
 simp only [pq]
 iterate 2 refine dy ?_
 refine wl_nil (hK294 _ _ ?_)
 refine wp_seq_k (fun K314 hK314 => ?_)
 refine sk fun K315 hK315 => ?_
 refine dx ?_
 refine dr bF (ex_neq (m := (0 : Int)) (n := (0 : Int)) (b := false) rfl rfl (bne_eq_false_iff_eq.2 (rfl))) ?_
 simp only [pq]
 refine wn hK315 ?_
 refine wp_cond_false rfl ?_
 refine wp_skip ?_
 refine hK314 _ _ ?_
 refine sk fun K316 hK316 => ?_
 refine dx ?_
 refine dy ?_
 refine wn hK316 ?_
 refine region_wl ?_
 refine dx ?_
 refine dAdd (i + 1) ?_
 refine dy ?_
 simp only [pq]
 refine wl_nil (hK207 _ _ ?_)
 refine region_wl ?_
 refine dx ?_
 refine dAdd (i + 1) ?_
 refine dy ?_
 simp only [pq]
 refine wl_nil ?_
 rw [show (((rndS l0 i).map Rc.ac) ++ ([(Ac.ask 0 (encQ 1 (⟨[], [], [], []⟩ : Rq))), (Ac.ask 0 (encQ ((rndQ g).1) (rndQ g).2)), (Ac.ask 0 (encQ 6 (⟨[], [], [], []⟩ : Rq))), Ac.sync] : List Ac)) = ((rndS l0 (i + 1)).map Rc.ac) from (rndS_succ hz_g)] at S304 ⊢
 exact hK204 _ _ _ (by omega) ⟨(i + 1), a290, cap291, a309, c310, F305, _, rfl, rfl, rfl, S304, (((((le203.trans le230).trans le248).trans le282).trans le299).trans le306), (by omega), (by omega), r311⟩
 refine region_wl ?_
 refine dx ?_
 refine df (fa_27_1 _ _) ?_
 refine dr _ (ex_load rfl (load1 (nagg_25 _) (St.fz S288 (Le.cell le282 (hc249 1 _ rfl))))) ?_
 simp only [pq]
 refine df (fa_27_2 _ _) ?_
 refine dr _ (ex_load rfl (load1 (nagg_25 _) (St.fz S288 (Le.cell le282 (hc249 2 _ rfl))))) ?_
 refine df (fa_27_0 _ _) ?_
 simp only [pq]
 refine dr _ (ex_load rfl (load1 (nagg_3 _) (St.fz S288 (Le.cell le282 (hc249 0 _ rfl))))) ?_
 refine eqlT ?_
 refine df (fa_27_4 _ _) ?_
 simp only [pq]
 refine dr _ (ex_load rfl (load1 (nagg_25 _) (St.fz S288 (Le.cell le282 (hc249 4 _ rfl))))) ?_
 refine dr (.agg #[(.slice xa232 ((rndQ g).2.name).length xc233), (.slice xa234 ((rndQ g).2.key).length xc235), bT, (.slice xa238 ((rndQ g).2.value).length xc239)]) (ex_build (bmap4 rfl rfl rfl rfl) (by kernel_rfl)) ?_
 refine stNew S288 (v := fun n => .slice (aA n 0) 1 1) rfl (ex_lit (ps := #[(0, (.agg #[(.slice xa232 ((rndQ g).2.name).length xc233), (.slice xa234 ((rndQ g).2.key).length xc235), bT, (.slice xa238 ((rndQ g).2.value).length xc239)]))]) (cells := #[(.slice xa232 ((rndQ g).2.name).length xc233), (.slice xa234 ((rndQ g).2.key).length xc235), bT, (.slice xa238 ((rndQ g).2.value).length xc239)]) (E := 39) (bmap1 rfl) (fun w => by kernel_rfl)) (fun n317 w318 S319 => ?_)
 simp only [pq]
 obtain ⟨S320, le321, hc322⟩ := St.freezeBlk S319 (i := 0) rfl
 have hgone : (rcW (rndQ g)).gone = true := by show ((rndQ g).1 == 5) = _; rw [hk]; rfl
 have r324 : Wrs _ (.slice (some ⟨n317, 0, none⟩) 1 1) [rcW (rndQ g)] := sl_of_block (R := WrC) (l := [rcW (rndQ g)]) (el := [[(.slice xa232 ((rndQ g).2.name).length xc233), (.slice xa234 ((rndQ g).2.key).length xc235), (.bool true), (.slice xa238 ((rndQ g).2.value).length xc239)]]) hc322 rfl ⟨⟨_, _, _, _, rfl, ((r240.mono (le248.trans le282)).mono le321), ((r241.mono (le248.trans le282)).mono le321), congrArg Value.bool hgone.symm, ((r243.mono (le248.trans le282)).mono le321)⟩, trivial⟩ (by simp) (by unfold maxLen; simp)
 generalize addF F281 w318 n317 = F323 at *
 refine stGives S320 rfl (fn2 (ent_22 _ _)) (apply_is (S320).sat (hwa.mono (((le230.trans le248).trans le282).trans le321)) r324 ((rnd_state l0 i (by omega)).1.mono (by omega)) (fun w hw => by rw [List.mem_singleton.1 hw]; exact rndQ_ok g) (by rw [applyE_one (rndQ_ok g), rnd_write (by omega) hz_g])) ?_
 intro v330 w325 F327 S326 le328 R329
 obtain ⟨_, rfl, r333⟩ := R329
 obtain ⟨a331, c332, rfl, h334, h335⟩ := Sl.shape r333
 unfold maxLen at h335
 have h334 : (rndF l0 (i + 1)).length ≤ c332 := h334
 have r333 : Tns _ (.slice a331 (rndF l0 (i + 1)).length c332) (rndF l0 (i + 1)) := r333
 refine dx ?_
 iterate 2 refine de ?_
 simp only [pq]
 iterate 2 refine dy ?_
 refine wl_nil (hK294 _ _ ?_)
 refine wp_seq_k (fun K336 hK336 => ?_)
 refine sk fun K337 hK337 => ?_
 refine dx ?_
 refine dr bF (ex_neq (m := (0 : Int)) (n := (0 : Int)) (b := false) rfl rfl (bne_eq_false_iff_eq.2 (rfl))) ?_
 simp only [pq]
 refine wn hK337 ?_
 refine wp_cond_false rfl ?_
 refine wp_skip ?_
 refine hK336 _ _ ?_
 refine sk fun K338 hK338 => ?_
 refine dx ?_
 refine dy ?_
 refine wn hK338 ?_
 refine region_wl ?_
 refine dx ?_
 refine dAdd (i + 1) ?_
 refine dy ?_
 simp only [pq]
 refine wl_nil (hK207 _ _ ?_)
 refine region_wl ?_
 refine dx ?_
 refine dAdd (i + 1) ?_
 refine dy ?_
 simp only [pq]
 refine wl_nil ?_
 rw [show (((rndS l0 i).map Rc.ac) ++ ([(Ac.ask 0 (encQ 1 (⟨[], [], [], []⟩ : Rq))), (Ac.ask 0 (encQ ((rndQ g).1) (rndQ g).2)), (Ac.ask 0 (encQ 6 (⟨[], [], [], []⟩ : Rq))), Ac.sync] : List Ac)) = ((rndS l0 (i + 1)).map Rc.ac) from (rndS_succ hz_g)] at S326 ⊢
 exact hK204 _ _ _ (by omega) ⟨(i + 1), a290, cap291, a331, c332, F327, _, rfl, rfl, rfl, S326, (((((le203.trans le230).trans le248).trans le282).trans le321).trans le328), (by omega), (by omega), r333⟩
 refine lssF ?_
 refine dp ?_
 refine wn hK206 ?_
 refine wp_cond_false rfl ?_
 refine wp_exit ?_
 exact hJ113 _ _ ⟨i, ra, rc, wa, wc, F196, _, rfl, rfl, S202, le203, hi, him, hwa⟩
 refine lssF ?_
 refine dx ?_
 simp only [pq]
 iterate 2 refine nO ?_
 refine dp ?_
 simp only [pq]
 refine wn hK206 ?_
 refine wp_cond_false rfl ?_
 refine wp_exit ?_
 exact hJ113 _ _ ⟨i, ra, rc, wa, wc, F196, _, rfl, rfl, S202, le203, hi, him, hwa⟩
end Go.Proofs.YtilgpdpooildcaaGreatDoor
