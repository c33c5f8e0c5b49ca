/- The walk of TopQueue -/
import Derived.Test.YtilgpdpooildcaaGreatDoorBT12
import Derived.Test.YtilgpdpooildcaaGreatDoorBT2
import Derived.Test.YtilgpdpooildcaaGreatDoorBT7
namespace Go.Proofs.YtilgpdpooildcaaGreatDoor
set_option maxHeartbeats 8000000
open Go.RowKit
set_option maxRecDepth 100000
set_option linter.unusedVariables false
set_option linter.unusedSimpArgs false
theorem Sl.capF {α : Type} {k : Nat} {R : Fz → List Value → α → Prop} {F : Fz} {a : Option Addr} {n c : Nat} {l : List α} (h : Sl k R F (.slice a n c) l) : Sl k R F (.slice a n n) l := by
 obtain ⟨_, _, e0, e1, _⟩ := h.shape
 injection e0 with _ e2 e3
 exact Sl.cap h (Nat.le_refl _) (by omega)
theorem Sl.leCap {α : Type} {k : Nat} {R : Fz → List Value → α → Prop} {F : Fz} {a : Option Addr} {n c : Nat} {l : List α} (h : Sl k R F (.slice a n c) l) : n ≤ c := by
 obtain ⟨_, _, e0, e1, _⟩ := h.shape
 injection e0 with _ e2 e3
 omega
theorem queueA_succ (i : Nat) : (queueA i).map Rc.ac ++ [Ac.ask (i % 8) (encQ 1 rq0), Ac.ask (i % 8) (encQ 4 ⟨[97], [u8of ((i + 1 : Nat) : Int)], [], []⟩), Ac.ask (i % 8) (encQ 6 rq0)] = (queueA (i + 1)).map Rc.ac := by
 unfold queueA
 rw [List.range_succ, List.flatMap_append, List.map_append]
 rfl
theorem queueA_len (n : Nat) : ((queueA n).map Rc.ac).length = 3 * n := by
 induction n with
 | zero => rfl
 | succ n ih => rw [← queueA_succ, List.length_append, ih]; simp; omega
theorem queue_scr (n : Nat) (h : n < 10) : (scrB (queueA n) && !(queueA n).any rcP && !(queueA n).any rcK) = true ∧ (scrB (queueA n ++ [Rc.sync]) && !(queueA n ++ [Rc.sync]).any rcP && !(queueA n ++ [Rc.sync]).any rcK) = true := by
 have h1 : ((List.range 10).all fun n => (scrB (queueA n) && !(queueA n).any rcP && !(queueA n).any rcK) && (scrB (queueA n ++ [Rc.sync]) && !(queueA n ++ [Rc.sync]).any rcP && !(queueA n ++ [Rc.sync]).any rcK)) = true := by kernel_rfl
 have h2 := List.all_eq_true.1 h1 n (List.mem_range.2 h)
 rw [Bool.and_eq_true] at h2
 exact h2
theorem scr_snoc {l : List Rc} (h : (scrB (l ++ [Rc.sync]) && !(l ++ [Rc.sync]).any rcP && !(l ++ [Rc.sync]).any rcK) = true) : ScrOk (l.map Rc.ac ++ [Ac.sync]) ∧ runE (l.map Rc.ac ++ [Ac.sync]) = runR (l ++ [Rc.sync]) := by
 have := scr_no h
 rwa [List.map_append] at this
theorem topQueue_walk (W : World) (hT : Has W ∧ Tabs W) (x0 : Int) (b0 : -9223372036854775808 ≤ x0) (b0' : x0 ≤ 9223372036854775807) :
    Calls Tryz.prog 14 #[.int .i64 x0] W (Tells W (.bool true)) := by
 obtain ⟨i33, hi33, hz33, hs33, hb33⟩ := info_parts info_33
 have S := St.start (Sat.whole W)
 go_enter Tryz.func14, Tryz.ntmps14
 refine sk fun K101 hK101 => ?_
 refine dy ?_
 refine wn hK101 ?_
 refine sk fun K102 hK102 => ?_
 refine dx ?_
 simp only [pq]
 obtain ⟨k0, hk_k0, hk_k0_l⟩ := pick_nat x0 10 (by decide)
 refine stTells (v := (nI k0)) S rfl (fn2 (ent_20 _ _)) (hk_k0 ▸ Picked_spec x0 10 _ (by omega) (by omega) (by omega) (by omega)) (fun w103 S104 => ?_)
 refine dy ?_
 refine wn hK102 ?_
 refine sk fun K105 hK105 => ?_
 refine dy ?_
 refine wn hK105 ?_
 refine wp_seq_k (fun K106 hK106 => ?_)
 refine wp_seq_k (fun K107 hK107 => ?_)
 have S108 := St.addNil S104 4 AcC AcC.mono 33 W.heap.size
 refine region_wl ?_
 refine dy ?_
 simp only [pq]
 refine wl_nil (hK107 _ _ ?_)
 refine wp_block ?_
 refine wp_loop_g (fun mm aa w111 => ∃ (i : Nat) (ra : Option Addr) (rc : Nat) (F109 : Fz) (u110 : Nat → Value), mm = k0 - i ∧ u110 = slots aa ∧ aa = ⟨#[(.int .i64 x0), undef, bF, (nI k0), (.slice ra ((queueA i).map Rc.ac).length rc), (nI i), undef, undef, undef, undef, undef, (.int .i64 x0), (nI k0), (u110 13), (u110 14), (u110 15), (u110 16), (u110 17), (u110 18), (u110 19), (u110 20), (u110 21), (u110 22), (u110 23), (u110 24), (u110 25), (u110 26), (u110 27), (u110 28), (u110 29), (u110 30), (u110 31), (u110 32), (u110 33), (u110 34), (u110 35), (u110 36), (u110 37), undef, undef, undef, undef, undef, undef, undef, undef, undef, undef, undef, undef, undef, undef, undef, undef, undef, undef, undef, undef, undef, undef, undef, undef, undef, undef, undef, undef, undef, undef, undef, undef, undef, undef, undef, undef, undef, undef, undef, undef, undef, undef, undef, undef, undef, undef, undef, undef, undef, undef, undef, undef, undef, undef, undef, undef, undef, undef, undef, undef, undef, undef, undef, undef, undef], []⟩ ∧ St W (whole W) w111 F109 [] [ownP 4 AcC AcC.mono 33 W.heap.size (.slice ra ((queueA i).map Rc.ac).length rc) ((queueA i).map Rc.ac)] ∧ Le (whole W) F109 ∧ (i ≤ k0)) _ ⟨0, none, 0, (whole W), _, rfl, rfl, rfl, S108, Le.refl _, (by omega)⟩ ?_
 rintro m112 a113 w114 ⟨i, ra, rc, F109, u110, rfl, -, rfl, S115, le116, hi⟩ K117 hK117
 refine wp_seq_k (fun K118 hK118 => ?_)
 refine sk fun K119 hK119 => ?_
 iterate 2 refine dx ?_
 simp only [pq]
 by_cases hc15 : i < k0
 ·refine lssT ?_
  refine wn hK119 ?_
  refine wp_cond_true rfl ?_
  refine wp_skip ?_
  refine hK118 _ _ ?_
  refine wp_seq_k (fun K120 hK120 => ?_)
  refine wp_block ?_
  refine region_wl ?_
  iterate 2 refine dx ?_
  refine dr (nI (i % 8)) (ex_remA (m := i) (n := 8) rfl rfl (by decide) (by omega)) ?_
  simp only [pq]
  refine dr (.agg #[(iI 1), Zn, Zn, Zn, Zn]) (ex_build (bmap1 rfl) (by kernel_rfl)) ?_
  refine stGives S115 rfl (fn2 (ent_21 _ _)) (topAsk_spec _ _ _ (i % 8) 1 (⟨[], [], [], []⟩ : Rq) (S115).sat (hT.1.below S115.gr.below) ⟨_, _, _, _, rfl, (Bs.nil _), (Bs.nil _), (Bs.nil _), (Bs.nil _)⟩ ⟨by decide, by kernel_rfl⟩) ?_
  intro v126 w121 F123 S122 le124 R125
  obtain ⟨xa127, xc128, rfl, r129⟩ := R125
  have r129 : Bs _ (.slice xa127 (encQ 1 (⟨[], [], [], []⟩ : Rq)).length xc128) (encQ 1 (⟨[], [], [], []⟩ : Rq)) := r129
  refine dx ?_
  refine dr (nI (i % 8)) (ex_remA (m := i) (n := 8) rfl rfl (by decide) (by omega)) ?_
  simp only [pq]
  refine stNew S122 (v := fun n => .slice (aA n 0) 1 1) rfl (ex_lit (ps := #[(0, (.int .u8 97))]) (cells := #[(.int .u8 97)]) (E := 5) (bmap1 rfl) (fun w => by kernel_rfl)) (fun n130 w131 S132 => ?_)
  refine dx ?_
  refine dAdd (i + 1) ?_
  refine dr (.int .u8 (((u8of (((i + 1) : Nat) : Int)).toNat : Nat) : Int)) (ex_convert (v := (nI (i + 1))) rfl (conv_u8 (((i + 1) : Nat) : Int) _)) ?_
  simp only [pq]
  refine stNew S132 (v := fun n => .slice (aA n 0) 1 1) rfl (ex_lit (ps := #[(0, (.int .u8 (((u8of (((i + 1) : Nat) : Int)).toNat : Nat) : Int)))]) (cells := #[(.int .u8 (((u8of (((i + 1) : Nat) : Int)).toNat : Nat) : Int))]) (E := 5) (bmap1 rfl) (fun w => by kernel_rfl)) (fun n133 w134 S135 => ?_)
  refine dr (.agg #[(iI 4), (.slice (aA n130 0) 1 1), (.slice (aA n133 0) 1 1), Zn, Zn]) (ex_build (bmap3 rfl rfl rfl) (by kernel_rfl)) ?_
  simp only [pq]
  obtain ⟨S136, le137, hc138⟩ := St.freezeBlk S135 (i := 1) rfl
  have r140 : Bs _ (.slice (some ⟨n130, 0, none⟩) 1 1) ([97] : By) := bs_of_block (l := ([97] : By)) hc138 (rfl) (by unfold maxLen; simp)
  generalize addF F123 w134 n130 = F139 at *
  obtain ⟨S141, le142, hc143⟩ := St.freezeBlk S136 (i := 0) rfl
  have r145 : Bs _ (.slice (some ⟨n133, 0, none⟩) 1 1) ([u8of (((i + 1) : Nat) : Int)] : By) := bs_of_block (l := ([u8of (((i + 1) : Nat) : Int)] : By)) hc143 (rfl) (by unfold maxLen; simp)
  generalize addF F139 w134 n133 = F144 at *
  refine stGives S141 rfl (fn2 (ent_21 _ _)) (topAsk_spec _ _ _ (i % 8) 4 (⟨([97] : By), ([u8of (((i + 1) : Nat) : Int)] : By), [], []⟩ : Rq) (S141).sat (hT.1.below S141.gr.below) ⟨_, _, _, _, rfl, (r140.mono le142), r145, (Bs.nil _), (Bs.nil _)⟩ ⟨by decide, by kernel_rfl⟩) ?_
  intro v151 w146 F148 S147 le149 R150
  obtain ⟨xa152, xc153, rfl, r154⟩ := R150
  have r154 : Bs _ (.slice xa152 (encQ 4 (⟨([97] : By), ([u8of (((i + 1) : Nat) : Int)] : By), [], []⟩ : Rq)).length xc153) (encQ 4 (⟨([97] : By), ([u8of (((i + 1) : Nat) : Int)] : By), [], []⟩ : Rq)) := r154
  refine dx ?_
  refine dr (nI (i % 8)) (ex_remA (m := i) (n := 8) rfl rfl (by decide) (by omega)) ?_
  refine dr (.agg #[(iI 6), Zn, Zn, Zn, Zn]) (ex_build (bmap1 rfl) (by kernel_rfl)) ?_
  simp only [pq]
  refine stGives S147 rfl (fn2 (ent_21 _ _)) (topAsk_spec _ _ _ (i % 8) 6 (⟨[], [], [], []⟩ : Rq) (S147).sat (hT.1.below S147.gr.below) ⟨_, _, _, _, rfl, (Bs.nil _), (Bs.nil _), (Bs.nil _), (Bs.nil _)⟩ ⟨by decide, by kernel_rfl⟩) ?_
  intro v160 w155 F157 S156 le158 R159
  obtain ⟨xa161, xc162, rfl, r163⟩ := R159
  have r163 : Bs _ (.slice xa161 (encQ 6 (⟨[], [], [], []⟩ : Rq)).length xc162) (encQ 6 (⟨[], [], [], []⟩ : Rq)) := r163
  refine stNew S156 (v := fun n => .slice (aA n 0) 3 3) rfl (ex_lit (ps := #[(0, (.agg #[(iI 1), (nI (i % 8)), (iI 0), (.slice xa127 (encQ 1 (⟨[], [], [], []⟩ : Rq)).length xc128)])), (1, (.agg #[(iI 1), (nI (i % 8)), (iI 0), (.slice xa152 (encQ 4 (⟨([97] : By), ([u8of (((i + 1) : Nat) : Int)] : By), [], []⟩ : Rq)).length xc153)])), (2, (.agg #[(iI 1), (nI (i % 8)), (iI 0), (.slice xa161 (encQ 6 (⟨[], [], [], []⟩ : Rq)).length xc162)]))]) (cells := #[(iI 1), (nI (i % 8)), (iI 0), (.slice xa127 (encQ 1 (⟨[], [], [], []⟩ : Rq)).length xc128), (iI 1), (nI (i % 8)), (iI 0), (.slice xa152 (encQ 4 (⟨([97] : By), ([u8of (((i + 1) : Nat) : Int)] : By), [], []⟩ : Rq)).length xc153), (iI 1), (nI (i % 8)), (iI 0), (.slice xa161 (encQ 6 (⟨[], [], [], []⟩ : Rq)).length xc162)]) (E := 33) (bmap3 rfl rfl rfl) (fun w => by kernel_rfl)) (fun n164 w165 S166 => ?_)
  simp only [pq]
  obtain ⟨S167, le168, hc169⟩ := St.freezeBlk S166 (i := 0) rfl
  have r171 : Acs _ (.slice (some ⟨n164, 0, none⟩) 3 3) ([(Ac.ask (i % 8) (encQ 1 (⟨[], [], [], []⟩ : Rq))), (Ac.ask (i % 8) (encQ 4 (⟨([97] : By), ([u8of (((i + 1) : Nat) : Int)] : By), [], []⟩ : Rq))), (Ac.ask (i % 8) (encQ 6 (⟨[], [], [], []⟩ : Rq)))] : List Ac) := sl_of_block (R := AcC) (l := ([(Ac.ask (i % 8) (encQ 1 (⟨[], [], [], []⟩ : Rq))), (Ac.ask (i % 8) (encQ 4 (⟨([97] : By), ([u8of (((i + 1) : Nat) : Int)] : By), [], []⟩ : Rq))), (Ac.ask (i % 8) (encQ 6 (⟨[], [], [], []⟩ : Rq)))] : List Ac)) (el := [[(.int .i64 1), (.int .i64 (((i % 8) : Nat) : Int)), (.int .i64 0), (.slice xa127 (encQ 1 (⟨[], [], [], []⟩ : Rq)).length xc128)], [(.int .i64 1), (.int .i64 (((i % 8) : Nat) : Int)), (.int .i64 0), (.slice xa152 (encQ 4 (⟨([97] : By), ([u8of (((i + 1) : Nat) : Int)] : By), [], []⟩ : Rq)).length xc153)], [(.int .i64 1), (.int .i64 (((i % 8) : Nat) : Int)), (.int .i64 0), (.slice xa161 (encQ 6 (⟨[], [], [], []⟩ : Rq)).length xc162)]]) hc169 rfl ⟨⟨_, rfl, Bs.mono (r129.mono (((le137.trans le142).trans le149).trans le158)) le168⟩, ⟨_, rfl, Bs.mono (r154.mono le158) le168⟩, ⟨_, rfl, Bs.mono r163 le168⟩, trivial⟩ (by simp) (by unfold maxLen; simp)
  generalize addF F157 w165 n164 = F170 at *
  refine stAppendS (r := 0) (u := (.slice (aA n164 0) 3 3)) S167 rfl i33 (.agg #[(iI 0), (iI 0), (iI 0), Zn]) 48 Tryz.underlying23 hi33 hz33 hs33 hb33 rfl (by decide) rfl rfl rfl (Sl.toW r171 (S167).sat) AcC.one (Nat.le_refl _) S167.gr.below.size (by unfold maxLen; (simp; have := queueA_len i; simp at this; omega)) (by (simp; have := queueA_len i; simp at this; omega)) ?_
  intro v172 w173 S174 hn175
  simp only [pq]
  obtain ⟨a176, cap177, rfl, h178, h179⟩ := (S174.own (i := 0) rfl).shape
  unfold maxLen at h179
  refine dy ?_
  refine wl_nil (hK120 _ _ ?_)
  refine region_wl ?_
  refine dx ?_
  refine dAdd (i + 1) ?_
  refine dy ?_
  simp only [pq]
  refine wl_nil ?_
  rw [show (((queueA i).map Rc.ac) ++ [(Ac.ask (i % 8) (encQ 1 (⟨[], [], [], []⟩ : Rq))), (Ac.ask (i % 8) (encQ 4 (⟨([97] : By), ([u8of (((i + 1) : Nat) : Int)] : By), [], []⟩ : Rq))), (Ac.ask (i % 8) (encQ 6 (⟨[], [], [], []⟩ : Rq)))]) = ((queueA (i + 1)).map Rc.ac) from (queueA_succ i)] at S174 ⊢
  exact hK117 _ _ _ (by omega) ⟨(i + 1), a176, cap177, F170, _, rfl, rfl, rfl, S174, ((((((le116.trans le124).trans le137).trans le142).trans le149).trans le158).trans le168), (by omega)⟩
 ·refine lssF ?_
  refine wn hK119 ?_
  refine wp_cond_false rfl ?_
  refine wp_exit ?_
  refine hK106 _ _ ?_
  refine wp_seq_k (fun K180 hK180 => ?_)
  obtain rfl : k0 = i := by omega
  refine region_wl ?_
  refine dx ?_
  simp only [pq]
  obtain ⟨G, h1, ge1, ge2, ge3, ge4, hge⟩ : ∃ G, (ScrOk (((queueA k0).map Rc.ac)) ∧ runE (((queueA k0).map Rc.ac)) = G) ∧ G.waiting.length = min k0 6 ∧ G.synced = 0 ∧ G.forest G.synced = [] ∧ G.replies.length = 2 * min k0 6 + 3 * (k0 - min k0 6) ∧ G = runR (queueA k0) := ⟨_, scr_no (queue_scr k0 (by omega)).1, (queue_run k0 (by omega)).1, (queue_run k0 (by omega)).2.1, (queue_run k0 (by omega)).2.2.1, (queue_run k0 (by omega)).2.2.2.1, rfl⟩
  obtain ⟨F181, S182, le183, hv184⟩ := St.freeze S115 (i := 0) rfl (Nat.le_refl _)
  have hv184 : Acs _ (.slice ra ((queueA k0).map Rc.ac).length rc) ((queueA k0).map Rc.ac) := hv184
  refine stGives S182 rfl (fn1 (ent_23 _ _)) (ranIs_spec _ _ _ ((queueA k0).map Rc.ac) (S182).sat (hT.1.below S182.gr.below) (hT.2.at S182.gr.below) hv184 h1.1 h1.2) ?_
  intro v190 w185 F187 S186 le188 R189
  obtain ⟨_, rfl, R191⟩ := R189
  obtain ⟨a192, c193, a194, c195, rfl, r196, r197⟩ := R191
  refine dx ?_
  iterate 2 refine de ?_
  simp only [pq]
  refine sA S186 (zero_43 _) fun n198 w199 S200 => ?_
  refine sW 0 S200 (size_43) fun w201 S202 => ?_
  refine dy ?_
  simp only [pq]
  refine wl_nil (hK180 _ _ ?_)
  refine sk fun K203 hK203 => ?_
  refine dx ?_
  refine dr (nI (min k0 6)) (ex_min (m := ((k0 : Nat) : Int)) (n := (6 : Int)) (r := (((min k0 6) : Nat) : Int)) rfl rfl (by omega)) ?_
  refine dy ?_
  simp only [pq]
  refine wn hK203 ?_
  refine sk fun K204 hK204 => ?_
  iterate 2 refine dx ?_
  refine dn Tryz.underlying23 ?_
  simp only [pq]
  refine dx ?_
  refine dn Tryz.underlying23 ?_
  simp only [pq]
  have hcap_ := Sl.leCap (hv184.mono le188)
  have r205 : Acs _ (.slice ra ((queueA k0).map Rc.ac).length ((queueA k0).map Rc.ac).length) ((queueA k0).map Rc.ac) := Sl.capF (hv184.mono le188)
  refine dr (.slice ra ((queueA k0).map Rc.ac).length ((queueA k0).map Rc.ac).length) (ex_slice3_0 (h := ((queueA k0).map Rc.ac).length) (m := ((queueA k0).map Rc.ac).length) (sz := 4) Tryz.underlying23 rfl (sizeof_33 _) rfl rfl (by omega) (by omega) rfl) ?_
  refine dr (.agg #[(iI 2), (iI 0), (iI 0), Zn]) (ex_build (bmap1 rfl) (by kernel_rfl)) ?_
  refine stNew S202 (v := fun n => .slice (aA n 0) 1 1) rfl (ex_lit (ps := #[(0, (.agg #[(iI 2), (iI 0), (iI 0), Zn]))]) (cells := #[(iI 2), (iI 0), (iI 0), Zn]) (E := 33) (bmap1 rfl) (fun w => by kernel_rfl)) (fun n206 w207 S208 => ?_)
  simp only [pq]
  obtain ⟨S209, le210, hc211⟩ := St.freezeBlk S208 (i := 0) rfl
  have r213 : Acs _ (.slice (some ⟨n206, 0, none⟩) 1 1) ([Ac.sync] : List Ac) := sl_of_block (R := AcC) (l := ([Ac.sync] : List Ac)) (el := [[(.int .i64 2), (.int .i64 0), (.int .i64 0), (.slice none 0 0)]]) hc211 rfl ⟨⟨_, rfl, Bs.nil _⟩, trivial⟩ (by simp) (by unfold maxLen; simp)
  generalize addF F187 w207 n206 = F212 at *
  refine stAppendN (u := (.slice (aA n206 0) 1 1)) AcC.mono S209 rfl i33 (.agg #[(iI 0), (iI 0), (iI 0), Zn]) 48 Tryz.underlying23 hi33 hz33 hs33 hb33 rfl (by decide) rfl rfl (Sl.toW (r205.mono le210) (S209).sat) (Sl.toW r213 (S209).sat) (by simp) (by unfold maxLen; simp; have := queueA_len k0; simp at this; omega) (by simp; have := queueA_len k0; simp at this; omega) ?_
  intro g214 c215 w216 S217
  simp only [pq]
  obtain ⟨G2, h2, gf1, gf2⟩ : ∃ G, (ScrOk ((((queueA k0).map Rc.ac) ++ [Ac.sync])) ∧ runE ((((queueA k0).map Rc.ac) ++ [Ac.sync])) = G) ∧ G.synced = min k0 6 ∧ G.waiting.length = 0 := ⟨_, scr_snoc (queue_scr k0 (by omega)).2, (queue_run k0 (by omega)).2.2.2.2.1, (queue_run k0 (by omega)).2.2.2.2.2⟩
  obtain ⟨F218, S219, le220, hv221⟩ := St.freeze S217 (i := 0) rfl (Nat.le_refl _)
  have hv221 : Acs _ (.slice (some ⟨g214, 0, none⟩) (((queueA k0).map Rc.ac) ++ [Ac.sync]).length c215) (((queueA k0).map Rc.ac) ++ [Ac.sync]) := hv221
  refine stGives S219 rfl (fn1 (ent_23 _ _)) (ranIs_spec _ _ _ (((queueA k0).map Rc.ac) ++ [Ac.sync]) (S219).sat (hT.1.below S219.gr.below) (hT.2.at S219.gr.below) hv221 h2.1 h2.2) ?_
  intro v227 w222 F224 S223 le225 R226
  obtain ⟨_, rfl, R228⟩ := R226
  obtain ⟨a229, c230, a231, c232, rfl, r233, r234⟩ := R228
  refine dx ?_
  iterate 2 refine de ?_
  simp only [pq]
  refine sA S223 (zero_43 _) fun n235 w236 S237 => ?_
  refine sW 0 S237 (size_43) fun w238 S239 => ?_
  refine dy ?_
  simp only [pq]
  refine wn hK204 ?_
  refine sk fun K240 hK240 => ?_
  iterate 3 refine dx ?_
  simp only [pq]
  refine dp ?_
  refine dx ?_
  refine df (fa_43_2 _ _) ?_
  simp only [pq]
  refine dl (nagg_3 _) S239 1 ?_
  refine dx ?_
  refine eqlT ?_
  simp only [pq]
  refine dp ?_
  refine dx ?_
  refine df (fa_43_1 _ _) ?_
  simp only [pq]
  refine dl (nagg_3 _) S239 1 ?_
  refine eqlT ?_
  refine dp ?_
  simp only [pq]
  refine dx ?_
  refine df (fa_43_1 _ _) ?_
  refine dl (nagg_3 _) S239 0 ?_
  simp only [pq]
  refine dx ?_
  refine eqlT ?_
  refine dp ?_
  simp only [pq]
  refine dx ?_
  refine df (fa_43_2 _ _) ?_
  refine dl (nagg_3 _) S239 0 ?_
  simp only [pq]
  refine eqlT ?_
  refine dp ?_
  refine dx ?_
  simp only [pq]
  refine df (fa_43_3 _ _) ?_
  refine dl (nagg_24 _) S239 1 ?_
  refine dn Tryz.underlying24 ?_
  simp only [pq]
  refine dr bT (ex_eql (m := (((G.forest G.synced).length : Nat) : Int)) (n := (0 : Int)) (b := true) rfl rfl (beq_iff_eq.2 (by rw [ge3]; rfl))) ?_
  refine dp ?_
  refine dx ?_
  simp only [pq]
  refine df (fa_43_4 _ _) ?_
  refine dl (nagg_41 _) S239 1 ?_
  refine dn Tryz.underlying41 ?_
  simp only [pq]
  refine dx ?_
  refine dr (nI (2 * (min k0 6))) (ex_mul (m := (2 : Int)) (n := (((min k0 6) : Nat) : Int)) (r := (((2 * (min k0 6)) : Nat) : Int)) rfl rfl (by omega) (by omega) (by omega)) ?_
  refine dx ?_
  simp only [pq]
  refine dx ?_
  refine dr (nI (k0 - (min k0 6))) (ex_sub (m := ((k0 : Nat) : Int)) (n := (((min k0 6) : Nat) : Int)) (r := (((k0 - (min k0 6)) : Nat) : Int)) rfl rfl (by omega) (by omega) (by omega)) ?_
  refine dr (.int .i64 (((3 * (k0 - (min k0 6))) : Nat) : Int)) (ex_mul (m := (3 : Int)) (n := (((k0 - (min k0 6)) : Nat) : Int)) (r := (((3 * (k0 - (min k0 6))) : Nat) : Int)) rfl rfl (by omega) (by omega) (by omega)) ?_
  simp only [pq]
  refine dAdd ((((2 * (min k0 6)) + (3 * (k0 - (min k0 6)))) : Nat) : Int) ?_
  refine eqlT ?_
  refine dp ?_
  simp only [pq]
  refine dy ?_
  refine wn hK240 ?_
  refine wp_ret ?_
  (try simp only [Exit.then, Exit.inBlock, ↓reduceIte, Nat.reduceEqDiff])
  refine bR (res_t rfl (gD rfl)) ?_
  ·exact ⟨rfl, S239.gr.below⟩
end Go.Proofs.YtilgpdpooildcaaGreatDoor
