/- The walk of TopGone -/
import Derived.Test.YtilgpdpooildcaaGreatDoorBT12
import Derived.Test.YtilgpdpooildcaaGreatDoorBT2
namespace Go.Proofs.YtilgpdpooildcaaGreatDoor
set_option maxHeartbeats 8000000
open Go.RowKit
set_option maxRecDepth 100000
set_option linter.unusedVariables false
set_option linter.unusedSimpArgs false
theorem goneA_succ (i : Nat) : (goneA i).map Rc.ac ++ [Ac.ask 0 (encQ 1 rq0), Ac.ask 0 (encQ 4 ⟨[97], [u8of ((i + 1 : Nat) : Int)], [], []⟩), Ac.ask 0 (encQ 6 rq0), Ac.sync] = (goneA (i + 1)).map Rc.ac := by
 simp only [goneA, List.range_succ, List.flatMap_append, List.map_cons, List.map_append, List.cons_append]
 rfl
theorem goneA_len (n : Nat) : ((goneA n).map Rc.ac).length = 4 * n + 1 := by
 induction n with
 | zero => rfl
 | succ n ih => rw [← goneA_succ, List.length_append, ih]; simp; omega
theorem gone_scr (n : Nat) (h : n < 12) : (scrB (goneR n) && !(goneR n).any rcP && !(goneR n).any rcK) = true := by
 have h1 : ((List.range 12).all fun n => (scrB (goneR n) && !(goneR n).any rcP && !(goneR n).any rcK)) = true := by kernel_rfl
 exact List.all_eq_true.1 h1 n (List.mem_range.2 h)
theorem gone_scrs (n : Nat) (h : n < 12) : ScrOk ((goneA n).map Rc.ac ++ [Ac.ask 3 (encQ 2 ⟨[97], [1], [], []⟩), Ac.ask 3 (encQ 7 rq0)]) ∧ runE ((goneA n).map Rc.ac ++ [Ac.ask 3 (encQ 2 ⟨[97], [1], [], []⟩), Ac.ask 3 (encQ 7 rq0)]) = runR (goneR n) := by
 have := scr_no (gone_scr n h)
 unfold goneR at this ⊢
 rwa [List.map_append] at this
theorem topGone_walk (W : World) (hT : Has W ∧ Tabs W) (x0 : Int) (b0 : -9223372036854775808 ≤ x0) (b0' : x0 ≤ 9223372036854775807) :
    Calls Tryz.prog 13 #[.int .i64 x0] W (Tells W (.bool true)) := by
 obtain ⟨i33, hi33, hz33, hs33, hb33⟩ := info_parts info_33
 have S := St.start (Sat.whole W)
 go_enter Tryz.func13, Tryz.ntmps13
 refine sk fun K101 hK101 => ?_
 refine dy ?_
 refine wn hK101 ?_
 refine sk fun K102 hK102 => ?_
 refine dx ?_
 simp only [pq]
 obtain ⟨k0, hk_k0, hk_k0_l⟩ := pick_nat x0 12 (by decide)
 refine stTells (v := (nI k0)) S rfl (fn2 (ent_20 _ _)) (hk_k0 ▸ Picked_spec x0 12 _ (by omega) (by omega) (by omega) (by omega)) (fun w103 S104 => ?_)
 refine dy ?_
 refine wn hK102 ?_
 refine sk fun K105 hK105 => ?_
 refine dr (.agg #[(iI 1), Zn, Zn, Zn, Zn]) (ex_build (bmap1 rfl) (by kernel_rfl)) ?_
 refine stGives S104 rfl (fn2 (ent_21 _ _)) (topAsk_spec _ _ _ 3 1 (⟨[], [], [], []⟩ : Rq) (S104).sat (hT.1.below S104.gr.below) ⟨_, _, _, _, rfl, (Bs.nil _), (Bs.nil _), (Bs.nil _), (Bs.nil _)⟩ ⟨by decide, by kernel_rfl⟩) ?_
 intro v111 w106 F108 S107 le109 R110
 obtain ⟨xa112, xc113, rfl, r114⟩ := R110
 have r114 : Bs _ (.slice xa112 (encQ 1 (⟨[], [], [], []⟩ : Rq)).length xc113) (encQ 1 (⟨[], [], [], []⟩ : Rq)) := r114
 simp only [pq]
 refine stNew S107 (v := fun n => .slice (aA n 0) 1 1) rfl (ex_lit (ps := #[(0, (.agg #[(iI 1), (iI 3), (iI 0), (.slice xa112 (encQ 1 (⟨[], [], [], []⟩ : Rq)).length xc113)]))]) (cells := #[(iI 1), (iI 3), (iI 0), (.slice xa112 (encQ 1 (⟨[], [], [], []⟩ : Rq)).length xc113)]) (E := 33) (bmap1 rfl) (fun w => by kernel_rfl)) (fun n115 w116 S117 => ?_)
 refine dy ?_
 refine wn hK105 ?_
 refine wp_seq_k (fun K118 hK118 => ?_)
 refine wp_seq_k (fun K119 hK119 => ?_)
 have S120 : St W (whole W) w116 F108 [] [ownP 4 AcC AcC.mono 33 W.heap.size (.slice (aA n115 0) 1 1) [(Ac.ask 3 (encQ 1 (⟨[], [], [], []⟩ : Rq)))]] := St.blkRow (k := 4) (cap := 1) (hR := AcC.mono) (l := ([(Ac.ask 3 (encQ 1 (⟨[], [], [], []⟩ : Rq)))] : List Ac)) (el := [[(iI 1), (iI 3), (iI 0), (.slice xa112 (encQ 1 (⟨[], [], [], []⟩ : Rq)).length xc113)]]) S117 rfl ⟨⟨_, rfl, r114⟩, trivial⟩ (by simp) rfl (by simp) (by unfold maxLen; decide) (S117.blk _ (List.mem_cons_self ..)).2.2
 refine region_wl ?_
 refine dy ?_
 refine wl_nil (hK119 _ _ ?_)
 refine wp_block ?_
 refine wp_loop_g (fun mm aa w123 => ∃ (i : Nat) (ra : Option Addr) (rc : Nat) (F121 : Fz) (u122 : Nat → Value), mm = k0 - i ∧ u122 = slots aa ∧ aa = ⟨#[(.int .i64 x0), undef, bF, (nI k0), (.slice ra ((goneA i).map Rc.ac).length rc), (nI i), undef, undef, undef, undef, (.int .i64 x0), (nI k0), (.agg #[(iI 1), Zn, Zn, Zn, Zn]), (.agg #[(iI 1), (iI 3), (iI 0), (.slice xa112 (encQ 1 (⟨[], [], [], []⟩ : Rq)).length xc113)]), (.slice (aA n115 0) 1 1), (u122 15), (u122 16), (u122 17), (u122 18), (u122 19), (u122 20), (u122 21), (u122 22), (u122 23), (u122 24), (u122 25), (u122 26), (u122 27), (u122 28), (u122 29), (u122 30), (u122 31), (u122 32), (u122 33), (u122 34), undef, undef, undef, undef, undef, undef, undef, undef, undef, undef, undef, undef, undef, undef, undef, undef, undef, undef, undef, undef, undef, undef, undef, undef, undef, undef, undef, undef, undef, undef, undef, undef, undef, undef, undef, undef, undef, undef, undef, undef, undef, undef, undef, undef, undef, undef, undef, undef, undef, undef, undef, undef, undef, undef, undef, undef, undef, undef, undef, undef, undef, undef, undef, undef, undef, undef, undef, undef, undef, undef, undef, undef, undef], []⟩ ∧ St W (whole W) w123 F121 [] [ownP 4 AcC AcC.mono 33 W.heap.size (.slice ra ((goneA i).map Rc.ac).length rc) ((goneA i).map Rc.ac)] ∧ Le F108 F121 ∧ (i ≤ k0)) _ ⟨0, (aA n115 0), 1, F108, _, rfl, rfl, rfl, S120, Le.refl _, (by omega)⟩ ?_
 rintro m124 a125 w126 ⟨i, ra, rc, F121, u122, rfl, -, rfl, S127, le128, hi⟩ K129 hK129
 refine wp_seq_k (fun K130 hK130 => ?_)
 refine sk fun K131 hK131 => ?_
 iterate 2 refine dx ?_
 simp only [pq]
 by_cases hc17 : i < k0
 ·refine lssT ?_
  refine wn hK131 ?_
  refine wp_cond_true rfl ?_
  refine wp_skip ?_
  refine hK130 _ _ ?_
  refine wp_seq_k (fun K132 hK132 => ?_)
  refine wp_block ?_
  refine region_wl ?_
  refine dx ?_
  refine dr (.agg #[(iI 1), Zn, Zn, Zn, Zn]) (ex_build (bmap1 rfl) (by kernel_rfl)) ?_
  simp only [pq]
  refine stGives S127 rfl (fn2 (ent_21 _ _)) (topAsk_spec _ _ _ 0 1 (⟨[], [], [], []⟩ : Rq) (S127).sat (hT.1.below S127.gr.below) ⟨_, _, _, _, rfl, (Bs.nil _), (Bs.nil _), (Bs.nil _), (Bs.nil _)⟩ ⟨by decide, by kernel_rfl⟩) ?_
  intro v138 w133 F135 S134 le136 R137
  obtain ⟨xa139, xc140, rfl, r141⟩ := R137
  have r141 : Bs _ (.slice xa139 (encQ 1 (⟨[], [], [], []⟩ : Rq)).length xc140) (encQ 1 (⟨[], [], [], []⟩ : Rq)) := r141
  refine stNew S134 (v := fun n => .slice (aA n 0) 1 1) rfl (ex_lit (ps := #[(0, (.int .u8 97))]) (cells := #[(.int .u8 97)]) (E := 5) (bmap1 rfl) (fun w => by kernel_rfl)) (fun n142 w143 S144 => ?_)
  simp only [pq]
  refine dx ?_
  refine dAdd (i + 1) ?_
  refine dr (.int .u8 (((u8of (((i + 1) : Nat) : Int)).toNat : Nat) : Int)) (ex_convert (v := (nI (i + 1))) rfl (conv_u8 (((i + 1) : Nat) : Int) _)) ?_
  simp only [pq]
  refine stNew S144 (v := fun n => .slice (aA n 0) 1 1) rfl (ex_lit (ps := #[(0, (.int .u8 (((u8of (((i + 1) : Nat) : Int)).toNat : Nat) : Int)))]) (cells := #[(.int .u8 (((u8of (((i + 1) : Nat) : Int)).toNat : Nat) : Int))]) (E := 5) (bmap1 rfl) (fun w => by kernel_rfl)) (fun n145 w146 S147 => ?_)
  refine dr (.agg #[(iI 4), (.slice (aA n142 0) 1 1), (.slice (aA n145 0) 1 1), Zn, Zn]) (ex_build (bmap3 rfl rfl rfl) (by kernel_rfl)) ?_
  simp only [pq]
  obtain ⟨S148, le149, hc150⟩ := St.freezeBlk S147 (i := 1) rfl
  have r152 : Bs _ (.slice (some ⟨n142, 0, none⟩) 1 1) ([97] : By) := bs_of_block (l := ([97] : By)) hc150 (rfl) (by unfold maxLen; simp)
  generalize addF F135 w146 n142 = F151 at *
  obtain ⟨S153, le154, hc155⟩ := St.freezeBlk S148 (i := 0) rfl
  have r157 : Bs _ (.slice (some ⟨n145, 0, none⟩) 1 1) ([u8of (((i + 1) : Nat) : Int)] : By) := bs_of_block (l := ([u8of (((i + 1) : Nat) : Int)] : By)) hc155 (rfl) (by unfold maxLen; simp)
  generalize addF F151 w146 n145 = F156 at *
  refine stGives S153 rfl (fn2 (ent_21 _ _)) (topAsk_spec _ _ _ 0 4 (⟨([97] : By), ([u8of (((i + 1) : Nat) : Int)] : By), [], []⟩ : Rq) (S153).sat (hT.1.below S153.gr.below) ⟨_, _, _, _, rfl, (r152.mono le154), r157, (Bs.nil _), (Bs.nil _)⟩ ⟨by decide, by kernel_rfl⟩) ?_
  intro v163 w158 F160 S159 le161 R162
  obtain ⟨xa164, xc165, rfl, r166⟩ := R162
  have r166 : Bs _ (.slice xa164 (encQ 4 (⟨([97] : By), ([u8of (((i + 1) : Nat) : Int)] : By), [], []⟩ : Rq)).length xc165) (encQ 4 (⟨([97] : By), ([u8of (((i + 1) : Nat) : Int)] : By), [], []⟩ : Rq)) := r166
  refine dr (.agg #[(iI 6), Zn, Zn, Zn, Zn]) (ex_build (bmap1 rfl) (by kernel_rfl)) ?_
  refine stGives S159 rfl (fn2 (ent_21 _ _)) (topAsk_spec _ _ _ 0 6 (⟨[], [], [], []⟩ : Rq) (S159).sat (hT.1.below S159.gr.below) ⟨_, _, _, _, rfl, (Bs.nil _), (Bs.nil _), (Bs.nil _), (Bs.nil _)⟩ ⟨by decide, by kernel_rfl⟩) ?_
  intro v172 w167 F169 S168 le170 R171
  obtain ⟨xa173, xc174, rfl, r175⟩ := R171
  have r175 : Bs _ (.slice xa173 (encQ 6 (⟨[], [], [], []⟩ : Rq)).length xc174) (encQ 6 (⟨[], [], [], []⟩ : Rq)) := r175
  simp only [pq]
  refine dr (.agg #[(iI 2), (iI 0), (iI 0), Zn]) (ex_build (bmap1 rfl) (by kernel_rfl)) ?_
  refine stNew S168 (v := fun n => .slice (aA n 0) 4 4) rfl (ex_lit (ps := #[(0, (.agg #[(iI 1), (iI 0), (iI 0), (.slice xa139 (encQ 1 (⟨[], [], [], []⟩ : Rq)).length xc140)])), (1, (.agg #[(iI 1), (iI 0), (iI 0), (.slice xa164 (encQ 4 (⟨([97] : By), ([u8of (((i + 1) : Nat) : Int)] : By), [], []⟩ : Rq)).length xc165)])), (2, (.agg #[(iI 1), (iI 0), (iI 0), (.slice xa173 (encQ 6 (⟨[], [], [], []⟩ : Rq)).length xc174)])), (3, (.agg #[(iI 2), (iI 0), (iI 0), Zn]))]) (cells := #[(iI 1), (iI 0), (iI 0), (.slice xa139 (encQ 1 (⟨[], [], [], []⟩ : Rq)).length xc140), (iI 1), (iI 0), (iI 0), (.slice xa164 (encQ 4 (⟨([97] : By), ([u8of (((i + 1) : Nat) : Int)] : By), [], []⟩ : Rq)).length xc165), (iI 1), (iI 0), (iI 0), (.slice xa173 (encQ 6 (⟨[], [], [], []⟩ : Rq)).length xc174), (iI 2), (iI 0), (iI 0), Zn]) (E := 33) (bmap4 rfl rfl rfl rfl) (fun w => by kernel_rfl)) (fun n176 w177 S178 => ?_)
  simp only [pq]
  obtain ⟨S179, le180, hc181⟩ := St.freezeBlk S178 (i := 0) rfl
  have r183 : Acs _ (.slice (some ⟨n176, 0, none⟩) 4 4) ([(Ac.ask 0 (encQ 1 (⟨[], [], [], []⟩ : Rq))), (Ac.ask 0 (encQ 4 (⟨([97] : By), ([u8of (((i + 1) : Nat) : Int)] : By), [], []⟩ : Rq))), (Ac.ask 0 (encQ 6 (⟨[], [], [], []⟩ : Rq))), Ac.sync] : List Ac) := sl_of_block (R := AcC) (l := ([(Ac.ask 0 (encQ 1 (⟨[], [], [], []⟩ : Rq))), (Ac.ask 0 (encQ 4 (⟨([97] : By), ([u8of (((i + 1) : Nat) : Int)] : By), [], []⟩ : Rq))), (Ac.ask 0 (encQ 6 (⟨[], [], [], []⟩ : Rq))), Ac.sync] : List Ac)) (el := [[(.int .i64 1), (.int .i64 0), (.int .i64 0), (.slice xa139 (encQ 1 (⟨[], [], [], []⟩ : Rq)).length xc140)], [(.int .i64 1), (.int .i64 0), (.int .i64 0), (.slice xa164 (encQ 4 (⟨([97] : By), ([u8of (((i + 1) : Nat) : Int)] : By), [], []⟩ : Rq)).length xc165)], [(.int .i64 1), (.int .i64 0), (.int .i64 0), (.slice xa173 (encQ 6 (⟨[], [], [], []⟩ : Rq)).length xc174)], [(.int .i64 2), (.int .i64 0), (.int .i64 0), (.slice none 0 0)]]) hc181 rfl ⟨⟨_, rfl, Bs.mono (r141.mono (((le149.trans le154).trans le161).trans le170)) le180⟩, ⟨_, rfl, Bs.mono (r166.mono le170) le180⟩, ⟨_, rfl, Bs.mono r175 le180⟩, ⟨_, rfl, Bs.nil _⟩, trivial⟩ (by simp) (by unfold maxLen; simp)
  generalize addF F169 w177 n176 = F182 at *
  refine stAppendS (r := 0) (u := (.slice (aA n176 0) 4 4)) S179 rfl i33 (.agg #[(iI 0), (iI 0), (iI 0), Zn]) 48 Tryz.underlying23 hi33 hz33 hs33 hb33 rfl (by decide) rfl rfl rfl (Sl.toW r183 (S179).sat) AcC.one (Nat.le_refl _) S179.gr.below.size (by unfold maxLen; (simp; have := goneA_len i; simp at this; omega)) (by (simp; have := goneA_len i; simp at this; omega)) ?_
  intro v184 w185 S186 hn187
  simp only [pq]
  obtain ⟨a188, cap189, rfl, h190, h191⟩ := (S186.own (i := 0) rfl).shape
  unfold maxLen at h191
  refine dy ?_
  refine wl_nil (hK132 _ _ ?_)
  refine region_wl ?_
  refine dx ?_
  refine dAdd (i + 1) ?_
  refine dy ?_
  simp only [pq]
  refine wl_nil ?_
  rw [show (((goneA i).map Rc.ac) ++ [(Ac.ask 0 (encQ 1 (⟨[], [], [], []⟩ : Rq))), (Ac.ask 0 (encQ 4 (⟨([97] : By), ([u8of (((i + 1) : Nat) : Int)] : By), [], []⟩ : Rq))), (Ac.ask 0 (encQ 6 (⟨[], [], [], []⟩ : Rq))), Ac.sync]) = ((goneA (i + 1)).map Rc.ac) from (goneA_succ i)] at S186 ⊢
  exact hK129 _ _ _ (by omega) ⟨(i + 1), a188, cap189, F182, _, rfl, rfl, rfl, S186, ((((((le128.trans le136).trans le149).trans le154).trans le161).trans le170).trans le180), (by omega)⟩
 ·refine lssF ?_
  refine wn hK131 ?_
  refine wp_cond_false rfl ?_
  refine wp_exit ?_
  refine hK118 _ _ ?_
  refine wp_seq_k (fun K192 hK192 => ?_)
  obtain rfl : k0 = i := by omega
  refine region_wl ?_
  refine dx ?_
  refine stNew S127 (v := fun n => .slice (aA n 0) 1 1) rfl (ex_lit (ps := #[(0, (.int .u8 97))]) (cells := #[(.int .u8 97)]) (E := 5) (bmap1 rfl) (fun w => by kernel_rfl)) (fun n193 w194 S195 => ?_)
  refine stNew S195 (v := fun n => .slice (aA n 0) 1 1) rfl (ex_lit (ps := #[(0, (.int .u8 1))]) (cells := #[(.int .u8 1)]) (E := 5) (bmap1 rfl) (fun w => by kernel_rfl)) (fun n196 w197 S198 => ?_)
  simp only [pq]
  refine dr (.agg #[(iI 2), (.slice (aA n193 0) 1 1), (.slice (aA n196 0) 1 1), Zn, Zn]) (ex_build (bmap3 rfl rfl rfl) (by kernel_rfl)) ?_
  simp only [pq]
  obtain ⟨S199, le200, hc201⟩ := St.freezeBlk S198 (i := 1) rfl
  have r203 : Bs _ (.slice (some ⟨n193, 0, none⟩) 1 1) ([97] : By) := bs_of_block (l := ([97] : By)) hc201 (rfl) (by unfold maxLen; simp)
  generalize addF F121 w197 n193 = F202 at *
  obtain ⟨S204, le205, hc206⟩ := St.freezeBlk S199 (i := 0) rfl
  have r208 : Bs _ (.slice (some ⟨n196, 0, none⟩) 1 1) ([1] : By) := bs_of_block (l := ([1] : By)) hc206 (rfl) (by unfold maxLen; simp)
  generalize addF F202 w197 n196 = F207 at *
  refine stGives S204 rfl (fn2 (ent_21 _ _)) (topAsk_spec _ _ _ 3 2 (⟨([97] : By), ([1] : By), [], []⟩ : Rq) (S204).sat (hT.1.below S204.gr.below) ⟨_, _, _, _, rfl, (r203.mono le205), r208, (Bs.nil _), (Bs.nil _)⟩ ⟨by decide, by kernel_rfl⟩) ?_
  intro v214 w209 F211 S210 le212 R213
  obtain ⟨xa215, xc216, rfl, r217⟩ := R213
  have r217 : Bs _ (.slice xa215 (encQ 2 (⟨([97] : By), ([1] : By), [], []⟩ : Rq)).length xc216) (encQ 2 (⟨([97] : By), ([1] : By), [], []⟩ : Rq)) := r217
  refine dr (.agg #[(iI 7), Zn, Zn, Zn, Zn]) (ex_build (bmap1 rfl) (by kernel_rfl)) ?_
  refine stGives S210 rfl (fn2 (ent_21 _ _)) (topAsk_spec _ _ _ 3 7 (⟨[], [], [], []⟩ : Rq) (S210).sat (hT.1.below S210.gr.below) ⟨_, _, _, _, rfl, (Bs.nil _), (Bs.nil _), (Bs.nil _), (Bs.nil _)⟩ ⟨by decide, by kernel_rfl⟩) ?_
  intro v223 w218 F220 S219 le221 R222
  obtain ⟨xa224, xc225, rfl, r226⟩ := R222
  have r226 : Bs _ (.slice xa224 (encQ 7 (⟨[], [], [], []⟩ : Rq)).length xc225) (encQ 7 (⟨[], [], [], []⟩ : Rq)) := r226
  simp only [pq]
  refine stNew S219 (v := fun n => .slice (aA n 0) 2 2) rfl (ex_lit (ps := #[(0, (.agg #[(iI 1), (iI 3), (iI 0), (.slice xa215 (encQ 2 (⟨([97] : By), ([1] : By), [], []⟩ : Rq)).length xc216)])), (1, (.agg #[(iI 1), (iI 3), (iI 0), (.slice xa224 (encQ 7 (⟨[], [], [], []⟩ : Rq)).length xc225)]))]) (cells := #[(iI 1), (iI 3), (iI 0), (.slice xa215 (encQ 2 (⟨([97] : By), ([1] : By), [], []⟩ : Rq)).length xc216), (iI 1), (iI 3), (iI 0), (.slice xa224 (encQ 7 (⟨[], [], [], []⟩ : Rq)).length xc225)]) (E := 33) (bmap2 rfl rfl) (fun w => by kernel_rfl)) (fun n227 w228 S229 => ?_)
  simp only [pq]
  obtain ⟨S230, le231, hc232⟩ := St.freezeBlk S229 (i := 0) rfl
  have r234 : Acs _ (.slice (some ⟨n227, 0, none⟩) 2 2) ([(Ac.ask 3 (encQ 2 (⟨([97] : By), ([1] : By), [], []⟩ : Rq))), (Ac.ask 3 (encQ 7 (⟨[], [], [], []⟩ : Rq)))] : List Ac) := sl_of_block (R := AcC) (l := ([(Ac.ask 3 (encQ 2 (⟨([97] : By), ([1] : By), [], []⟩ : Rq))), (Ac.ask 3 (encQ 7 (⟨[], [], [], []⟩ : Rq)))] : List Ac)) (el := [[(.int .i64 1), (.int .i64 3), (.int .i64 0), (.slice xa215 (encQ 2 (⟨([97] : By), ([1] : By), [], []⟩ : Rq)).length xc216)], [(.int .i64 1), (.int .i64 3), (.int .i64 0), (.slice xa224 (encQ 7 (⟨[], [], [], []⟩ : Rq)).length xc225)]]) hc232 rfl ⟨⟨_, rfl, Bs.mono (r217.mono le221) le231⟩, ⟨_, rfl, Bs.mono r226 le231⟩, trivial⟩ (by simp) (by unfold maxLen; simp)
  generalize addF F220 w228 n227 = F233 at *
  refine stAppendS (r := 0) (u := (.slice (aA n227 0) 2 2)) S230 rfl i33 (.agg #[(iI 0), (iI 0), (iI 0), Zn]) 48 Tryz.underlying23 hi33 hz33 hs33 hb33 rfl (by decide) rfl rfl rfl (Sl.toW r234 (S230).sat) AcC.one (Nat.le_refl _) S230.gr.below.size (by unfold maxLen; (simp; have := goneA_len k0; simp at this; omega)) (by (simp; have := goneA_len k0; simp at this; omega)) ?_
  intro v235 w236 S237 hn238
  simp only [pq]
  obtain ⟨a239, cap240, rfl, h241, h242⟩ := (S237.own (i := 0) rfl).shape
  unfold maxLen at h242
  refine dy ?_
  refine wl_nil (hK192 _ _ ?_)
  refine sk fun K243 hK243 => ?_
  refine dx ?_
  simp only [pq]
  obtain ⟨G, h1, ge1, ge2, ge3, ge4⟩ : ∃ G, (ScrOk ((((goneA k0).map Rc.ac) ++ [(Ac.ask 3 (encQ 2 (⟨([97] : By), ([1] : By), [], []⟩ : Rq))), (Ac.ask 3 (encQ 7 (⟨[], [], [], []⟩ : Rq)))])) ∧ runE ((((goneA k0).map Rc.ac) ++ [(Ac.ask 3 (encQ 2 (⟨([97] : By), ([1] : By), [], []⟩ : Rq))), (Ac.ask 3 (encQ 7 (⟨[], [], [], []⟩ : Rq)))])) = G) ∧ G.replies.length = 3 * k0 + 3 ∧ G.synced = k0 ∧ (G.replies[3 * k0 + 1]?.map fun a => (a.code, a.found, a.turn)) = some (if k0 < 6 then (0, false, 0) else (10, false, 0)) ∧ (G.replies[3 * k0 + 2]?.map (·.code)) = some (if k0 < 6 then 0 else 6) := ⟨_, gone_scrs k0 (by omega), gone_run k0 (by omega)⟩
  obtain ⟨F244, S245, le246, hv247⟩ := St.freeze S237 (i := 0) rfl (Nat.le_refl _)
  have hv247 : Acs _ (.slice a239 (((goneA k0).map Rc.ac) ++ [(Ac.ask 3 (encQ 2 (⟨([97] : By), ([1] : By), [], []⟩ : Rq))), (Ac.ask 3 (encQ 7 (⟨[], [], [], []⟩ : Rq)))]).length cap240) (((goneA k0).map Rc.ac) ++ [(Ac.ask 3 (encQ 2 (⟨([97] : By), ([1] : By), [], []⟩ : Rq))), (Ac.ask 3 (encQ 7 (⟨[], [], [], []⟩ : Rq)))]) := hv247
  refine stGives S245 rfl (ex_fn (vs := #[(.slice a239 (((goneA k0).map Rc.ac) ++ [(Ac.ask 3 (encQ 2 (⟨([97] : By), ([1] : By), [], []⟩ : Rq))), (Ac.ask 3 (encQ 7 (⟨[], [], [], []⟩ : Rq)))]).length cap240)]) (map1 rfl) rfl (ent_23 _ _)) (ranIs_spec _ _ _ (((goneA k0).map Rc.ac) ++ [(Ac.ask 3 (encQ 2 (⟨([97] : By), ([1] : By), [], []⟩ : Rq))), (Ac.ask 3 (encQ 7 (⟨[], [], [], []⟩ : Rq)))]) (S245).sat (hT.1.below S245.gr.below) (hT.2.at S245.gr.below) hv247 h1.1 h1.2) ?_
  intro v253 w248 F250 S249 le251 R252
  obtain ⟨_, rfl, R254⟩ := R252
  obtain ⟨a255, c256, a257, c258, rfl, r259, r260⟩ := R254
  refine dx ?_
  iterate 2 refine de ?_
  simp only [pq]
  refine sA S249 (zero_43 _) fun n261 w262 S263 => ?_
  refine sW 0 S263 (size_43) fun w264 S265 => ?_
  refine dy ?_
  simp only [pq]
  refine wn hK243 ?_
  refine wp_seq_k (fun K266 hK266 => ?_)
  refine sk fun K267 hK267 => ?_
  refine dx ?_
  refine dt ?_
  refine dx ?_
  simp only [pq]
  refine df (fa_43_4 _ _) ?_
  refine dl (nagg_41 _) S265 0 ?_
  refine dn Tryz.underlying41 ?_
  simp only [pq]
  refine dx ?_
  refine dr (nI (3 * k0)) (ex_mul (m := (3 : Int)) (n := ((k0 : Nat) : Int)) (r := (((3 * k0) : Nat) : Int)) rfl rfl (by omega) (by omega) (by omega)) ?_
  refine dAdd ((3 * k0) + 3) ?_
  simp only [pq]
  refine neqF ?_
  refine dp ?_
  refine dx ?_
  simp only [pq]
  refine df (fa_43_1 _ _) ?_
  refine dl (nagg_3 _) S265 0 ?_
  refine dx ?_
  simp only [pq]
  refine neqF ?_
  refine dp ?_
  refine wn hK267 ?_
  refine wp_cond_false rfl ?_
  refine wp_skip ?_
  refine hK266 _ _ ?_
  refine wp_seq_k (fun K268 hK268 => ?_)
  obtain ⟨ra, hra, ra0⟩ : ∃ a, G.replies[3 * k0 + 1]? = some a ∧ (a.code, a.found, a.turn) = if k0 < 6 then (0, false, 0) else (10, false, 0) := by
   cases hq : G.replies[3 * k0 + 1]? with
   | none => rw [hq] at ge3; cases ge3
   | some a => rw [hq] at ge3; injection ge3 with ge3; exact ⟨a, rfl, ge3⟩
  obtain ⟨b269, o270, ha271, xa272, xc273, xa274, xc275, xa276, xc277, e278, e279, e280, e281, e282, e283, c284, o285, r286, r287, r288⟩ := Rps.row r260 hra
  have h289 : Value.oneCell' e278 = true := o285 _ (by simp)
  have h290 : Value.oneCell' e279 = true := o285 _ (by simp)
  have h291 : Value.oneCell' e280 = true := o285 _ (by simp)
  have h292 : Value.oneCell' e281 = true := o285 _ (by simp)
  have h293 : Value.oneCell' e282 = true := o285 _ (by simp)
  have h294 : Value.oneCell' e283 = true := o285 _ (by simp)
  refine region_wl ?_
  refine df (fa_43_4 _ _) ?_
  refine dl (nagg_41 _) S265 0 ?_
  refine dx ?_
  simp only [pq]
  refine dr (nI (3 * k0)) (ex_mul (m := (3 : Int)) (n := ((k0 : Nat) : Int)) (r := (((3 * k0) : Nat) : Int)) rfl rfl (by omega) (by omega) (by omega)) ?_
  refine dAdd ((3 * k0) + 1) ?_
  refine dr (pP b269 (o270 + ((3 * k0) + 1) * 15)) (ex_at (i := ((3 * k0) + 1)) (sz := 15) Tryz.underlying41 (sizeof_54 _) rfl ha271 rfl (by omega) rfl) ?_
  simp only [pq]
  refine dr _ (ex_load rfl (loadM Tryz.underlying54 rfl (size_54) (fun j v h => St.fz S265 (c284 j v h)))) ?_
  refine sA S265 (zero_54 _) fun n295 w296 S297 => ?_
  refine stStore (i := 0) (v := (.agg #[(nI ra.s), (.int .i64 ra.code), (.int .i64 ra.turn), (.bool ra.found), (.slice xa272 ra.value.length xc273), (.slice xa274 ra.pairs.length xc275), (.slice xa276 ra.root.length xc277), (.bool ra.outer.empty), e278, e279, e280, (.bool ra.inner.empty), e281, e282, e283])) S297 rfl rfl rfl rfl (size_54) (by simp only [Value.cells]; simp; exact ⟨rfl, rfl, rfl, rfl, rfl, rfl, rfl, rfl, h289, h290, h291, rfl, h292, h293, h294⟩) (Nat.le_of_ble_eq_true rfl) (fun w298 S299 => ?_)
  refine wl_nil (hK268 _ _ ?_)
  refine wp_seq_k (fun K300 hK300 => ?_)
  obtain ⟨rb, hrb, rb1⟩ : ∃ a, G.replies[3 * k0 + 2]? = some a ∧ a.code = if k0 < 6 then 0 else 6 := by
   cases hq : G.replies[3 * k0 + 2]? with
   | none => rw [hq] at ge4; cases ge4
   | some a => rw [hq] at ge4; injection ge4 with ge4; exact ⟨a, rfl, ge4⟩
  obtain ⟨b301, o302, ha303, xa304, xc305, xa306, xc307, xa308, xc309, e310, e311, e312, e313, e314, e315, c316, o317, r318, r319, r320⟩ := Rps.row r260 hrb
  have h321 : Value.oneCell' e310 = true := o317 _ (by simp)
  have h322 : Value.oneCell' e311 = true := o317 _ (by simp)
  have h323 : Value.oneCell' e312 = true := o317 _ (by simp)
  have h324 : Value.oneCell' e313 = true := o317 _ (by simp)
  have h325 : Value.oneCell' e314 = true := o317 _ (by simp)
  have h326 : Value.oneCell' e315 = true := o317 _ (by simp)
  refine region_wl ?_
  refine df (fa_43_4 _ _) ?_
  refine dl (nagg_41 _) S299 1 ?_
  refine dx ?_
  simp only [pq]
  refine dr (nI (3 * k0)) (ex_mul (m := (3 : Int)) (n := ((k0 : Nat) : Int)) (r := (((3 * k0) : Nat) : Int)) rfl rfl (by omega) (by omega) (by omega)) ?_
  refine dAdd ((3 * k0) + 2) ?_
  refine dr (pP b301 (o302 + ((3 * k0) + 2) * 15)) (ex_at (i := ((3 * k0) + 2)) (sz := 15) Tryz.underlying41 (sizeof_54 _) rfl ha303 rfl (by omega) rfl) ?_
  simp only [pq]
  refine dr _ (ex_load rfl (loadM Tryz.underlying54 rfl (size_54) (fun j v h => St.fz S299 (c316 j v h)))) ?_
  refine sA S299 (zero_54 _) fun n327 w328 S329 => ?_
  refine stStore (i := 0) (v := (.agg #[(nI rb.s), (.int .i64 rb.code), (.int .i64 rb.turn), (.bool rb.found), (.slice xa304 rb.value.length xc305), (.slice xa306 rb.pairs.length xc307), (.slice xa308 rb.root.length xc309), (.bool rb.outer.empty), e310, e311, e312, (.bool rb.inner.empty), e313, e314, e315])) S329 rfl rfl rfl rfl (size_54) (by simp only [Value.cells]; simp; exact ⟨rfl, rfl, rfl, rfl, rfl, rfl, rfl, rfl, h321, h322, h323, rfl, h324, h325, h326⟩) (Nat.le_of_ble_eq_true rfl) (fun w330 S331 => ?_)
  simp only [pq]
  have S331 : St W (whole W) w330 F250 [⟨n327, [(nI rb.s), (.int .i64 rb.code), (.int .i64 rb.turn), (.bool rb.found), (.slice xa304 rb.value.length xc305), (.slice xa306 rb.pairs.length xc307), (.slice xa308 rb.root.length xc309), (.bool rb.outer.empty), e310, e311, e312, (.bool rb.inner.empty), e313, e314, e315], 54⟩, ⟨n295, [(nI ra.s), (.int .i64 ra.code), (.int .i64 ra.turn), (.bool ra.found), (.slice xa272 ra.value.length xc273), (.slice xa274 ra.pairs.length xc275), (.slice xa276 ra.root.length xc277), (.bool ra.outer.empty), e278, e279, e280, (.bool ra.inner.empty), e281, e282, e283], 54⟩, ⟨n261, [(.bool G.up), (nI G.synced), (nI G.waiting.length), (.slice a255 (G.forest G.synced).length c256), (.slice a257 G.replies.length c258)], 43⟩] [] := S331
  refine wl_nil (hK300 _ _ ?_)
  refine wp_seq_k (fun K332 hK332 => ?_)
  refine sk fun K333 hK333 => ?_
  refine dx ?_
  simp only [pq]
  by_cases hc81 : k0 < 6
  ·refine lssT ?_
   refine wn hK333 ?_
   refine wp_cond_true rfl ?_
   refine wp_seq_k (fun K334 hK334 => ?_)
   rw [if_pos (by omega)] at ra0 rb1
   injection ra0 with ra1 ra0
   injection ra0 with ra2 ra3
   rw [ra2] at S331 ⊢
   refine region_wl ?_
   refine df (fa_54_1 _ _) ?_
   refine dl (nagg_35 _) S331 1 ?_
   refine eqlT ?_
   simp only [pq]
   refine dx ?_
   refine df (fa_54_3 _ _) ?_
   refine dl (nagg_4 _) S331 1 ?_
   simp only [pq]
   refine dt ?_
   refine dp ?_
   refine dx ?_
   simp only [pq]
   refine df (fa_54_2 _ _) ?_
   refine dl (nagg_3 _) S331 1 ?_
   refine eqlT ?_
   simp only [pq]
   refine dp ?_
   refine dx ?_
   refine df (fa_54_1 _ _) ?_
   simp only [pq]
   refine dl (nagg_35 _) S331 0 ?_
   refine eqlT ?_
   refine dp ?_
   simp only [pq]
   refine dy ?_
   refine wl_nil (hK334 _ _ ?_)
   refine wp_ret ?_
   (try simp only [Exit.then, Exit.inBlock, ↓reduceIte, Nat.reduceEqDiff])
   refine bR (res_t rfl (gD rfl)) ?_
   ·exact ⟨rfl, S331.gr.below⟩
  ·refine lssF ?_
   refine wn hK333 ?_
   refine wp_cond_false rfl ?_
   refine wp_skip ?_
   refine hK332 _ _ ?_
   refine wp_seq_k (fun K335 hK335 => ?_)
   rw [if_neg (by omega)] at ra0 rb1
   injection ra0 with ra1 ra0
   injection ra0 with ra2 ra3
   refine region_wl ?_
   refine df (fa_54_1 _ _) ?_
   refine dl (nagg_35 _) S331 1 ?_
   refine eqlT ?_
   simp only [pq]
   refine dx ?_
   refine df (fa_54_1 _ _) ?_
   refine dl (nagg_35 _) S331 0 ?_
   simp only [pq]
   refine eqlT ?_
   refine dp ?_
   refine dy ?_
   simp only [pq]
   refine wl_nil (hK335 _ _ ?_)
   refine wp_ret ?_
   (try simp only [Exit.then, Exit.inBlock, ↓reduceIte, Nat.reduceEqDiff])
   refine bR (res_t rfl (gD rfl)) ?_
   ·exact ⟨rfl, S331.gr.below⟩
end Go.Proofs.YtilgpdpooildcaaGreatDoor
