/- The walk of TopBlind -/
import Derived.Test.YtilgpdpooildcaaGreatDoorBU12
import Derived.Test.YtilgpdpooildcaaGreatDoorBU2
namespace Go.Proofs.YtilgpdpooildcaaGreatDoor
set_option maxHeartbeats 8000000
open Go.RowKit
set_option maxRecDepth 100000
set_option linter.unusedVariables false
set_option linter.unusedSimpArgs false
def vOf (l : List Int) (i : Nat) : UInt8 := u8of (l.getD i 0)
theorem vOf_at {l : List Int} {i : Nat} {z : Int} (h : l[i]? = some z) : u8of z = vOf l i := by unfold vOf; rw [List.getD_eq_getElem?_getD, h]; rfl
theorem blindA_succ (v : Nat → UInt8) (i : Nat) : (blindA v i).map Rc.ac ++ [Ac.ask i (encQ 1 rq0), Ac.ask i (encQ 4 ⟨[97], [107], [], [v i]⟩)] = (blindA v (i + 1)).map Rc.ac := by
 simp only [blindA, List.range_succ, List.flatMap_append, List.map_append]
 rfl
theorem blindA_len (v : Nat → UInt8) (n : Nat) : ((blindA v n).map Rc.ac).length = 2 * n := by
 induction n with
 | zero => rfl
 | succ n ih => rw [← blindA_succ, List.length_append, ih]; simp; omega
theorem blindB_succ (v : Nat → UInt8) (n i : Nat) : (blindB v n i).map Rc.ac ++ [Ac.ask i (encQ 6 rq0)] = (blindB v n (i + 1)).map Rc.ac := by
 simp only [blindB, List.range_succ, List.map_append, List.append_assoc]
 rfl
theorem blindB_len (v : Nat → UInt8) (n i : Nat) : ((blindB v n i).map Rc.ac).length = 2 * n + i := by
 unfold blindB
 rw [List.map_append, List.length_append, blindA_len]
 simp
theorem blindB_zero (v : Nat → UInt8) (n : Nat) : (blindA v n).map Rc.ac = (blindB v n 0).map Rc.ac := by simp [blindB]
theorem blind_scr (v : Nat → UInt8) (n : Nat) (h : n ≤ 6) : ScrOk ((blindB v n n).map Rc.ac ++ [Ac.sync]) ∧ runE ((blindB v n n).map Rc.ac ++ [Ac.sync]) = runR (blindR v n) := by
 have h1 : ((List.range 7).all fun n => (scrB (blindR v n) && !(blindR v n).any rcP && !(blindR v n).any rcK)) = true := by kernel_rfl
 have := scr_no (List.all_eq_true.1 h1 n (List.mem_range.2 (by omega)))
 unfold blindR at this ⊢
 rwa [List.map_append] at this
theorem topBlind_walk (W : World) (hT : Has W ∧ Tabs W) (v0 : Value) (l0 : List Int) (z0 : Ints (whole W) v0 l0) :
    Calls Tryz.prog 10 #[v0] W (Tells W (.bool true)) := by
 obtain ⟨a0, c0, rfl, q0, q0'⟩ := Sl.shape z0
 unfold maxLen at q0'
 obtain ⟨i33, hi33, hz33, hs33, hb33⟩ := info_parts info_33
 have S := St.start (Sat.whole W)
 go_enter Tryz.func10, Tryz.ntmps10
 refine sk fun K101 hK101 => ?_
 refine dy ?_
 refine wn hK101 ?_
 refine sk fun K102 hK102 => ?_
 refine dy ?_
 refine wn hK102 ?_
 refine sk fun K103 hK103 => ?_
 refine dx ?_
 refine dn Tryz.underlying60 ?_
 refine dr (nI (min l0.length 6)) (ex_min (m := ((l0.length : Nat) : Int)) (n := (6 : Int)) (r := (((min l0.length 6) : Nat) : Int)) rfl rfl (by omega)) ?_
 simp only [pq]
 refine dy ?_
 refine wn hK103 ?_
 refine wp_seq_k (fun K104 hK104 => ?_)
 refine wp_seq_k (fun K105 hK105 => ?_)
 have S106 := St.addNil S 4 AcC AcC.mono 33 W.heap.size
 obtain ⟨k0, hk0, hk0l, hk0m⟩ : ∃ k, k = (min l0.length 6) ∧ k ≤ l0.length ∧ k ≤ 6 := ⟨_, rfl, by omega, by omega⟩
 rw [← hk0]
 refine region_wl ?_
 refine dy ?_
 refine wl_nil (hK105 _ _ ?_)
 refine wp_block ?_
 refine wp_loop_g (fun mm aa w109 => ∃ (i : Nat) (ra : Option Addr) (rc : Nat) (F107 : Fz) (u108 : Nat → Value), mm = k0 - i ∧ u108 = slots aa ∧ aa = ⟨#[(.slice a0 l0.length c0), undef, bF, (.slice ra ((blindA (vOf l0) i).map Rc.ac).length rc), (nI k0), (nI i), undef, undef, undef, (.slice a0 l0.length c0), (nI l0.length), (nI k0), (u108 12), (u108 13), (u108 14), (u108 15), (u108 16), (u108 17), (u108 18), (u108 19), (u108 20), (u108 21), (u108 22), (u108 23), (u108 24), (u108 25), (u108 26), (u108 27), (u108 28), (u108 29), (u108 30), (u108 31), (u108 32), (u108 33), undef, undef, undef, undef, undef, undef, undef, undef, undef, undef, undef, undef, undef, undef, undef, undef, undef, undef, undef, undef, undef, undef, undef, undef, undef, undef, undef, undef, undef, undef, undef, undef, undef, undef, undef, undef, undef, undef, undef, undef, undef, undef, undef, undef, undef, undef, undef, undef, undef, undef, undef, undef, undef, undef, undef, undef, undef, undef, undef, undef, undef, undef, undef, undef, undef, undef], []⟩ ∧ St W (whole W) w109 F107 [] [ownP 4 AcC AcC.mono 33 W.heap.size (.slice ra ((blindA (vOf l0) i).map Rc.ac).length rc) ((blindA (vOf l0) i).map Rc.ac)] ∧ Le (whole W) F107 ∧ (i ≤ k0)) _ ⟨0, none, 0, (whole W), _, rfl, rfl, rfl, S106, Le.refl _, (by omega)⟩ ?_
 rintro m110 a111 w112 ⟨i, ra, rc, F107, u108, rfl, -, rfl, S113, le114, hi⟩ K115 hK115
 refine wp_seq_k (fun K116 hK116 => ?_)
 refine sk fun K117 hK117 => ?_
 iterate 2 refine dx ?_
 simp only [pq]
 by_cases hc14 : i < k0
 ·refine lssT ?_
  refine wn hK117 ?_
  refine wp_cond_true rfl ?_
  refine wp_skip ?_
  refine hK116 _ _ ?_
  refine wp_seq_k (fun K118 hK118 => ?_)
  refine wp_block ?_
  obtain ⟨z, hz_z⟩ : ∃ z, l0[i]? = some z := ⟨l0[i]'(by omega), List.getElem?_eq_getElem (by omega)⟩
  obtain ⟨b119, o120, ha121, c122, hz_z_b⟩ := Ints.get (z0.mono le114) hz_z
  refine region_gw F107 16 [(3, .made (fun F' u => AcV F' u (Ac.ask i (encQ 1 (⟨[], [], [], []⟩ : Rq))))), (5, .made (fun F' u => Bs F' u [97])), (6, .made (fun F' u => Bs F' u [107])), (12, .made (fun F' u => Bs F' u [(u8of z)])), (13, .made (fun F' u => ReqR F' u ((4, (⟨[97], [107], [], [(u8of z)]⟩ : Rq)) : Nat × Rq))), (14, .made (fun F' u => AcV F' u (Ac.ask i (encQ 4 (⟨[97], [107], [], [(u8of z)]⟩ : Rq))))), (15, .made (fun F' u => Acs F' u ([(Ac.ask i (encQ 1 (⟨[], [], [], []⟩ : Rq))), (Ac.ask i (encQ 4 (⟨[97], [107], [], [(u8of z)]⟩ : Rq)))] : List Ac)))] (by kernel_rfl) (by kernel_rfl) ?_
  simp only [List.take_succ_cons, List.take_zero]
  iterate 2 refine gm ?_
  simp only [pq]
  refine gv (.agg #[(iI 1), Zn, Zn, Zn, Zn]) (fun _ _ => ex_build (ps := #[(0, (iI 1))]) (bmap1 rfl) (by kernel_rfl)) ?_
  simp only [pq]
  refine gw_rel rfl rfl (fun w123 C123 hF => does_call (ex_fn (vs := #[(nI i), (.agg #[(iI 1), Zn, Zn, Zn, Zn])]) (map2 rfl rfl) rfl (ent_21 _ _)) (call_made S113.sat C123 (topAsk_spec _ _ _ i 1 (⟨[], [], [], []⟩ : Rq) ((St.tells S113 C123)).sat (hT.1.below (St.tells S113 C123).gr.below) ⟨_, _, _, _, rfl, (Bs.nil _), (Bs.nil _), (Bs.nil _), (Bs.nil _)⟩ ⟨by decide, by kernel_rfl⟩))) (fun v124 => ?_)
  refine gm ?_
  simp only [pq]
  refine gw_rel rfl rfl (fun w123 C123 _ => does_byte (b := 97) (Gr.of_below S113.sat C123) (ex_lit (ps := #[(0, (.int .u8 97))]) (cells := #[(.int .u8 97)]) (E := 5) (bmap1 rfl) (fun w => by kernel_rfl))) (fun v125 => ?_)
  simp only [pq]
  refine gw_rel rfl rfl (fun w123 C123 _ => does_byte (b := 107) (Gr.of_below S113.sat C123) (ex_lit (ps := #[(0, (.int .u8 107))]) (cells := #[(.int .u8 107)]) (E := 5) (bmap1 rfl) (fun w => by kernel_rfl))) (fun v126 => ?_)
  iterate 2 refine gm ?_
  refine gv (pP b119 (o120 + i * 1)) (fun _ _ => ex_at (i := i) (sz := 1) Tryz.underlying60 (sizeof_3 _) rfl ha121 rfl (by omega) rfl) ?_
  simp only [pq]
  refine gv _ (fun _ C123 => ex_load rfl (load1 (nagg_3 _) (St.fz (St.tells S113 C123) c122))) ?_
  refine gv (.int .u8 (((u8of z).toNat : Nat) : Int)) (fun _ _ => ex_convert (v := (.int .i64 z)) rfl (conv_u8 z _)) ?_
  simp only [pq]
  refine gw_rel rfl rfl (fun w123 C123 _ => does_byte (b := (u8of z)) (Gr.of_below S113.sat C123) (ex_lit (ps := #[(0, (.int .u8 (((u8of z).toNat : Nat) : Int)))]) (cells := #[(.int .u8 (((u8of z).toNat : Nat) : Int))]) (E := 5) (bmap1 rfl) (fun w => by kernel_rfl))) (fun v127 => ?_)
  simp only [pq]
  refine gw_rel rfl rfl (fun w123 C123 hF_ => ?_) (fun v128 => ?_)
  ·obtain ⟨F129, g130, R131⟩ := hF_.get 5 (by kernel_rfl) rfl rfl
   obtain ⟨F134, g135, R136⟩ := hF_.get 6 (by kernel_rfl) rfl rfl
   obtain ⟨F139, g140, R141⟩ := hF_.get 12 (by kernel_rfl) rfl rfl
   have hR1 := (R131.mono ((both_left F129 F134).trans (both_left (both F129 F134) F139)))
   obtain ⟨xa144, xc145, rfl, _⟩ := hR1.shape
   have hR2 := (R136.mono ((both_right g130.sat g135.sat).trans (both_left (both F129 F134) F139)))
   obtain ⟨xa146, xc147, rfl, _⟩ := hR2.shape
   have hR4 := (R141.mono (both_right (g130.both g135).sat g140.sat))
   obtain ⟨xa148, xc149, rfl, _⟩ := hR4.shape
   have hR3 := Bs.nil (both (both F129 F134) F139)
   exact does_val (ex_build (bmap4 rfl rfl rfl rfl) (by kernel_rfl)) ⟨(both (both F129 F134) F139), ((g130.both g135).both g140), ⟨_, _, _, _, _, _, _, _, rfl, hR1, hR2, hR3, hR4⟩⟩ (Below.refl _ _)
  simp only [pq]
  refine gw_rel rfl rfl (fun w123 C123 hF_ => ?_) (fun v165 => ?_)
  ·obtain ⟨F150, g151, R152⟩ := hF_.get 13 (by kernel_rfl) rfl rfl
   obtain ⟨xa153, xc154, xa155, xc156, xa157, xc158, xa159, xc160, rfl, r161, r162, r163, r164⟩ := R152
   exact does_call (ex_fn (vs := #[(.int .i64 ((i : Nat) : Int)), (.agg #[(.int .i64 4), (.slice xa153 [97].length xc154), (.slice xa155 [107].length xc156), (.slice xa157 [].length xc158), (.slice xa159 [(u8of z)].length xc160)])]) (map2 rfl rfl) rfl (ent_21 _ _)) (call_made2 g151 (topAsk_spec _ _ _ i 4 (⟨[97], [107], [], [(u8of z)]⟩ : Rq) (g151).sat ((hT.1.below S113.gr.below).below g151.below) ⟨_, _, _, _, rfl, r161, r162, r163, r164⟩ ⟨by decide, by kernel_rfl⟩))
  simp only [pq]
  refine gw_rel rfl rfl (fun w123 C123 hF_ => ?_) (fun v166 => ?_)
  ·obtain ⟨F167, g168, R169⟩ := hF_.get 3 (by kernel_rfl) rfl rfl
   obtain ⟨F170, g171, R172⟩ := hF_.get 14 (by kernel_rfl) rfl rfl
   obtain ⟨xa173, xc174, rfl, r175⟩ := (R169.mono (both_left F167 F170))
   obtain ⟨xa176, xc177, rfl, r178⟩ := (R172.mono (both_right g168.sat g171.sat))
   exact does_litN (k := 4) (R := AcC) AcC.mono (l := [(Ac.ask i (encQ 1 (⟨[], [], [], []⟩ : Rq))), (Ac.ask i (encQ 4 (⟨[97], [107], [], [(u8of z)]⟩ : Rq)))]) (el := [[_, _, _, .slice xa173 _ xc174], [_, _, _, .slice xa176 _ xc177]]) (E := 33) (g168.both g171) ⟨⟨_, rfl, r175⟩, ⟨_, rfl, r178⟩, trivial⟩ (by simp) (by unfold maxLen; simp) (ex_lit (E := 33) (cells := #[_, _, _, .slice xa173 _ xc174, _, _, _, .slice xa176 _ xc177]) (bmap2 rfl rfl) (fun w => by kernel_rfl))
  refine gw_nil ?_
  intro w179 hC181 hF182
  obtain ⟨F183, g184, R185⟩ := hF182.get 15 rfl rfl
  have S180 := St.gives S113 g184
  have le187 : Le _ _ := g184.le S113.sat
  have R188 := R185
  generalize F183 = F186 at *
  obtain ⟨xa189, xc190, rfl, _⟩ := Sl.shape R188
  clear hF182
  simp only [List.drop_succ_cons, List.drop_zero]
  refine stAppendS (r := 0) (u := (.slice xa189 ([(Ac.ask i (encQ 1 (⟨[], [], [], []⟩ : Rq))), (Ac.ask i (encQ 4 (⟨[97], [107], [], [(u8of z)]⟩ : Rq)))] : List Ac).length xc190)) S180 rfl i33 (.agg #[(iI 0), (iI 0), (iI 0), Zn]) 48 Tryz.underlying23 hi33 hz33 hs33 hb33 rfl (by decide) rfl rfl rfl (Sl.toW R188 (S180).sat) AcC.one (Nat.le_refl _) S180.gr.below.size (by unfold maxLen; (simp; have := blindA_len (vOf l0) i; simp at this; omega)) (by (simp; have := blindA_len (vOf l0) i; simp at this; omega)) ?_
  intro v191 w192 S193 hn194
  simp only [pq]
  obtain ⟨a195, cap196, rfl, h197, h198⟩ := (S193.own (i := 0) rfl).shape
  unfold maxLen at h198
  refine dy ?_
  refine wl_nil (hK118 _ _ ?_)
  refine region_wl ?_
  refine dx ?_
  refine dAdd (i + 1) ?_
  refine dy ?_
  simp only [pq]
  refine wl_nil ?_
  rw [show (((blindA (vOf l0) i).map Rc.ac) ++ ([(Ac.ask i (encQ 1 (⟨[], [], [], []⟩ : Rq))), (Ac.ask i (encQ 4 (⟨[97], [107], [], [(u8of z)]⟩ : Rq)))] : List Ac)) = ((blindA (vOf l0) (i + 1)).map Rc.ac) from (by rw [vOf_at hz_z]; exact blindA_succ _ i)] at S193 ⊢
  exact hK115 _ _ _ (by omega) ⟨(i + 1), a195, cap196, F186, _, rfl, rfl, rfl, S193, (le114.trans le187), (by omega)⟩
 ·refine lssF ?_
  refine wn hK117 ?_
  refine wp_cond_false rfl ?_
  refine wp_exit ?_
  refine hK104 _ _ ?_
  refine wp_seq_k (fun K199 hK199 => ?_)
  refine wp_seq_k (fun K200 hK200 => ?_)
  obtain rfl : k0 = i := by omega
  rw [show ((blindA (vOf l0) k0).map Rc.ac) = ((blindB (vOf l0) k0 0).map Rc.ac) from (blindB_zero _ _)] at S113 ⊢
  refine region_wl ?_
  refine dy ?_
  refine wl_nil (hK200 _ _ ?_)
  refine wp_block ?_
  refine wp_loop_g (fun mm aa w203 => ∃ (i : Nat) (ra : Option Addr) (rc : Nat) (F201 : Fz) (u202 : Nat → Value), mm = k0 - i ∧ u202 = slots aa ∧ aa = ⟨#[(.slice a0 l0.length c0), undef, bF, (.slice ra ((blindB (vOf l0) k0 i).map Rc.ac).length rc), (nI k0), (nI k0), (nI i), undef, undef, (.slice a0 l0.length c0), (nI l0.length), (nI k0), (nI k0), (nI k0), bF, (u108 15), (u108 16), (u108 17), (u108 18), (u108 19), (u108 20), (u108 21), (u108 22), (u108 23), (u108 24), (u108 25), (u108 26), (u108 27), (u108 28), (u108 29), (u108 30), (u108 31), (u108 32), (u108 33), (u202 34), (u202 35), (u202 36), (u202 37), (u202 38), (u202 39), (u202 40), (u202 41), (u202 42), (u202 43), (u202 44), undef, undef, undef, undef, undef, undef, undef, undef, undef, undef, undef, undef, undef, undef, undef, undef, undef, undef, undef, undef, undef, undef, undef, undef, undef, undef, undef, undef, undef, undef, undef, undef, undef, undef, undef, undef, undef, undef, undef, undef, undef, undef, undef, undef, undef, undef, undef, undef, undef, undef, undef, undef, undef, undef, undef], []⟩ ∧ St W (whole W) w203 F201 [] [ownP 4 AcC AcC.mono 33 W.heap.size (.slice ra ((blindB (vOf l0) k0 i).map Rc.ac).length rc) ((blindB (vOf l0) k0 i).map Rc.ac)] ∧ Le F107 F201 ∧ (i ≤ k0)) _ ⟨0, ra, rc, F107, _, rfl, rfl, rfl, S113, Le.refl _, (by omega)⟩ ?_
  rintro m204 a205 w206 ⟨i, ra, rc, F201, u202, rfl, -, rfl, S207, le208, hi⟩ K209 hK209
  refine wp_seq_k (fun K210 hK210 => ?_)
  refine sk fun K211 hK211 => ?_
  iterate 2 refine dx ?_
  simp only [pq]
  by_cases hc36 : i < k0
  ·refine lssT ?_
   refine wn hK211 ?_
   refine wp_cond_true rfl ?_
   refine wp_skip ?_
   refine hK210 _ _ ?_
   refine wp_seq_k (fun K212 hK212 => ?_)
   refine wp_block ?_
   refine region_wl ?_
   iterate 2 refine dx ?_
   refine dr (.agg #[(iI 6), Zn, Zn, Zn, Zn]) (ex_build (bmap1 rfl) (by kernel_rfl)) ?_
   simp only [pq]
   refine stGives S207 rfl (fn2 (ent_21 _ _)) (topAsk_spec _ _ _ i 6 (⟨[], [], [], []⟩ : Rq) (S207).sat (hT.1.below S207.gr.below) ⟨_, _, _, _, rfl, (Bs.nil _), (Bs.nil _), (Bs.nil _), (Bs.nil _)⟩ ⟨by decide, by kernel_rfl⟩) ?_
   intro v218 w213 F215 S214 le216 R217
   obtain ⟨xa219, xc220, rfl, r221⟩ := R217
   have r221 : Bs _ (.slice xa219 (encQ 6 (⟨[], [], [], []⟩ : Rq)).length xc220) (encQ 6 (⟨[], [], [], []⟩ : Rq)) := r221
   refine stNew S214 (v := fun n => .slice (aA n 0) 1 1) rfl (ex_lit (ps := #[(0, (.agg #[(iI 1), (nI i), (iI 0), (.slice xa219 (encQ 6 (⟨[], [], [], []⟩ : Rq)).length xc220)]))]) (cells := #[(iI 1), (nI i), (iI 0), (.slice xa219 (encQ 6 (⟨[], [], [], []⟩ : Rq)).length xc220)]) (E := 33) (bmap1 rfl) (fun w => by kernel_rfl)) (fun n222 w223 S224 => ?_)
   simp only [pq]
   refine stPush (i := 0) (r := 0) (p := (Ac.ask i (encQ 6 (⟨[], [], [], []⟩ : Rq)))) (cs := [(iI 1), (nI i), (iI 0), (.slice xa219 (encQ 6 (⟨[], [], [], []⟩ : Rq)).length xc220)]) S224 rfl i33 (.agg #[(iI 0), (iI 0), (iI 0), Zn]) 48 Tryz.underlying23 hi33 hz33 hs33 hb33 rfl (by decide) rfl rfl rfl rfl rfl (AcC.oneCell (F := F215) (p := (Ac.ask i (encQ 6 (⟨[], [], [], []⟩ : Rq)))) ⟨_, rfl, r221⟩) (⟨_, rfl, r221⟩) (Nat.le_refl _) S224.gr.below.size (by unfold maxLen; (simp; have := blindB_len (vOf l0) k0 i; simp at this; omega)) (by (simp; have := blindB_len (vOf l0) k0 i; simp at this; omega)) ?_
   intro v225 w226 S227 hn228
   simp only [pq]
   have S227 := St.drop S227 (.cons _ (List.Sublist.refl _))
   obtain ⟨a229, cap230, rfl, h231, h232⟩ := (S227.own (i := 0) rfl).shape
   unfold maxLen at h232
   refine dy ?_
   refine wl_nil (hK212 _ _ ?_)
   refine region_wl ?_
   refine dx ?_
   refine dAdd (i + 1) ?_
   refine dy ?_
   simp only [pq]
   refine wl_nil ?_
   rw [show (((blindB (vOf l0) k0 i).map Rc.ac) ++ [(Ac.ask i (encQ 6 (⟨[], [], [], []⟩ : Rq)))]) = ((blindB (vOf l0) k0 (i + 1)).map Rc.ac) from (blindB_succ _ k0 i)] at S227 ⊢
   exact hK209 _ _ _ (by omega) ⟨(i + 1), a229, cap230, F215, _, rfl, rfl, rfl, S227, (le208.trans le216), (by omega)⟩
  ·refine lssF ?_
   refine wn hK211 ?_
   refine wp_cond_false rfl ?_
   refine wp_exit ?_
   refine hK199 _ _ ?_
   refine wp_seq_k (fun K233 hK233 => ?_)
   obtain rfl : k0 = i := by omega
   refine region_wl ?_
   refine dx ?_
   refine dr (.agg #[(iI 2), (iI 0), (iI 0), Zn]) (ex_build (bmap1 rfl) (by kernel_rfl)) ?_
   simp only [pq]
   refine stNew S207 (v := fun n => .slice (aA n 0) 1 1) rfl (ex_lit (ps := #[(0, (.agg #[(iI 2), (iI 0), (iI 0), Zn]))]) (cells := #[(iI 2), (iI 0), (iI 0), Zn]) (E := 33) (bmap1 rfl) (fun w => by kernel_rfl)) (fun n234 w235 S236 => ?_)
   refine stPush (i := 0) (r := 0) (p := Ac.sync) (cs := [(iI 2), (iI 0), (iI 0), Zn]) S236 rfl i33 (.agg #[(iI 0), (iI 0), (iI 0), Zn]) 48 Tryz.underlying23 hi33 hz33 hs33 hb33 rfl (by decide) rfl rfl rfl rfl rfl (AcC.oneCell (F := F201) (p := Ac.sync) ⟨_, rfl, Bs.nil _⟩) (⟨_, rfl, Bs.nil _⟩) (Nat.le_refl _) S236.gr.below.size (by unfold maxLen; (simp; have := blindB_len (vOf l0) k0 k0; simp at this; omega)) (by (simp; have := blindB_len (vOf l0) k0 k0; simp at this; omega)) ?_
   intro v237 w238 S239 hn240
   simp only [pq]
   have S239 := St.drop S239 (.cons _ (List.Sublist.refl _))
   obtain ⟨a241, cap242, rfl, h243, h244⟩ := (S239.own (i := 0) rfl).shape
   unfold maxLen at h244
   refine dy ?_
   refine wl_nil (hK233 _ _ ?_)
   refine sk fun K245 hK245 => ?_
   refine dx ?_
   simp only [pq]
   obtain ⟨G, h1, ge1, ge2, ge3⟩ : ∃ G, (ScrOk ((((blindB (vOf l0) k0 k0).map Rc.ac) ++ [Ac.sync])) ∧ runE ((((blindB (vOf l0) k0 k0).map Rc.ac) ++ [Ac.sync])) = G) ∧ G.synced = k0 ∧ G.replies.length = 3 * k0 ∧ G.forest G.synced = (if k0 = 0 then [] else [([97], [([107], [vOf l0 (k0 - 1)])])]) := ⟨_, blind_scr (vOf l0) k0 (by omega), blind_run (vOf l0) k0 (by omega)⟩
   obtain ⟨F246, S247, le248, hv249⟩ := St.freeze S239 (i := 0) rfl (Nat.le_refl _)
   have hv249 : Acs _ (.slice a241 (((blindB (vOf l0) k0 k0).map Rc.ac) ++ [Ac.sync]).length cap242) (((blindB (vOf l0) k0 k0).map Rc.ac) ++ [Ac.sync]) := hv249
   refine stGives S247 rfl (ex_fn (vs := #[(.slice a241 (((blindB (vOf l0) k0 k0).map Rc.ac) ++ [Ac.sync]).length cap242)]) (map1 rfl) rfl (ent_23 _ _)) (ranIs_spec _ _ _ (((blindB (vOf l0) k0 k0).map Rc.ac) ++ [Ac.sync]) (S247).sat (hT.1.below S247.gr.below) (hT.2.at S247.gr.below) hv249 h1.1 h1.2) ?_
   intro v255 w250 F252 S251 le253 R254
   obtain ⟨_, rfl, R256⟩ := R254
   obtain ⟨a257, c258, a259, c260, rfl, r261, r262⟩ := R256
   refine dx ?_
   iterate 2 refine de ?_
   simp only [pq]
   refine sA S251 (zero_43 _) fun n263 w264 S265 => ?_
   refine sW 0 S265 (size_43) fun w266 S267 => ?_
   refine dy ?_
   simp only [pq]
   refine wn hK245 ?_
   refine wp_seq_k (fun K268 hK268 => ?_)
   refine sk fun K269 hK269 => ?_
   refine dx ?_
   refine dt ?_
   refine dx ?_
   simp only [pq]
   refine df (fa_43_1 _ _) ?_
   refine dl (nagg_3 _) S267 0 ?_
   refine dx ?_
   simp only [pq]
   refine neqF ?_
   refine dp ?_
   refine dx ?_
   simp only [pq]
   refine df (fa_43_4 _ _) ?_
   refine dl (nagg_41 _) S267 0 ?_
   refine dn Tryz.underlying41 ?_
   simp only [pq]
   refine dx ?_
   refine dr (nI (3 * k0)) (ex_mul (m := (3 : Int)) (n := ((k0 : Nat) : Int)) (r := (((3 * k0) : Nat) : Int)) rfl rfl (by omega) (by omega) (by omega)) ?_
   refine neqF ?_
   simp only [pq]
   refine dp ?_
   refine wn hK269 ?_
   refine wp_cond_false rfl ?_
   refine wp_skip ?_
   refine hK268 _ _ ?_
   refine wp_seq_k (fun K270 hK270 => ?_)
   refine sk fun K271 hK271 => ?_
   refine dx ?_
   simp only [pq]
   by_cases hc71 : k0 = 0
   ·refine eqlT ?_
    refine wn hK271 ?_
    refine wp_cond_true rfl ?_
    refine sk fun K272 hK272 => ?_
    refine df (fa_43_3 _ _) ?_
    refine dl (nagg_24 _) S267 0 ?_
    refine dn Tryz.underlying24 ?_
    simp only [pq]
    refine dr bT (ex_eql (m := (((G.forest G.synced).length : Nat) : Int)) (n := (0 : Int)) (b := true) rfl rfl (beq_iff_eq.2 (by rw [ge3, if_pos (by omega)]; rfl))) ?_
    refine dy ?_
    refine wn hK272 ?_
    refine wp_ret ?_
    (try simp only [Exit.then, Exit.inBlock, ↓reduceIte, Nat.reduceEqDiff])
    refine bR (res_t rfl (gD rfl)) ?_
    ·exact ⟨rfl, S267.gr.below⟩
   ·refine eqlF ?_
    simp only [pq]
    refine wn hK271 ?_
    refine wp_cond_false rfl ?_
    refine wp_skip ?_
    refine hK270 _ _ ?_
    refine wp_seq_k (fun K273 hK273 => ?_)
    have e1 : G.forest G.synced = [([97], [([107], [vOf l0 (k0 - 1)])])] := by rw [ge3, if_neg (by omega)]
    have e2 : (G.forest G.synced).length = 1 := by rw [e1]; rfl
    obtain ⟨tn, htn, htn2⟩ : ∃ tn, (G.forest G.synced)[0]? = some tn ∧ tn.2 = [([107], [vOf l0 (k0 - 1)])] := ⟨_, by rw [e1]; rfl, rfl⟩
    obtain ⟨b274, o275, ha276, xa278, xc279, xa282, xc283, c277, c281, r280, r284⟩ := Tns.get r261 htn
    obtain ⟨pr, hpr, hpr2⟩ : ∃ pr, tn.2[0]? = some pr ∧ pr.2 = [vOf l0 (k0 - 1)] := ⟨_, by rw [htn2]; rfl, rfl⟩
    have htn3 : 0 < tn.2.length := by rw [htn2]; exact Nat.zero_lt_succ _
    obtain ⟨b285, o286, ha287, xa289, xc290, xa293, xc294, c288, c292, r291, r295⟩ := Prs.get r284 hpr
    obtain ⟨y, hz_y⟩ : ∃ z, l0[(k0 - 1)]? = some z := ⟨l0[(k0 - 1)]'(by omega), List.getElem?_eq_getElem (by omega)⟩
    obtain ⟨b296, o297, ha298, c299, hz_y_b⟩ := Ints.get (z0.mono (((le114.trans le208).trans le248).trans le253)) hz_y
    obtain ⟨S300, le301, hc302⟩ := St.freezeBlk S267 (i := 0) rfl
    generalize addF F252 w266 n263 = F303 at *
    refine region_hl S300 (by kernel_rfl) (fun w305 S304 => ?_)
    refine hl_take 0 rfl (by kernel_rfl) (v := (pP n263 3)) (fun _ _ _ h => h) S304.sat rfl (fun w306 hs307 => ef (fa_43_3 _ _)) ?_
    simp only [pq]
    refine hl_take 1 rfl (by kernel_rfl) (v := (.slice a257 (G.forest G.synced).length c258)) (fun _ _ _ h => h) S304.sat rfl (fun w308 hs309 => ex_load rfl (load1 (nagg_24 _) (St.fz (St.start hs309) (hc302 3 _ rfl)))) ?_
    simp only [pq]
    refine hl_take 2 rfl (by kernel_rfl) (v := (.int .i64 (((G.forest G.synced).length : Nat) : Int))) (fun _ _ _ h => h) S304.sat rfl (fun w310 hs311 => ex_len Tryz.underlying24 rfl) ?_
    simp only [pq]
    refine hl_take 3 rfl (by kernel_rfl) (v := bT) (fun _ _ _ h => h) S304.sat rfl (fun w312 hs313 => ex_eql (m := (((G.forest G.synced).length : Nat) : Int)) (n := (1 : Int)) (b := true) rfl rfl (beq_iff_eq.2 (by omega))) ?_
    simp only [pq]
    refine hl_take 4 rfl (by kernel_rfl) (v := bT) (fun _ _ _ h => h) S304.sat rfl (fun w314 hs315 => ex_move _) ?_
    simp only [pq]
    refine hl_take 5 rfl (by kernel_rfl) (v := (pP n263 3)) (fun _ _ _ h => h) S304.sat rfl (fun w316 hs317 => ef (fa_43_3 _ _)) ?_
    simp only [pq]
    refine hl_take 6 rfl (by kernel_rfl) (v := (.slice a257 (G.forest G.synced).length c258)) (fun _ _ _ h => h) S304.sat rfl (fun w318 hs319 => ex_load rfl (load1 (nagg_24 _) (St.fz (St.start hs319) (hc302 3 _ rfl)))) ?_
    simp only [pq]
    refine hl_take 7 rfl (by kernel_rfl) (v := (pP b274 (o275 + 0 * 2))) (fun _ _ _ h => h) S304.sat rfl (fun w320 hs321 => ex_at (i := 0) (sz := 2) Tryz.underlying24 (sizeof_66 _) rfl ha276 rfl (by omega) rfl) ?_
    simp only [pq]
    refine hl_take 8 rfl (by kernel_rfl) (v := (pP b274 (o275 + 0 * 2 + 1))) (fun _ _ _ h => h) S304.sat rfl (fun w322 hs323 => ef (fa_66_1 _ _)) ?_
    simp only [pq]
    refine hl_take 9 rfl (by kernel_rfl) (v := (.slice xa282 tn.2.length xc283)) (fun _ _ _ h => h) S304.sat rfl (fun w324 hs325 => ex_load rfl (load1 (nagg_47 _) (St.fz (St.start hs325) (Le.cell le301 c281)))) ?_
    simp only [pq]
    refine hl_take 10 rfl (by kernel_rfl) (v := (pP b285 (o286 + 0 * 2))) (fun _ _ _ h => h) S304.sat rfl (fun w326 hs327 => ex_at (i := 0) (sz := 2) Tryz.underlying47 (sizeof_50 _) rfl ha287 rfl (by omega) rfl) ?_
    simp only [pq]
    refine hl_take 11 rfl (by kernel_rfl) (v := (pP b285 (o286 + 0 * 2 + 1))) (fun _ _ _ h => h) S304.sat rfl (fun w328 hs329 => ef (fa_50_1 _ _)) ?_
    simp only [pq]
    refine hl_take 12 rfl (by kernel_rfl) (v := (.slice xa293 pr.2.length xc294)) (fun _ _ _ h => h) S304.sat rfl (fun w330 hs331 => ex_load rfl (load1 (nagg_25 _) (St.fz (St.start hs331) (Le.cell le301 c292)))) ?_
    simp only [pq]
    refine hl_take 13 rfl (by kernel_rfl) (v := (.string ⟨pr.2.toArray⟩)) (fun _ _ _ h => h) S304.sat rfl (fun w332 hs333 => ex_convert (v := (.slice xa293 pr.2.length xc294)) rfl (run_string Tryz.underlying25 Tryz.underlying5 Tryz.underlying9 ((St.start hs333)).sat (r295.mono le301))) ?_
    simp only [pq]
    refine hl_take 14 rfl (by kernel_rfl) (v := (.slice a0 l0.length c0)) (fun _ _ _ h => h) S304.sat rfl (fun w334 hs335 => ex_move _) ?_
    simp only [pq]
    refine hl_take 15 rfl (by kernel_rfl) (v := (nI k0)) (fun _ _ _ h => h) S304.sat rfl (fun w336 hs337 => ex_move _) ?_
    simp only [pq]
    refine hl_take 16 rfl (by kernel_rfl) (v := (nI (k0 - 1))) (fun _ _ _ h => h) S304.sat rfl (fun w338 hs339 => ex_sub (m := ((k0 : Nat) : Int)) (n := (1 : Int)) (r := (((k0 - 1) : Nat) : Int)) rfl rfl (by omega) (by omega) (by omega)) ?_
    simp only [pq]
    refine hl_take 17 rfl (by kernel_rfl) (v := (pP b296 (o297 + (k0 - 1) * 1))) (fun _ _ _ h => h) S304.sat rfl (fun w340 hs341 => ex_at (i := (k0 - 1)) (sz := 1) Tryz.underlying60 (sizeof_3 _) rfl ha298 rfl (by omega) rfl) ?_
    simp only [pq]
    refine hl_take 18 rfl (by kernel_rfl) (v := (.int .i64 y)) (fun _ _ _ h => h) S304.sat rfl (fun w342 hs343 => ex_load rfl (load1 (nagg_3 _) (St.fz (St.start hs343) (Le.cell le301 c299)))) ?_
    simp only [pq]
    refine hl_take 19 rfl (by kernel_rfl) (v := (.int .u8 (((u8of y).toNat : Nat) : Int))) (fun _ _ _ h => h) S304.sat rfl (fun w344 hs345 => ex_convert (v := (.int .i64 y)) rfl (conv_u8 y _)) ?_
    simp only [pq]
    refine hl_next 20 (by kernel_rfl) rfl ?_
    refine stNew S304 (v := fun n => .slice (aA n 0) 1 1) rfl (ex_lit (ps := #[(0, (.int .u8 (((u8of y).toNat : Nat) : Int)))]) (cells := #[(.int .u8 (((u8of y).toNat : Nat) : Int))]) (E := 5) (bmap1 rfl) (fun w => by kernel_rfl)) (fun n346 w347 S348 => ?_)
    refine wl_nil (hl_back S348.sat ?_)
    refine hl_next 21 (by kernel_rfl) rfl ?_
    obtain ⟨S351, le352, hc353⟩ := St.freezeBlk S348 (i := 0) rfl
    have r355 : Bs _ (.slice (some ⟨n346, 0, none⟩) 1 1) ([u8of y] : By) := bs_of_block (l := ([u8of y] : By)) hc353 (rfl) (by unfold maxLen; simp)
    generalize addF F303 w347 n346 = F354 at *
    refine dr (.string ⟨([u8of y] : By).toArray⟩) (ex_convert (v := (.slice (aA n346 0) 1 1)) rfl (run_string Tryz.underlying25 Tryz.underlying5 Tryz.underlying9 (S351).sat r355)) ?_
    refine wl_nil (hl_back (Sat.le S351.sat le352) ?_)
    refine hl_take 22 rfl (by kernel_rfl) (v := bT) (fun _ _ _ h => h) (Sat.le S351.sat le352) rfl (fun w356 hs357 => ex_strop (op := .eql) (l := pr.2) (m := ([u8of y] : By)) (b := true) (by simp) rfl rfl (by rw [hpr2, vOf_at hz_y]; exact beq_self_eq_true _)) ?_
    simp only [pq]
    refine hl_take 23 rfl (by kernel_rfl) (v := bT) (fun _ _ _ h => h) (Sat.le S351.sat le352) rfl (fun w358 hs359 => ex_pick (b := true) rfl) ?_
    simp only [pq]
    refine hl_take 24 rfl (by kernel_rfl) (v := bT) (fun _ _ _ h => h) (Sat.le S351.sat le352) rfl (fun w360 hs361 => ex_assign _) ?_
    simp only [pq]
    refine hl_done (by kernel_rfl) ?_
    refine hK273 _ _ ?_
    refine wp_ret ?_
    (try simp only [Exit.then, Exit.inBlock, ↓reduceIte, Nat.reduceEqDiff])
    refine bR (res_t rfl (gD rfl)) ?_
    ·exact ⟨rfl, S351.gr.below⟩
end Go.Proofs.YtilgpdpooildcaaGreatDoor
