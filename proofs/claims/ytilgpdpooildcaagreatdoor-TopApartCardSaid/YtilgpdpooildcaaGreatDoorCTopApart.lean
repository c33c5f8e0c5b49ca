/- The walk of TopApart -/
import Derived.Test.YtilgpdpooildcaaGreatDoorBU12
import Derived.Test.YtilgpdpooildcaaGreatDoorBU2
namespace Go.Proofs.YtilgpdpooildcaaGreatDoor
set_option maxHeartbeats 8000000
open Go.RowKit
set_option maxRecDepth 100000
set_option linter.unusedVariables false
set_option linter.unusedSimpArgs false
def PtrV (F : Fz) (u : Value) (x : Value) : Prop := ∃ b o, u = .pointer (some ⟨b, o, none⟩) ∧ cellF F b o = some x
theorem apart_scr (v w : UInt8) : ScrOk ((apartA v w 2).map Rc.ac ++ [Ac.ask 0 (encQ 6 rq0), Ac.ask 1 (encQ 6 rq0), Ac.sync]) ∧ runE ((apartA v w 2).map Rc.ac ++ [Ac.ask 0 (encQ 6 rq0), Ac.ask 1 (encQ 6 rq0), Ac.sync]) = runR (apartR v w) := scr_no (l := apartR v w) (by kernel_rfl)
theorem topApart_walk (W : World) (hT : Has W ∧ Tabs W) (x0 : Int) (b0 : -9223372036854775808 ≤ x0) (b0' : x0 ≤ 9223372036854775807) (x1 : Int) (b1 : -9223372036854775808 ≤ x1) (b1' : x1 ≤ 9223372036854775807) :
    Calls Tryz.prog 11 #[.int .i64 x0, .int .i64 x1] W (Tells W (.bool true)) := by
 obtain ⟨i33, hi33, hz33, hs33, hb33⟩ := info_parts info_33
 have S := St.start (Sat.whole W)
 go_enter Tryz.func11, Tryz.ntmps11
 refine sk fun K101 hK101 => ?_
 refine dy ?_
 refine wn hK101 ?_
 refine sk fun K102 hK102 => ?_
 refine dy ?_
 refine wn hK102 ?_
 refine wp_seq_k (fun K103 hK103 => ?_)
 refine wp_seq_k (fun K104 hK104 => ?_)
 have S105 := St.addNil S 4 AcC AcC.mono 33 W.heap.size
 refine region_wl ?_
 refine dy ?_
 simp only [pq]
 refine wl_nil (hK104 _ _ ?_)
 refine wp_block ?_
 refine wp_loop_g (fun mm aa w108 => ∃ (i : Nat) (ra : Option Addr) (rc : Nat) (F106 : Fz) (u107 : Nat → Value), mm = 2 - i ∧ u107 = slots aa ∧ aa = ⟨#[(.int .i64 x0), (.int .i64 x1), undef, undef, bF, (.slice ra ((apartA (u8of x0) (u8of x1) i).map Rc.ac).length rc), (nI i), (u107 7), undef, undef, (u107 10), (u107 11), (u107 12), (u107 13), (u107 14), (u107 15), (u107 16), (u107 17), (u107 18), (u107 19), (u107 20), (u107 21), (u107 22), (u107 23), (u107 24), (u107 25), (u107 26), (u107 27), (u107 28), (u107 29), (u107 30), (u107 31), (u107 32), (u107 33), (u107 34), (u107 35), (u107 36), (u107 37), (u107 38), (u107 39), (u107 40), (u107 41), (u107 42), undef, undef, undef, undef, undef, undef, undef, undef, undef, undef, undef, undef, undef, undef, undef, undef, undef, undef, undef, undef, undef, undef, undef, undef, undef, undef, undef, undef, undef, undef, undef, undef, undef, undef, undef, undef, undef, undef, undef, undef, undef, undef, undef, undef, undef, undef, undef, undef, undef, undef, undef, undef, undef, undef, undef, undef, undef, undef, undef, undef, undef, undef, undef], []⟩ ∧ St W (whole W) w108 F106 [] [ownP 4 AcC AcC.mono 33 W.heap.size (.slice ra ((apartA (u8of x0) (u8of x1) i).map Rc.ac).length rc) ((apartA (u8of x0) (u8of x1) i).map Rc.ac)] ∧ Le (whole W) F106 ∧ (i ≤ 2)) _ ⟨0, none, 0, (whole W), _, rfl, rfl, rfl, S105, Le.refl _, (by omega)⟩ ?_
 rintro m109 a110 w111 ⟨i, ra, rc, F106, u107, rfl, -, rfl, S112, le113, hi⟩ K114 hK114
 refine wp_seq_k (fun K115 hK115 => ?_)
 refine sk fun K116 hK116 => ?_
 refine dx ?_
 simp only [pq]
 by_cases hc11 : i < 2
 ·refine lssT ?_
  refine wn hK116 ?_
  refine wp_cond_true rfl ?_
  refine wp_skip ?_
  refine hK115 _ _ ?_
  refine wp_seq_k (fun K117 hK117 => ?_)
  refine wp_block ?_
  refine wp_seq_k (fun K118 hK118 => ?_)
  rcases (by omega : i = 0 ∨ i = 1) with rfl | rfl
  ·refine region_wl ?_
   refine dx ?_
   refine dAdd 97 ?_
   refine dr (.int .u8 (((u8of (97 : Int)).toNat : Nat) : Int)) (ex_convert (v := (iI 97)) rfl (conv_u8 (97 : Int) _)) ?_
   simp only [pq]
   refine stNew S112 (v := fun n => .slice (aA n 0) 1 1) rfl (ex_lit (ps := #[(0, (.int .u8 (((u8of (97 : Int)).toNat : Nat) : Int)))]) (cells := #[(.int .u8 (((u8of (97 : Int)).toNat : Nat) : Int))]) (E := 5) (bmap1 rfl) (fun w => by kernel_rfl)) (fun n119 w120 S121 => ?_)
   refine dy ?_
   refine wl_nil (hK118 _ _ ?_)
   obtain ⟨S122, le123, hc124⟩ := St.freezeBlk S121 (i := 0) rfl
   have r126 : Bs _ (.slice (some ⟨n119, 0, none⟩) 1 1) ([u8of (97 : Int)] : By) := bs_of_block (l := ([u8of (97 : Int)] : By)) hc124 (rfl) (by unfold maxLen; simp)
   generalize addF F106 w120 n119 = F125 at *
   refine region_gw F125 24 [(3, .made (fun F' u => AcV F' u (Ac.ask 0 (encQ 1 (⟨[], [], [], []⟩ : Rq))))), (6, .made (fun F' u => Bs F' u [97])), (7, .made (fun F' u => Bs F' u [122])), (8, .made (fun F' u => ReqR F' u ((3, (⟨([u8of (97 : Int)] : By), [97], [122], []⟩ : Rq)) : Nat × Rq))), (9, .made (fun F' u => AcV F' u (Ac.ask 0 (encQ 3 (⟨([u8of (97 : Int)] : By), [97], [122], []⟩ : Rq))))), (12, .made (fun F' u => Bs F' u [107])), (15, .made (fun F' u => Ints F' u ([x0, x1] : List Int))), (17, .made (fun F' u => PtrV F' u (.int .i64 x0))), (18, .is (.int .i64 x0)), (20, .made (fun F' u => Bs F' u [(u8of x0)])), (21, .made (fun F' u => ReqR F' u ((4, (⟨([u8of (97 : Int)] : By), [107], [], [(u8of x0)]⟩ : Rq)) : Nat × Rq))), (22, .made (fun F' u => AcV F' u (Ac.ask 0 (encQ 4 (⟨([u8of (97 : Int)] : By), [107], [], [(u8of x0)]⟩ : Rq))))), (23, .made (fun F' u => Acs F' u ([(Ac.ask 0 (encQ 1 (⟨[], [], [], []⟩ : Rq))), (Ac.ask 0 (encQ 3 (⟨([u8of (97 : Int)] : By), [97], [122], []⟩ : Rq))), (Ac.ask 0 (encQ 4 (⟨([u8of (97 : Int)] : By), [107], [], [(u8of x0)]⟩ : Rq)))] : List Ac)))] (by kernel_rfl) (by kernel_rfl) ?_
   simp only [List.take_succ_cons, List.take_zero]
   iterate 2 refine gm ?_
   simp only [pq]
   refine gv (.agg #[(iI 1), Zn, Zn, Zn, Zn]) (fun _ _ => ex_build (ps := #[(0, (iI 1))]) (bmap1 rfl) (by kernel_rfl)) ?_
   simp only [pq]
   refine gw_rel rfl rfl (fun w127 C127 hF => does_call (ex_fn (vs := #[(iI 0), (.agg #[(iI 1), Zn, Zn, Zn, Zn])]) (map2 rfl rfl) rfl (ent_21 _ _)) (call_made S122.sat C127 (topAsk_spec _ _ _ 0 1 (⟨[], [], [], []⟩ : Rq) ((St.tells S122 C127)).sat (hT.1.below (St.tells S122 C127).gr.below) ⟨_, _, _, _, rfl, (Bs.nil _), (Bs.nil _), (Bs.nil _), (Bs.nil _)⟩ ⟨by decide, by kernel_rfl⟩))) (fun v128 => ?_)
   iterate 2 refine gm ?_
   simp only [pq]
   refine gw_rel rfl rfl (fun w127 C127 _ => does_byte (b := 97) (Gr.of_below S122.sat C127) (ex_lit (ps := #[(0, (.int .u8 97))]) (cells := #[(.int .u8 97)]) (E := 5) (bmap1 rfl) (fun w => by kernel_rfl))) (fun v129 => ?_)
   simp only [pq]
   refine gw_rel rfl rfl (fun w127 C127 _ => does_byte (b := 122) (Gr.of_below S122.sat C127) (ex_lit (ps := #[(0, (.int .u8 122))]) (cells := #[(.int .u8 122)]) (E := 5) (bmap1 rfl) (fun w => by kernel_rfl))) (fun v130 => ?_)
   simp only [pq]
   refine gw_rel rfl rfl (fun w127 C127 hF_ => ?_) (fun v131 => ?_)
   ·obtain ⟨F132, g133, R134⟩ := hF_.get 6 (by kernel_rfl) rfl rfl
    obtain ⟨F137, g138, R139⟩ := hF_.get 7 (by kernel_rfl) rfl rfl
    have hR1 := (r126.mono ((g133.both g138).le S122.sat))
    have hR2 := (R134.mono (both_left F132 F137))
    obtain ⟨xa142, xc143, rfl, _⟩ := hR2.shape
    have hR3 := (R139.mono (both_right g133.sat g138.sat))
    obtain ⟨xa144, xc145, rfl, _⟩ := hR3.shape
    have hR4 := Bs.nil (both F132 F137)
    exact does_val (ex_build (bmap4 rfl rfl rfl rfl) (by kernel_rfl)) ⟨(both F132 F137), (g133.both g138), ⟨_, _, _, _, _, _, _, _, rfl, hR1, hR2, hR3, hR4⟩⟩ (Below.refl _ _)
   simp only [pq]
   refine gw_rel rfl rfl (fun w127 C127 hF_ => ?_) (fun v161 => ?_)
   ·obtain ⟨F146, g147, R148⟩ := hF_.get 8 (by kernel_rfl) rfl rfl
    obtain ⟨xa149, xc150, xa151, xc152, xa153, xc154, xa155, xc156, rfl, r157, r158, r159, r160⟩ := R148
    exact does_call (ex_fn (vs := #[(.int .i64 0), (.agg #[(.int .i64 3), (.slice xa149 ([u8of (97 : Int)] : By).length xc150), (.slice xa151 [97].length xc152), (.slice xa153 [122].length xc154), (.slice xa155 [].length xc156)])]) (map2 rfl rfl) rfl (ent_21 _ _)) (call_made2 g147 (topAsk_spec _ _ _ 0 3 (⟨([u8of (97 : Int)] : By), [97], [122], []⟩ : Rq) (g147).sat ((hT.1.below S122.gr.below).below g147.below) ⟨_, _, _, _, rfl, r157, r158, r159, r160⟩ ⟨by decide, by kernel_rfl⟩))
   iterate 2 refine gm ?_
   simp only [pq]
   refine gw_rel rfl rfl (fun w127 C127 _ => does_byte (b := 107) (Gr.of_below S122.sat C127) (ex_lit (ps := #[(0, (.int .u8 107))]) (cells := #[(.int .u8 107)]) (E := 5) (bmap1 rfl) (fun w => by kernel_rfl))) (fun v162 => ?_)
   iterate 2 refine gm ?_
   simp only [pq]
   refine gw_rel rfl rfl (fun w127 C127 _ => does_litN (k := 1) (R := IntC) IntC.mono (l := ([x0, x1] : List Int)) (el := [[(.int .i64 x0)], [(.int .i64 x1)]]) (E := 3) (Gr.of_below S122.sat C127) ⟨⟨rfl, ⟨b0, b0'⟩⟩, ⟨rfl, ⟨b1, b1'⟩⟩, trivial⟩ (by simp) (by unfold maxLen; simp) (ex_lit (E := 3) (cells := #[(.int .i64 x0), (.int .i64 x1)]) (bmap2 rfl rfl) (fun w => by kernel_rfl))) (fun v163 => ?_)
   refine gm ?_
   simp only [pq]
   refine gw_rel rfl rfl (fun w127 C127 hF_ => ?_) (fun v164 => ?_)
   ·obtain ⟨F165, g166, R167⟩ := hF_.get 15 (by kernel_rfl) rfl rfl
    obtain ⟨xa168, xc169, rfl, _⟩ := Sl.shape R167
    obtain ⟨b170, o171, rfl, hc172, _⟩ := Ints.get R167 (i := 0) rfl
    exact does_val (ex_at (i := 0) (sz := 1) Tryz.underlying60 (sizeof_3 _) rfl rfl rfl (by simp) rfl) ⟨F165, g166, _, _, rfl, hc172⟩ (Below.refl _ _)
   simp only [pq]
   refine gw_const rfl rfl (v := (.int .i64 x0)) (fun w127 C127 hF_ => ?_) ?_
   ·obtain ⟨F173, g174, b175, o176, rfl, hc177⟩ := hF_.get 17 (by kernel_rfl) rfl rfl
    exact does_is (ex_load rfl (load1 (nagg_3 _) (g174.sat.cell hc177)))
   refine gv (.int .u8 (((u8of x0).toNat : Nat) : Int)) (fun _ _ => ex_convert (v := (.int .i64 x0)) rfl (conv_u8 x0 _)) ?_
   simp only [pq]
   refine gw_rel rfl rfl (fun w127 C127 _ => does_byte (b := (u8of x0)) (Gr.of_below S122.sat C127) (ex_lit (ps := #[(0, (.int .u8 (((u8of x0).toNat : Nat) : Int)))]) (cells := #[(.int .u8 (((u8of x0).toNat : Nat) : Int))]) (E := 5) (bmap1 rfl) (fun w => by kernel_rfl))) (fun v178 => ?_)
   simp only [pq]
   refine gw_rel rfl rfl (fun w127 C127 hF_ => ?_) (fun v179 => ?_)
   ·obtain ⟨F180, g181, R182⟩ := hF_.get 12 (by kernel_rfl) rfl rfl
    obtain ⟨F185, g186, R187⟩ := hF_.get 20 (by kernel_rfl) rfl rfl
    have hR1 := (r126.mono ((g181.both g186).le S122.sat))
    have hR2 := (R182.mono (both_left F180 F185))
    obtain ⟨xa190, xc191, rfl, _⟩ := hR2.shape
    have hR4 := (R187.mono (both_right g181.sat g186.sat))
    obtain ⟨xa192, xc193, rfl, _⟩ := hR4.shape
    have hR3 := Bs.nil (both F180 F185)
    exact does_val (ex_build (bmap4 rfl rfl rfl rfl) (by kernel_rfl)) ⟨(both F180 F185), (g181.both g186), ⟨_, _, _, _, _, _, _, _, rfl, hR1, hR2, hR3, hR4⟩⟩ (Below.refl _ _)
   simp only [pq]
   refine gw_rel rfl rfl (fun w127 C127 hF_ => ?_) (fun v209 => ?_)
   ·obtain ⟨F194, g195, R196⟩ := hF_.get 21 (by kernel_rfl) rfl rfl
    obtain ⟨xa197, xc198, xa199, xc200, xa201, xc202, xa203, xc204, rfl, r205, r206, r207, r208⟩ := R196
    exact does_call (ex_fn (vs := #[(.int .i64 0), (.agg #[(.int .i64 4), (.slice xa197 ([u8of (97 : Int)] : By).length xc198), (.slice xa199 [107].length xc200), (.slice xa201 [].length xc202), (.slice xa203 [(u8of x0)].length xc204)])]) (map2 rfl rfl) rfl (ent_21 _ _)) (call_made2 g195 (topAsk_spec _ _ _ 0 4 (⟨([u8of (97 : Int)] : By), [107], [], [(u8of x0)]⟩ : Rq) (g195).sat ((hT.1.below S122.gr.below).below g195.below) ⟨_, _, _, _, rfl, r205, r206, r207, r208⟩ ⟨by decide, by kernel_rfl⟩))
   simp only [pq]
   refine gw_rel rfl rfl (fun w127 C127 hF_ => ?_) (fun v210 => ?_)
   ·obtain ⟨F211, g212, R213⟩ := hF_.get 3 (by kernel_rfl) rfl rfl
    obtain ⟨F214, g215, R216⟩ := hF_.get 9 (by kernel_rfl) rfl rfl
    obtain ⟨F217, g218, R219⟩ := hF_.get 22 (by kernel_rfl) rfl rfl
    obtain ⟨xa220, xc221, rfl, r222⟩ := (R213.mono ((both_left F211 F214).trans (both_left (both F211 F214) F217)))
    obtain ⟨xa223, xc224, rfl, r225⟩ := (R216.mono ((both_right g212.sat g215.sat).trans (both_left (both F211 F214) F217)))
    obtain ⟨xa226, xc227, rfl, r228⟩ := (R219.mono (both_right (g212.both g215).sat g218.sat))
    exact does_litN (k := 4) (R := AcC) AcC.mono (l := [(Ac.ask 0 (encQ 1 (⟨[], [], [], []⟩ : Rq))), (Ac.ask 0 (encQ 3 (⟨([u8of (97 : Int)] : By), [97], [122], []⟩ : Rq))), (Ac.ask 0 (encQ 4 (⟨([u8of (97 : Int)] : By), [107], [], [(u8of x0)]⟩ : Rq)))]) (el := [[_, _, _, .slice xa220 _ xc221], [_, _, _, .slice xa223 _ xc224], [_, _, _, .slice xa226 _ xc227]]) (E := 33) ((g212.both g215).both g218) ⟨⟨_, rfl, r222⟩, ⟨_, rfl, r225⟩, ⟨_, rfl, r228⟩, trivial⟩ (by simp) (by unfold maxLen; simp) (ex_lit (E := 33) (cells := #[_, _, _, .slice xa220 _ xc221, _, _, _, .slice xa223 _ xc224, _, _, _, .slice xa226 _ xc227]) (bmap3 rfl rfl rfl) (fun w => by kernel_rfl))
   refine gw_nil ?_
   intro w229 hC231 hF232
   obtain ⟨F233, g234, R235⟩ := hF232.get 23 rfl rfl
   have S230 := St.gives S122 g234
   have le237 : Le _ _ := g234.le S122.sat
   have R238 := R235
   generalize F233 = F236 at *
   obtain ⟨xa239, xc240, rfl, _⟩ := Sl.shape R238
   clear hF232
   simp only [List.drop_succ_cons, List.drop_zero]
   refine stAppendS (r := 0) (u := (.slice xa239 ([(Ac.ask 0 (encQ 1 (⟨[], [], [], []⟩ : Rq))), (Ac.ask 0 (encQ 3 (⟨([u8of (97 : Int)] : By), [97], [122], []⟩ : Rq))), (Ac.ask 0 (encQ 4 (⟨([u8of (97 : Int)] : By), [107], [], [(u8of x0)]⟩ : Rq)))] : List Ac).length xc240)) S230 rfl i33 (.agg #[(iI 0), (iI 0), (iI 0), Zn]) 48 Tryz.underlying23 hi33 hz33 hs33 hb33 rfl (by decide) rfl rfl rfl (Sl.toW R238 (S230).sat) AcC.one (Nat.le_refl _) S230.gr.below.size (by unfold maxLen; (simp [apartA, apartS])) (by (simp [apartA, apartS])) ?_
   intro v241 w242 S243 hn244
   simp only [pq]
   obtain ⟨a245, cap246, rfl, h247, h248⟩ := (S243.own (i := 0) rfl).shape
   unfold maxLen at h248
   refine dy ?_
   refine wl_nil (hK117 _ _ ?_)
   refine region_wl ?_
   refine dx ?_
   refine dAdd 1 ?_
   refine dy ?_
   simp only [pq]
   refine wl_nil ?_
   rw [show (((apartA (u8of x0) (u8of x1) 0).map Rc.ac) ++ ([(Ac.ask 0 (encQ 1 (⟨[], [], [], []⟩ : Rq))), (Ac.ask 0 (encQ 3 (⟨([u8of (97 : Int)] : By), [97], [122], []⟩ : Rq))), (Ac.ask 0 (encQ 4 (⟨([u8of (97 : Int)] : By), [107], [], [(u8of x0)]⟩ : Rq)))] : List Ac)) = ((apartA (u8of x0) (u8of x1) 1).map Rc.ac) from rfl] at S243 ⊢
   exact hK114 _ _ _ (by omega) ⟨1, a245, cap246, F236, _, rfl, rfl, rfl, S243, ((le113.trans le123).trans le237), (by omega)⟩
  ·refine region_wl ?_
   refine dx ?_
   refine dAdd 98 ?_
   refine dr (.int .u8 (((u8of (98 : Int)).toNat : Nat) : Int)) (ex_convert (v := (iI 98)) rfl (conv_u8 (98 : Int) _)) ?_
   simp only [pq]
   refine stNew S112 (v := fun n => .slice (aA n 0) 1 1) rfl (ex_lit (ps := #[(0, (.int .u8 (((u8of (98 : Int)).toNat : Nat) : Int)))]) (cells := #[(.int .u8 (((u8of (98 : Int)).toNat : Nat) : Int))]) (E := 5) (bmap1 rfl) (fun w => by kernel_rfl)) (fun n249 w250 S251 => ?_)
   refine dy ?_
   refine wl_nil (hK118 _ _ ?_)
   obtain ⟨S252, le253, hc254⟩ := St.freezeBlk S251 (i := 0) rfl
   have r256 : Bs _ (.slice (some ⟨n249, 0, none⟩) 1 1) ([u8of (98 : Int)] : By) := bs_of_block (l := ([u8of (98 : Int)] : By)) hc254 (rfl) (by unfold maxLen; simp)
   generalize addF F106 w250 n249 = F255 at *
   refine region_gw F255 24 [(3, .made (fun F' u => AcV F' u (Ac.ask 1 (encQ 1 (⟨[], [], [], []⟩ : Rq))))), (6, .made (fun F' u => Bs F' u [97])), (7, .made (fun F' u => Bs F' u [122])), (8, .made (fun F' u => ReqR F' u ((3, (⟨([u8of (98 : Int)] : By), [97], [122], []⟩ : Rq)) : Nat × Rq))), (9, .made (fun F' u => AcV F' u (Ac.ask 1 (encQ 3 (⟨([u8of (98 : Int)] : By), [97], [122], []⟩ : Rq))))), (12, .made (fun F' u => Bs F' u [107])), (15, .made (fun F' u => Ints F' u ([x0, x1] : List Int))), (17, .made (fun F' u => PtrV F' u (.int .i64 x1))), (18, .is (.int .i64 x1)), (20, .made (fun F' u => Bs F' u [(u8of x1)])), (21, .made (fun F' u => ReqR F' u ((4, (⟨([u8of (98 : Int)] : By), [107], [], [(u8of x1)]⟩ : Rq)) : Nat × Rq))), (22, .made (fun F' u => AcV F' u (Ac.ask 1 (encQ 4 (⟨([u8of (98 : Int)] : By), [107], [], [(u8of x1)]⟩ : Rq))))), (23, .made (fun F' u => Acs F' u ([(Ac.ask 1 (encQ 1 (⟨[], [], [], []⟩ : Rq))), (Ac.ask 1 (encQ 3 (⟨([u8of (98 : Int)] : By), [97], [122], []⟩ : Rq))), (Ac.ask 1 (encQ 4 (⟨([u8of (98 : Int)] : By), [107], [], [(u8of x1)]⟩ : Rq)))] : List Ac)))] (by kernel_rfl) (by kernel_rfl) ?_
   simp only [List.take_succ_cons, List.take_zero]
   iterate 2 refine gm ?_
   simp only [pq]
   refine gv (.agg #[(iI 1), Zn, Zn, Zn, Zn]) (fun _ _ => ex_build (ps := #[(0, (iI 1))]) (bmap1 rfl) (by kernel_rfl)) ?_
   simp only [pq]
   refine gw_rel rfl rfl (fun w257 C257 hF => does_call (ex_fn (vs := #[(iI 1), (.agg #[(iI 1), Zn, Zn, Zn, Zn])]) (map2 rfl rfl) rfl (ent_21 _ _)) (call_made S252.sat C257 (topAsk_spec _ _ _ 1 1 (⟨[], [], [], []⟩ : Rq) ((St.tells S252 C257)).sat (hT.1.below (St.tells S252 C257).gr.below) ⟨_, _, _, _, rfl, (Bs.nil _), (Bs.nil _), (Bs.nil _), (Bs.nil _)⟩ ⟨by decide, by kernel_rfl⟩))) (fun v258 => ?_)
   iterate 2 refine gm ?_
   simp only [pq]
   refine gw_rel rfl rfl (fun w257 C257 _ => does_byte (b := 97) (Gr.of_below S252.sat C257) (ex_lit (ps := #[(0, (.int .u8 97))]) (cells := #[(.int .u8 97)]) (E := 5) (bmap1 rfl) (fun w => by kernel_rfl))) (fun v259 => ?_)
   simp only [pq]
   refine gw_rel rfl rfl (fun w257 C257 _ => does_byte (b := 122) (Gr.of_below S252.sat C257) (ex_lit (ps := #[(0, (.int .u8 122))]) (cells := #[(.int .u8 122)]) (E := 5) (bmap1 rfl) (fun w => by kernel_rfl))) (fun v260 => ?_)
   simp only [pq]
   refine gw_rel rfl rfl (fun w257 C257 hF_ => ?_) (fun v261 => ?_)
   ·obtain ⟨F262, g263, R264⟩ := hF_.get 6 (by kernel_rfl) rfl rfl
    obtain ⟨F267, g268, R269⟩ := hF_.get 7 (by kernel_rfl) rfl rfl
    have hR1 := (r256.mono ((g263.both g268).le S252.sat))
    have hR2 := (R264.mono (both_left F262 F267))
    obtain ⟨xa272, xc273, rfl, _⟩ := hR2.shape
    have hR3 := (R269.mono (both_right g263.sat g268.sat))
    obtain ⟨xa274, xc275, rfl, _⟩ := hR3.shape
    have hR4 := Bs.nil (both F262 F267)
    exact does_val (ex_build (bmap4 rfl rfl rfl rfl) (by kernel_rfl)) ⟨(both F262 F267), (g263.both g268), ⟨_, _, _, _, _, _, _, _, rfl, hR1, hR2, hR3, hR4⟩⟩ (Below.refl _ _)
   simp only [pq]
   refine gw_rel rfl rfl (fun w257 C257 hF_ => ?_) (fun v291 => ?_)
   ·obtain ⟨F276, g277, R278⟩ := hF_.get 8 (by kernel_rfl) rfl rfl
    obtain ⟨xa279, xc280, xa281, xc282, xa283, xc284, xa285, xc286, rfl, r287, r288, r289, r290⟩ := R278
    exact does_call (ex_fn (vs := #[(.int .i64 1), (.agg #[(.int .i64 3), (.slice xa279 ([u8of (98 : Int)] : By).length xc280), (.slice xa281 [97].length xc282), (.slice xa283 [122].length xc284), (.slice xa285 [].length xc286)])]) (map2 rfl rfl) rfl (ent_21 _ _)) (call_made2 g277 (topAsk_spec _ _ _ 1 3 (⟨([u8of (98 : Int)] : By), [97], [122], []⟩ : Rq) (g277).sat ((hT.1.below S252.gr.below).below g277.below) ⟨_, _, _, _, rfl, r287, r288, r289, r290⟩ ⟨by decide, by kernel_rfl⟩))
   iterate 2 refine gm ?_
   simp only [pq]
   refine gw_rel rfl rfl (fun w257 C257 _ => does_byte (b := 107) (Gr.of_below S252.sat C257) (ex_lit (ps := #[(0, (.int .u8 107))]) (cells := #[(.int .u8 107)]) (E := 5) (bmap1 rfl) (fun w => by kernel_rfl))) (fun v292 => ?_)
   iterate 2 refine gm ?_
   simp only [pq]
   refine gw_rel rfl rfl (fun w257 C257 _ => does_litN (k := 1) (R := IntC) IntC.mono (l := ([x0, x1] : List Int)) (el := [[(.int .i64 x0)], [(.int .i64 x1)]]) (E := 3) (Gr.of_below S252.sat C257) ⟨⟨rfl, ⟨b0, b0'⟩⟩, ⟨rfl, ⟨b1, b1'⟩⟩, trivial⟩ (by simp) (by unfold maxLen; simp) (ex_lit (E := 3) (cells := #[(.int .i64 x0), (.int .i64 x1)]) (bmap2 rfl rfl) (fun w => by kernel_rfl))) (fun v293 => ?_)
   refine gm ?_
   simp only [pq]
   refine gw_rel rfl rfl (fun w257 C257 hF_ => ?_) (fun v294 => ?_)
   ·obtain ⟨F295, g296, R297⟩ := hF_.get 15 (by kernel_rfl) rfl rfl
    obtain ⟨xa298, xc299, rfl, _⟩ := Sl.shape R297
    obtain ⟨b300, o301, rfl, hc302, _⟩ := Ints.get R297 (i := 1) rfl
    exact does_val (ex_at (i := 1) (sz := 1) Tryz.underlying60 (sizeof_3 _) rfl rfl rfl (by simp) rfl) ⟨F295, g296, _, _, rfl, hc302⟩ (Below.refl _ _)
   simp only [pq]
   refine gw_const rfl rfl (v := (.int .i64 x1)) (fun w257 C257 hF_ => ?_) ?_
   ·obtain ⟨F303, g304, b305, o306, rfl, hc307⟩ := hF_.get 17 (by kernel_rfl) rfl rfl
    exact does_is (ex_load rfl (load1 (nagg_3 _) (g304.sat.cell hc307)))
   refine gv (.int .u8 (((u8of x1).toNat : Nat) : Int)) (fun _ _ => ex_convert (v := (.int .i64 x1)) rfl (conv_u8 x1 _)) ?_
   simp only [pq]
   refine gw_rel rfl rfl (fun w257 C257 _ => does_byte (b := (u8of x1)) (Gr.of_below S252.sat C257) (ex_lit (ps := #[(0, (.int .u8 (((u8of x1).toNat : Nat) : Int)))]) (cells := #[(.int .u8 (((u8of x1).toNat : Nat) : Int))]) (E := 5) (bmap1 rfl) (fun w => by kernel_rfl))) (fun v308 => ?_)
   simp only [pq]
   refine gw_rel rfl rfl (fun w257 C257 hF_ => ?_) (fun v309 => ?_)
   ·obtain ⟨F310, g311, R312⟩ := hF_.get 12 (by kernel_rfl) rfl rfl
    obtain ⟨F315, g316, R317⟩ := hF_.get 20 (by kernel_rfl) rfl rfl
    have hR1 := (r256.mono ((g311.both g316).le S252.sat))
    have hR2 := (R312.mono (both_left F310 F315))
    obtain ⟨xa320, xc321, rfl, _⟩ := hR2.shape
    have hR4 := (R317.mono (both_right g311.sat g316.sat))
    obtain ⟨xa322, xc323, rfl, _⟩ := hR4.shape
    have hR3 := Bs.nil (both F310 F315)
    exact does_val (ex_build (bmap4 rfl rfl rfl rfl) (by kernel_rfl)) ⟨(both F310 F315), (g311.both g316), ⟨_, _, _, _, _, _, _, _, rfl, hR1, hR2, hR3, hR4⟩⟩ (Below.refl _ _)
   simp only [pq]
   refine gw_rel rfl rfl (fun w257 C257 hF_ => ?_) (fun v339 => ?_)
   ·obtain ⟨F324, g325, R326⟩ := hF_.get 21 (by kernel_rfl) rfl rfl
    obtain ⟨xa327, xc328, xa329, xc330, xa331, xc332, xa333, xc334, rfl, r335, r336, r337, r338⟩ := R326
    exact does_call (ex_fn (vs := #[(.int .i64 1), (.agg #[(.int .i64 4), (.slice xa327 ([u8of (98 : Int)] : By).length xc328), (.slice xa329 [107].length xc330), (.slice xa331 [].length xc332), (.slice xa333 [(u8of x1)].length xc334)])]) (map2 rfl rfl) rfl (ent_21 _ _)) (call_made2 g325 (topAsk_spec _ _ _ 1 4 (⟨([u8of (98 : Int)] : By), [107], [], [(u8of x1)]⟩ : Rq) (g325).sat ((hT.1.below S252.gr.below).below g325.below) ⟨_, _, _, _, rfl, r335, r336, r337, r338⟩ ⟨by decide, by kernel_rfl⟩))
   simp only [pq]
   refine gw_rel rfl rfl (fun w257 C257 hF_ => ?_) (fun v340 => ?_)
   ·obtain ⟨F341, g342, R343⟩ := hF_.get 3 (by kernel_rfl) rfl rfl
    obtain ⟨F344, g345, R346⟩ := hF_.get 9 (by kernel_rfl) rfl rfl
    obtain ⟨F347, g348, R349⟩ := hF_.get 22 (by kernel_rfl) rfl rfl
    obtain ⟨xa350, xc351, rfl, r352⟩ := (R343.mono ((both_left F341 F344).trans (both_left (both F341 F344) F347)))
    obtain ⟨xa353, xc354, rfl, r355⟩ := (R346.mono ((both_right g342.sat g345.sat).trans (both_left (both F341 F344) F347)))
    obtain ⟨xa356, xc357, rfl, r358⟩ := (R349.mono (both_right (g342.both g345).sat g348.sat))
    exact does_litN (k := 4) (R := AcC) AcC.mono (l := [(Ac.ask 1 (encQ 1 (⟨[], [], [], []⟩ : Rq))), (Ac.ask 1 (encQ 3 (⟨([u8of (98 : Int)] : By), [97], [122], []⟩ : Rq))), (Ac.ask 1 (encQ 4 (⟨([u8of (98 : Int)] : By), [107], [], [(u8of x1)]⟩ : Rq)))]) (el := [[_, _, _, .slice xa350 _ xc351], [_, _, _, .slice xa353 _ xc354], [_, _, _, .slice xa356 _ xc357]]) (E := 33) ((g342.both g345).both g348) ⟨⟨_, rfl, r352⟩, ⟨_, rfl, r355⟩, ⟨_, rfl, r358⟩, trivial⟩ (by simp) (by unfold maxLen; simp) (ex_lit (E := 33) (cells := #[_, _, _, .slice xa350 _ xc351, _, _, _, .slice xa353 _ xc354, _, _, _, .slice xa356 _ xc357]) (bmap3 rfl rfl rfl) (fun w => by kernel_rfl))
   refine gw_nil ?_
   intro w359 hC361 hF362
   obtain ⟨F363, g364, R365⟩ := hF362.get 23 rfl rfl
   have S360 := St.gives S252 g364
   have le367 : Le _ _ := g364.le S252.sat
   have R368 := R365
   generalize F363 = F366 at *
   obtain ⟨xa369, xc370, rfl, _⟩ := Sl.shape R368
   clear hF362
   simp only [List.drop_succ_cons, List.drop_zero]
   refine stAppendS (r := 0) (u := (.slice xa369 ([(Ac.ask 1 (encQ 1 (⟨[], [], [], []⟩ : Rq))), (Ac.ask 1 (encQ 3 (⟨([u8of (98 : Int)] : By), [97], [122], []⟩ : Rq))), (Ac.ask 1 (encQ 4 (⟨([u8of (98 : Int)] : By), [107], [], [(u8of x1)]⟩ : Rq)))] : List Ac).length xc370)) S360 rfl i33 (.agg #[(iI 0), (iI 0), (iI 0), Zn]) 48 Tryz.underlying23 hi33 hz33 hs33 hb33 rfl (by decide) rfl rfl rfl (Sl.toW R368 (S360).sat) AcC.one (Nat.le_refl _) S360.gr.below.size (by unfold maxLen; (simp [apartA, apartS])) (by (simp [apartA, apartS])) ?_
   intro v371 w372 S373 hn374
   simp only [pq]
   obtain ⟨a375, cap376, rfl, h377, h378⟩ := (S373.own (i := 0) rfl).shape
   unfold maxLen at h378
   refine dy ?_
   refine wl_nil (hK117 _ _ ?_)
   refine region_wl ?_
   refine dx ?_
   refine dAdd 2 ?_
   refine dy ?_
   simp only [pq]
   refine wl_nil ?_
   rw [show (((apartA (u8of x0) (u8of x1) 1).map Rc.ac) ++ ([(Ac.ask 1 (encQ 1 (⟨[], [], [], []⟩ : Rq))), (Ac.ask 1 (encQ 3 (⟨([u8of (98 : Int)] : By), [97], [122], []⟩ : Rq))), (Ac.ask 1 (encQ 4 (⟨([u8of (98 : Int)] : By), [107], [], [(u8of x1)]⟩ : Rq)))] : List Ac)) = ((apartA (u8of x0) (u8of x1) 2).map Rc.ac) from rfl] at S373 ⊢
   exact hK114 _ _ _ (by omega) ⟨2, a375, cap376, F366, _, rfl, rfl, rfl, S373, ((le113.trans le253).trans le367), (by omega)⟩
 ·refine lssF ?_
  refine wn hK116 ?_
  refine wp_cond_false rfl ?_
  refine wp_exit ?_
  refine hK103 _ _ ?_
  refine wp_seq_k (fun K379 hK379 => ?_)
  obtain rfl : i = 2 := by omega
  refine region_wl ?_
  refine dx ?_
  refine dr (.agg #[(iI 6), Zn, Zn, Zn, Zn]) (ex_build (bmap1 rfl) (by kernel_rfl)) ?_
  simp only [pq]
  refine stGives S112 rfl (fn2 (ent_21 _ _)) (topAsk_spec _ _ _ 0 6 (⟨[], [], [], []⟩ : Rq) (S112).sat (hT.1.below S112.gr.below) ⟨_, _, _, _, rfl, (Bs.nil _), (Bs.nil _), (Bs.nil _), (Bs.nil _)⟩ ⟨by decide, by kernel_rfl⟩) ?_
  intro v385 w380 F382 S381 le383 R384
  obtain ⟨xa386, xc387, rfl, r388⟩ := R384
  have r388 : Bs _ (.slice xa386 (encQ 6 (⟨[], [], [], []⟩ : Rq)).length xc387) (encQ 6 (⟨[], [], [], []⟩ : Rq)) := r388
  refine dr (.agg #[(iI 6), Zn, Zn, Zn, Zn]) (ex_build (bmap1 rfl) (by kernel_rfl)) ?_
  refine stGives S381 rfl (fn2 (ent_21 _ _)) (topAsk_spec _ _ _ 1 6 (⟨[], [], [], []⟩ : Rq) (S381).sat (hT.1.below S381.gr.below) ⟨_, _, _, _, rfl, (Bs.nil _), (Bs.nil _), (Bs.nil _), (Bs.nil _)⟩ ⟨by decide, by kernel_rfl⟩) ?_
  intro v394 w389 F391 S390 le392 R393
  obtain ⟨xa395, xc396, rfl, r397⟩ := R393
  have r397 : Bs _ (.slice xa395 (encQ 6 (⟨[], [], [], []⟩ : Rq)).length xc396) (encQ 6 (⟨[], [], [], []⟩ : Rq)) := r397
  simp only [pq]
  refine dr (.agg #[(iI 2), (iI 0), (iI 0), Zn]) (ex_build (bmap1 rfl) (by kernel_rfl)) ?_
  refine stNew S390 (v := fun n => .slice (aA n 0) 3 3) rfl (ex_lit (ps := #[(0, (.agg #[(iI 1), (iI 0), (iI 0), (.slice xa386 (encQ 6 (⟨[], [], [], []⟩ : Rq)).length xc387)])), (1, (.agg #[(iI 1), (iI 1), (iI 0), (.slice xa395 (encQ 6 (⟨[], [], [], []⟩ : Rq)).length xc396)])), (2, (.agg #[(iI 2), (iI 0), (iI 0), Zn]))]) (cells := #[(iI 1), (iI 0), (iI 0), (.slice xa386 (encQ 6 (⟨[], [], [], []⟩ : Rq)).length xc387), (iI 1), (iI 1), (iI 0), (.slice xa395 (encQ 6 (⟨[], [], [], []⟩ : Rq)).length xc396), (iI 2), (iI 0), (iI 0), Zn]) (E := 33) (bmap3 rfl rfl rfl) (fun w => by kernel_rfl)) (fun n398 w399 S400 => ?_)
  simp only [pq]
  obtain ⟨S401, le402, hc403⟩ := St.freezeBlk S400 (i := 0) rfl
  have r405 : Acs _ (.slice (some ⟨n398, 0, none⟩) 3 3) ([(Ac.ask 0 (encQ 6 (⟨[], [], [], []⟩ : Rq))), (Ac.ask 1 (encQ 6 (⟨[], [], [], []⟩ : Rq))), Ac.sync] : List Ac) := sl_of_block (R := AcC) (l := ([(Ac.ask 0 (encQ 6 (⟨[], [], [], []⟩ : Rq))), (Ac.ask 1 (encQ 6 (⟨[], [], [], []⟩ : Rq))), Ac.sync] : List Ac)) (el := [[(.int .i64 1), (.int .i64 0), (.int .i64 0), (.slice xa386 (encQ 6 (⟨[], [], [], []⟩ : Rq)).length xc387)], [(.int .i64 1), (.int .i64 1), (.int .i64 0), (.slice xa395 (encQ 6 (⟨[], [], [], []⟩ : Rq)).length xc396)], [(.int .i64 2), (.int .i64 0), (.int .i64 0), (.slice none 0 0)]]) hc403 rfl ⟨⟨_, rfl, Bs.mono (r388.mono le392) le402⟩, ⟨_, rfl, Bs.mono r397 le402⟩, ⟨_, rfl, Bs.nil _⟩, trivial⟩ (by simp) (by unfold maxLen; simp)
  generalize addF F391 w399 n398 = F404 at *
  refine stAppendS (r := 0) (u := (.slice (aA n398 0) 3 3)) S401 rfl i33 (.agg #[(iI 0), (iI 0), (iI 0), Zn]) 48 Tryz.underlying23 hi33 hz33 hs33 hb33 rfl (by decide) rfl rfl rfl (Sl.toW r405 (S401).sat) AcC.one (Nat.le_refl _) S401.gr.below.size (by unfold maxLen; (simp [apartA, apartS])) (by (simp [apartA, apartS])) ?_
  intro v406 w407 S408 hn409
  simp only [pq]
  obtain ⟨a410, cap411, rfl, h412, h413⟩ := (S408.own (i := 0) rfl).shape
  unfold maxLen at h413
  refine dy ?_
  refine wl_nil (hK379 _ _ ?_)
  refine sk fun K414 hK414 => ?_
  refine dx ?_
  simp only [pq]
  obtain ⟨G, h1, ge1, ge2, ge3⟩ : ∃ G, (ScrOk ((((apartA (u8of x0) (u8of x1) 2).map Rc.ac) ++ [(Ac.ask 0 (encQ 6 (⟨[], [], [], []⟩ : Rq))), (Ac.ask 1 (encQ 6 (⟨[], [], [], []⟩ : Rq))), Ac.sync])) ∧ runE ((((apartA (u8of x0) (u8of x1) 2).map Rc.ac) ++ [(Ac.ask 0 (encQ 6 (⟨[], [], [], []⟩ : Rq))), (Ac.ask 1 (encQ 6 (⟨[], [], [], []⟩ : Rq))), Ac.sync])) = G) ∧ G.synced = 2 ∧ G.replies.length = 8 ∧ G.forest G.synced = [([97], [([107], [u8of x0])]), ([98], [([107], [u8of x1])])] := ⟨_, apart_scr (u8of x0) (u8of x1), topApart_run (u8of x0) (u8of x1)⟩
  obtain ⟨F415, S416, le417, hv418⟩ := St.freeze S408 (i := 0) rfl (Nat.le_refl _)
  have hv418 : Acs _ (.slice a410 (((apartA (u8of x0) (u8of x1) 2).map Rc.ac) ++ [(Ac.ask 0 (encQ 6 (⟨[], [], [], []⟩ : Rq))), (Ac.ask 1 (encQ 6 (⟨[], [], [], []⟩ : Rq))), Ac.sync]).length cap411) (((apartA (u8of x0) (u8of x1) 2).map Rc.ac) ++ [(Ac.ask 0 (encQ 6 (⟨[], [], [], []⟩ : Rq))), (Ac.ask 1 (encQ 6 (⟨[], [], [], []⟩ : Rq))), Ac.sync]) := hv418
  refine stGives S416 rfl (ex_fn (vs := #[(.slice a410 (((apartA (u8of x0) (u8of x1) 2).map Rc.ac) ++ [(Ac.ask 0 (encQ 6 (⟨[], [], [], []⟩ : Rq))), (Ac.ask 1 (encQ 6 (⟨[], [], [], []⟩ : Rq))), Ac.sync]).length cap411)]) (map1 rfl) rfl (ent_23 _ _)) (ranIs_spec _ _ _ (((apartA (u8of x0) (u8of x1) 2).map Rc.ac) ++ [(Ac.ask 0 (encQ 6 (⟨[], [], [], []⟩ : Rq))), (Ac.ask 1 (encQ 6 (⟨[], [], [], []⟩ : Rq))), Ac.sync]) (S416).sat (hT.1.below S416.gr.below) (hT.2.at S416.gr.below) hv418 h1.1 h1.2) ?_
  intro v424 w419 F421 S420 le422 R423
  obtain ⟨_, rfl, R425⟩ := R423
  obtain ⟨a426, c427, a428, c429, rfl, r430, r431⟩ := R425
  refine dx ?_
  iterate 2 refine de ?_
  simp only [pq]
  refine sA S420 (zero_43 _) fun n432 w433 S434 => ?_
  refine sW 0 S434 (size_43) fun w435 S436 => ?_
  refine dy ?_
  simp only [pq]
  refine wn hK414 ?_
  refine wp_seq_k (fun K437 hK437 => ?_)
  have e2 : (G.forest G.synced).length = 2 := by rw [ge3]; rfl
  obtain ⟨tn, htn, htn2⟩ : ∃ tn, (G.forest G.synced)[0]? = some tn ∧ tn.2 = [([107], [u8of x0])] := ⟨_, by rw [ge3]; rfl, rfl⟩
  obtain ⟨b438, o439, ha440, xa442, xc443, xa446, xc447, c441, c445, r444, r448⟩ := Tns.get r430 htn
  obtain ⟨pr, hpr, hpr2⟩ : ∃ pr, tn.2[0]? = some pr ∧ pr.2 = [u8of x0] := ⟨_, by rw [htn2]; rfl, rfl⟩
  have htn3 : 0 < tn.2.length := by rw [htn2]; exact Nat.zero_lt_succ _
  obtain ⟨b449, o450, ha451, xa453, xc454, xa457, xc458, c452, c456, r455, r459⟩ := Prs.get r448 hpr
  obtain ⟨tm, htm, htm2⟩ : ∃ tn, (G.forest G.synced)[1]? = some tn ∧ tn.2 = [([107], [u8of x1])] := ⟨_, by rw [ge3]; rfl, rfl⟩
  obtain ⟨b460, o461, ha462, xa464, xc465, xa468, xc469, c463, c467, r466, r470⟩ := Tns.get r430 htm
  obtain ⟨pq_, hpq_, hpq_2⟩ : ∃ pr, tm.2[0]? = some pr ∧ pr.2 = [u8of x1] := ⟨_, by rw [htm2]; rfl, rfl⟩
  have htm3 : 0 < tm.2.length := by rw [htm2]; exact Nat.zero_lt_succ _
  obtain ⟨b471, o472, ha473, xa475, xc476, xa479, xc480, c474, c478, r477, r481⟩ := Prs.get r470 hpq_
  obtain ⟨rfl, rfl⟩ : b438 = b460 ∧ o439 = o461 := by
   have e := ha440.symm.trans ha462; injection e with e; injection e with e1 e2; exact ⟨e1, e2⟩
  obtain ⟨S482, le483, hc484⟩ := St.freezeBlk S436 (i := 0) rfl
  generalize addF F421 w435 n432 = F485 at *
  refine region_hl S482 (by kernel_rfl) (fun w487 S486 => ?_)
  refine hl_take 0 rfl (by kernel_rfl) (v := bT) (fun _ _ _ h => h) S486.sat rfl (fun w488 hs489 => ex_move _) ?_
  simp only [pq]
  refine hl_take 1 rfl (by kernel_rfl) (v := bT) (fun _ _ _ h => h) S486.sat rfl (fun w490 hs491 => ex_move _) ?_
  simp only [pq]
  refine hl_take 2 rfl (by kernel_rfl) (v := (pP n432 1)) (fun _ _ _ h => h) S486.sat rfl (fun w492 hs493 => ef (fa_43_1 _ _)) ?_
  simp only [pq]
  refine hl_take 3 rfl (by kernel_rfl) (v := (nI G.synced)) (fun _ _ _ h => h) S486.sat rfl (fun w494 hs495 => ex_load rfl (load1 (nagg_3 _) (St.fz (St.start hs495) (hc484 1 _ rfl)))) ?_
  simp only [pq]
  refine hl_take 4 rfl (by kernel_rfl) (v := bT) (fun _ _ _ h => h) S486.sat rfl (fun w496 hs497 => ex_eql (m := ((G.synced : Nat) : Int)) (n := (2 : Int)) (b := true) rfl rfl (beq_iff_eq.2 (by omega))) ?_
  simp only [pq]
  refine hl_take 5 rfl (by kernel_rfl) (v := bT) (fun _ _ _ h => h) S486.sat rfl (fun w498 hs499 => ex_pick (b := true) rfl) ?_
  simp only [pq]
  refine hl_take 6 rfl (by kernel_rfl) (v := bT) (fun _ _ _ h => h) S486.sat rfl (fun w500 hs501 => ex_move _) ?_
  simp only [pq]
  refine hl_take 7 rfl (by kernel_rfl) (v := (pP n432 3)) (fun _ _ _ h => h) S486.sat rfl (fun w502 hs503 => ef (fa_43_3 _ _)) ?_
  simp only [pq]
  refine hl_take 8 rfl (by kernel_rfl) (v := (.slice a426 (G.forest G.synced).length c427)) (fun _ _ _ h => h) S486.sat rfl (fun w504 hs505 => ex_load rfl (load1 (nagg_24 _) (St.fz (St.start hs505) (hc484 3 _ rfl)))) ?_
  simp only [pq]
  refine hl_take 9 rfl (by kernel_rfl) (v := (.int .i64 (((G.forest G.synced).length : Nat) : Int))) (fun _ _ _ h => h) S486.sat rfl (fun w506 hs507 => ex_len Tryz.underlying24 rfl) ?_
  simp only [pq]
  refine hl_take 10 rfl (by kernel_rfl) (v := bT) (fun _ _ _ h => h) S486.sat rfl (fun w508 hs509 => ex_eql (m := (((G.forest G.synced).length : Nat) : Int)) (n := (2 : Int)) (b := true) rfl rfl (beq_iff_eq.2 (by omega))) ?_
  simp only [pq]
  refine hl_take 11 rfl (by kernel_rfl) (v := bT) (fun _ _ _ h => h) S486.sat rfl (fun w510 hs511 => ex_pick (b := true) rfl) ?_
  simp only [pq]
  refine hl_take 12 rfl (by kernel_rfl) (v := bT) (fun _ _ _ h => h) S486.sat rfl (fun w512 hs513 => ex_move _) ?_
  simp only [pq]
  refine hl_take 13 rfl (by kernel_rfl) (v := (pP n432 4)) (fun _ _ _ h => h) S486.sat rfl (fun w514 hs515 => ef (fa_43_4 _ _)) ?_
  simp only [pq]
  refine hl_take 14 rfl (by kernel_rfl) (v := (.slice a428 G.replies.length c429)) (fun _ _ _ h => h) S486.sat rfl (fun w516 hs517 => ex_load rfl (load1 (nagg_41 _) (St.fz (St.start hs517) (hc484 4 _ rfl)))) ?_
  simp only [pq]
  refine hl_take 15 rfl (by kernel_rfl) (v := (nI G.replies.length)) (fun _ _ _ h => h) S486.sat rfl (fun w518 hs519 => ex_len Tryz.underlying41 rfl) ?_
  simp only [pq]
  refine hl_take 16 rfl (by kernel_rfl) (v := bT) (fun _ _ _ h => h) S486.sat rfl (fun w520 hs521 => ex_eql (m := ((G.replies.length : Nat) : Int)) (n := (8 : Int)) (b := true) rfl rfl (beq_iff_eq.2 (by omega))) ?_
  simp only [pq]
  refine hl_take 17 rfl (by kernel_rfl) (v := bT) (fun _ _ _ h => h) S486.sat rfl (fun w522 hs523 => ex_pick (b := true) rfl) ?_
  simp only [pq]
  refine hl_take 18 rfl (by kernel_rfl) (v := bT) (fun _ _ _ h => h) S486.sat rfl (fun w524 hs525 => ex_move _) ?_
  simp only [pq]
  refine hl_take 19 rfl (by kernel_rfl) (v := (pP n432 3)) (fun _ _ _ h => h) S486.sat rfl (fun w526 hs527 => ef (fa_43_3 _ _)) ?_
  simp only [pq]
  refine hl_take 20 rfl (by kernel_rfl) (v := (.slice a426 (G.forest G.synced).length c427)) (fun _ _ _ h => h) S486.sat rfl (fun w528 hs529 => ex_load rfl (load1 (nagg_24 _) (St.fz (St.start hs529) (hc484 3 _ rfl)))) ?_
  simp only [pq]
  refine hl_take 21 rfl (by kernel_rfl) (v := (pP b438 (o439 + 0 * 2))) (fun _ _ _ h => h) S486.sat rfl (fun w530 hs531 => ex_at (i := 0) (sz := 2) Tryz.underlying24 (sizeof_66 _) rfl ha440 rfl (by omega) rfl) ?_
  simp only [pq]
  refine hl_take 22 rfl (by kernel_rfl) (v := (pP b438 (o439 + 0 * 2 + 1))) (fun _ _ _ h => h) S486.sat rfl (fun w532 hs533 => ef (fa_66_1 _ _)) ?_
  simp only [pq]
  refine hl_take 23 rfl (by kernel_rfl) (v := (.slice xa446 tn.2.length xc447)) (fun _ _ _ h => h) S486.sat rfl (fun w534 hs535 => ex_load rfl (load1 (nagg_47 _) (St.fz (St.start hs535) (Le.cell le483 c445)))) ?_
  simp only [pq]
  refine hl_take 24 rfl (by kernel_rfl) (v := (pP b449 (o450 + 0 * 2))) (fun _ _ _ h => h) S486.sat rfl (fun w536 hs537 => ex_at (i := 0) (sz := 2) Tryz.underlying47 (sizeof_50 _) rfl ha451 rfl (by omega) rfl) ?_
  simp only [pq]
  refine hl_take 25 rfl (by kernel_rfl) (v := (pP b449 (o450 + 0 * 2 + 1))) (fun _ _ _ h => h) S486.sat rfl (fun w538 hs539 => ef (fa_50_1 _ _)) ?_
  simp only [pq]
  refine hl_take 26 rfl (by kernel_rfl) (v := (.slice xa457 pr.2.length xc458)) (fun _ _ _ h => h) S486.sat rfl (fun w540 hs541 => ex_load rfl (load1 (nagg_25 _) (St.fz (St.start hs541) (Le.cell le483 c456)))) ?_
  simp only [pq]
  refine hl_take 27 rfl (by kernel_rfl) (v := (.string ⟨pr.2.toArray⟩)) (fun _ _ _ h => h) S486.sat rfl (fun w542 hs543 => ex_convert (v := (.slice xa457 pr.2.length xc458)) rfl (run_string Tryz.underlying25 Tryz.underlying5 Tryz.underlying9 ((St.start hs543)).sat (r459.mono le483))) ?_
  simp only [pq]
  refine hl_take 28 rfl (by kernel_rfl) (v := (.int .i64 x0)) (fun _ _ _ h => h) S486.sat rfl (fun w544 hs545 => ex_move _) ?_
  simp only [pq]
  refine hl_take 29 rfl (by kernel_rfl) (v := (.int .u8 (((u8of x0).toNat : Nat) : Int))) (fun _ _ _ h => h) S486.sat rfl (fun w546 hs547 => ex_convert (v := (.int .i64 x0)) rfl (conv_u8 x0 _)) ?_
  simp only [pq]
  refine hl_next 30 (by kernel_rfl) rfl ?_
  refine stNew S486 (v := fun n => .slice (aA n 0) 1 1) rfl (ex_lit (ps := #[(0, (.int .u8 (((u8of x0).toNat : Nat) : Int)))]) (cells := #[(.int .u8 (((u8of x0).toNat : Nat) : Int))]) (E := 5) (bmap1 rfl) (fun w => by kernel_rfl)) (fun n548 w549 S550 => ?_)
  refine wl_nil (hl_back S550.sat ?_)
  refine hl_next 31 (by kernel_rfl) rfl ?_
  obtain ⟨S553, le554, hc555⟩ := St.freezeBlk S550 (i := 0) rfl
  have r557 : Bs _ (.slice (some ⟨n548, 0, none⟩) 1 1) ([u8of x0] : By) := bs_of_block (l := ([u8of x0] : By)) hc555 (rfl) (by unfold maxLen; simp)
  generalize addF F485 w549 n548 = F556 at *
  refine dr (.string ⟨([u8of x0] : By).toArray⟩) (ex_convert (v := (.slice (aA n548 0) 1 1)) rfl (run_string Tryz.underlying25 Tryz.underlying5 Tryz.underlying9 (S553).sat r557)) ?_
  refine wl_nil (hl_back (Sat.le S553.sat le554) ?_)
  refine hl_take 32 rfl (by kernel_rfl) (v := bT) (fun _ _ _ h => h) (Sat.le S553.sat le554) rfl (fun w558 hs559 => ex_strop (op := .eql) (l := pr.2) (m := ([u8of x0] : By)) (b := true) (by simp) rfl rfl (by rw [hpr2]; exact beq_self_eq_true _)) ?_
  simp only [pq]
  refine hl_take 33 rfl (by kernel_rfl) (v := bT) (fun _ _ _ h => h) (Sat.le S553.sat le554) rfl (fun w560 hs561 => ex_pick (b := true) rfl) ?_
  simp only [pq]
  refine hl_take 34 rfl (by kernel_rfl) (v := bT) (fun _ _ _ h => h) (Sat.le S553.sat le554) rfl (fun w562 hs563 => ex_move _) ?_
  simp only [pq]
  refine hl_take 35 rfl (by kernel_rfl) (v := (pP n432 3)) (fun _ _ _ h => h) (Sat.le S553.sat le554) rfl (fun w564 hs565 => ef (fa_43_3 _ _)) ?_
  simp only [pq]
  refine hl_take 36 rfl (by kernel_rfl) (v := (.slice a426 (G.forest G.synced).length c427)) (fun _ _ _ h => h) (Sat.le S553.sat le554) rfl (fun w566 hs567 => ex_load rfl (load1 (nagg_24 _) (St.fz (St.start hs567) (hc484 3 _ rfl)))) ?_
  simp only [pq]
  refine hl_take 37 rfl (by kernel_rfl) (v := (pP b438 (o439 + 1 * 2))) (fun _ _ _ h => h) (Sat.le S553.sat le554) rfl (fun w568 hs569 => ex_at (i := 1) (sz := 2) Tryz.underlying24 (sizeof_66 _) rfl ha440 rfl (by omega) rfl) ?_
  simp only [pq]
  refine hl_take 38 rfl (by kernel_rfl) (v := (pP b438 (o439 + 1 * 2 + 1))) (fun _ _ _ h => h) (Sat.le S553.sat le554) rfl (fun w570 hs571 => ef (fa_66_1 _ _)) ?_
  simp only [pq]
  refine hl_take 39 rfl (by kernel_rfl) (v := (.slice xa468 tm.2.length xc469)) (fun _ _ _ h => h) (Sat.le S553.sat le554) rfl (fun w572 hs573 => ex_load rfl (load1 (nagg_47 _) (St.fz (St.start hs573) (Le.cell le483 c467)))) ?_
  simp only [pq]
  refine hl_take 40 rfl (by kernel_rfl) (v := (pP b471 (o472 + 0 * 2))) (fun _ _ _ h => h) (Sat.le S553.sat le554) rfl (fun w574 hs575 => ex_at (i := 0) (sz := 2) Tryz.underlying47 (sizeof_50 _) rfl ha473 rfl (by omega) rfl) ?_
  simp only [pq]
  refine hl_take 41 rfl (by kernel_rfl) (v := (pP b471 (o472 + 0 * 2 + 1))) (fun _ _ _ h => h) (Sat.le S553.sat le554) rfl (fun w576 hs577 => ef (fa_50_1 _ _)) ?_
  simp only [pq]
  refine hl_take 42 rfl (by kernel_rfl) (v := (.slice xa479 pq_.2.length xc480)) (fun _ _ _ h => h) (Sat.le S553.sat le554) rfl (fun w578 hs579 => ex_load rfl (load1 (nagg_25 _) (St.fz (St.start hs579) (Le.cell le483 c478)))) ?_
  simp only [pq]
  refine hl_take 43 rfl (by kernel_rfl) (v := (.string ⟨pq_.2.toArray⟩)) (fun _ _ _ h => h) (Sat.le S553.sat le554) rfl (fun w580 hs581 => ex_convert (v := (.slice xa479 pq_.2.length xc480)) rfl (run_string Tryz.underlying25 Tryz.underlying5 Tryz.underlying9 ((St.start hs581)).sat (r481.mono le483))) ?_
  simp only [pq]
  refine hl_take 44 rfl (by kernel_rfl) (v := (.int .i64 x1)) (fun _ _ _ h => h) (Sat.le S553.sat le554) rfl (fun w582 hs583 => ex_move _) ?_
  simp only [pq]
  refine hl_take 45 rfl (by kernel_rfl) (v := (.int .u8 (((u8of x1).toNat : Nat) : Int))) (fun _ _ _ h => h) (Sat.le S553.sat le554) rfl (fun w584 hs585 => ex_convert (v := (.int .i64 x1)) rfl (conv_u8 x1 _)) ?_
  simp only [pq]
  refine hl_next 46 (by kernel_rfl) rfl ?_
  refine stNew S553 (v := fun n => .slice (aA n 0) 1 1) rfl (ex_lit (ps := #[(0, (.int .u8 (((u8of x1).toNat : Nat) : Int)))]) (cells := #[(.int .u8 (((u8of x1).toNat : Nat) : Int))]) (E := 5) (bmap1 rfl) (fun w => by kernel_rfl)) (fun n586 w587 S588 => ?_)
  refine wl_nil (hl_back (Sat.le S588.sat le554) ?_)
  refine hl_next 47 (by kernel_rfl) rfl ?_
  obtain ⟨S591, le592, hc593⟩ := St.freezeBlk S588 (i := 0) rfl
  have r595 : Bs _ (.slice (some ⟨n586, 0, none⟩) 1 1) ([u8of x1] : By) := bs_of_block (l := ([u8of x1] : By)) hc593 (rfl) (by unfold maxLen; simp)
  generalize addF F556 w587 n586 = F594 at *
  refine dr (.string ⟨([u8of x1] : By).toArray⟩) (ex_convert (v := (.slice (aA n586 0) 1 1)) rfl (run_string Tryz.underlying25 Tryz.underlying5 Tryz.underlying9 (S591).sat r595)) ?_
  refine wl_nil (hl_back (Sat.le S591.sat (le554.trans le592)) ?_)
  refine hl_take 48 rfl (by kernel_rfl) (v := bT) (fun _ _ _ h => h) (Sat.le S591.sat (le554.trans le592)) rfl (fun w596 hs597 => ex_strop (op := .eql) (l := pq_.2) (m := ([u8of x1] : By)) (b := true) (by simp) rfl rfl (by rw [hpq_2]; exact beq_self_eq_true _)) ?_
  simp only [pq]
  refine hl_take 49 rfl (by kernel_rfl) (v := bT) (fun _ _ _ h => h) (Sat.le S591.sat (le554.trans le592)) rfl (fun w598 hs599 => ex_pick (b := true) rfl) ?_
  simp only [pq]
  refine hl_take 50 rfl (by kernel_rfl) (v := bT) (fun _ _ _ h => h) (Sat.le S591.sat (le554.trans le592)) rfl (fun w600 hs601 => ex_assign _) ?_
  simp only [pq]
  refine hl_done (by kernel_rfl) ?_
  refine hK437 _ _ ?_
  refine wp_ret ?_
  (try simp only [Exit.then, Exit.inBlock, ↓reduceIte, Nat.reduceEqDiff])
  refine bR (res_t rfl (gD rfl)) ?_
  ·exact ⟨rfl, S591.gr.below⟩
end Go.Proofs.YtilgpdpooildcaaGreatDoor
