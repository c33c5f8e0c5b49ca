/- The walk of TopOwn -/
import Derived.Test.YtilgpdpooildcaaGreatDoorBT12
import Derived.Test.YtilgpdpooildcaaGreatDoorBT2
namespace Go.Proofs.YtilgpdpooildcaaGreatDoor
set_option maxHeartbeats 8000000
open Go.RowKit
set_option maxRecDepth 100000
set_option linter.unusedVariables false
set_option linter.unusedSimpArgs false
theorem topOwn_walk (W : World) (hT : Has W ∧ Tabs W) (x0 : Int) (z1 : Bool) :
    Calls Tryz.prog 17 #[.int .i64 x0, .bool z1] W (Tells W (.bool true)) := by
 obtain ⟨i33, hi33, hz33, hs33, hb33⟩ := info_parts info_33
 have S := St.start (Sat.whole W)
 go_enter Tryz.func17, Tryz.ntmps17
 refine sk fun K101 hK101 => ?_
 refine dy ?_
 refine wn hK101 ?_
 refine sk fun K102 hK102 => ?_
 refine stNew S (v := fun n => .slice (aA n 0) 1 1) rfl (ex_lit (ps := #[(0, (.int .u8 111))]) (cells := #[(.int .u8 111)]) (E := 5) (bmap1 rfl) (fun w => by kernel_rfl)) (fun n103 w104 S105 => ?_)
 refine dy ?_
 refine wn hK102 ?_
 refine sk fun K106 hK106 => ?_
 refine stNew S105 (v := fun n => .slice (aA n 0) 1 1) rfl (ex_lit (ps := #[(0, (.int .u8 107))]) (cells := #[(.int .u8 107)]) (E := 5) (bmap1 rfl) (fun w => by kernel_rfl)) (fun n107 w108 S109 => ?_)
 simp only [pq]
 refine dy ?_
 refine wn hK106 ?_
 refine sk fun K110 hK110 => ?_
 iterate 3 refine dx ?_
 simp only [pq]
 refine dr (.int .u8 (((u8of x0).toNat : Nat) : Int)) (ex_convert (v := (.int .i64 x0)) rfl (conv_u8 x0 _)) ?_
 refine stNew S109 (v := fun n => .slice (aA n 0) 1 1) rfl (ex_lit (ps := #[(0, (.int .u8 (((u8of x0).toNat : Nat) : Int)))]) (cells := #[(.int .u8 (((u8of x0).toNat : Nat) : Int))]) (E := 5) (bmap1 rfl) (fun w => by kernel_rfl)) (fun n111 w112 S113 => ?_)
 refine dr (.agg #[(iI 4), (.slice (aA n103 0) 1 1), (.slice (aA n107 0) 1 1), Zn, (.slice (aA n111 0) 1 1)]) (ex_build (bmap4 rfl rfl rfl rfl) (by kernel_rfl)) ?_
 refine sA S113 (zero_27 _) fun n114 w115 S116 => ?_
 simp only [pq]
 refine sW 0 S116 (size_27) fun w117 S118 => ?_
 refine wn hK110 ?_
 refine wp_seq_k (fun K119 hK119 => ?_)
 obtain ⟨S120, le121, hc122⟩ := St.freezeBlk S118 (i := 1) rfl
 have r124 : Bs _ (.slice (some ⟨n111, 0, none⟩) 1 1) ([u8of x0] : By) := bs_of_block (l := ([u8of x0] : By)) hc122 (rfl) (by unfold maxLen; simp)
 generalize addF (whole W) w117 n111 = F123 at *
 obtain ⟨S125, le126, hc127⟩ := St.freezeBlk S120 (i := 1) rfl
 have r129 : Bs _ (.slice (some ⟨n107, 0, none⟩) 1 1) ([107] : By) := bs_of_block (l := ([107] : By)) hc127 (rfl) (by unfold maxLen; simp)
 generalize addF F123 w117 n107 = F128 at *
 obtain ⟨S130, le131, hc132⟩ := St.freezeBlk S125 (i := 1) rfl
 have r134 : Bs _ (.slice (some ⟨n103, 0, none⟩) 1 1) ([111] : By) := bs_of_block (l := ([111] : By)) hc132 (rfl) (by unfold maxLen; simp)
 generalize addF F128 w117 n103 = F133 at *
 have hJ141 : ∀ (a138 : Act) (w137 : World), (∃ (e0 : Option Addr) (g0 : Nat) (e1 : Option Addr) (g1 : Nat) (e2 : Option Addr) (g2 : Nat) (e3 : Option Addr) (g3 : Nat) (F135 : Fz) (u136 : Nat → Value), u136 = slots a138 ∧ a138 = ⟨#[(.int .i64 x0), (.bool z1), undef, undef, (.bool false), (.slice (some ⟨n103, 0, none⟩) 1 1), (.slice (some ⟨n107, 0, none⟩) 1 1), (.pointer (some ⟨n114, 0, none⟩)), undef, undef, undef, undef, undef, (.slice (some ⟨n103, 0, none⟩) 1 1), (.slice (some ⟨n107, 0, none⟩) 1 1), (.slice (some ⟨n103, 0, none⟩) 1 1), (.slice (some ⟨n107, 0, none⟩) 1 1), (.int .i64 x0), (.int .u8 (((u8of x0).toNat : Nat) : Int)), (.slice (some ⟨n111, 0, none⟩) 1 1), (.agg #[(.int .i64 4), (.slice (some ⟨n103, 0, none⟩) 1 1), (.slice (some ⟨n107, 0, none⟩) 1 1), (.slice none 0 0), (.slice (some ⟨n111, 0, none⟩) 1 1)]), (u136 21), (u136 22), (u136 23), (u136 24), undef, undef, undef, undef, undef, undef, undef, undef, undef, undef, undef, undef, undef, undef, undef, undef, undef, undef, undef, undef, undef, undef, undef, undef, undef, undef, undef, undef, undef, undef, undef, undef, undef, undef, undef, undef, undef, undef, undef, undef, undef, undef, undef, undef, undef, undef, undef, undef, undef, undef, undef, undef, undef, undef, undef, undef, undef, undef, undef, undef, undef, undef, undef, undef, undef, undef, undef, undef, undef, undef, undef, undef, undef, undef, undef, undef, undef, undef, undef, undef, undef, undef, undef, undef, undef, undef, undef, undef, undef, undef, undef, undef], []⟩ ∧ St W (whole W) w137 F135 [⟨n114, [(.int .i64 (((ownQ (u8of x0) z1).1 : Nat) : Int)), (.slice e0 (ownQ (u8of x0) z1).2.name.length g0), (.slice e1 (ownQ (u8of x0) z1).2.key.length g1), (.slice e2 (ownQ (u8of x0) z1).2.last.length g2), (.slice e3 (ownQ (u8of x0) z1).2.value.length g3)], 27⟩] [] ∧ Le F133 F135 ∧ (Bs F135 (.slice e0 (ownQ (u8of x0) z1).2.name.length g0) (ownQ (u8of x0) z1).2.name) ∧ (Bs F135 (.slice e1 (ownQ (u8of x0) z1).2.key.length g1) (ownQ (u8of x0) z1).2.key) ∧ (Bs F135 (.slice e2 (ownQ (u8of x0) z1).2.last.length g2) (ownQ (u8of x0) z1).2.last) ∧ (Bs F135 (.slice e3 (ownQ (u8of x0) z1).2.value.length g3) (ownQ (u8of x0) z1).2.value)) → K119 a138 w137 := by
  rintro a138 w137 ⟨e0, g0, e1, g1, e2, g2, e3, g3, F135, u136, -, rfl, S139, le140, hf0, hf1, hf2, hf3⟩
  refine hK119 _ _ ?_
  refine wp_seq_k (fun K142 hK142 => ?_)
  obtain ⟨S143, le144, hc145⟩ := St.freezeBlk S139 (i := 0) rfl
  generalize addF F135 w137 n114 = F146 at *
  refine region_gw F146 18 [(1, .made (fun F' u => AcV F' u (Ac.ask 0 (encQ 1 (⟨[], [], [], []⟩ : Rq))))), (4, .made (fun F' u => Bs F' u [7])), (5, .made (fun F' u => ReqR F' u ((4, (⟨([111] : By), ([107] : By), [], [7]⟩ : Rq)) : Nat × Rq))), (6, .made (fun F' u => AcV F' u (Ac.ask 0 (encQ 4 (⟨([111] : By), ([107] : By), [], [7]⟩ : Rq))))), (8, .made (fun F' u => AcV F' u (Ac.ask 0 (encQ ((ownQ (u8of x0) z1).1) (ownQ (u8of x0) z1).2)))), (12, .made (fun F' u => AcV F' u (Ac.ask 0 (encQ 2 (⟨([111] : By), ([107] : By), [], []⟩ : Rq))))), (14, .made (fun F' u => Bs F' u [97])), (15, .made (fun F' u => Bs F' u [122])), (16, .made (fun F' u => ReqR F' u ((3, (⟨([111] : By), [97], [122], []⟩ : Rq)) : Nat × Rq))), (17, .made (fun F' u => AcV F' u (Ac.ask 0 (encQ 3 (⟨([111] : By), [97], [122], []⟩ : Rq)))))] (by kernel_rfl) (by kernel_rfl) ?_
  simp only [List.take_succ_cons, List.take_zero]
  refine gv (.agg #[(iI 1), Zn, Zn, Zn, Zn]) (fun _ _ => ex_build (ps := #[(0, (iI 1))]) (bmap1 rfl) (by kernel_rfl)) ?_
  simp only [pq]
  refine gw_rel rfl rfl (fun w147 C147 hF => does_call (ex_fn (vs := #[(iI 0), (.agg #[(iI 1), Zn, Zn, Zn, Zn])]) (map2 rfl rfl) rfl (ent_21 _ _)) (call_made S143.sat C147 (topAsk_spec _ _ _ 0 1 (⟨[], [], [], []⟩ : Rq) ((St.tells S143 C147)).sat (hT.1.below (St.tells S143 C147).gr.below) ⟨_, _, _, _, rfl, (Bs.nil _), (Bs.nil _), (Bs.nil _), (Bs.nil _)⟩ ⟨by decide, by kernel_rfl⟩))) (fun v148 => ?_)
  iterate 2 refine gm ?_
  simp only [pq]
  refine gw_rel rfl rfl (fun w147 C147 _ => does_byte (b := 7) (Gr.of_below S143.sat C147) (ex_lit (ps := #[(0, (.int .u8 7))]) (cells := #[(.int .u8 7)]) (E := 5) (bmap1 rfl) (fun w => by kernel_rfl))) (fun v149 => ?_)
  simp only [pq]
  refine gw_rel rfl rfl (fun w147 C147 hF_ => ?_) (fun v150 => ?_)
  ·obtain ⟨F151, g152, R153⟩ := hF_.get 4 (by kernel_rfl) rfl rfl
   have hR1 := ((r134.mono (le140.trans le144)).mono (g152.le S143.sat))
   have hR2 := ((r129.mono ((le131.trans le140).trans le144)).mono (g152.le S143.sat))
   have hR4 := R153
   obtain ⟨xa156, xc157, rfl, _⟩ := hR4.shape
   have hR3 := Bs.nil F151
   exact does_val (ex_build (bmap4 rfl rfl rfl rfl) (by kernel_rfl)) ⟨F151, g152, ⟨_, _, _, _, _, _, _, _, rfl, hR1, hR2, hR3, hR4⟩⟩ (Below.refl _ _)
  simp only [pq]
  refine gw_rel rfl rfl (fun w147 C147 hF_ => ?_) (fun v173 => ?_)
  ·obtain ⟨F158, g159, R160⟩ := hF_.get 5 (by kernel_rfl) rfl rfl
   obtain ⟨xa161, xc162, xa163, xc164, xa165, xc166, xa167, xc168, rfl, r169, r170, r171, r172⟩ := R160
   exact does_call (ex_fn (vs := #[(.int .i64 0), (.agg #[(.int .i64 4), (.slice xa161 ([111] : By).length xc162), (.slice xa163 ([107] : By).length xc164), (.slice xa165 [].length xc166), (.slice xa167 [7].length xc168)])]) (map2 rfl rfl) rfl (ent_21 _ _)) (call_made2 g159 (topAsk_spec _ _ _ 0 4 (⟨([111] : By), ([107] : By), [], [7]⟩ : Rq) (g159).sat ((hT.1.below S143.gr.below).below g159.below) ⟨_, _, _, _, rfl, r169, r170, r171, r172⟩ ⟨by decide, by kernel_rfl⟩))
  refine gv _ (fun _ C147 => ex_load rfl (loadM Tryz.underlying27 rfl (size_27) (rangeF (c := [(.int .i64 (((ownQ (u8of x0) z1).1 : Nat) : Int)), (.slice e0 (ownQ (u8of x0) z1).2.name.length g0), (.slice e1 (ownQ (u8of x0) z1).2.key.length g1), (.slice e2 (ownQ (u8of x0) z1).2.last.length g2), (.slice e3 (ownQ (u8of x0) z1).2.value.length g3)]) (St.tells S143 C147).sat hc145))) ?_
  simp only [pq]
  refine gw_rel rfl rfl (fun w147 C147 hF => does_call (ex_fn (vs := #[(iI 0), (.agg #[(.int .i64 (((ownQ (u8of x0) z1).1 : Nat) : Int)), (.slice e0 (ownQ (u8of x0) z1).2.name.length g0), (.slice e1 (ownQ (u8of x0) z1).2.key.length g1), (.slice e2 (ownQ (u8of x0) z1).2.last.length g2), (.slice e3 (ownQ (u8of x0) z1).2.value.length g3)])]) (map2 rfl rfl) rfl (ent_21 _ _)) (call_made S143.sat C147 (topAsk_spec _ _ _ 0 ((ownQ (u8of x0) z1).1) (ownQ (u8of x0) z1).2 ((St.tells S143 C147)).sat (hT.1.below (St.tells S143 C147).gr.below) ⟨_, _, _, _, rfl, (hf0.mono le144), (hf1.mono le144), (hf2.mono le144), (hf3.mono le144)⟩ (ownQ_ok _ z1)))) (fun v174 => ?_)
  iterate 2 refine gm ?_
  refine gv (.agg #[(iI 2), (.slice (aA n103 0) 1 1), (.slice (aA n107 0) 1 1), Zn, Zn]) (fun _ _ => ex_build (ps := #[(0, (iI 2)), (1, (.slice (aA n103 0) 1 1)), (2, (.slice (aA n107 0) 1 1))]) (bmap3 rfl rfl rfl) (by kernel_rfl)) ?_
  simp only [pq]
  refine gw_rel rfl rfl (fun w147 C147 hF => does_call (ex_fn (vs := #[(iI 0), (.agg #[(iI 2), (.slice (aA n103 0) 1 1), (.slice (aA n107 0) 1 1), Zn, Zn])]) (map2 rfl rfl) rfl (ent_21 _ _)) (call_made S143.sat C147 (topAsk_spec _ _ _ 0 2 (⟨([111] : By), ([107] : By), [], []⟩ : Rq) ((St.tells S143 C147)).sat (hT.1.below (St.tells S143 C147).gr.below) ⟨_, _, _, _, rfl, (r134.mono (le140.trans le144)), (r129.mono ((le131.trans le140).trans le144)), (Bs.nil _), (Bs.nil _)⟩ ⟨by decide, by kernel_rfl⟩))) (fun v175 => ?_)
  refine gm ?_
  simp only [pq]
  refine gw_rel rfl rfl (fun w147 C147 _ => does_byte (b := 97) (Gr.of_below S143.sat C147) (ex_lit (ps := #[(0, (.int .u8 97))]) (cells := #[(.int .u8 97)]) (E := 5) (bmap1 rfl) (fun w => by kernel_rfl))) (fun v176 => ?_)
  simp only [pq]
  refine gw_rel rfl rfl (fun w147 C147 _ => does_byte (b := 122) (Gr.of_below S143.sat C147) (ex_lit (ps := #[(0, (.int .u8 122))]) (cells := #[(.int .u8 122)]) (E := 5) (bmap1 rfl) (fun w => by kernel_rfl))) (fun v177 => ?_)
  simp only [pq]
  refine gw_rel rfl rfl (fun w147 C147 hF_ => ?_) (fun v178 => ?_)
  ·obtain ⟨F179, g180, R181⟩ := hF_.get 14 (by kernel_rfl) rfl rfl
   obtain ⟨F184, g185, R186⟩ := hF_.get 15 (by kernel_rfl) rfl rfl
   have hR1 := ((r134.mono (le140.trans le144)).mono ((g180.both g185).le S143.sat))
   have hR2 := (R181.mono (both_left F179 F184))
   obtain ⟨xa189, xc190, rfl, _⟩ := hR2.shape
   have hR3 := (R186.mono (both_right g180.sat g185.sat))
   obtain ⟨xa191, xc192, rfl, _⟩ := hR3.shape
   have hR4 := Bs.nil (both F179 F184)
   exact does_val (ex_build (bmap4 rfl rfl rfl rfl) (by kernel_rfl)) ⟨(both F179 F184), (g180.both g185), ⟨_, _, _, _, _, _, _, _, rfl, hR1, hR2, hR3, hR4⟩⟩ (Below.refl _ _)
  simp only [pq]
  refine gw_rel rfl rfl (fun w147 C147 hF_ => ?_) (fun v208 => ?_)
  ·obtain ⟨F193, g194, R195⟩ := hF_.get 16 (by kernel_rfl) rfl rfl
   obtain ⟨xa196, xc197, xa198, xc199, xa200, xc201, xa202, xc203, rfl, r204, r205, r206, r207⟩ := R195
   exact does_call (ex_fn (vs := #[(.int .i64 0), (.agg #[(.int .i64 3), (.slice xa196 ([111] : By).length xc197), (.slice xa198 [97].length xc199), (.slice xa200 [122].length xc201), (.slice xa202 [].length xc203)])]) (map2 rfl rfl) rfl (ent_21 _ _)) (call_made2 g194 (topAsk_spec _ _ _ 0 3 (⟨([111] : By), [97], [122], []⟩ : Rq) (g194).sat ((hT.1.below S143.gr.below).below g194.below) ⟨_, _, _, _, rfl, r204, r205, r206, r207⟩ ⟨by decide, by kernel_rfl⟩))
  refine gw_nil ?_
  intro w209 hC211 hF212
  obtain ⟨F213, g214, R215⟩ := hF212.get 1 rfl rfl
  obtain ⟨F216, g217, R218⟩ := hF212.get 6 rfl rfl
  obtain ⟨F219, g220, R221⟩ := hF212.get 8 rfl rfl
  obtain ⟨F222, g223, R224⟩ := hF212.get 12 rfl rfl
  obtain ⟨F225, g226, R227⟩ := hF212.get 17 rfl rfl
  have S210 := St.gives S143 ((((g214.both g217).both g220).both g223).both g226)
  have le229 : Le _ _ := ((((g214.both g217).both g220).both g223).both g226).le S143.sat
  have R230 := (R215.mono ((((both_left F213 F216).trans (both_left (both F213 F216) F219)).trans (both_left (both (both F213 F216) F219) F222)).trans (both_left (both (both (both F213 F216) F219) F222) F225)))
  have R231 := (R218.mono ((((both_right g214.sat g217.sat).trans (both_left (both F213 F216) F219)).trans (both_left (both (both F213 F216) F219) F222)).trans (both_left (both (both (both F213 F216) F219) F222) F225)))
  have R232 := (R221.mono (((both_right (g214.both g217).sat g220.sat).trans (both_left (both (both F213 F216) F219) F222)).trans (both_left (both (both (both F213 F216) F219) F222) F225)))
  have R233 := (R224.mono ((both_right ((g214.both g217).both g220).sat g223.sat).trans (both_left (both (both (both F213 F216) F219) F222) F225)))
  have R234 := (R227.mono (both_right (((g214.both g217).both g220).both g223).sat g226.sat))
  generalize (both (both (both (both F213 F216) F219) F222) F225) = F228 at *
  obtain ⟨xa235, xc236, rfl, r237⟩ := R230
  have r237 : Bs _ (.slice xa235 (encQ 1 (⟨[], [], [], []⟩ : Rq)).length xc236) (encQ 1 (⟨[], [], [], []⟩ : Rq)) := r237
  obtain ⟨xa238, xc239, rfl, r240⟩ := R231
  have r240 : Bs _ (.slice xa238 (encQ 4 (⟨([111] : By), ([107] : By), [], [7]⟩ : Rq)).length xc239) (encQ 4 (⟨([111] : By), ([107] : By), [], [7]⟩ : Rq)) := r240
  obtain ⟨xa241, xc242, rfl, r243⟩ := R232
  have r243 : Bs _ (.slice xa241 (encQ ((ownQ (u8of x0) z1).1) (ownQ (u8of x0) z1).2).length xc242) (encQ ((ownQ (u8of x0) z1).1) (ownQ (u8of x0) z1).2) := r243
  obtain ⟨xa244, xc245, rfl, r246⟩ := R233
  have r246 : Bs _ (.slice xa244 (encQ 2 (⟨([111] : By), ([107] : By), [], []⟩ : Rq)).length xc245) (encQ 2 (⟨([111] : By), ([107] : By), [], []⟩ : Rq)) := r246
  obtain ⟨xa247, xc248, rfl, r249⟩ := R234
  have r249 : Bs _ (.slice xa247 (encQ 3 (⟨([111] : By), [97], [122], []⟩ : Rq)).length xc248) (encQ 3 (⟨([111] : By), [97], [122], []⟩ : Rq)) := r249
  clear hF212
  simp only [List.drop_succ_cons, List.drop_zero]
  refine stNew S210 (v := fun n => .slice (aA n 0) 5 5) rfl (ex_lit (ps := #[(0, (.agg #[(iI 1), (iI 0), (iI 0), (.slice xa235 (encQ 1 (⟨[], [], [], []⟩ : Rq)).length xc236)])), (1, (.agg #[(iI 1), (iI 0), (iI 0), (.slice xa238 (encQ 4 (⟨([111] : By), ([107] : By), [], [7]⟩ : Rq)).length xc239)])), (2, (.agg #[(iI 1), (iI 0), (iI 0), (.slice xa241 (encQ ((ownQ (u8of x0) z1).1) (ownQ (u8of x0) z1).2).length xc242)])), (3, (.agg #[(iI 1), (iI 0), (iI 0), (.slice xa244 (encQ 2 (⟨([111] : By), ([107] : By), [], []⟩ : Rq)).length xc245)])), (4, (.agg #[(iI 1), (iI 0), (iI 0), (.slice xa247 (encQ 3 (⟨([111] : By), [97], [122], []⟩ : Rq)).length xc248)]))]) (cells := #[(iI 1), (iI 0), (iI 0), (.slice xa235 (encQ 1 (⟨[], [], [], []⟩ : Rq)).length xc236), (iI 1), (iI 0), (iI 0), (.slice xa238 (encQ 4 (⟨([111] : By), ([107] : By), [], [7]⟩ : Rq)).length xc239), (iI 1), (iI 0), (iI 0), (.slice xa241 (encQ ((ownQ (u8of x0) z1).1) (ownQ (u8of x0) z1).2).length xc242), (iI 1), (iI 0), (iI 0), (.slice xa244 (encQ 2 (⟨([111] : By), ([107] : By), [], []⟩ : Rq)).length xc245), (iI 1), (iI 0), (iI 0), (.slice xa247 (encQ 3 (⟨([111] : By), [97], [122], []⟩ : Rq)).length xc248)]) (E := 33) (bmap5 rfl rfl rfl rfl rfl) (fun w => by kernel_rfl)) (fun n250 w251 S252 => ?_)
  simp only [pq]
  refine dy ?_
  refine wl_nil (hK142 _ _ ?_)
  refine wp_seq_k (fun K253 hK253 => ?_)
  have S254 : St W (whole W) w251 F228 [] [ownP 4 AcC AcC.mono 33 W.heap.size (.slice (aA n250 0) 5 5) [(Ac.ask 0 (encQ 1 (⟨[], [], [], []⟩ : Rq))), (Ac.ask 0 (encQ 4 (⟨([111] : By), ([107] : By), [], [7]⟩ : Rq))), (Ac.ask 0 (encQ ((ownQ (u8of x0) z1).1) (ownQ (u8of x0) z1).2)), (Ac.ask 0 (encQ 2 (⟨([111] : By), ([107] : By), [], []⟩ : Rq))), (Ac.ask 0 (encQ 3 (⟨([111] : By), [97], [122], []⟩ : Rq)))]] := St.blkRow (k := 4) (cap := 5) (hR := AcC.mono) (l := ([(Ac.ask 0 (encQ 1 (⟨[], [], [], []⟩ : Rq))), (Ac.ask 0 (encQ 4 (⟨([111] : By), ([107] : By), [], [7]⟩ : Rq))), (Ac.ask 0 (encQ ((ownQ (u8of x0) z1).1) (ownQ (u8of x0) z1).2)), (Ac.ask 0 (encQ 2 (⟨([111] : By), ([107] : By), [], []⟩ : Rq))), (Ac.ask 0 (encQ 3 (⟨([111] : By), [97], [122], []⟩ : Rq)))] : List Ac)) (el := [[(iI 1), (iI 0), (iI 0), (.slice xa235 (encQ 1 (⟨[], [], [], []⟩ : Rq)).length xc236)], [(iI 1), (iI 0), (iI 0), (.slice xa238 (encQ 4 (⟨([111] : By), ([107] : By), [], [7]⟩ : Rq)).length xc239)], [(iI 1), (iI 0), (iI 0), (.slice xa241 (encQ ((ownQ (u8of x0) z1).1) (ownQ (u8of x0) z1).2).length xc242)], [(iI 1), (iI 0), (iI 0), (.slice xa244 (encQ 2 (⟨([111] : By), ([107] : By), [], []⟩ : Rq)).length xc245)], [(iI 1), (iI 0), (iI 0), (.slice xa247 (encQ 3 (⟨([111] : By), [97], [122], []⟩ : Rq)).length xc248)]]) S252 rfl ⟨⟨_, rfl, r237⟩, ⟨_, rfl, r240⟩, ⟨_, rfl, r243⟩, ⟨_, rfl, r246⟩, ⟨_, rfl, r249⟩, trivial⟩ (by simp) rfl (by simp) (by unfold maxLen; decide) (S252.blk _ (List.mem_cons_self ..)).2.2
  refine region_wl ?_
  refine dx ?_
  simp only [pq]
  obtain ⟨G, h1, ge1, ge2, ge3, ge4⟩ : ∃ G, (ScrOk ([(Ac.ask 0 (encQ 1 (⟨[], [], [], []⟩ : Rq))), (Ac.ask 0 (encQ 4 (⟨([111] : By), ([107] : By), [], [7]⟩ : Rq))), (Ac.ask 0 (encQ ((ownQ (u8of x0) z1).1) (ownQ (u8of x0) z1).2)), (Ac.ask 0 (encQ 2 (⟨([111] : By), ([107] : By), [], []⟩ : Rq))), (Ac.ask 0 (encQ 3 (⟨([111] : By), [97], [122], []⟩ : Rq)))]) ∧ runE ([(Ac.ask 0 (encQ 1 (⟨[], [], [], []⟩ : Rq))), (Ac.ask 0 (encQ 4 (⟨([111] : By), ([107] : By), [], [7]⟩ : Rq))), (Ac.ask 0 (encQ ((ownQ (u8of x0) z1).1) (ownQ (u8of x0) z1).2)), (Ac.ask 0 (encQ 2 (⟨([111] : By), ([107] : By), [], []⟩ : Rq))), (Ac.ask 0 (encQ 3 (⟨([111] : By), [97], [122], []⟩ : Rq)))]) = G) ∧ G.synced = 0 ∧ G.replies.length = 5 ∧ (G.replies[3]?.map fun a => (a.found, a.value)) = some (!z1, if z1 then [] else [u8of x0]) ∧ (G.replies[4]?.map (·.pairs)) = some (if z1 then [] else [([107], [u8of x0])]) :=
   ⟨_, scr_no (l := ownR (u8of x0) z1) (by cases z1 <;> kernel_rfl), topOwn_run (u8of x0) z1⟩
  obtain ⟨F255, S256, le257, hv258⟩ := St.freeze S254 (i := 0) rfl (Nat.le_refl _)
  have hv258 : Acs _ (.slice (some ⟨n250, 0, none⟩) 5 5) [(Ac.ask 0 (encQ 1 (⟨[], [], [], []⟩ : Rq))), (Ac.ask 0 (encQ 4 (⟨([111] : By), ([107] : By), [], [7]⟩ : Rq))), (Ac.ask 0 (encQ ((ownQ (u8of x0) z1).1) (ownQ (u8of x0) z1).2)), (Ac.ask 0 (encQ 2 (⟨([111] : By), ([107] : By), [], []⟩ : Rq))), (Ac.ask 0 (encQ 3 (⟨([111] : By), [97], [122], []⟩ : Rq)))] := hv258
  refine stGives S256 rfl (fn1 (ent_23 _ _)) (ranIs_spec _ _ _ [(Ac.ask 0 (encQ 1 (⟨[], [], [], []⟩ : Rq))), (Ac.ask 0 (encQ 4 (⟨([111] : By), ([107] : By), [], [7]⟩ : Rq))), (Ac.ask 0 (encQ ((ownQ (u8of x0) z1).1) (ownQ (u8of x0) z1).2)), (Ac.ask 0 (encQ 2 (⟨([111] : By), ([107] : By), [], []⟩ : Rq))), (Ac.ask 0 (encQ 3 (⟨([111] : By), [97], [122], []⟩ : Rq)))] (S256).sat (hT.1.below S256.gr.below) (hT.2.at S256.gr.below) hv258 h1.1 h1.2) ?_
  intro v264 w259 F261 S260 le262 R263
  obtain ⟨_, rfl, R265⟩ := R263
  obtain ⟨a266, c267, a268, c269, rfl, r270, r271⟩ := R265
  refine dx ?_
  iterate 2 refine de ?_
  simp only [pq]
  refine sA S260 (zero_43 _) fun n272 w273 S274 => ?_
  refine sW 0 S274 (size_43) fun w275 S276 => ?_
  refine dy ?_
  simp only [pq]
  refine wl_nil (hK253 _ _ ?_)
  refine wp_seq_k (fun K277 hK277 => ?_)
  refine sk fun K278 hK278 => ?_
  refine dx ?_
  refine dt ?_
  refine dx ?_
  simp only [pq]
  refine df (fa_43_4 _ _) ?_
  refine dl (nagg_41 _) S276 0 ?_
  refine dn Tryz.underlying41 ?_
  simp only [pq]
  refine neqF ?_
  refine dp ?_
  refine dx ?_
  simp only [pq]
  refine df (fa_43_1 _ _) ?_
  refine dl (nagg_3 _) S276 0 ?_
  refine neqF ?_
  simp only [pq]
  refine dp ?_
  refine wn hK278 ?_
  refine wp_cond_false rfl ?_
  refine wp_skip ?_
  refine hK277 _ _ ?_
  refine wp_seq_k (fun K279 hK279 => ?_)
  obtain ⟨ra, hra, ra1, ra2⟩ : ∃ a, G.replies[3]? = some a ∧ a.found = !z1 ∧ a.value = if z1 then [] else [u8of x0] := by
   cases hq : G.replies[3]? with
   | none => rw [hq] at ge3; cases ge3
   | some a => rw [hq] at ge3; injection ge3 with ge3; injection ge3 with q1 q2; exact ⟨a, rfl, q1, q2⟩
  obtain ⟨b280, o281, ha282, xa283, xc284, xa285, xc286, xa287, xc288, e289, e290, e291, e292, e293, e294, c295, o296, r297, r298, r299⟩ := Rps.row r271 hra
  have h300 : Value.oneCell' e289 = true := o296 _ (by simp)
  have h301 : Value.oneCell' e290 = true := o296 _ (by simp)
  have h302 : Value.oneCell' e291 = true := o296 _ (by simp)
  have h303 : Value.oneCell' e292 = true := o296 _ (by simp)
  have h304 : Value.oneCell' e293 = true := o296 _ (by simp)
  have h305 : Value.oneCell' e294 = true := o296 _ (by simp)
  refine region_wl ?_
  refine df (fa_43_4 _ _) ?_
  refine dl (nagg_41 _) S276 0 ?_
  refine dr (pP b280 (o281 + 3 * 15)) (ex_at (i := 3) (sz := 15) Tryz.underlying41 (sizeof_54 _) rfl ha282 rfl (by omega) rfl) ?_
  simp only [pq]
  refine dr _ (ex_load rfl (loadM Tryz.underlying54 rfl (size_54) (fun j v h => St.fz S276 (c295 j v h)))) ?_
  refine sA S276 (zero_54 _) fun n306 w307 S308 => ?_
  refine stStore (i := 0) (v := (.agg #[(nI ra.s), (.int .i64 ra.code), (.int .i64 ra.turn), (.bool ra.found), (.slice xa283 ra.value.length xc284), (.slice xa285 ra.pairs.length xc286), (.slice xa287 ra.root.length xc288), (.bool ra.outer.empty), e289, e290, e291, (.bool ra.inner.empty), e292, e293, e294])) S308 rfl rfl rfl rfl (size_54) (by simp only [Value.cells]; simp; exact ⟨rfl, rfl, rfl, rfl, rfl, rfl, rfl, rfl, h300, h301, h302, rfl, h303, h304, h305⟩) (Nat.le_of_ble_eq_true rfl) (fun w309 S310 => ?_)
  refine wl_nil (hK279 _ _ ?_)
  refine wp_seq_k (fun K311 hK311 => ?_)
  obtain ⟨rb, hrb, rb1⟩ : ∃ a, G.replies[4]? = some a ∧ a.pairs = if z1 then [] else [([107], [u8of x0])] := by
   cases hq : G.replies[4]? with
   | none => rw [hq] at ge4; cases ge4
   | some a => rw [hq] at ge4; injection ge4 with ge4; exact ⟨a, rfl, ge4⟩
  obtain ⟨b312, o313, ha314, xa315, xc316, xa317, xc318, xa319, xc320, e321, e322, e323, e324, e325, e326, c327, o328, r329, r330, r331⟩ := Rps.row r271 hrb
  have h332 : Value.oneCell' e321 = true := o328 _ (by simp)
  have h333 : Value.oneCell' e322 = true := o328 _ (by simp)
  have h334 : Value.oneCell' e323 = true := o328 _ (by simp)
  have h335 : Value.oneCell' e324 = true := o328 _ (by simp)
  have h336 : Value.oneCell' e325 = true := o328 _ (by simp)
  have h337 : Value.oneCell' e326 = true := o328 _ (by simp)
  refine region_wl ?_
  refine df (fa_43_4 _ _) ?_
  refine dl (nagg_41 _) S310 1 ?_
  refine dr (pP b312 (o313 + 4 * 15)) (ex_at (i := 4) (sz := 15) Tryz.underlying41 (sizeof_54 _) rfl ha314 rfl (by omega) rfl) ?_
  simp only [pq]
  refine dr _ (ex_load rfl (loadM Tryz.underlying54 rfl (size_54) (fun j v h => St.fz S310 (c327 j v h)))) ?_
  refine sA S310 (zero_54 _) fun n338 w339 S340 => ?_
  refine stStore (i := 0) (v := (.agg #[(nI rb.s), (.int .i64 rb.code), (.int .i64 rb.turn), (.bool rb.found), (.slice xa315 rb.value.length xc316), (.slice xa317 rb.pairs.length xc318), (.slice xa319 rb.root.length xc320), (.bool rb.outer.empty), e321, e322, e323, (.bool rb.inner.empty), e324, e325, e326])) S340 rfl rfl rfl rfl (size_54) (by simp only [Value.cells]; simp; exact ⟨rfl, rfl, rfl, rfl, rfl, rfl, rfl, rfl, h332, h333, h334, rfl, h335, h336, h337⟩) (Nat.le_of_ble_eq_true rfl) (fun w341 S342 => ?_)
  simp only [pq]
  have S342 : St W (whole W) w341 F261 [⟨n338, [(nI rb.s), (.int .i64 rb.code), (.int .i64 rb.turn), (.bool rb.found), (.slice xa315 rb.value.length xc316), (.slice xa317 rb.pairs.length xc318), (.slice xa319 rb.root.length xc320), (.bool rb.outer.empty), e321, e322, e323, (.bool rb.inner.empty), e324, e325, e326], 54⟩, ⟨n306, [(nI ra.s), (.int .i64 ra.code), (.int .i64 ra.turn), (.bool ra.found), (.slice xa283 ra.value.length xc284), (.slice xa285 ra.pairs.length xc286), (.slice xa287 ra.root.length xc288), (.bool ra.outer.empty), e289, e290, e291, (.bool ra.inner.empty), e292, e293, e294], 54⟩, ⟨n272, [(.bool G.up), (nI G.synced), (nI G.waiting.length), (.slice a266 (G.forest G.synced).length c267), (.slice a268 G.replies.length c269)], 43⟩] [] := S342
  refine wl_nil (hK311 _ _ ?_)
  refine wp_seq_k (fun K343 hK343 => ?_)
  refine sk fun K344 hK344 => ?_
  refine dx ?_
  refine wn hK344 ?_
  cases z1 with
  | true =>
   refine wp_cond_true rfl ?_
   refine wp_seq_k (fun K345 hK345 => ?_)
   have ra1 : ra.found = false := ra1
   have ra2 : ra.value = [] := ra2
   have rb1 : rb.pairs = [] := rb1
   rw [ra1] at S342 ⊢
   refine region_wl ?_
   refine df (fa_54_3 _ _) ?_
   refine dl (nagg_4 _) S342 1 ?_
   refine dt ?_
   simp only [pq]
   refine dx ?_
   refine df (fa_54_4 _ _) ?_
   refine dl (nagg_25 _) S342 1 ?_
   simp only [pq]
   refine dn Tryz.underlying25 ?_
   refine dr bT (ex_eql (m := ((ra.value.length : Nat) : Int)) (n := (0 : Int)) (b := true) rfl rfl (beq_iff_eq.2 (by rw [ra2]; rfl))) ?_
   refine dp ?_
   simp only [pq]
   refine dx ?_
   refine df (fa_54_5 _ _) ?_
   refine dl (nagg_47 _) S342 0 ?_
   simp only [pq]
   refine dn Tryz.underlying47 ?_
   refine dr bT (ex_eql (m := ((rb.pairs.length : Nat) : Int)) (n := (0 : Int)) (b := true) rfl rfl (beq_iff_eq.2 (by rw [rb1]; rfl))) ?_
   refine dp ?_
   simp only [pq]
   refine dy ?_
   refine wl_nil (hK345 _ _ ?_)
   refine wp_ret ?_
   try simp only [xt]
   refine bR (res_t rfl (gD rfl)) ?_
   ·exact ⟨rfl, S342.gr.below⟩
  | false =>
   refine wp_cond_false rfl ?_
   refine wp_skip ?_
   refine hK343 _ _ ?_
   refine wp_seq_k (fun K346 hK346 => ?_)
   have ra1 : ra.found = true := ra1
   have ra2 : ra.value = [u8of x0] := ra2
   have rb1 : rb.pairs = [([107], [u8of x0])] := rb1
   rw [ra1] at S342 ⊢
   have rb3 : rb.pairs.length = 1 := by rw [rb1]; rfl
   obtain ⟨pr, hpr, pr2⟩ : ∃ pr, rb.pairs[0]? = some pr ∧ pr.2 = [u8of x0] := ⟨_, by rw [rb1]; rfl, rfl⟩
   obtain ⟨b347, o348, ha349, xa351, xc352, xa355, xc356, c350, c354, r353, r357⟩ := Prs.get r330 hpr
   obtain ⟨S358, le359, hc360⟩ := St.freezeBlk S342 (i := 0) rfl
   generalize addF F261 w341 n338 = F361 at *
   obtain ⟨S362, le363, hc364⟩ := St.freezeBlk S358 (i := 0) rfl
   generalize addF F361 w341 n306 = F365 at *
   refine region_hl S362 (by kernel_rfl) (fun w367 S366 => ?_)
   refine hl_take 0 rfl (by kernel_rfl) (v := (pP n306 3)) (fun _ _ _ h => h) S366.sat rfl (fun w368 hs369 => ef (fa_54_3 _ _)) ?_
   simp only [pq]
   refine hl_take 1 rfl (by kernel_rfl) (v := bT) (fun _ _ _ h => h) S366.sat rfl (fun w370 hs371 => ex_load rfl (load1 (nagg_4 _) (St.fz (St.start hs371) (hc364 3 _ rfl)))) ?_
   simp only [pq]
   refine hl_take 2 rfl (by kernel_rfl) (v := bT) (fun _ _ _ h => h) S366.sat rfl (fun w372 hs373 => ex_move _) ?_
   simp only [pq]
   refine hl_take 3 rfl (by kernel_rfl) (v := (pP n306 4)) (fun _ _ _ h => h) S366.sat rfl (fun w374 hs375 => ef (fa_54_4 _ _)) ?_
   simp only [pq]
   refine hl_take 4 rfl (by kernel_rfl) (v := (.slice xa283 ra.value.length xc284)) (fun _ _ _ h => h) S366.sat rfl (fun w376 hs377 => ex_load rfl (load1 (nagg_25 _) (St.fz (St.start hs377) (hc364 4 _ rfl)))) ?_
   simp only [pq]
   refine hl_take 5 rfl (by kernel_rfl) (v := (.string ⟨ra.value.toArray⟩)) (fun _ _ _ h => h) S366.sat rfl (fun w378 hs379 => ex_convert (v := (.slice xa283 ra.value.length xc284)) rfl (run_string Tryz.underlying25 Tryz.underlying5 Tryz.underlying9 ((St.start hs379)).sat (r297.mono (le359.trans le363)))) ?_
   simp only [pq]
   refine hl_take 6 rfl (by kernel_rfl) (v := (.int .i64 x0)) (fun _ _ _ h => h) S366.sat rfl (fun w380 hs381 => ex_move _) ?_
   simp only [pq]
   refine hl_take 7 rfl (by kernel_rfl) (v := (.int .u8 (((u8of x0).toNat : Nat) : Int))) (fun _ _ _ h => h) S366.sat rfl (fun w382 hs383 => ex_convert (v := (.int .i64 x0)) rfl (conv_u8 x0 _)) ?_
   simp only [pq]
   refine hl_next 8 (by kernel_rfl) rfl ?_
   refine stNew S366 (v := fun n => .slice (aA n 0) 1 1) rfl (ex_lit (ps := #[(0, (.int .u8 (((u8of x0).toNat : Nat) : Int)))]) (cells := #[(.int .u8 (((u8of x0).toNat : Nat) : Int))]) (E := 5) (bmap1 rfl) (fun w => by kernel_rfl)) (fun n384 w385 S386 => ?_)
   refine wl_nil (hl_back S386.sat ?_)
   refine hl_next 9 (by kernel_rfl) rfl ?_
   obtain ⟨S389, le390, hc391⟩ := St.freezeBlk S386 (i := 0) rfl
   have r393 : Bs _ (.slice (some ⟨n384, 0, none⟩) 1 1) ([u8of x0] : By) := bs_of_block (l := ([u8of x0] : By)) hc391 (rfl) (by unfold maxLen; simp)
   generalize addF F365 w385 n384 = F392 at *
   refine dr (.string ⟨([u8of x0] : By).toArray⟩) (ex_convert (v := (.slice (aA n384 0) 1 1)) rfl (run_string Tryz.underlying25 Tryz.underlying5 Tryz.underlying9 (S389).sat r393)) ?_
   refine wl_nil (hl_back (Sat.le S389.sat le390) ?_)
   refine hl_take 10 rfl (by kernel_rfl) (v := bT) (fun _ _ _ h => h) (Sat.le S389.sat le390) rfl (fun w394 hs395 => ex_strop (op := .eql) (l := ra.value) (m := ([u8of x0] : By)) (b := true) (by simp) rfl rfl (by rw [ra2]; exact beq_self_eq_true _)) ?_
   simp only [pq]
   refine hl_take 11 rfl (by kernel_rfl) (v := bT) (fun _ _ _ h => h) (Sat.le S389.sat le390) rfl (fun w396 hs397 => ex_pick (b := true) rfl) ?_
   simp only [pq]
   refine hl_take 12 rfl (by kernel_rfl) (v := bT) (fun _ _ _ h => h) (Sat.le S389.sat le390) rfl (fun w398 hs399 => ex_move _) ?_
   simp only [pq]
   refine hl_take 13 rfl (by kernel_rfl) (v := (pP n338 5)) (fun _ _ _ h => h) (Sat.le S389.sat le390) rfl (fun w400 hs401 => ef (fa_54_5 _ _)) ?_
   simp only [pq]
   refine hl_take 14 rfl (by kernel_rfl) (v := (.slice xa317 rb.pairs.length xc318)) (fun _ _ _ h => h) (Sat.le S389.sat le390) rfl (fun w402 hs403 => ex_load rfl (load1 (nagg_47 _) (St.fz (St.start hs403) (Le.cell le363 (hc360 5 _ rfl))))) ?_
   simp only [pq]
   refine hl_take 15 rfl (by kernel_rfl) (v := (nI rb.pairs.length)) (fun _ _ _ h => h) (Sat.le S389.sat le390) rfl (fun w404 hs405 => ex_len Tryz.underlying47 rfl) ?_
   simp only [pq]
   refine hl_take 16 rfl (by kernel_rfl) (v := bT) (fun _ _ _ h => h) (Sat.le S389.sat le390) rfl (fun w406 hs407 => ex_eql (m := ((rb.pairs.length : Nat) : Int)) (n := (1 : Int)) (b := true) rfl rfl (beq_iff_eq.2 (by rw [rb1]; rfl))) ?_
   simp only [pq]
   refine hl_take 17 rfl (by kernel_rfl) (v := bT) (fun _ _ _ h => h) (Sat.le S389.sat le390) rfl (fun w408 hs409 => ex_pick (b := true) rfl) ?_
   simp only [pq]
   refine hl_take 18 rfl (by kernel_rfl) (v := bT) (fun _ _ _ h => h) (Sat.le S389.sat le390) rfl (fun w410 hs411 => ex_move _) ?_
   simp only [pq]
   refine hl_take 19 rfl (by kernel_rfl) (v := (pP n338 5)) (fun _ _ _ h => h) (Sat.le S389.sat le390) rfl (fun w412 hs413 => ef (fa_54_5 _ _)) ?_
   simp only [pq]
   refine hl_take 20 rfl (by kernel_rfl) (v := (.slice xa317 rb.pairs.length xc318)) (fun _ _ _ h => h) (Sat.le S389.sat le390) rfl (fun w414 hs415 => ex_load rfl (load1 (nagg_47 _) (St.fz (St.start hs415) (Le.cell le363 (hc360 5 _ rfl))))) ?_
   simp only [pq]
   refine hl_take 21 rfl (by kernel_rfl) (v := (pP b347 (o348 + 0 * 2))) (fun _ _ _ h => h) (Sat.le S389.sat le390) rfl (fun w416 hs417 => ex_at (i := 0) (sz := 2) Tryz.underlying47 (sizeof_50 _) rfl ha349 rfl (by omega) rfl) ?_
   simp only [pq]
   refine hl_take 22 rfl (by kernel_rfl) (v := (pP b347 (o348 + 0 * 2 + 1))) (fun _ _ _ h => h) (Sat.le S389.sat le390) rfl (fun w418 hs419 => ef (fa_50_1 _ _)) ?_
   simp only [pq]
   refine hl_take 23 rfl (by kernel_rfl) (v := (.slice xa355 pr.2.length xc356)) (fun _ _ _ h => h) (Sat.le S389.sat le390) rfl (fun w420 hs421 => ex_load rfl (load1 (nagg_25 _) (St.fz (St.start hs421) (Le.cell (le359.trans le363) c354)))) ?_
   simp only [pq]
   refine hl_take 24 rfl (by kernel_rfl) (v := (.string ⟨pr.2.toArray⟩)) (fun _ _ _ h => h) (Sat.le S389.sat le390) rfl (fun w422 hs423 => ex_convert (v := (.slice xa355 pr.2.length xc356)) rfl (run_string Tryz.underlying25 Tryz.underlying5 Tryz.underlying9 ((St.start hs423)).sat (r357.mono (le359.trans le363)))) ?_
   simp only [pq]
   refine hl_take 25 rfl (by kernel_rfl) (v := (.int .i64 x0)) (fun _ _ _ h => h) (Sat.le S389.sat le390) rfl (fun w424 hs425 => ex_move _) ?_
   simp only [pq]
   refine hl_take 26 rfl (by kernel_rfl) (v := (.int .u8 (((u8of x0).toNat : Nat) : Int))) (fun _ _ _ h => h) (Sat.le S389.sat le390) rfl (fun w426 hs427 => ex_convert (v := (.int .i64 x0)) rfl (conv_u8 x0 _)) ?_
   simp only [pq]
   refine hl_next 27 (by kernel_rfl) rfl ?_
   refine stNew S389 (v := fun n => .slice (aA n 0) 1 1) rfl (ex_lit (ps := #[(0, (.int .u8 (((u8of x0).toNat : Nat) : Int)))]) (cells := #[(.int .u8 (((u8of x0).toNat : Nat) : Int))]) (E := 5) (bmap1 rfl) (fun w => by kernel_rfl)) (fun n428 w429 S430 => ?_)
   refine wl_nil (hl_back (Sat.le S430.sat le390) ?_)
   refine hl_next 28 (by kernel_rfl) rfl ?_
   obtain ⟨S433, le434, hc435⟩ := St.freezeBlk S430 (i := 0) rfl
   have r437 : Bs _ (.slice (some ⟨n428, 0, none⟩) 1 1) ([u8of x0] : By) := bs_of_block (l := ([u8of x0] : By)) hc435 (rfl) (by unfold maxLen; simp)
   generalize addF F392 w429 n428 = F436 at *
   refine dr (.string ⟨([u8of x0] : By).toArray⟩) (ex_convert (v := (.slice (aA n428 0) 1 1)) rfl (run_string Tryz.underlying25 Tryz.underlying5 Tryz.underlying9 (S433).sat r437)) ?_
   refine wl_nil (hl_back (Sat.le S433.sat (le390.trans le434)) ?_)
   refine hl_take 29 rfl (by kernel_rfl) (v := bT) (fun _ _ _ h => h) (Sat.le S433.sat (le390.trans le434)) rfl (fun w438 hs439 => ex_strop (op := .eql) (l := pr.2) (m := ([u8of x0] : By)) (b := true) (by simp) rfl rfl (by rw [pr2]; exact beq_self_eq_true _)) ?_
   simp only [pq]
   refine hl_take 30 rfl (by kernel_rfl) (v := bT) (fun _ _ _ h => h) (Sat.le S433.sat (le390.trans le434)) rfl (fun w440 hs441 => ex_pick (b := true) rfl) ?_
   simp only [pq]
   refine hl_take 31 rfl (by kernel_rfl) (v := bT) (fun _ _ _ h => h) (Sat.le S433.sat (le390.trans le434)) rfl (fun w442 hs443 => ex_assign _) ?_
   simp only [pq]
   refine hl_done (by kernel_rfl) ?_
   refine hK346 _ _ ?_
   refine wp_ret ?_
   try simp only [xt]
   refine bR (res_t rfl (gD rfl)) ?_
   ·exact ⟨rfl, S433.gr.below⟩
 refine sk fun K444 hK444 => ?_
 refine dx ?_
 refine wn hK444 ?_
 cases z1 with
 | true =>
  refine wp_cond_true rfl ?_
  refine region_wl ?_
  iterate 2 refine dx ?_
  refine dr (.agg #[(iI 5), (.slice (aA n103 0) 1 1), (.slice (aA n107 0) 1 1), Zn, Zn]) (ex_build (bmap3 rfl rfl rfl) (by kernel_rfl)) ?_
  simp only [pq]
  refine sW 0 S130 (size_27) fun w445 S446 => ?_
  refine wl_nil ?_
  exact hJ141 _ _ ⟨(aA n103 0), 1, (aA n107 0), 1, none, 0, none, 0, F133, _, rfl, rfl, S446, Le.refl _, r134, (r129.mono le131), (Bs.nil _), (Bs.nil _)⟩
 | false =>
  refine wp_cond_false rfl ?_
  refine wp_skip ?_
  exact hJ141 _ _ ⟨(aA n103 0), 1, (aA n107 0), 1, none, 0, (aA n111 0), 1, F133, _, rfl, rfl, S130, Le.refl _, r134, (r129.mono le131), (Bs.nil _), (r124.mono (le126.trans le131))⟩
end Go.Proofs.YtilgpdpooildcaaGreatDoor
