/- The walk of TopClash -/
import Derived.Test.YtilgpdpooildcaaGreatDoorBT12
import Derived.Test.YtilgpdpooildcaaGreatDoorBT2
namespace Go.Proofs.YtilgpdpooildcaaGreatDoor
set_option maxHeartbeats 8000000
open Go.RowKit
set_option maxRecDepth 100000
set_option linter.unusedVariables false
set_option linter.unusedSimpArgs false
theorem topClash_walk (W : World) (hT : Has W ∧ Tabs W) (x0 x1 : Int) (z2 z3 : Bool) :
    Calls Tryz.prog 9 #[.int .i64 x0, .int .i64 x1, .bool z2, .bool z3] W (Tells W (.bool true)) := by
 obtain ⟨i33, hi33, hz33, hs33, hb33⟩ := info_parts info_33
 have S := St.start (Sat.whole W)
 go_enter Tryz.func9, Tryz.ntmps9
 refine sk fun K101 hK101 => ?_
 refine dy ?_
 refine wn hK101 ?_
 refine sk fun K102 hK102 => ?_
 refine stNew S (v := fun n => .slice (aA n 0) 1 1) rfl (ex_lit (ps := #[(0, (.int .u8 97))]) (cells := #[(.int .u8 97)]) (E := 5) (bmap1 rfl) (fun w => by kernel_rfl)) (fun n103 w104 S105 => ?_)
 refine sA S105 (zero_25 _) fun n106 w107 S108 => ?_
 refine sW 0 S108 (size_25) fun w109 S110 => ?_
 simp only [pq]
 refine wn hK102 ?_
 refine sk fun K111 hK111 => ?_
 refine stNew S110 (v := fun n => .slice (aA n 0) 1 1) rfl (ex_lit (ps := #[(0, (.int .u8 107))]) (cells := #[(.int .u8 107)]) (E := 5) (bmap1 rfl) (fun w => by kernel_rfl)) (fun n112 w113 S114 => ?_)
 refine sA S114 (zero_25 _) fun n115 w116 S117 => ?_
 refine sW 0 S117 (size_25) fun w118 S119 => ?_
 refine wn hK111 ?_
 refine sk fun K120 hK120 => ?_
 refine dl (nagg_25 _) S119 2 ?_
 refine dl (nagg_25 _) S119 0 ?_
 refine dr (.agg #[(iI 2), (.slice (aA n103 0) 1 1), (.slice (aA n112 0) 1 1), Zn, Zn]) (ex_build (bmap3 rfl rfl rfl) (by kernel_rfl)) ?_
 simp only [pq]
 refine sA S119 (zero_27 _) fun n121 w122 S123 => ?_
 refine sW 0 S123 (size_27) fun w124 S125 => ?_
 refine wn hK120 ?_
 refine wp_seq_k (fun K126 hK126 => ?_)
 obtain ⟨S127, le128, hc129⟩ := St.freezeBlk S125 (i := 2) rfl
 have r131 : Bs _ (.slice (some ⟨n112, 0, none⟩) 1 1) ([107] : By) := bs_of_block (l := ([107] : By)) hc129 (rfl) (by unfold maxLen; simp)
 generalize addF (whole W) w124 n112 = F130 at *
 obtain ⟨S132, le133, hc134⟩ := St.freezeBlk S127 (i := 3) rfl
 have r136 : Bs _ (.slice (some ⟨n103, 0, none⟩) 1 1) ([97] : By) := bs_of_block (l := ([97] : By)) hc134 (rfl) (by unfold maxLen; simp)
 generalize addF F130 w124 n103 = F135 at *
 obtain ⟨S137, le138, hc139⟩ := St.freezeBlk S132 (i := 2) rfl
 generalize addF F135 w124 n106 = F140 at *
 obtain ⟨S141, le142, hc143⟩ := St.freezeBlk S137 (i := 1) rfl
 generalize addF F140 w124 n115 = F144 at *
 have hJ151 : ∀ (a148 : Act) (w147 : World), (∃ (e0 : Option Addr) (g0 : Nat) (e1 : Option Addr) (g1 : Nat) (e2 : Option Addr) (g2 : Nat) (e3 : Option Addr) (g3 : Nat) (F145 : Fz) (u146 : Nat → Value), u146 = slots a148 ∧ a148 = ⟨#[(.int .i64 x0), (.int .i64 x1), (.bool z2), (.bool z3), undef, undef, undef, undef, (.bool false), (.pointer (some ⟨n106, 0, none⟩)), (.pointer (some ⟨n115, 0, none⟩)), (.pointer (some ⟨n121, 0, none⟩)), undef, undef, undef, undef, undef, (.slice (some ⟨n103, 0, none⟩) 1 1), (.slice (some ⟨n112, 0, none⟩) 1 1), (.slice (some ⟨n103, 0, none⟩) 1 1), (.slice (some ⟨n112, 0, none⟩) 1 1), (.agg #[(.int .i64 2), (.slice (some ⟨n103, 0, none⟩) 1 1), (.slice (some ⟨n112, 0, none⟩) 1 1), (.slice none 0 0), (.slice none 0 0)]), (u146 22), (u146 23), (u146 24), (u146 25), (u146 26), undef, undef, undef, undef, undef, undef, undef, undef, undef, undef, undef, undef, undef, undef, undef, undef, undef, undef, undef, undef, undef, undef, undef, undef, undef, undef, undef, undef, undef, undef, undef, undef, undef, undef, undef, undef, undef, undef, undef, undef, undef, undef, undef, undef, undef, undef, undef, undef, undef, undef, undef, undef, undef, undef, undef, undef, undef, undef, undef, undef, undef, undef, undef, undef, undef, undef, undef, undef, undef, undef, undef, undef, undef, undef, undef, undef, undef, undef, undef, undef, undef, undef, undef, undef, undef, undef, undef, undef, undef, undef, undef, undef, undef, undef, undef, undef, undef], []⟩ ∧ St W (whole W) w147 F145 [⟨n121, [(.int .i64 (((clashQ z3).1 : Nat) : Int)), (.slice e0 (clashQ z3).2.name.length g0), (.slice e1 (clashQ z3).2.key.length g1), (.slice e2 (clashQ z3).2.last.length g2), (.slice e3 (clashQ z3).2.value.length g3)], 27⟩] [] ∧ Le F144 F145 ∧ (Bs F145 (.slice e0 (clashQ z3).2.name.length g0) (clashQ z3).2.name) ∧ (Bs F145 (.slice e1 (clashQ z3).2.key.length g1) (clashQ z3).2.key) ∧ (Bs F145 (.slice e2 (clashQ z3).2.last.length g2) (clashQ z3).2.last) ∧ (Bs F145 (.slice e3 (clashQ z3).2.value.length g3) (clashQ z3).2.value)) → K126 a148 w147 := by
  rintro a148 w147 ⟨e0, g0, e1, g1, e2, g2, e3, g3, F145, u146, -, rfl, S149, le150, hf0, hf1, hf2, hf3⟩
  refine hK126 _ _ ?_
  refine sk fun K152 hK152 => ?_
  refine dr (.func (.func 28) #[] #[(pP n106 0), (pP n115 0)]) (ex_makeFunc2 rfl rfl) ?_
  refine dy ?_
  simp only [pq]
  refine wn hK152 ?_
  refine wp_seq_k (fun K153 hK153 => ?_)
  obtain ⟨S154, le155, hc156⟩ := St.freezeBlk S149 (i := 0) rfl
  generalize addF F145 w147 n121 = F157 at *
  refine region_hl S154 (by kernel_rfl) (fun w159 S158 => ?_)
  refine hl_take 0 rfl (by kernel_rfl) (v := (.agg #[(iI 1), Zn, Zn, Zn, Zn])) (fun _ _ _ h => h) S158.sat rfl (fun w160 hs161 => ex_build (ps := #[(0, (iI 1))]) (bmap1 rfl) (by kernel_rfl)) ?_
  simp only [pq]
  refine hl_take 2 rfl (by kernel_rfl) (v := (.agg #[(iI 1), Zn, Zn, Zn, Zn])) (fun _ _ _ h => h) S158.sat rfl (fun w162 hs163 => ex_build (ps := #[(0, (iI 1))]) (bmap1 rfl) (by kernel_rfl)) ?_
  simp only [pq]
  refine hl_take 4 rfl (by kernel_rfl) (v := (.agg #[(.int .i64 (((clashQ z3).1 : Nat) : Int)), (.slice e0 (clashQ z3).2.name.length g0), (.slice e1 (clashQ z3).2.key.length g1), (.slice e2 (clashQ z3).2.last.length g2), (.slice e3 (clashQ z3).2.value.length g3)])) (fun _ _ _ h => h) S158.sat rfl (fun w164 hs165 => ex_load rfl (loadN (cs := [(.int .i64 (((clashQ z3).1 : Nat) : Int)), (.slice e0 (clashQ z3).2.name.length g0), (.slice e1 (clashQ z3).2.key.length g1), (.slice e2 (clashQ z3).2.last.length g2), (.slice e3 (clashQ z3).2.value.length g3)]) Tryz.underlying27 rfl (size_27) (rangeF (c := [(.int .i64 (((clashQ z3).1 : Nat) : Int)), (.slice e0 (clashQ z3).2.name.length g0), (.slice e1 (clashQ z3).2.key.length g1), (.slice e2 (clashQ z3).2.last.length g2), (.slice e3 (clashQ z3).2.value.length g3)]) (St.start hs165).sat hc156))) ?_
  simp only [pq]
  refine hl_take 6 rfl (by kernel_rfl) (v := (.agg #[(.int .i64 (((clashQ z3).1 : Nat) : Int)), (.slice e0 (clashQ z3).2.name.length g0), (.slice e1 (clashQ z3).2.key.length g1), (.slice e2 (clashQ z3).2.last.length g2), (.slice e3 (clashQ z3).2.value.length g3)])) (fun _ _ _ h => h) S158.sat rfl (fun w166 hs167 => ex_load rfl (loadN (cs := [(.int .i64 (((clashQ z3).1 : Nat) : Int)), (.slice e0 (clashQ z3).2.name.length g0), (.slice e1 (clashQ z3).2.key.length g1), (.slice e2 (clashQ z3).2.last.length g2), (.slice e3 (clashQ z3).2.value.length g3)]) Tryz.underlying27 rfl (size_27) (rangeF (c := [(.int .i64 (((clashQ z3).1 : Nat) : Int)), (.slice e0 (clashQ z3).2.name.length g0), (.slice e1 (clashQ z3).2.key.length g1), (.slice e2 (clashQ z3).2.last.length g2), (.slice e3 (clashQ z3).2.value.length g3)]) (St.start hs167).sat hc156))) ?_
  simp only [pq]
  refine hl_take 8 rfl (by kernel_rfl) (v := (.func (.func 28) #[] #[(pP n106 0), (pP n115 0)])) (fun _ _ _ h => h) S158.sat rfl (fun w168 hs169 => ex_move _) ?_
  simp only [pq]
  refine hl_take 9 rfl (by kernel_rfl) (v := (.int .i64 x0)) (fun _ _ _ h => h) S158.sat rfl (fun w170 hs171 => ex_move _) ?_
  simp only [pq]
  refine hl_take 12 rfl (by kernel_rfl) (v := (.func (.func 28) #[] #[(pP n106 0), (pP n115 0)])) (fun _ _ _ h => h) S158.sat rfl (fun w172 hs173 => ex_move _) ?_
  simp only [pq]
  refine hl_take 13 rfl (by kernel_rfl) (v := (.int .i64 x1)) (fun _ _ _ h => h) S158.sat rfl (fun w174 hs175 => ex_move _) ?_
  simp only [pq]
  refine hl_take 16 rfl (by kernel_rfl) (v := (.agg #[(iI 6), Zn, Zn, Zn, Zn])) (fun _ _ _ h => h) S158.sat rfl (fun w176 hs177 => ex_build (ps := #[(0, (iI 6))]) (bmap1 rfl) (by kernel_rfl)) ?_
  simp only [pq]
  refine hl_next 1 (by kernel_rfl) rfl ?_
  refine stGives S158 rfl (fn2 (ent_21 _ _)) (topAsk_spec _ _ _ 0 1 (⟨[], [], [], []⟩ : Rq) (S158).sat (hT.1.below S158.gr.below) ⟨_, _, _, _, rfl, (Bs.nil _), (Bs.nil _), (Bs.nil _), (Bs.nil _)⟩ ⟨by decide, rfl⟩) ?_
  intro v183 w178 F180 S179 le181 R182
  obtain ⟨xa184, xc185, rfl, r186⟩ := R182
  have r186 : Bs _ (.slice xa184 (encQ 1 (⟨[], [], [], []⟩ : Rq)).length xc185) (encQ 1 (⟨[], [], [], []⟩ : Rq)) := r186
  refine wl_nil (hl_back (Sat.le S179.sat le181) ?_)
  refine hl_next 3 (by kernel_rfl) rfl ?_
  refine stGives S179 rfl (fn2 (ent_21 _ _)) (topAsk_spec _ _ _ 1 1 (⟨[], [], [], []⟩ : Rq) (S179).sat (hT.1.below S179.gr.below) ⟨_, _, _, _, rfl, (Bs.nil _), (Bs.nil _), (Bs.nil _), (Bs.nil _)⟩ ⟨by decide, rfl⟩) ?_
  intro v192 w187 F189 S188 le190 R191
  obtain ⟨xa193, xc194, rfl, r195⟩ := R191
  have r195 : Bs _ (.slice xa193 (encQ 1 (⟨[], [], [], []⟩ : Rq)).length xc194) (encQ 1 (⟨[], [], [], []⟩ : Rq)) := r195
  simp only [pq]
  refine wl_nil (hl_back (Sat.le S188.sat (le181.trans le190)) ?_)
  refine hl_next 5 (by kernel_rfl) rfl ?_
  refine stGives S188 rfl (ex_fn (vs := #[(iI 0), (.agg #[(.int .i64 (((clashQ z3).1 : Nat) : Int)), (.slice e0 (clashQ z3).2.name.length g0), (.slice e1 (clashQ z3).2.key.length g1), (.slice e2 (clashQ z3).2.last.length g2), (.slice e3 (clashQ z3).2.value.length g3)])]) (map2 rfl rfl) rfl (ent_21 _ _)) (topAsk_spec _ _ _ 0 ((clashQ z3).1) (clashQ z3).2 (S188).sat (hT.1.below S188.gr.below) ⟨_, _, _, _, rfl, (hf0.mono ((le155.trans le181).trans le190)), (hf1.mono ((le155.trans le181).trans le190)), (hf2.mono ((le155.trans le181).trans le190)), (hf3.mono ((le155.trans le181).trans le190))⟩ (clashQ_ok z3)) ?_
  intro v201 w196 F198 S197 le199 R200
  obtain ⟨xa202, xc203, rfl, r204⟩ := R200
  have r204 : Bs _ (.slice xa202 (encQ ((clashQ z3).1) (clashQ z3).2).length xc203) (encQ ((clashQ z3).1) (clashQ z3).2) := r204
  refine wl_nil (hl_back (Sat.le S197.sat ((le181.trans le190).trans le199)) ?_)
  refine hl_next 7 (by kernel_rfl) rfl ?_
  refine stGives S197 rfl (ex_fn (vs := #[(iI 1), (.agg #[(.int .i64 (((clashQ z3).1 : Nat) : Int)), (.slice e0 (clashQ z3).2.name.length g0), (.slice e1 (clashQ z3).2.key.length g1), (.slice e2 (clashQ z3).2.last.length g2), (.slice e3 (clashQ z3).2.value.length g3)])]) (map2 rfl rfl) rfl (ent_21 _ _)) (topAsk_spec _ _ _ 1 ((clashQ z3).1) (clashQ z3).2 (S197).sat (hT.1.below S197.gr.below) ⟨_, _, _, _, rfl, (hf0.mono (((le155.trans le181).trans le190).trans le199)), (hf1.mono (((le155.trans le181).trans le190).trans le199)), (hf2.mono (((le155.trans le181).trans le190).trans le199)), (hf3.mono (((le155.trans le181).trans le190).trans le199))⟩ (clashQ_ok z3)) ?_
  intro v210 w205 F207 S206 le208 R209
  obtain ⟨xa211, xc212, rfl, r213⟩ := R209
  have r213 : Bs _ (.slice xa211 (encQ ((clashQ z3).1) (clashQ z3).2).length xc212) (encQ ((clashQ z3).1) (clashQ z3).2) := r213
  simp only [pq]
  refine wl_nil (hl_back (Sat.le S206.sat (((le181.trans le190).trans le199).trans le208)) ?_)
  refine hl_next 10 (by kernel_rfl) rfl ?_
  refine stGives S206 rfl (ex_fv (fs := #[]) (cs := #[(pP n106 0), (pP n115 0)]) (vs := #[(.int .i64 x0), (pP n106 0), (pP n115 0)]) rfl (vmap (fs := #[]) (cs := #[(pP n106 0), (pP n115 0)]) (xs := #[(.int .i64 x0)]) (map1 rfl) (by simp)) (ent_28 _ _)) (clashPut_spec _ _ x0 n106 n115 _ _ _ _ ([97] : By) ([107] : By) (S206).sat (Le.cell ((((((le142.trans le150).trans le155).trans le181).trans le190).trans le199).trans le208) (hc139 0 _ rfl)) (Le.cell (((((le150.trans le155).trans le181).trans le190).trans le199).trans le208) (hc143 0 _ rfl)) (r136.mono (((((((le138.trans le142).trans le150).trans le155).trans le181).trans le190).trans le199).trans le208)) (r131.mono ((((((((le133.trans le138).trans le142).trans le150).trans le155).trans le181).trans le190).trans le199).trans le208))) ?_
  intro v219 w214 F216 S215 le217 R218
  obtain ⟨a220, a221, a222, a223, rfl, r224, r225, r226, r227⟩ := R218
  obtain ⟨a228, c229, rfl, _⟩ := r224.shape
  obtain ⟨a230, c231, rfl, _⟩ := r225.shape
  obtain ⟨a232, c233, rfl, _⟩ := r226.shape
  obtain ⟨a234, c235, rfl, _⟩ := r227.shape
  refine wl_nil (hl_back (Sat.le S215.sat ((((le181.trans le190).trans le199).trans le208).trans le217)) ?_)
  refine hl_next 11 (by kernel_rfl) rfl ?_
  refine stGives S215 rfl (fn2 (ent_21 _ _)) (topAsk_spec _ _ _ 0 4 (⟨([97] : By), ([107] : By), ([] : By), [u8of x0]⟩ : Rq) (S215).sat (hT.1.below S215.gr.below) ⟨_, _, _, _, rfl, r224, r225, r226, r227⟩ ⟨by decide, rfl⟩) ?_
  intro v241 w236 F238 S237 le239 R240
  obtain ⟨xa242, xc243, rfl, r244⟩ := R240
  have r244 : Bs _ (.slice xa242 (encQ 4 (⟨([97] : By), ([107] : By), ([] : By), [u8of x0]⟩ : Rq)).length xc243) (encQ 4 (⟨([97] : By), ([107] : By), ([] : By), [u8of x0]⟩ : Rq)) := r244
  simp only [pq]
  refine wl_nil (hl_back (Sat.le S237.sat (((((le181.trans le190).trans le199).trans le208).trans le217).trans le239)) ?_)
  refine hl_next 14 (by kernel_rfl) rfl ?_
  refine stGives S237 rfl (ex_fv (fs := #[]) (cs := #[(pP n106 0), (pP n115 0)]) (vs := #[(.int .i64 x1), (pP n106 0), (pP n115 0)]) rfl (vmap (fs := #[]) (cs := #[(pP n106 0), (pP n115 0)]) (xs := #[(.int .i64 x1)]) (map1 rfl) (by simp)) (ent_28 _ _)) (clashPut_spec _ _ x1 n106 n115 _ _ _ _ ([97] : By) ([107] : By) (S237).sat (Le.cell ((((((((le142.trans le150).trans le155).trans le181).trans le190).trans le199).trans le208).trans le217).trans le239) (hc139 0 _ rfl)) (Le.cell (((((((le150.trans le155).trans le181).trans le190).trans le199).trans le208).trans le217).trans le239) (hc143 0 _ rfl)) (r136.mono (((((((((le138.trans le142).trans le150).trans le155).trans le181).trans le190).trans le199).trans le208).trans le217).trans le239)) (r131.mono ((((((((((le133.trans le138).trans le142).trans le150).trans le155).trans le181).trans le190).trans le199).trans le208).trans le217).trans le239))) ?_
  intro v250 w245 F247 S246 le248 R249
  obtain ⟨a251, a252, a253, a254, rfl, r255, r256, r257, r258⟩ := R249
  obtain ⟨a259, c260, rfl, _⟩ := r255.shape
  obtain ⟨a261, c262, rfl, _⟩ := r256.shape
  obtain ⟨a263, c264, rfl, _⟩ := r257.shape
  obtain ⟨a265, c266, rfl, _⟩ := r258.shape
  refine wl_nil (hl_back (Sat.le S246.sat ((((((le181.trans le190).trans le199).trans le208).trans le217).trans le239).trans le248)) ?_)
  refine hl_next 15 (by kernel_rfl) rfl ?_
  refine stGives S246 rfl (fn2 (ent_21 _ _)) (topAsk_spec _ _ _ 1 4 (⟨([97] : By), ([107] : By), ([] : By), [u8of x1]⟩ : Rq) (S246).sat (hT.1.below S246.gr.below) ⟨_, _, _, _, rfl, r255, r256, r257, r258⟩ ⟨by decide, rfl⟩) ?_
  intro v272 w267 F269 S268 le270 R271
  obtain ⟨xa273, xc274, rfl, r275⟩ := R271
  have r275 : Bs _ (.slice xa273 (encQ 4 (⟨([97] : By), ([107] : By), ([] : By), [u8of x1]⟩ : Rq)).length xc274) (encQ 4 (⟨([97] : By), ([107] : By), ([] : By), [u8of x1]⟩ : Rq)) := r275
  simp only [pq]
  refine wl_nil (hl_back (Sat.le S268.sat (((((((le181.trans le190).trans le199).trans le208).trans le217).trans le239).trans le248).trans le270)) ?_)
  refine hl_next 17 (by kernel_rfl) rfl ?_
  refine stGives S268 rfl (fn2 (ent_21 _ _)) (topAsk_spec _ _ _ 0 6 (⟨[], [], [], []⟩ : Rq) (S268).sat (hT.1.below S268.gr.below) ⟨_, _, _, _, rfl, (Bs.nil _), (Bs.nil _), (Bs.nil _), (Bs.nil _)⟩ ⟨by decide, rfl⟩) ?_
  intro v281 w276 F278 S277 le279 R280
  obtain ⟨xa282, xc283, rfl, r284⟩ := R280
  have r284 : Bs _ (.slice xa282 (encQ 6 (⟨[], [], [], []⟩ : Rq)).length xc283) (encQ 6 (⟨[], [], [], []⟩ : Rq)) := r284
  refine wl_nil (hl_back (Sat.le S277.sat ((((((((le181.trans le190).trans le199).trans le208).trans le217).trans le239).trans le248).trans le270).trans le279)) ?_)
  refine hl_next 18 (by kernel_rfl) rfl ?_
  refine stNew S277 (v := fun n => .slice (aA n 0) 7 7) rfl (ex_lit (ps := #[(0, (.agg #[(iI 1), (iI 0), (iI 0), (.slice xa184 (encQ 1 (⟨[], [], [], []⟩ : Rq)).length xc185)])), (1, (.agg #[(iI 1), (iI 1), (iI 0), (.slice xa193 (encQ 1 (⟨[], [], [], []⟩ : Rq)).length xc194)])), (2, (.agg #[(iI 1), (iI 0), (iI 0), (.slice xa202 (encQ ((clashQ z3).1) (clashQ z3).2).length xc203)])), (3, (.agg #[(iI 1), (iI 1), (iI 0), (.slice xa211 (encQ ((clashQ z3).1) (clashQ z3).2).length xc212)])), (4, (.agg #[(iI 1), (iI 0), (iI 0), (.slice xa242 (encQ 4 (⟨([97] : By), ([107] : By), ([] : By), [u8of x0]⟩ : Rq)).length xc243)])), (5, (.agg #[(iI 1), (iI 1), (iI 0), (.slice xa273 (encQ 4 (⟨([97] : By), ([107] : By), ([] : By), [u8of x1]⟩ : Rq)).length xc274)])), (6, (.agg #[(iI 1), (iI 0), (iI 0), (.slice xa282 (encQ 6 (⟨[], [], [], []⟩ : Rq)).length xc283)]))]) (cells := #[(iI 1), (iI 0), (iI 0), (.slice xa184 (encQ 1 (⟨[], [], [], []⟩ : Rq)).length xc185), (iI 1), (iI 1), (iI 0), (.slice xa193 (encQ 1 (⟨[], [], [], []⟩ : Rq)).length xc194), (iI 1), (iI 0), (iI 0), (.slice xa202 (encQ ((clashQ z3).1) (clashQ z3).2).length xc203), (iI 1), (iI 1), (iI 0), (.slice xa211 (encQ ((clashQ z3).1) (clashQ z3).2).length xc212), (iI 1), (iI 0), (iI 0), (.slice xa242 (encQ 4 (⟨([97] : By), ([107] : By), ([] : By), [u8of x0]⟩ : Rq)).length xc243), (iI 1), (iI 1), (iI 0), (.slice xa273 (encQ 4 (⟨([97] : By), ([107] : By), ([] : By), [u8of x1]⟩ : Rq)).length xc274), (iI 1), (iI 0), (iI 0), (.slice xa282 (encQ 6 (⟨[], [], [], []⟩ : Rq)).length xc283)]) (E := 33) (bmap7 rfl rfl rfl rfl rfl rfl rfl) (fun w => by kernel_rfl)) (fun n285 w286 S287 => ?_)
  simp only [pq]
  refine wl_nil (hl_back (Sat.le S287.sat ((((((((le181.trans le190).trans le199).trans le208).trans le217).trans le239).trans le248).trans le270).trans le279)) ?_)
  refine hl_take 19 rfl (by kernel_rfl) (v := (.slice (aA n285 0) 7 7)) (fun _ _ _ h => h) (Sat.le S287.sat ((((((((le181.trans le190).trans le199).trans le208).trans le217).trans le239).trans le248).trans le270).trans le279)) rfl (fun w288 hs289 => ex_assign _) ?_
  simp only [pq]
  refine hl_done (by kernel_rfl) ?_
  refine hK153 _ _ ?_
  refine wp_seq_k (fun K290 hK290 => ?_)
  have S291 : St W (whole W) w286 F278 [] [ownP 4 AcC AcC.mono 33 W.heap.size (.slice (aA n285 0) 7 7) [(Ac.ask 0 (encQ 1 (⟨[], [], [], []⟩ : Rq))), (Ac.ask 1 (encQ 1 (⟨[], [], [], []⟩ : Rq))), (Ac.ask 0 (encQ ((clashQ z3).1) (clashQ z3).2)), (Ac.ask 1 (encQ ((clashQ z3).1) (clashQ z3).2)), (Ac.ask 0 (encQ 4 (⟨([97] : By), ([107] : By), ([] : By), [u8of x0]⟩ : Rq))), (Ac.ask 1 (encQ 4 (⟨([97] : By), ([107] : By), ([] : By), [u8of x1]⟩ : Rq))), (Ac.ask 0 (encQ 6 (⟨[], [], [], []⟩ : Rq)))]] := St.blkRow (k := 4) (cap := 7) (hR := AcC.mono) (l := ([(Ac.ask 0 (encQ 1 (⟨[], [], [], []⟩ : Rq))), (Ac.ask 1 (encQ 1 (⟨[], [], [], []⟩ : Rq))), (Ac.ask 0 (encQ ((clashQ z3).1) (clashQ z3).2)), (Ac.ask 1 (encQ ((clashQ z3).1) (clashQ z3).2)), (Ac.ask 0 (encQ 4 (⟨([97] : By), ([107] : By), ([] : By), [u8of x0]⟩ : Rq))), (Ac.ask 1 (encQ 4 (⟨([97] : By), ([107] : By), ([] : By), [u8of x1]⟩ : Rq))), (Ac.ask 0 (encQ 6 (⟨[], [], [], []⟩ : Rq)))] : List Ac)) (el := [[(iI 1), (iI 0), (iI 0), (.slice xa184 (encQ 1 (⟨[], [], [], []⟩ : Rq)).length xc185)], [(iI 1), (iI 1), (iI 0), (.slice xa193 (encQ 1 (⟨[], [], [], []⟩ : Rq)).length xc194)], [(iI 1), (iI 0), (iI 0), (.slice xa202 (encQ ((clashQ z3).1) (clashQ z3).2).length xc203)], [(iI 1), (iI 1), (iI 0), (.slice xa211 (encQ ((clashQ z3).1) (clashQ z3).2).length xc212)], [(iI 1), (iI 0), (iI 0), (.slice xa242 (encQ 4 (⟨([97] : By), ([107] : By), ([] : By), [u8of x0]⟩ : Rq)).length xc243)], [(iI 1), (iI 1), (iI 0), (.slice xa273 (encQ 4 (⟨([97] : By), ([107] : By), ([] : By), [u8of x1]⟩ : Rq)).length xc274)], [(iI 1), (iI 0), (iI 0), (.slice xa282 (encQ 6 (⟨[], [], [], []⟩ : Rq)).length xc283)]]) S287 rfl ⟨⟨_, rfl, (r186.mono (((((((le190.trans le199).trans le208).trans le217).trans le239).trans le248).trans le270).trans le279))⟩, ⟨_, rfl, (r195.mono ((((((le199.trans le208).trans le217).trans le239).trans le248).trans le270).trans le279))⟩, ⟨_, rfl, (r204.mono (((((le208.trans le217).trans le239).trans le248).trans le270).trans le279))⟩, ⟨_, rfl, (r213.mono ((((le217.trans le239).trans le248).trans le270).trans le279))⟩, ⟨_, rfl, (r244.mono ((le248.trans le270).trans le279))⟩, ⟨_, rfl, (r275.mono le279)⟩, ⟨_, rfl, r284⟩, trivial⟩ (by simp) rfl (by simp) (by unfold maxLen; decide) (S287.blk _ (List.mem_cons_self ..)).2.2
  have hJ298 : ∀ (a295 : Act) (w294 : World), (∃ (e5 : Option Addr) (g5 : Nat) (F292 : Fz) (u293 : Nat → Value), u293 = slots a295 ∧ a295 = ⟨#[(.int .i64 x0), (.int .i64 x1), (.bool z2), (.bool z3), undef, undef, undef, undef, (.bool false), (.pointer (some ⟨n106, 0, none⟩)), (.pointer (some ⟨n115, 0, none⟩)), (.pointer (some ⟨n121, 0, none⟩)), (.func (.func 28) #[] #[(.pointer (some ⟨n106, 0, none⟩)), (.pointer (some ⟨n115, 0, none⟩))]), (.slice e5 ([(Ac.ask 0 (encQ 1 (⟨[], [], [], []⟩ : Rq))), (Ac.ask 1 (encQ 1 (⟨[], [], [], []⟩ : Rq))), (Ac.ask 0 (encQ ((clashQ z3).1) (clashQ z3).2)), (Ac.ask 1 (encQ ((clashQ z3).1) (clashQ z3).2)), (Ac.ask 0 (encQ 4 (⟨([97] : By), ([107] : By), ([] : By), [u8of x0]⟩ : Rq))), (Ac.ask 1 (encQ 4 (⟨([97] : By), ([107] : By), ([] : By), [u8of x1]⟩ : Rq))), (Ac.ask 0 (encQ 6 (⟨[], [], [], []⟩ : Rq)))] ++ (if z2 = true then [Ac.sync] else [])).length g5), undef, undef, undef, (.slice (some ⟨n103, 0, none⟩) 1 1), (.slice (some ⟨n112, 0, none⟩) 1 1), (.slice (some ⟨n103, 0, none⟩) 1 1), (.slice (some ⟨n112, 0, none⟩) 1 1), (.agg #[(.int .i64 2), (.slice (some ⟨n103, 0, none⟩) 1 1), (.slice (some ⟨n112, 0, none⟩) 1 1), (.slice none 0 0), (.slice none 0 0)]), (u146 22), (u146 23), (u146 24), (u146 25), (u146 26), (.func (.func 28) #[] #[(.pointer (some ⟨n106, 0, none⟩)), (.pointer (some ⟨n115, 0, none⟩))]), (.agg #[(.int .i64 1), (.slice none 0 0), (.slice none 0 0), (.slice none 0 0), (.slice none 0 0)]), (.agg #[(.int .i64 1), (.int .i64 0), (.int .i64 0), (.slice xa184 (encQ 1 (⟨[], [], [], []⟩ : Rq)).length xc185)]), (.agg #[(.int .i64 1), (.slice none 0 0), (.slice none 0 0), (.slice none 0 0), (.slice none 0 0)]), (.agg #[(.int .i64 1), (.int .i64 1), (.int .i64 0), (.slice xa193 (encQ 1 (⟨[], [], [], []⟩ : Rq)).length xc194)]), (.agg #[(.int .i64 (((clashQ z3).1 : Nat) : Int)), (.slice e0 (clashQ z3).2.name.length g0), (.slice e1 (clashQ z3).2.key.length g1), (.slice e2 (clashQ z3).2.last.length g2), (.slice e3 (clashQ z3).2.value.length g3)]), (.agg #[(.int .i64 1), (.int .i64 0), (.int .i64 0), (.slice xa202 (encQ ((clashQ z3).1) (clashQ z3).2).length xc203)]), (.agg #[(.int .i64 (((clashQ z3).1 : Nat) : Int)), (.slice e0 (clashQ z3).2.name.length g0), (.slice e1 (clashQ z3).2.key.length g1), (.slice e2 (clashQ z3).2.last.length g2), (.slice e3 (clashQ z3).2.value.length g3)]), (.agg #[(.int .i64 1), (.int .i64 1), (.int .i64 0), (.slice xa211 (encQ ((clashQ z3).1) (clashQ z3).2).length xc212)]), (.func (.func 28) #[] #[(.pointer (some ⟨n106, 0, none⟩)), (.pointer (some ⟨n115, 0, none⟩))]), (.int .i64 x0), (.agg #[(.int .i64 4), (.slice a228 ([97] : By).length c229), (.slice a230 ([107] : By).length c231), (.slice a232 ([] : By).length c233), (.slice a234 [u8of x0].length c235)]), (.agg #[(.int .i64 1), (.int .i64 0), (.int .i64 0), (.slice xa242 (encQ 4 (⟨([97] : By), ([107] : By), ([] : By), [u8of x0]⟩ : Rq)).length xc243)]), (.func (.func 28) #[] #[(.pointer (some ⟨n106, 0, none⟩)), (.pointer (some ⟨n115, 0, none⟩))]), (.int .i64 x1), (.agg #[(.int .i64 4), (.slice a259 ([97] : By).length c260), (.slice a261 ([107] : By).length c262), (.slice a263 ([] : By).length c264), (.slice a265 [u8of x1].length c266)]), (.agg #[(.int .i64 1), (.int .i64 1), (.int .i64 0), (.slice xa273 (encQ 4 (⟨([97] : By), ([107] : By), ([] : By), [u8of x1]⟩ : Rq)).length xc274)]), (.agg #[(.int .i64 6), (.slice none 0 0), (.slice none 0 0), (.slice none 0 0), (.slice none 0 0)]), (.agg #[(.int .i64 1), (.int .i64 0), (.int .i64 0), (.slice xa282 (encQ 6 (⟨[], [], [], []⟩ : Rq)).length xc283)]), (.slice (some ⟨n285, 0, none⟩) 7 7), (u293 47), (u293 48), (u293 49), (u293 50), (u293 51), undef, undef, undef, undef, undef, undef, undef, undef, undef, undef, undef, undef, undef, undef, undef, undef, undef, undef, undef, undef, undef, undef, undef, undef, undef, undef, undef, undef, undef, undef, undef, undef, undef, undef, undef, undef, undef, undef, undef, undef, undef, undef, undef, undef, undef, undef, undef, undef, undef, undef, undef, undef, undef, undef, undef, undef, undef, undef, undef, undef, undef, undef, undef, undef, undef, undef, undef, undef, undef, undef, undef, undef], []⟩ ∧ St W (whole W) w294 F292 [] [ownP 4 AcC AcC.mono 33 W.heap.size (.slice e5 ([(Ac.ask 0 (encQ 1 (⟨[], [], [], []⟩ : Rq))), (Ac.ask 1 (encQ 1 (⟨[], [], [], []⟩ : Rq))), (Ac.ask 0 (encQ ((clashQ z3).1) (clashQ z3).2)), (Ac.ask 1 (encQ ((clashQ z3).1) (clashQ z3).2)), (Ac.ask 0 (encQ 4 (⟨([97] : By), ([107] : By), ([] : By), [u8of x0]⟩ : Rq))), (Ac.ask 1 (encQ 4 (⟨([97] : By), ([107] : By), ([] : By), [u8of x1]⟩ : Rq))), (Ac.ask 0 (encQ 6 (⟨[], [], [], []⟩ : Rq)))] ++ (if z2 = true then [Ac.sync] else [])).length g5) ([(Ac.ask 0 (encQ 1 (⟨[], [], [], []⟩ : Rq))), (Ac.ask 1 (encQ 1 (⟨[], [], [], []⟩ : Rq))), (Ac.ask 0 (encQ ((clashQ z3).1) (clashQ z3).2)), (Ac.ask 1 (encQ ((clashQ z3).1) (clashQ z3).2)), (Ac.ask 0 (encQ 4 (⟨([97] : By), ([107] : By), ([] : By), [u8of x0]⟩ : Rq))), (Ac.ask 1 (encQ 4 (⟨([97] : By), ([107] : By), ([] : By), [u8of x1]⟩ : Rq))), (Ac.ask 0 (encQ 6 (⟨[], [], [], []⟩ : Rq)))] ++ (if z2 = true then [Ac.sync] else []))] ∧ Le F278 F292) → K290 a295 w294 := by
   rintro a295 w294 ⟨e5, g5, F292, u293, -, rfl, S296, le297⟩
   refine hK290 _ _ ?_
   refine sk fun K299 hK299 => ?_
   refine dx ?_
   refine dr (.agg #[(iI 6), Zn, Zn, Zn, Zn]) (ex_build (bmap1 rfl) (by kernel_rfl)) ?_
   refine stGives S296 rfl (fn2 (ent_21 _ _)) (topAsk_spec _ _ _ 1 6 (⟨[], [], [], []⟩ : Rq) (S296).sat (hT.1.below S296.gr.below) ⟨_, _, _, _, rfl, (Bs.nil _), (Bs.nil _), (Bs.nil _), (Bs.nil _)⟩ ⟨by decide, rfl⟩) ?_
   intro v305 w300 F302 S301 le303 R304
   obtain ⟨xa306, xc307, rfl, r308⟩ := R304
   have r308 : Bs _ (.slice xa306 (encQ 6 (⟨[], [], [], []⟩ : Rq)).length xc307) (encQ 6 (⟨[], [], [], []⟩ : Rq)) := r308
   refine dr (.agg #[(iI 2), (iI 0), (iI 0), Zn]) (ex_build (bmap1 rfl) (by kernel_rfl)) ?_
   simp only [pq]
   refine stNew S301 (v := fun n => .slice (aA n 0) 2 2) rfl (ex_lit (ps := #[(0, (.agg #[(iI 1), (iI 1), (iI 0), (.slice xa306 (encQ 6 (⟨[], [], [], []⟩ : Rq)).length xc307)])), (1, (.agg #[(iI 2), (iI 0), (iI 0), Zn]))]) (cells := #[(iI 1), (iI 1), (iI 0), (.slice xa306 (encQ 6 (⟨[], [], [], []⟩ : Rq)).length xc307), (iI 2), (iI 0), (iI 0), Zn]) (E := 33) (bmap2 rfl rfl) (fun w => by kernel_rfl)) (fun n309 w310 S311 => ?_)
   simp only [pq]
   obtain ⟨S312, le313, hc314⟩ := St.freezeBlk S311 (i := 0) rfl
   have r316 : Acs _ (.slice (some ⟨n309, 0, none⟩) 2 2) ([(Ac.ask 1 (encQ 6 (⟨[], [], [], []⟩ : Rq))), Ac.sync] : List Ac) := sl_of_block (R := AcC) (l := ([(Ac.ask 1 (encQ 6 (⟨[], [], [], []⟩ : Rq))), Ac.sync] : List Ac)) (el := [[(.int .i64 1), (.int .i64 1), (.int .i64 0), (.slice xa306 (encQ 6 (⟨[], [], [], []⟩ : Rq)).length xc307)], [(.int .i64 2), (.int .i64 0), (.int .i64 0), (.slice none 0 0)]]) hc314 rfl ⟨⟨_, rfl, Bs.mono r308 le313⟩, ⟨_, rfl, Bs.nil _⟩, trivial⟩ (by simp) (by unfold maxLen; simp)
   generalize addF F302 w310 n309 = F315 at *
   refine stAppendS (r := 0) (u := (.slice (aA n309 0) 2 2)) S312 rfl i33 (.agg #[(iI 0), (iI 0), (iI 0), Zn]) 48 Tryz.underlying23 hi33 hz33 hs33 hb33 rfl (by decide) rfl rfl rfl (Sl.toW r316 (S312).sat) AcC.one (Nat.le_refl _) S312.gr.below.size (by unfold maxLen; (cases z2 <;> simp)) (by (cases z2 <;> simp)) ?_
   intro v317 w318 S319 hn320
   simp only [pq]
   obtain ⟨a321, cap322, rfl, h323, h324⟩ := (S319.own (i := 0) rfl).shape
   unfold maxLen at h324
   refine dy ?_
   refine wn hK299 ?_
   refine sk fun K325 hK325 => ?_
   refine dx ?_
   simp only [pq]
   obtain ⟨G, h1, ge1, ge2, ge3, ge4⟩ : ∃ G, (ScrOk ((([(Ac.ask 0 (encQ 1 (⟨[], [], [], []⟩ : Rq))), (Ac.ask 1 (encQ 1 (⟨[], [], [], []⟩ : Rq))), (Ac.ask 0 (encQ ((clashQ z3).1) (clashQ z3).2)), (Ac.ask 1 (encQ ((clashQ z3).1) (clashQ z3).2)), (Ac.ask 0 (encQ 4 (⟨([97] : By), ([107] : By), ([] : By), [u8of x0]⟩ : Rq))), (Ac.ask 1 (encQ 4 (⟨([97] : By), ([107] : By), ([] : By), [u8of x1]⟩ : Rq))), (Ac.ask 0 (encQ 6 (⟨[], [], [], []⟩ : Rq)))] ++ (if z2 = true then [Ac.sync] else [])) ++ [(Ac.ask 1 (encQ 6 (⟨[], [], [], []⟩ : Rq))), Ac.sync])) ∧ runE ((([(Ac.ask 0 (encQ 1 (⟨[], [], [], []⟩ : Rq))), (Ac.ask 1 (encQ 1 (⟨[], [], [], []⟩ : Rq))), (Ac.ask 0 (encQ ((clashQ z3).1) (clashQ z3).2)), (Ac.ask 1 (encQ ((clashQ z3).1) (clashQ z3).2)), (Ac.ask 0 (encQ 4 (⟨([97] : By), ([107] : By), ([] : By), [u8of x0]⟩ : Rq))), (Ac.ask 1 (encQ 4 (⟨([97] : By), ([107] : By), ([] : By), [u8of x1]⟩ : Rq))), (Ac.ask 0 (encQ 6 (⟨[], [], [], []⟩ : Rq)))] ++ (if z2 = true then [Ac.sync] else [])) ++ [(Ac.ask 1 (encQ 6 (⟨[], [], [], []⟩ : Rq))), Ac.sync])) = G) ∧ G.synced = 1 ∧ G.replies.length = 8 ∧ G.forest G.synced = [([97], [([107], [u8of x0])])] ∧ G.replies[if z2 = true then 7 else 6]? = some (repC 1 9) := by
    cases z2
    ·have hn := scr_no (l := (clashR (u8of x0) (u8of x1) false z3)) (by cases z3 <;> kernel_rfl)
     exact ⟨_, hn, topClash_run (u8of x0) (u8of x1) false z3⟩
    ·have hn := scr_no (l := (clashR (u8of x0) (u8of x1) true z3)) (by cases z3 <;> kernel_rfl)
     exact ⟨_, hn, topClash_run (u8of x0) (u8of x1) true z3⟩
   obtain ⟨F326, S327, le328, hv329⟩ := St.freeze S319 (i := 0) rfl (Nat.le_refl _)
   have hv329 : Acs _ (.slice a321 (([(Ac.ask 0 (encQ 1 (⟨[], [], [], []⟩ : Rq))), (Ac.ask 1 (encQ 1 (⟨[], [], [], []⟩ : Rq))), (Ac.ask 0 (encQ ((clashQ z3).1) (clashQ z3).2)), (Ac.ask 1 (encQ ((clashQ z3).1) (clashQ z3).2)), (Ac.ask 0 (encQ 4 (⟨([97] : By), ([107] : By), ([] : By), [u8of x0]⟩ : Rq))), (Ac.ask 1 (encQ 4 (⟨([97] : By), ([107] : By), ([] : By), [u8of x1]⟩ : Rq))), (Ac.ask 0 (encQ 6 (⟨[], [], [], []⟩ : Rq)))] ++ (if z2 = true then [Ac.sync] else [])) ++ [(Ac.ask 1 (encQ 6 (⟨[], [], [], []⟩ : Rq))), Ac.sync]).length cap322) (([(Ac.ask 0 (encQ 1 (⟨[], [], [], []⟩ : Rq))), (Ac.ask 1 (encQ 1 (⟨[], [], [], []⟩ : Rq))), (Ac.ask 0 (encQ ((clashQ z3).1) (clashQ z3).2)), (Ac.ask 1 (encQ ((clashQ z3).1) (clashQ z3).2)), (Ac.ask 0 (encQ 4 (⟨([97] : By), ([107] : By), ([] : By), [u8of x0]⟩ : Rq))), (Ac.ask 1 (encQ 4 (⟨([97] : By), ([107] : By), ([] : By), [u8of x1]⟩ : Rq))), (Ac.ask 0 (encQ 6 (⟨[], [], [], []⟩ : Rq)))] ++ (if z2 = true then [Ac.sync] else [])) ++ [(Ac.ask 1 (encQ 6 (⟨[], [], [], []⟩ : Rq))), Ac.sync]) := hv329
   refine stGives S327 rfl (ex_fn (vs := #[(.slice a321 (([(Ac.ask 0 (encQ 1 (⟨[], [], [], []⟩ : Rq))), (Ac.ask 1 (encQ 1 (⟨[], [], [], []⟩ : Rq))), (Ac.ask 0 (encQ ((clashQ z3).1) (clashQ z3).2)), (Ac.ask 1 (encQ ((clashQ z3).1) (clashQ z3).2)), (Ac.ask 0 (encQ 4 (⟨([97] : By), ([107] : By), ([] : By), [u8of x0]⟩ : Rq))), (Ac.ask 1 (encQ 4 (⟨([97] : By), ([107] : By), ([] : By), [u8of x1]⟩ : Rq))), (Ac.ask 0 (encQ 6 (⟨[], [], [], []⟩ : Rq)))] ++ (if z2 = true then [Ac.sync] else [])) ++ [(Ac.ask 1 (encQ 6 (⟨[], [], [], []⟩ : Rq))), Ac.sync]).length cap322)]) (map1 rfl) rfl (ent_23 _ _)) (ranIs_spec _ _ _ (([(Ac.ask 0 (encQ 1 (⟨[], [], [], []⟩ : Rq))), (Ac.ask 1 (encQ 1 (⟨[], [], [], []⟩ : Rq))), (Ac.ask 0 (encQ ((clashQ z3).1) (clashQ z3).2)), (Ac.ask 1 (encQ ((clashQ z3).1) (clashQ z3).2)), (Ac.ask 0 (encQ 4 (⟨([97] : By), ([107] : By), ([] : By), [u8of x0]⟩ : Rq))), (Ac.ask 1 (encQ 4 (⟨([97] : By), ([107] : By), ([] : By), [u8of x1]⟩ : Rq))), (Ac.ask 0 (encQ 6 (⟨[], [], [], []⟩ : Rq)))] ++ (if z2 = true then [Ac.sync] else [])) ++ [(Ac.ask 1 (encQ 6 (⟨[], [], [], []⟩ : Rq))), Ac.sync]) (S327).sat (hT.1.below S327.gr.below) (hT.2.at S327.gr.below) hv329 h1.1 h1.2) ?_
   intro v335 w330 F332 S331 le333 R334
   obtain ⟨_, rfl, R336⟩ := R334
   obtain ⟨a337, c338, a339, c340, rfl, r341, r342⟩ := R336
   refine dx ?_
   iterate 2 refine de ?_
   simp only [pq]
   refine sA S331 (zero_43 _) fun n343 w344 S345 => ?_
   refine sW 0 S345 (size_43) fun w346 S347 => ?_
   refine dy ?_
   simp only [pq]
   refine wn hK325 ?_
   refine wp_seq_k (fun K348 hK348 => ?_)
   refine wp_seq_k (fun K349 hK349 => ?_)
   obtain ⟨tn, hp0, ht1, ht2⟩ : ∃ tn, (G.forest G.synced)[0]? = some tn ∧ tn.1 = [97] ∧ tn.2 = [([107], [u8of x0])] := ⟨_, by rw [ge3]; rfl, rfl, rfl⟩
   have e3l : (G.forest G.synced).length = 1 := by rw [ge3]; rfl
   have ht3 : tn.2.length = 1 := by rw [ht2]; rfl
   obtain ⟨pr, hp1, ht4⟩ : ∃ pr, tn.2[0]? = some pr ∧ pr.2 = [u8of x0] := ⟨_, by rw [ht2]; rfl, rfl⟩
   obtain ⟨b350, o351, ha352, xa354, xc355, xa358, xc359, c353, c357, r356, r360⟩ := Tns.get r341 hp0
   refine region_wl ?_
   refine dx ?_
   refine dt ?_
   refine dx ?_
   simp only [pq]
   refine df (fa_43_1 _ _) ?_
   refine dl (nagg_3 _) S347 0 ?_
   refine neqF ?_
   simp only [pq]
   refine dp ?_
   refine dx ?_
   refine df (fa_43_4 _ _) ?_
   simp only [pq]
   refine dl (nagg_41 _) S347 0 ?_
   refine dn Tryz.underlying41 ?_
   refine neqF ?_
   simp only [pq]
   refine dp ?_
   refine dx ?_
   refine df (fa_43_3 _ _) ?_
   simp only [pq]
   refine dl (nagg_24 _) S347 0 ?_
   refine dn Tryz.underlying24 ?_
   refine neqF ?_
   simp only [pq]
   refine dp ?_
   refine dx ?_
   refine df (fa_43_3 _ _) ?_
   simp only [pq]
   refine dl (nagg_24 _) S347 0 ?_
   refine dr (pP b350 (o351 + 0 * 2)) (ex_at (i := 0) (sz := 2) Tryz.underlying24 (sizeof_66 _) rfl ha352 rfl (by omega) rfl) ?_
   refine df (fa_66_1 _ _) ?_
   simp only [pq]
   refine dr _ (ex_load rfl (load1 (nagg_47 _) (St.fz S347 c357))) ?_
   refine dn Tryz.underlying47 ?_
   refine neqF ?_
   simp only [pq]
   refine dp ?_
   refine wl_nil (hK349 _ _ ?_)
   refine wp_cond_false rfl ?_
   refine wp_skip ?_
   refine hK348 _ _ ?_
   refine sk fun K361 hK361 => ?_
   refine dy ?_
   refine wn hK361 ?_
   refine wp_seq_k (fun K362 hK362 => ?_)
   have hJ369 : ∀ (a366 : Act) (w365 : World), (∃ (at_ : Nat) (F363 : Fz) (u364 : Nat → Value), u364 = slots a366 ∧ a366 = ⟨#[(.int .i64 x0), (.int .i64 x1), (.bool z2), (.bool z3), undef, undef, undef, undef, (.bool false), (.pointer (some ⟨n106, 0, none⟩)), (.pointer (some ⟨n115, 0, none⟩)), (.pointer (some ⟨n121, 0, none⟩)), (.func (.func 28) #[] #[(.pointer (some ⟨n106, 0, none⟩)), (.pointer (some ⟨n115, 0, none⟩))]), (.slice a321 (([(Ac.ask 0 (encQ 1 (⟨[], [], [], []⟩ : Rq))), (Ac.ask 1 (encQ 1 (⟨[], [], [], []⟩ : Rq))), (Ac.ask 0 (encQ ((clashQ z3).1) (clashQ z3).2)), (Ac.ask 1 (encQ ((clashQ z3).1) (clashQ z3).2)), (Ac.ask 0 (encQ 4 (⟨([97] : By), ([107] : By), ([] : By), [u8of x0]⟩ : Rq))), (Ac.ask 1 (encQ 4 (⟨([97] : By), ([107] : By), ([] : By), [u8of x1]⟩ : Rq))), (Ac.ask 0 (encQ 6 (⟨[], [], [], []⟩ : Rq)))] ++ (if z2 = true then [Ac.sync] else [])) ++ [(Ac.ask 1 (encQ 6 (⟨[], [], [], []⟩ : Rq))), Ac.sync]).length cap322), (.pointer (some ⟨n343, 0, none⟩)), (.bool true), (.int .i64 ((at_ : Nat) : Int)), (.slice (some ⟨n103, 0, none⟩) 1 1), (.slice (some ⟨n112, 0, none⟩) 1 1), (.slice (some ⟨n103, 0, none⟩) 1 1), (.slice (some ⟨n112, 0, none⟩) 1 1), (.agg #[(.int .i64 2), (.slice (some ⟨n103, 0, none⟩) 1 1), (.slice (some ⟨n112, 0, none⟩) 1 1), (.slice none 0 0), (.slice none 0 0)]), (u146 22), (u146 23), (u146 24), (u146 25), (u146 26), (.func (.func 28) #[] #[(.pointer (some ⟨n106, 0, none⟩)), (.pointer (some ⟨n115, 0, none⟩))]), (.agg #[(.int .i64 1), (.slice none 0 0), (.slice none 0 0), (.slice none 0 0), (.slice none 0 0)]), (.agg #[(.int .i64 1), (.int .i64 0), (.int .i64 0), (.slice xa184 (encQ 1 (⟨[], [], [], []⟩ : Rq)).length xc185)]), (.agg #[(.int .i64 1), (.slice none 0 0), (.slice none 0 0), (.slice none 0 0), (.slice none 0 0)]), (.agg #[(.int .i64 1), (.int .i64 1), (.int .i64 0), (.slice xa193 (encQ 1 (⟨[], [], [], []⟩ : Rq)).length xc194)]), (.agg #[(.int .i64 (((clashQ z3).1 : Nat) : Int)), (.slice e0 (clashQ z3).2.name.length g0), (.slice e1 (clashQ z3).2.key.length g1), (.slice e2 (clashQ z3).2.last.length g2), (.slice e3 (clashQ z3).2.value.length g3)]), (.agg #[(.int .i64 1), (.int .i64 0), (.int .i64 0), (.slice xa202 (encQ ((clashQ z3).1) (clashQ z3).2).length xc203)]), (.agg #[(.int .i64 (((clashQ z3).1 : Nat) : Int)), (.slice e0 (clashQ z3).2.name.length g0), (.slice e1 (clashQ z3).2.key.length g1), (.slice e2 (clashQ z3).2.last.length g2), (.slice e3 (clashQ z3).2.value.length g3)]), (.agg #[(.int .i64 1), (.int .i64 1), (.int .i64 0), (.slice xa211 (encQ ((clashQ z3).1) (clashQ z3).2).length xc212)]), (.func (.func 28) #[] #[(.pointer (some ⟨n106, 0, none⟩)), (.pointer (some ⟨n115, 0, none⟩))]), (.int .i64 x0), (.agg #[(.int .i64 4), (.slice a228 ([97] : By).length c229), (.slice a230 ([107] : By).length c231), (.slice a232 ([] : By).length c233), (.slice a234 [u8of x0].length c235)]), (.agg #[(.int .i64 1), (.int .i64 0), (.int .i64 0), (.slice xa242 (encQ 4 (⟨([97] : By), ([107] : By), ([] : By), [u8of x0]⟩ : Rq)).length xc243)]), (.func (.func 28) #[] #[(.pointer (some ⟨n106, 0, none⟩)), (.pointer (some ⟨n115, 0, none⟩))]), (.int .i64 x1), (.agg #[(.int .i64 4), (.slice a259 ([97] : By).length c260), (.slice a261 ([107] : By).length c262), (.slice a263 ([] : By).length c264), (.slice a265 [u8of x1].length c266)]), (.agg #[(.int .i64 1), (.int .i64 1), (.int .i64 0), (.slice xa273 (encQ 4 (⟨([97] : By), ([107] : By), ([] : By), [u8of x1]⟩ : Rq)).length xc274)]), (.agg #[(.int .i64 6), (.slice none 0 0), (.slice none 0 0), (.slice none 0 0), (.slice none 0 0)]), (.agg #[(.int .i64 1), (.int .i64 0), (.int .i64 0), (.slice xa282 (encQ 6 (⟨[], [], [], []⟩ : Rq)).length xc283)]), (.slice (some ⟨n285, 0, none⟩) 7 7), (u293 47), (u293 48), (u293 49), (u293 50), (u293 51), (.slice e5 ([(Ac.ask 0 (encQ 1 (⟨[], [], [], []⟩ : Rq))), (Ac.ask 1 (encQ 1 (⟨[], [], [], []⟩ : Rq))), (Ac.ask 0 (encQ ((clashQ z3).1) (clashQ z3).2)), (Ac.ask 1 (encQ ((clashQ z3).1) (clashQ z3).2)), (Ac.ask 0 (encQ 4 (⟨([97] : By), ([107] : By), ([] : By), [u8of x0]⟩ : Rq))), (Ac.ask 1 (encQ 4 (⟨([97] : By), ([107] : By), ([] : By), [u8of x1]⟩ : Rq))), (Ac.ask 0 (encQ 6 (⟨[], [], [], []⟩ : Rq)))] ++ (if z2 = true then [Ac.sync] else [])).length g5), (.agg #[(.int .i64 6), (.slice none 0 0), (.slice none 0 0), (.slice none 0 0), (.slice none 0 0)]), (.agg #[(.int .i64 1), (.int .i64 1), (.int .i64 0), (.slice xa306 (encQ 6 (⟨[], [], [], []⟩ : Rq)).length xc307)]), (.agg #[(.int .i64 2), (.int .i64 0), (.int .i64 0), (.slice none 0 0)]), (.slice (some ⟨n309, 0, none⟩) 2 2), (.slice a321 (([(Ac.ask 0 (encQ 1 (⟨[], [], [], []⟩ : Rq))), (Ac.ask 1 (encQ 1 (⟨[], [], [], []⟩ : Rq))), (Ac.ask 0 (encQ ((clashQ z3).1) (clashQ z3).2)), (Ac.ask 1 (encQ ((clashQ z3).1) (clashQ z3).2)), (Ac.ask 0 (encQ 4 (⟨([97] : By), ([107] : By), ([] : By), [u8of x0]⟩ : Rq))), (Ac.ask 1 (encQ 4 (⟨([97] : By), ([107] : By), ([] : By), [u8of x1]⟩ : Rq))), (Ac.ask 0 (encQ 6 (⟨[], [], [], []⟩ : Rq)))] ++ (if z2 = true then [Ac.sync] else [])) ++ [(Ac.ask 1 (encQ 6 (⟨[], [], [], []⟩ : Rq))), Ac.sync]).length cap322), (.tuple #[(.agg #[(.bool G.up), (.int .i64 ((G.synced : Nat) : Int)), (.int .i64 ((G.waiting.length : Nat) : Int)), (.slice a337 (G.forest G.synced).length c338), (.slice a339 G.replies.length c340)]), (.bool true)]), (.slice a321 (([(Ac.ask 0 (encQ 1 (⟨[], [], [], []⟩ : Rq))), (Ac.ask 1 (encQ 1 (⟨[], [], [], []⟩ : Rq))), (Ac.ask 0 (encQ ((clashQ z3).1) (clashQ z3).2)), (Ac.ask 1 (encQ ((clashQ z3).1) (clashQ z3).2)), (Ac.ask 0 (encQ 4 (⟨([97] : By), ([107] : By), ([] : By), [u8of x0]⟩ : Rq))), (Ac.ask 1 (encQ 4 (⟨([97] : By), ([107] : By), ([] : By), [u8of x1]⟩ : Rq))), (Ac.ask 0 (encQ 6 (⟨[], [], [], []⟩ : Rq)))] ++ (if z2 = true then [Ac.sync] else [])) ++ [(Ac.ask 1 (encQ 6 (⟨[], [], [], []⟩ : Rq))), Ac.sync]).length cap322), (.tuple #[(.agg #[(.bool G.up), (.int .i64 ((G.synced : Nat) : Int)), (.int .i64 ((G.waiting.length : Nat) : Int)), (.slice a337 (G.forest G.synced).length c338), (.slice a339 G.replies.length c340)]), (.bool true)]), (.agg #[(.bool G.up), (.int .i64 ((G.synced : Nat) : Int)), (.int .i64 ((G.waiting.length : Nat) : Int)), (.slice a337 (G.forest G.synced).length c338), (.slice a339 G.replies.length c340)]), (.bool true), (.bool true), (.bool false), (.bool false), (.pointer (some ⟨n343, 1, none⟩)), (.int .i64 ((G.synced : Nat) : Int)), (.bool false), (.bool false), (.bool false), (.pointer (some ⟨n343, 4, none⟩)), (.slice a339 G.replies.length c340), (.int .i64 ((G.replies.length : Nat) : Int)), (.bool false), (.bool false), (.bool false), (.pointer (some ⟨n343, 3, none⟩)), (.slice a337 (G.forest G.synced).length c338), (.int .i64 (((G.forest G.synced).length : Nat) : Int)), (.bool false), (.bool false), (.bool false), (.pointer (some ⟨n343, 3, none⟩)), (.slice a337 (G.forest G.synced).length c338), (.pointer (some ⟨b350, o351 + 0 * 2, none⟩)), (.pointer (some ⟨b350, o351 + 0 * 2 + 1, none⟩)), (.slice xa358 tn.2.length xc359), (.int .i64 ((tn.2.length : Nat) : Int)), (.bool false), (.bool false), (u364 91), undef, undef, undef, undef, undef, undef, undef, undef, undef, undef, undef, undef, undef, undef, undef, undef, undef, undef, undef, undef, undef, undef, undef, undef, undef, undef, undef, undef, undef, undef, undef, undef], []⟩ ∧ St W (whole W) w365 F363 [⟨n343, [(.bool G.up), (.int .i64 ((G.synced : Nat) : Int)), (.int .i64 ((G.waiting.length : Nat) : Int)), (.slice a337 (G.forest G.synced).length c338), (.slice a339 G.replies.length c340)], 43⟩] [] ∧ Le F332 F363 ∧ (at_ = if z2 = true then 7 else 6)) → K362 a366 w365 := by
    rintro a366 w365 ⟨at_, F363, u364, -, rfl, S367, le368, hat⟩
    refine hK362 _ _ ?_
    refine wp_seq_k (fun K370 hK370 => ?_)
    rw [← hat] at ge4
    have hlt := getD_some ge4
    obtain ⟨b371, o372, ha373, xa374, xc375, xa376, xc377, xa378, xc379, c380, c381, c382, c383, c384, c385, c386, r387, r388, r389⟩ := Rps.get (r342.mono le368) ge4
    obtain ⟨b390, o391, ha392, xa394, xc395, xa398, xc399, c393, c397, r396, r400⟩ := Prs.get (r360.mono le368) hp1
    obtain ⟨S401, le402, hc403⟩ := St.freezeBlk S367 (i := 0) rfl
    generalize addF F363 w365 n343 = F404 at *
    refine region_hl S401 (by kernel_rfl) (fun w406 S405 => ?_)
    refine hl_take 0 rfl (by kernel_rfl) (v := (pP n343 4)) (fun _ _ _ h => h) S405.sat rfl (fun w407 hs408 => ef (fa_43_4 _ _)) ?_
    simp only [pq]
    refine hl_take 1 rfl (by kernel_rfl) (v := (.slice a339 G.replies.length c340)) (fun _ _ _ h => h) S405.sat rfl (fun w409 hs410 => ex_load rfl (load1 (nagg_41 _) (St.fz (St.start hs410) (hc403 4 _ rfl)))) ?_
    simp only [pq]
    refine hl_take 2 rfl (by kernel_rfl) (v := (nI at_)) (fun _ _ _ h => h) S405.sat rfl (fun w411 hs412 => ex_move _) ?_
    simp only [pq]
    refine hl_take 3 rfl (by kernel_rfl) (v := (pP b371 (o372 + at_ * 15))) (fun _ _ _ h => h) S405.sat rfl (fun w413 hs414 => ex_at (i := at_) (sz := 15) Tryz.underlying41 (sizeof_54 _) rfl ha373 rfl (by omega) rfl) ?_
    simp only [pq]
    refine hl_take 4 rfl (by kernel_rfl) (v := (pP b371 (o372 + at_ * 15 + 1))) (fun _ _ _ h => h) S405.sat rfl (fun w415 hs416 => ef (fa_54_1 _ _)) ?_
    simp only [pq]
    refine hl_take 5 rfl (by kernel_rfl) (v := (.int .i64 (repC 1 9).code)) (fun _ _ _ h => h) S405.sat rfl (fun w417 hs418 => ex_load rfl (load1 (nagg_35 _) (St.fz (St.start hs418) (Le.cell le402 c381)))) ?_
    simp only [pq]
    refine hl_take 6 rfl (by kernel_rfl) (v := bT) (fun _ _ _ h => h) S405.sat rfl (fun w419 hs420 => ex_eql (m := (repC 1 9).code) (n := (9 : Int)) (b := true) rfl rfl (beq_iff_eq.2 (rfl))) ?_
    simp only [pq]
    refine hl_take 7 rfl (by kernel_rfl) (v := bT) (fun _ _ _ h => h) S405.sat rfl (fun w421 hs422 => ex_move _) ?_
    simp only [pq]
    refine hl_take 8 rfl (by kernel_rfl) (v := (pP n343 4)) (fun _ _ _ h => h) S405.sat rfl (fun w423 hs424 => ef (fa_43_4 _ _)) ?_
    simp only [pq]
    refine hl_take 9 rfl (by kernel_rfl) (v := (.slice a339 G.replies.length c340)) (fun _ _ _ h => h) S405.sat rfl (fun w425 hs426 => ex_load rfl (load1 (nagg_41 _) (St.fz (St.start hs426) (hc403 4 _ rfl)))) ?_
    simp only [pq]
    refine hl_take 10 rfl (by kernel_rfl) (v := (nI at_)) (fun _ _ _ h => h) S405.sat rfl (fun w427 hs428 => ex_move _) ?_
    simp only [pq]
    refine hl_take 11 rfl (by kernel_rfl) (v := (pP b371 (o372 + at_ * 15))) (fun _ _ _ h => h) S405.sat rfl (fun w429 hs430 => ex_at (i := at_) (sz := 15) Tryz.underlying41 (sizeof_54 _) rfl ha373 rfl (by omega) rfl) ?_
    simp only [pq]
    refine hl_take 12 rfl (by kernel_rfl) (v := (pP b371 (o372 + at_ * 15))) (fun _ _ _ h => h) S405.sat rfl (fun w431 hs432 => ef (fa_54_0 _ _)) ?_
    simp only [pq]
    refine hl_take 13 rfl (by kernel_rfl) (v := (.int .i64 (((repC 1 9).s : Nat) : Int))) (fun _ _ _ h => h) S405.sat rfl (fun w433 hs434 => ex_load rfl (load1 (nagg_3 _) (St.fz (St.start hs434) (Le.cell le402 c380)))) ?_
    simp only [pq]
    refine hl_take 14 rfl (by kernel_rfl) (v := bT) (fun _ _ _ h => h) S405.sat rfl (fun w435 hs436 => ex_eql (m := (((repC 1 9).s : Nat) : Int)) (n := (1 : Int)) (b := true) rfl rfl (beq_iff_eq.2 (rfl))) ?_
    simp only [pq]
    refine hl_take 15 rfl (by kernel_rfl) (v := bT) (fun _ _ _ h => h) S405.sat rfl (fun w437 hs438 => ex_pick (b := true) rfl) ?_
    simp only [pq]
    refine hl_take 16 rfl (by kernel_rfl) (v := bT) (fun _ _ _ h => h) S405.sat rfl (fun w439 hs440 => ex_move _) ?_
    simp only [pq]
    refine hl_take 17 rfl (by kernel_rfl) (v := (pP n343 3)) (fun _ _ _ h => h) S405.sat rfl (fun w441 hs442 => ef (fa_43_3 _ _)) ?_
    simp only [pq]
    refine hl_take 18 rfl (by kernel_rfl) (v := (.slice a337 (G.forest G.synced).length c338)) (fun _ _ _ h => h) S405.sat rfl (fun w443 hs444 => ex_load rfl (load1 (nagg_24 _) (St.fz (St.start hs444) (hc403 3 _ rfl)))) ?_
    simp only [pq]
    refine hl_take 19 rfl (by kernel_rfl) (v := (pP b350 (o351 + 0 * 2))) (fun _ _ _ h => h) S405.sat rfl (fun w445 hs446 => ex_at (i := 0) (sz := 2) Tryz.underlying24 (sizeof_66 _) rfl ha352 rfl (by omega) rfl) ?_
    simp only [pq]
    refine hl_take 20 rfl (by kernel_rfl) (v := (pP b350 (o351 + 0 * 2 + 1))) (fun _ _ _ h => h) S405.sat rfl (fun w447 hs448 => ef (fa_66_1 _ _)) ?_
    simp only [pq]
    refine hl_take 21 rfl (by kernel_rfl) (v := (.slice xa358 tn.2.length xc359)) (fun _ _ _ h => h) S405.sat rfl (fun w449 hs450 => ex_load rfl (load1 (nagg_47 _) (St.fz (St.start hs450) (Le.cell (le368.trans le402) c357)))) ?_
    simp only [pq]
    refine hl_take 22 rfl (by kernel_rfl) (v := (pP b390 (o391 + 0 * 2))) (fun _ _ _ h => h) S405.sat rfl (fun w451 hs452 => ex_at (i := 0) (sz := 2) Tryz.underlying47 (sizeof_50 _) rfl ha392 rfl (by omega) rfl) ?_
    simp only [pq]
    refine hl_take 23 rfl (by kernel_rfl) (v := (pP b390 (o391 + 0 * 2 + 1))) (fun _ _ _ h => h) S405.sat rfl (fun w453 hs454 => ef (fa_50_1 _ _)) ?_
    simp only [pq]
    refine hl_take 24 rfl (by kernel_rfl) (v := (.slice xa398 pr.2.length xc399)) (fun _ _ _ h => h) S405.sat rfl (fun w455 hs456 => ex_load rfl (load1 (nagg_25 _) (St.fz (St.start hs456) (Le.cell le402 c397)))) ?_
    simp only [pq]
    refine hl_take 25 rfl (by kernel_rfl) (v := (.string ⟨pr.2.toArray⟩)) (fun _ _ _ h => h) S405.sat rfl (fun w457 hs458 => ex_convert (v := (.slice xa398 pr.2.length xc399)) rfl (run_string Tryz.underlying25 Tryz.underlying5 Tryz.underlying9 ((St.start hs458)).sat (r400.mono le402))) ?_
    simp only [pq]
    refine hl_take 26 rfl (by kernel_rfl) (v := (.int .i64 x0)) (fun _ _ _ h => h) S405.sat rfl (fun w459 hs460 => ex_move _) ?_
    simp only [pq]
    refine hl_take 27 rfl (by kernel_rfl) (v := (.int .u8 (((u8of x0).toNat : Nat) : Int))) (fun _ _ _ h => h) S405.sat rfl (fun w461 hs462 => ex_convert (v := (.int .i64 x0)) rfl (conv_u8 x0 _)) ?_
    simp only [pq]
    refine hl_next 28 (by kernel_rfl) rfl ?_
    refine stNew S405 (v := fun n => .slice (aA n 0) 1 1) rfl (ex_lit (ps := #[(0, (.int .u8 (((u8of x0).toNat : Nat) : Int)))]) (cells := #[(.int .u8 (((u8of x0).toNat : Nat) : Int))]) (E := 5) (bmap1 rfl) (fun w => by kernel_rfl)) (fun n463 w464 S465 => ?_)
    refine wl_nil (hl_back S465.sat ?_)
    refine hl_next 29 (by kernel_rfl) rfl ?_
    obtain ⟨S468, le469, hc470⟩ := St.freezeBlk S465 (i := 0) rfl
    have r472 : Bs _ (.slice (some ⟨n463, 0, none⟩) 1 1) ([u8of x0] : By) := bs_of_block (l := ([u8of x0] : By)) hc470 (rfl) (by unfold maxLen; simp)
    generalize addF F404 w464 n463 = F471 at *
    refine dr (.string ⟨([u8of x0] : By).toArray⟩) (ex_convert (v := (.slice (aA n463 0) 1 1)) rfl (run_string Tryz.underlying25 Tryz.underlying5 Tryz.underlying9 (S468).sat r472)) ?_
    refine wl_nil (hl_back (Sat.le S468.sat le469) ?_)
    refine hl_take 30 rfl (by kernel_rfl) (v := bT) (fun _ _ _ h => h) (Sat.le S468.sat le469) rfl (fun w473 hs474 => ex_strop (op := .eql) (l := pr.2) (m := ([u8of x0] : By)) (b := true) (by simp) rfl rfl (by rw [ht4]; exact beq_self_eq_true _)) ?_
    simp only [pq]
    refine hl_take 31 rfl (by kernel_rfl) (v := bT) (fun _ _ _ h => h) (Sat.le S468.sat le469) rfl (fun w475 hs476 => ex_pick (b := true) rfl) ?_
    simp only [pq]
    refine hl_take 32 rfl (by kernel_rfl) (v := bT) (fun _ _ _ h => h) (Sat.le S468.sat le469) rfl (fun w477 hs478 => ex_assign _) ?_
    simp only [pq]
    refine hl_done (by kernel_rfl) ?_
    refine hK370 _ _ ?_
    refine wp_ret ?_
    try simp only [xt]
    refine bR (res_t rfl (gD rfl)) ?_
    ·exact ⟨rfl, S468.gr.below⟩
   refine sk fun K479 hK479 => ?_
   refine dx ?_
   refine wn hK479 ?_
   cases z2 with
   | true =>
    refine wp_cond_true rfl ?_
    refine region_wl ?_
    refine dy ?_
    refine wl_nil ?_
    exact hJ369 _ _ ⟨7, F332, _, rfl, rfl, S347, Le.refl _, rfl⟩
   | false =>
    refine wp_cond_false rfl ?_
    refine wp_skip ?_
    exact hJ369 _ _ ⟨6, F332, _, rfl, rfl, S347, Le.refl _, rfl⟩
  refine sk fun K480 hK480 => ?_
  refine dx ?_
  simp only [pq]
  refine wn hK480 ?_
  cases z2 with
  | true =>
   refine wp_cond_true rfl ?_
   refine region_wl ?_
   refine dx ?_
   refine dr (.agg #[(iI 2), (iI 0), (iI 0), Zn]) (ex_build (bmap1 rfl) (by kernel_rfl)) ?_
   refine stNew S291 (v := fun n => .slice (aA n 0) 1 1) rfl (ex_lit (ps := #[(0, (.agg #[(iI 2), (iI 0), (iI 0), Zn]))]) (cells := #[(iI 2), (iI 0), (iI 0), Zn]) (E := 33) (bmap1 rfl) (fun w => by kernel_rfl)) (fun n481 w482 S483 => ?_)
   refine stPush (i := 0) (r := 0) (p := Ac.sync) (cs := [(iI 2), (iI 0), (iI 0), Zn]) S483 rfl i33 (.agg #[(iI 0), (iI 0), (iI 0), Zn]) 48 Tryz.underlying23 hi33 hz33 hs33 hb33 rfl (by decide) rfl rfl rfl rfl rfl (AcC.oneCell (F := F278) (p := Ac.sync) ⟨_, rfl, Bs.nil _⟩) (⟨_, rfl, Bs.nil _⟩) (Nat.le_refl _) S483.gr.below.size (by unfold maxLen; simp) (by simp) ?_
   intro v484 w485 S486 hn487
   simp only [pq]
   have S486 := St.drop S486 (.cons _ (List.Sublist.refl _))
   obtain ⟨a488, cap489, rfl, h490, h491⟩ := (S486.own (i := 0) rfl).shape
   unfold maxLen at h491
   refine dy ?_
   refine wl_nil ?_
   exact hJ298 _ _ ⟨a488, cap489, F278, _, rfl, rfl, S486, Le.refl _⟩
  | false =>
   refine wp_cond_false rfl ?_
   refine wp_skip ?_
   exact hJ298 _ _ ⟨(aA n285 0), 7, F278, _, rfl, rfl, S291, Le.refl _⟩
 refine sk fun K492 hK492 => ?_
 refine dx ?_
 refine wn hK492 ?_
 cases z3 with
 | true =>
  refine wp_cond_true rfl ?_
  refine region_wl ?_
  refine dr _ (ex_load rfl (load1 (nagg_25 _) (St.fz S141 (Le.cell le142 (hc139 0 _ rfl))))) ?_
  simp only [pq]
  refine stNew S141 (v := fun n => .slice (aA n 0) 1 1) rfl (ex_lit (ps := #[(0, (.int .u8 97))]) (cells := #[(.int .u8 97)]) (E := 5) (bmap1 rfl) (fun w => by kernel_rfl)) (fun n493 w494 S495 => ?_)
  refine stNew S495 (v := fun n => .slice (aA n 0) 1 1) rfl (ex_lit (ps := #[(0, (.int .u8 122))]) (cells := #[(.int .u8 122)]) (E := 5) (bmap1 rfl) (fun w => by kernel_rfl)) (fun n496 w497 S498 => ?_)
  simp only [pq]
  refine dr (.agg #[(iI 3), (.slice (aA n103 0) 1 1), (.slice (aA n493 0) 1 1), (.slice (aA n496 0) 1 1), Zn]) (ex_build (bmap4 rfl rfl rfl rfl) (by kernel_rfl)) ?_
  refine sW 2 S498 (size_27) fun w499 S500 => ?_
  refine wl_nil ?_
  obtain ⟨S501, le502, hc503⟩ := St.freezeBlk S500 (i := 0) rfl
  have r505 : Bs _ (.slice (some ⟨n496, 0, none⟩) 1 1) ([122] : By) := bs_of_block (l := ([122] : By)) hc503 (rfl) (by unfold maxLen; simp)
  generalize addF F144 w499 n496 = F504 at *
  obtain ⟨S506, le507, hc508⟩ := St.freezeBlk S501 (i := 0) rfl
  have r510 : Bs _ (.slice (some ⟨n493, 0, none⟩) 1 1) ([97] : By) := bs_of_block (l := ([97] : By)) hc508 (rfl) (by unfold maxLen; simp)
  generalize addF F504 w499 n493 = F509 at *
  exact hJ151 _ _ ⟨(aA n103 0), 1, (aA n493 0), 1, (aA n496 0), 1, none, 0, F509, _, rfl, rfl, S506, (le502.trans le507), (r136.mono (((le138.trans le142).trans le502).trans le507)), r510, (r505.mono le507), (Bs.nil _)⟩
 | false =>
  refine wp_cond_false rfl ?_
  refine wp_skip ?_
  exact hJ151 _ _ ⟨(aA n103 0), 1, (aA n112 0), 1, none, 0, none, 0, F144, _, rfl, rfl, S141, Le.refl _, (r136.mono (le138.trans le142)), (r131.mono ((le133.trans le138).trans le142)), (Bs.nil _), (Bs.nil _)⟩
end Go.Proofs.YtilgpdpooildcaaGreatDoor
