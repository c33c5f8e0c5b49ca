/- The walk of TopPhantom -/
import Derived.Test.YtilgpdpooildcaaGreatDoorBT12
import Derived.Test.YtilgpdpooildcaaGreatDoorBT2
namespace Go.Proofs.YtilgpdpooildcaaGreatDoor
set_option maxHeartbeats 8000000
open Go.RowKit
set_option maxRecDepth 100000
set_option linter.unusedVariables false
set_option linter.unusedSimpArgs false
theorem topPhantom_walk (W : World) (hT : Has W ∧ Tabs W) (x0 : Int) (b0 : -9223372036854775808 ≤ x0) (b0' : x0 ≤ 9223372036854775807) (x1 : Int) (b1 : -9223372036854775808 ≤ x1) (b1' : x1 ≤ 9223372036854775807) (x2 : Int) (b2 : -9223372036854775808 ≤ x2) (b2' : x2 ≤ 9223372036854775807) :
    Calls Tryz.prog 16 #[.int .i64 x0, .int .i64 x1, .int .i64 x2] W (Tells W (.bool true)) := by
 obtain ⟨i33, hi33, hz33, hs33, hb33⟩ := info_parts info_33
 have S := St.start (Sat.whole W)
 go_enter Tryz.func16, Tryz.ntmps16
 refine sk fun K101 hK101 => ?_
 refine dy ?_
 refine wn hK101 ?_
 refine sk fun K102 hK102 => ?_
 refine dx ?_
 simp only [pq]
 obtain ⟨k0, hk_k0, hk_k0_l⟩ := pick_nat x0 100 (by decide)
 refine stTells (v := (nI k0)) S rfl (fn2 (ent_20 _ _)) (hk_k0 ▸ Picked_spec x0 100 _ (by omega) (by omega) (by omega) (by omega)) (fun w103 S104 => ?_)
 refine dr (.int .u8 (((u8of ((k0 : Nat) : Int)).toNat : Nat) : Int)) (ex_convert (v := (nI k0)) rfl (conv_u8 ((k0 : Nat) : Int) _)) ?_
 refine dy ?_
 refine wn hK102 ?_
 refine sk fun K105 hK105 => ?_
 refine dx ?_
 simp only [pq]
 obtain ⟨k1, hk_k1, hk_k1_l⟩ := pick_nat x1 100 (by decide)
 refine stTells (v := (nI k1)) S104 rfl (fn2 (ent_20 _ _)) (hk_k1 ▸ Picked_spec x1 100 _ (by omega) (by omega) (by omega) (by omega)) (fun w106 S107 => ?_)
 refine dr (.int .u8 (((u8of ((k1 : Nat) : Int)).toNat : Nat) : Int)) (ex_convert (v := (nI k1)) rfl (conv_u8 ((k1 : Nat) : Int) _)) ?_
 refine dy ?_
 refine wn hK105 ?_
 refine sk fun K108 hK108 => ?_
 refine dx ?_
 simp only [pq]
 obtain ⟨k2, hk_k2, hk_k2_l⟩ := pick_nat x2 100 (by decide)
 refine stTells (v := (nI k2)) S107 rfl (fn2 (ent_20 _ _)) (hk_k2 ▸ Picked_spec x2 100 _ (by omega) (by omega) (by omega) (by omega)) (fun w109 S110 => ?_)
 refine dr (.int .u8 (((u8of ((k2 : Nat) : Int)).toNat : Nat) : Int)) (ex_convert (v := (nI k2)) rfl (conv_u8 ((k2 : Nat) : Int) _)) ?_
 refine dy ?_
 refine wn hK108 ?_
 refine sk fun K111 hK111 => ?_
 refine stNew S110 (v := fun n => .slice (aA n 0) 1 1) rfl (ex_lit (ps := #[(0, (.int .u8 112))]) (cells := #[(.int .u8 112)]) (E := 5) (bmap1 rfl) (fun w => by kernel_rfl)) (fun n112 w113 S114 => ?_)
 simp only [pq]
 refine dy ?_
 refine wn hK111 ?_
 refine sk fun K115 hK115 => ?_
 refine dr (.agg #[(iI 1), Zn, Zn, Zn, Zn]) (ex_build (bmap1 rfl) (by kernel_rfl)) ?_
 refine stGives S114 rfl (fn2 (ent_21 _ _)) (topAsk_spec _ _ _ 0 1 (⟨[], [], [], []⟩ : Rq) (S114).sat (hT.1.below S114.gr.below) ⟨_, _, _, _, rfl, (Bs.nil _), (Bs.nil _), (Bs.nil _), (Bs.nil _)⟩ ⟨by decide, by kernel_rfl⟩) ?_
 intro v121 w116 F118 S117 le119 R120
 obtain ⟨xa122, xc123, rfl, r124⟩ := R120
 have r124 : Bs _ (.slice xa122 (encQ 1 (⟨[], [], [], []⟩ : Rq)).length xc123) (encQ 1 (⟨[], [], [], []⟩ : Rq)) := r124
 iterate 2 refine dx ?_
 simp only [pq]
 refine stNew S117 (v := fun n => .slice (aA n 0) 1 1) rfl (ex_lit (ps := #[(0, (.int .u8 (((u8of ((k1 : Nat) : Int)).toNat : Nat) : Int)))]) (cells := #[(.int .u8 (((u8of ((k1 : Nat) : Int)).toNat : Nat) : Int))]) (E := 5) (bmap1 rfl) (fun w => by kernel_rfl)) (fun n125 w126 S127 => ?_)
 refine dx ?_
 refine stNew S127 (v := fun n => .slice (aA n 0) 1 1) rfl (ex_lit (ps := #[(0, (.int .u8 (((u8of ((k2 : Nat) : Int)).toNat : Nat) : Int)))]) (cells := #[(.int .u8 (((u8of ((k2 : Nat) : Int)).toNat : Nat) : Int))]) (E := 5) (bmap1 rfl) (fun w => by kernel_rfl)) (fun n128 w129 S130 => ?_)
 simp only [pq]
 refine dr (.agg #[(iI 3), (.slice (aA n112 0) 1 1), (.slice (aA n125 0) 1 1), (.slice (aA n128 0) 1 1), Zn]) (ex_build (bmap4 rfl rfl rfl rfl) (by kernel_rfl)) ?_
 simp only [pq]
 obtain ⟨S131, le132, hc133⟩ := St.freezeBlk S130 (i := 2) rfl
 have r135 : Bs _ (.slice (some ⟨n112, 0, none⟩) 1 1) ([112] : By) := bs_of_block (l := ([112] : By)) hc133 (rfl) (by unfold maxLen; simp)
 generalize addF F118 w129 n112 = F134 at *
 obtain ⟨S136, le137, hc138⟩ := St.freezeBlk S131 (i := 1) rfl
 have r140 : Bs _ (.slice (some ⟨n125, 0, none⟩) 1 1) ([u8of ((k1 : Nat) : Int)] : By) := bs_of_block (l := ([u8of ((k1 : Nat) : Int)] : By)) hc138 (rfl) (by unfold maxLen; simp)
 generalize addF F134 w129 n125 = F139 at *
 obtain ⟨S141, le142, hc143⟩ := St.freezeBlk S136 (i := 0) rfl
 have r145 : Bs _ (.slice (some ⟨n128, 0, none⟩) 1 1) ([u8of ((k2 : Nat) : Int)] : By) := bs_of_block (l := ([u8of ((k2 : Nat) : Int)] : By)) hc143 (rfl) (by unfold maxLen; simp)
 generalize addF F139 w129 n128 = F144 at *
 refine stGives S141 rfl (fn2 (ent_21 _ _)) (topAsk_spec _ _ _ 0 3 (⟨([112] : By), ([u8of ((k1 : Nat) : Int)] : By), ([u8of ((k2 : Nat) : Int)] : By), []⟩ : Rq) (S141).sat (hT.1.below S141.gr.below) ⟨_, _, _, _, rfl, (r135.mono (le137.trans le142)), (r140.mono le142), r145, (Bs.nil _)⟩ ⟨by decide, by kernel_rfl⟩) ?_
 intro v151 w146 F148 S147 le149 R150
 obtain ⟨xa152, xc153, rfl, r154⟩ := R150
 have r154 : Bs _ (.slice xa152 (encQ 3 (⟨([112] : By), ([u8of ((k1 : Nat) : Int)] : By), ([u8of ((k2 : Nat) : Int)] : By), []⟩ : Rq)).length xc153) (encQ 3 (⟨([112] : By), ([u8of ((k1 : Nat) : Int)] : By), ([u8of ((k2 : Nat) : Int)] : By), []⟩ : Rq)) := r154
 refine dr (.agg #[(iI 1), Zn, Zn, Zn, Zn]) (ex_build (bmap1 rfl) (by kernel_rfl)) ?_
 refine stGives S147 rfl (fn2 (ent_21 _ _)) (topAsk_spec _ _ _ 1 1 (⟨[], [], [], []⟩ : Rq) (S147).sat (hT.1.below S147.gr.below) ⟨_, _, _, _, rfl, (Bs.nil _), (Bs.nil _), (Bs.nil _), (Bs.nil _)⟩ ⟨by decide, by kernel_rfl⟩) ?_
 intro v160 w155 F157 S156 le158 R159
 obtain ⟨xa161, xc162, rfl, r163⟩ := R159
 have r163 : Bs _ (.slice xa161 (encQ 1 (⟨[], [], [], []⟩ : Rq)).length xc162) (encQ 1 (⟨[], [], [], []⟩ : Rq)) := r163
 simp only [pq]
 iterate 2 refine dx ?_
 refine stNew S156 (v := fun n => .slice (aA n 0) 1 1) rfl (ex_lit (ps := #[(0, (.int .u8 (((u8of ((k0 : Nat) : Int)).toNat : Nat) : Int)))]) (cells := #[(.int .u8 (((u8of ((k0 : Nat) : Int)).toNat : Nat) : Int))]) (E := 5) (bmap1 rfl) (fun w => by kernel_rfl)) (fun n164 w165 S166 => ?_)
 refine dr (.agg #[(iI 4), (.slice (aA n112 0) 1 1), (.slice (aA n164 0) 1 1), Zn, Zn]) (ex_build (bmap3 rfl rfl rfl) (by kernel_rfl)) ?_
 simp only [pq]
 obtain ⟨S167, le168, hc169⟩ := St.freezeBlk S166 (i := 0) rfl
 have r171 : Bs _ (.slice (some ⟨n164, 0, none⟩) 1 1) ([u8of ((k0 : Nat) : Int)] : By) := bs_of_block (l := ([u8of ((k0 : Nat) : Int)] : By)) hc169 (rfl) (by unfold maxLen; simp)
 generalize addF F157 w165 n164 = F170 at *
 refine stGives S167 rfl (fn2 (ent_21 _ _)) (topAsk_spec _ _ _ 1 4 (⟨([112] : By), ([u8of ((k0 : Nat) : Int)] : By), [], []⟩ : Rq) (S167).sat (hT.1.below S167.gr.below) ⟨_, _, _, _, rfl, (r135.mono ((((le137.trans le142).trans le149).trans le158).trans le168)), r171, (Bs.nil _), (Bs.nil _)⟩ ⟨by decide, by kernel_rfl⟩) ?_
 intro v177 w172 F174 S173 le175 R176
 obtain ⟨xa178, xc179, rfl, r180⟩ := R176
 have r180 : Bs _ (.slice xa178 (encQ 4 (⟨([112] : By), ([u8of ((k0 : Nat) : Int)] : By), [], []⟩ : Rq)).length xc179) (encQ 4 (⟨([112] : By), ([u8of ((k0 : Nat) : Int)] : By), [], []⟩ : Rq)) := r180
 refine dr (.agg #[(iI 6), Zn, Zn, Zn, Zn]) (ex_build (bmap1 rfl) (by kernel_rfl)) ?_
 refine stGives S173 rfl (fn2 (ent_21 _ _)) (topAsk_spec _ _ _ 1 6 (⟨[], [], [], []⟩ : Rq) (S173).sat (hT.1.below S173.gr.below) ⟨_, _, _, _, rfl, (Bs.nil _), (Bs.nil _), (Bs.nil _), (Bs.nil _)⟩ ⟨by decide, by kernel_rfl⟩) ?_
 intro v186 w181 F183 S182 le184 R185
 obtain ⟨xa187, xc188, rfl, r189⟩ := R185
 have r189 : Bs _ (.slice xa187 (encQ 6 (⟨[], [], [], []⟩ : Rq)).length xc188) (encQ 6 (⟨[], [], [], []⟩ : Rq)) := r189
 simp only [pq]
 refine dr (.agg #[(iI 2), (iI 0), (iI 0), Zn]) (ex_build (bmap1 rfl) (by kernel_rfl)) ?_
 refine dx ?_
 refine stNew S182 (v := fun n => .slice (aA n 0) 1 1) rfl (ex_lit (ps := #[(0, (.int .u8 200))]) (cells := #[(.int .u8 200)]) (E := 5) (bmap1 rfl) (fun w => by kernel_rfl)) (fun n190 w191 S192 => ?_)
 refine dr (.agg #[(iI 4), (.slice (aA n112 0) 1 1), (.slice (aA n190 0) 1 1), Zn, Zn]) (ex_build (bmap3 rfl rfl rfl) (by kernel_rfl)) ?_
 simp only [pq]
 obtain ⟨S193, le194, hc195⟩ := St.freezeBlk S192 (i := 0) rfl
 have r197 : Bs _ (.slice (some ⟨n190, 0, none⟩) 1 1) ([200] : By) := bs_of_block (l := ([200] : By)) hc195 (rfl) (by unfold maxLen; simp)
 generalize addF F183 w191 n190 = F196 at *
 refine stGives S193 rfl (fn2 (ent_21 _ _)) (topAsk_spec _ _ _ 0 4 (⟨([112] : By), ([200] : By), [], []⟩ : Rq) (S193).sat (hT.1.below S193.gr.below) ⟨_, _, _, _, rfl, (r135.mono (((((((le137.trans le142).trans le149).trans le158).trans le168).trans le175).trans le184).trans le194)), r197, (Bs.nil _), (Bs.nil _)⟩ ⟨by decide, by kernel_rfl⟩) ?_
 intro v203 w198 F200 S199 le201 R202
 obtain ⟨xa204, xc205, rfl, r206⟩ := R202
 have r206 : Bs _ (.slice xa204 (encQ 4 (⟨([112] : By), ([200] : By), [], []⟩ : Rq)).length xc205) (encQ 4 (⟨([112] : By), ([200] : By), [], []⟩ : Rq)) := r206
 refine dr (.agg #[(iI 6), Zn, Zn, Zn, Zn]) (ex_build (bmap1 rfl) (by kernel_rfl)) ?_
 refine stGives S199 rfl (fn2 (ent_21 _ _)) (topAsk_spec _ _ _ 0 6 (⟨[], [], [], []⟩ : Rq) (S199).sat (hT.1.below S199.gr.below) ⟨_, _, _, _, rfl, (Bs.nil _), (Bs.nil _), (Bs.nil _), (Bs.nil _)⟩ ⟨by decide, by kernel_rfl⟩) ?_
 intro v212 w207 F209 S208 le210 R211
 obtain ⟨xa213, xc214, rfl, r215⟩ := R211
 have r215 : Bs _ (.slice xa213 (encQ 6 (⟨[], [], [], []⟩ : Rq)).length xc214) (encQ 6 (⟨[], [], [], []⟩ : Rq)) := r215
 simp only [pq]
 refine dr (.agg #[(iI 2), (iI 0), (iI 0), Zn]) (ex_build (bmap1 rfl) (by kernel_rfl)) ?_
 refine stNew S208 (v := fun n => .slice (aA n 0) 9 9) rfl (ex_lit (ps := #[(0, (.agg #[(iI 1), (iI 0), (iI 0), (.slice xa122 (encQ 1 (⟨[], [], [], []⟩ : Rq)).length xc123)])), (1, (.agg #[(iI 1), (iI 0), (iI 0), (.slice xa152 (encQ 3 (⟨([112] : By), ([u8of ((k1 : Nat) : Int)] : By), ([u8of ((k2 : Nat) : Int)] : By), []⟩ : Rq)).length xc153)])), (2, (.agg #[(iI 1), (iI 1), (iI 0), (.slice xa161 (encQ 1 (⟨[], [], [], []⟩ : Rq)).length xc162)])), (3, (.agg #[(iI 1), (iI 1), (iI 0), (.slice xa178 (encQ 4 (⟨([112] : By), ([u8of ((k0 : Nat) : Int)] : By), [], []⟩ : Rq)).length xc179)])), (4, (.agg #[(iI 1), (iI 1), (iI 0), (.slice xa187 (encQ 6 (⟨[], [], [], []⟩ : Rq)).length xc188)])), (5, (.agg #[(iI 2), (iI 0), (iI 0), Zn])), (6, (.agg #[(iI 1), (iI 0), (iI 0), (.slice xa204 (encQ 4 (⟨([112] : By), ([200] : By), [], []⟩ : Rq)).length xc205)])), (7, (.agg #[(iI 1), (iI 0), (iI 0), (.slice xa213 (encQ 6 (⟨[], [], [], []⟩ : Rq)).length xc214)])), (8, (.agg #[(iI 2), (iI 0), (iI 0), Zn]))]) (cells := #[(iI 1), (iI 0), (iI 0), (.slice xa122 (encQ 1 (⟨[], [], [], []⟩ : Rq)).length xc123), (iI 1), (iI 0), (iI 0), (.slice xa152 (encQ 3 (⟨([112] : By), ([u8of ((k1 : Nat) : Int)] : By), ([u8of ((k2 : Nat) : Int)] : By), []⟩ : Rq)).length xc153), (iI 1), (iI 1), (iI 0), (.slice xa161 (encQ 1 (⟨[], [], [], []⟩ : Rq)).length xc162), (iI 1), (iI 1), (iI 0), (.slice xa178 (encQ 4 (⟨([112] : By), ([u8of ((k0 : Nat) : Int)] : By), [], []⟩ : Rq)).length xc179), (iI 1), (iI 1), (iI 0), (.slice xa187 (encQ 6 (⟨[], [], [], []⟩ : Rq)).length xc188), (iI 2), (iI 0), (iI 0), Zn, (iI 1), (iI 0), (iI 0), (.slice xa204 (encQ 4 (⟨([112] : By), ([200] : By), [], []⟩ : Rq)).length xc205), (iI 1), (iI 0), (iI 0), (.slice xa213 (encQ 6 (⟨[], [], [], []⟩ : Rq)).length xc214), (iI 2), (iI 0), (iI 0), Zn]) (E := 33) (bmap9 rfl rfl rfl rfl rfl rfl rfl rfl rfl) (fun w => by kernel_rfl)) (fun n216 w217 S218 => ?_)
 refine dy ?_
 refine wn hK115 ?_
 refine wp_seq_k (fun K219 hK219 => ?_)
 have S220 : St W (whole W) w217 F209 [] [ownP 4 AcC AcC.mono 33 W.heap.size (.slice (aA n216 0) 9 9) [(Ac.ask 0 (encQ 1 (⟨[], [], [], []⟩ : Rq))), (Ac.ask 0 (encQ 3 (⟨([112] : By), ([u8of ((k1 : Nat) : Int)] : By), ([u8of ((k2 : Nat) : Int)] : By), []⟩ : Rq))), (Ac.ask 1 (encQ 1 (⟨[], [], [], []⟩ : Rq))), (Ac.ask 1 (encQ 4 (⟨([112] : By), ([u8of ((k0 : Nat) : Int)] : By), [], []⟩ : Rq))), (Ac.ask 1 (encQ 6 (⟨[], [], [], []⟩ : Rq))), Ac.sync, (Ac.ask 0 (encQ 4 (⟨([112] : By), ([200] : By), [], []⟩ : Rq))), (Ac.ask 0 (encQ 6 (⟨[], [], [], []⟩ : Rq))), Ac.sync]] := St.blkRow (k := 4) (cap := 9) (hR := AcC.mono) (l := ([(Ac.ask 0 (encQ 1 (⟨[], [], [], []⟩ : Rq))), (Ac.ask 0 (encQ 3 (⟨([112] : By), ([u8of ((k1 : Nat) : Int)] : By), ([u8of ((k2 : Nat) : Int)] : By), []⟩ : Rq))), (Ac.ask 1 (encQ 1 (⟨[], [], [], []⟩ : Rq))), (Ac.ask 1 (encQ 4 (⟨([112] : By), ([u8of ((k0 : Nat) : Int)] : By), [], []⟩ : Rq))), (Ac.ask 1 (encQ 6 (⟨[], [], [], []⟩ : Rq))), Ac.sync, (Ac.ask 0 (encQ 4 (⟨([112] : By), ([200] : By), [], []⟩ : Rq))), (Ac.ask 0 (encQ 6 (⟨[], [], [], []⟩ : Rq))), Ac.sync] : List Ac)) (el := [[(iI 1), (iI 0), (iI 0), (.slice xa122 (encQ 1 (⟨[], [], [], []⟩ : Rq)).length xc123)], [(iI 1), (iI 0), (iI 0), (.slice xa152 (encQ 3 (⟨([112] : By), ([u8of ((k1 : Nat) : Int)] : By), ([u8of ((k2 : Nat) : Int)] : By), []⟩ : Rq)).length xc153)], [(iI 1), (iI 1), (iI 0), (.slice xa161 (encQ 1 (⟨[], [], [], []⟩ : Rq)).length xc162)], [(iI 1), (iI 1), (iI 0), (.slice xa178 (encQ 4 (⟨([112] : By), ([u8of ((k0 : Nat) : Int)] : By), [], []⟩ : Rq)).length xc179)], [(iI 1), (iI 1), (iI 0), (.slice xa187 (encQ 6 (⟨[], [], [], []⟩ : Rq)).length xc188)], [(iI 2), (iI 0), (iI 0), Zn], [(iI 1), (iI 0), (iI 0), (.slice xa204 (encQ 4 (⟨([112] : By), ([200] : By), [], []⟩ : Rq)).length xc205)], [(iI 1), (iI 0), (iI 0), (.slice xa213 (encQ 6 (⟨[], [], [], []⟩ : Rq)).length xc214)], [(iI 2), (iI 0), (iI 0), Zn]]) S218 rfl ⟨⟨_, rfl, (r124.mono ((((((((((le132.trans le137).trans le142).trans le149).trans le158).trans le168).trans le175).trans le184).trans le194).trans le201).trans le210))⟩, ⟨_, rfl, (r154.mono ((((((le158.trans le168).trans le175).trans le184).trans le194).trans le201).trans le210))⟩, ⟨_, rfl, (r163.mono (((((le168.trans le175).trans le184).trans le194).trans le201).trans le210))⟩, ⟨_, rfl, (r180.mono (((le184.trans le194).trans le201).trans le210))⟩, ⟨_, rfl, (r189.mono ((le194.trans le201).trans le210))⟩, ⟨_, rfl, Bs.nil _⟩, ⟨_, rfl, (r206.mono le210)⟩, ⟨_, rfl, r215⟩, ⟨_, rfl, Bs.nil _⟩, trivial⟩ (by simp) rfl (by simp) (by unfold maxLen; decide) (S218.blk _ (List.mem_cons_self ..)).2.2
 refine region_wl ?_
 refine dx ?_
 simp only [pq]
 obtain ⟨G, h1, ge1, ge2, ge3⟩ : ∃ G, (ScrOk ([(Ac.ask 0 (encQ 1 (⟨[], [], [], []⟩ : Rq))), (Ac.ask 0 (encQ 3 (⟨([112] : By), ([u8of ((k1 : Nat) : Int)] : By), ([u8of ((k2 : Nat) : Int)] : By), []⟩ : Rq))), (Ac.ask 1 (encQ 1 (⟨[], [], [], []⟩ : Rq))), (Ac.ask 1 (encQ 4 (⟨([112] : By), ([u8of ((k0 : Nat) : Int)] : By), [], []⟩ : Rq))), (Ac.ask 1 (encQ 6 (⟨[], [], [], []⟩ : Rq))), Ac.sync, (Ac.ask 0 (encQ 4 (⟨([112] : By), ([200] : By), [], []⟩ : Rq))), (Ac.ask 0 (encQ 6 (⟨[], [], [], []⟩ : Rq))), Ac.sync]) ∧ runE ([(Ac.ask 0 (encQ 1 (⟨[], [], [], []⟩ : Rq))), (Ac.ask 0 (encQ 3 (⟨([112] : By), ([u8of ((k1 : Nat) : Int)] : By), ([u8of ((k2 : Nat) : Int)] : By), []⟩ : Rq))), (Ac.ask 1 (encQ 1 (⟨[], [], [], []⟩ : Rq))), (Ac.ask 1 (encQ 4 (⟨([112] : By), ([u8of ((k0 : Nat) : Int)] : By), [], []⟩ : Rq))), (Ac.ask 1 (encQ 6 (⟨[], [], [], []⟩ : Rq))), Ac.sync, (Ac.ask 0 (encQ 4 (⟨([112] : By), ([200] : By), [], []⟩ : Rq))), (Ac.ask 0 (encQ 6 (⟨[], [], [], []⟩ : Rq))), Ac.sync]) = G) ∧ G.replies.length = 7 ∧ ((((u8of ((k1 : Nat) : Int)).toNat : Int) ≤ (u8of ((k0 : Nat) : Int)).toNat ∧ ((u8of ((k0 : Nat) : Int)).toNat : Int) ≤ (u8of ((k2 : Nat) : Int)).toNat) → G.synced = 1 ∧ G.replies[6]? = some (repC 0 9)) ∧ (¬ (((u8of ((k1 : Nat) : Int)).toNat : Int) ≤ (u8of ((k0 : Nat) : Int)).toNat ∧ ((u8of ((k0 : Nat) : Int)).toNat : Int) ≤ (u8of ((k2 : Nat) : Int)).toNat) → G.synced = 2 ∧ G.replies[6]? = some (repT 0 2)) := ⟨_, scr_no (l := phantomR (u8of ((k1 : Nat) : Int)) (u8of ((k2 : Nat) : Int)) (u8of ((k0 : Nat) : Int))) (by kernel_rfl), phantom_run (u8of ((k1 : Nat) : Int)) (u8of ((k2 : Nat) : Int)) k0 (by omega)⟩
 obtain ⟨F221, S222, le223, hv224⟩ := St.freeze S220 (i := 0) rfl (Nat.le_refl _)
 have hv224 : Acs _ (.slice (some ⟨n216, 0, none⟩) 9 9) [(Ac.ask 0 (encQ 1 (⟨[], [], [], []⟩ : Rq))), (Ac.ask 0 (encQ 3 (⟨([112] : By), ([u8of ((k1 : Nat) : Int)] : By), ([u8of ((k2 : Nat) : Int)] : By), []⟩ : Rq))), (Ac.ask 1 (encQ 1 (⟨[], [], [], []⟩ : Rq))), (Ac.ask 1 (encQ 4 (⟨([112] : By), ([u8of ((k0 : Nat) : Int)] : By), [], []⟩ : Rq))), (Ac.ask 1 (encQ 6 (⟨[], [], [], []⟩ : Rq))), Ac.sync, (Ac.ask 0 (encQ 4 (⟨([112] : By), ([200] : By), [], []⟩ : Rq))), (Ac.ask 0 (encQ 6 (⟨[], [], [], []⟩ : Rq))), Ac.sync] := hv224
 refine stGives S222 rfl (fn1 (ent_23 _ _)) (ranIs_spec _ _ _ [(Ac.ask 0 (encQ 1 (⟨[], [], [], []⟩ : Rq))), (Ac.ask 0 (encQ 3 (⟨([112] : By), ([u8of ((k1 : Nat) : Int)] : By), ([u8of ((k2 : Nat) : Int)] : By), []⟩ : Rq))), (Ac.ask 1 (encQ 1 (⟨[], [], [], []⟩ : Rq))), (Ac.ask 1 (encQ 4 (⟨([112] : By), ([u8of ((k0 : Nat) : Int)] : By), [], []⟩ : Rq))), (Ac.ask 1 (encQ 6 (⟨[], [], [], []⟩ : Rq))), Ac.sync, (Ac.ask 0 (encQ 4 (⟨([112] : By), ([200] : By), [], []⟩ : Rq))), (Ac.ask 0 (encQ 6 (⟨[], [], [], []⟩ : Rq))), Ac.sync] (S222).sat (hT.1.below S222.gr.below) (hT.2.at S222.gr.below) hv224 h1.1 h1.2) ?_
 intro v230 w225 F227 S226 le228 R229
 obtain ⟨_, rfl, R231⟩ := R229
 obtain ⟨a232, c233, a234, c235, rfl, r236, r237⟩ := R231
 refine dx ?_
 iterate 2 refine de ?_
 simp only [pq]
 refine sA S226 (zero_43 _) fun n238 w239 S240 => ?_
 refine sW 0 S240 (size_43) fun w241 S242 => ?_
 refine dy ?_
 simp only [pq]
 refine wl_nil (hK219 _ _ ?_)
 refine wp_seq_k (fun K243 hK243 => ?_)
 refine sk fun K244 hK244 => ?_
 refine dx ?_
 refine dt ?_
 refine dx ?_
 simp only [pq]
 refine df (fa_43_4 _ _) ?_
 refine dl (nagg_41 _) S242 0 ?_
 refine dn Tryz.underlying41 ?_
 simp only [pq]
 refine neqF ?_
 refine dp ?_
 refine wn hK244 ?_
 refine wp_cond_false rfl ?_
 refine wp_skip ?_
 refine hK243 _ _ ?_
 refine wp_seq_k (fun K245 hK245 => ?_)
 refine sk fun K246 hK246 => ?_
 iterate 2 refine dx ?_
 simp only [pq]
 by_cases hc66 : (((u8of ((k1 : Nat) : Int)).toNat : Nat) : Int) ≤ (((u8of ((k0 : Nat) : Int)).toNat : Nat) : Int)
 ·refine geqT ?_
  iterate 2 refine dx ?_
  simp only [pq]
  refine dx ?_
  simp only [pq]
  by_cases hc70 : (((u8of ((k0 : Nat) : Int)).toNat : Nat) : Int) ≤ (((u8of ((k2 : Nat) : Int)).toNat : Nat) : Int)
  ·refine leqT ?_
   refine dp ?_
   refine wn hK246 ?_
   refine wp_cond_true rfl ?_
   refine wp_seq_k (fun K247 hK247 => ?_)
   obtain ⟨q1, q2⟩ := ge2 ⟨by omega, by omega⟩
   obtain ⟨b248, o249, ha250, xa251, xc252, xa253, xc254, xa255, xc256, c257, c258, c259, c260, c261, c262, c263, r264, r265, r266⟩ := Rps.get r237 q2
   refine region_wl ?_
   refine df (fa_43_1 _ _) ?_
   refine dl (nagg_3 _) S242 0 ?_
   refine eqlT ?_
   simp only [pq]
   refine dx ?_
   refine df (fa_43_4 _ _) ?_
   refine dl (nagg_41 _) S242 0 ?_
   simp only [pq]
   refine dr (pP b248 (o249 + 6 * 15)) (ex_at (i := 6) (sz := 15) Tryz.underlying41 (sizeof_54 _) rfl ha250 rfl (by omega) rfl) ?_
   refine df (fa_54_1 _ _) ?_
   refine dr _ (ex_load rfl (load1 (nagg_35 _) (St.fz S242 c258))) ?_
   simp only [pq]
   refine dr bT (ex_eql (m := (repC 0 9).code) (n := (9 : Int)) (b := true) rfl rfl (beq_iff_eq.2 (rfl))) ?_
   refine dp ?_
   refine dy ?_
   simp only [pq]
   refine wl_nil (hK247 _ _ ?_)
   refine wp_ret ?_
   try simp only [xt]
   refine bR (res_t rfl (gD rfl)) ?_
   ·exact ⟨rfl, S242.gr.below⟩
  ·refine leqF ?_
   refine dp ?_
   refine wn hK246 ?_
   refine wp_cond_false rfl ?_
   refine wp_skip ?_
   refine hK245 _ _ ?_
   refine wp_seq_k (fun K267 hK267 => ?_)
   obtain ⟨q1, q2⟩ := ge3 (by omega)
   obtain ⟨b268, o269, ha270, xa271, xc272, xa273, xc274, xa275, xc276, c277, c278, c279, c280, c281, c282, c283, r284, r285, r286⟩ := Rps.get r237 q2
   refine region_wl ?_
   refine df (fa_43_1 _ _) ?_
   refine dl (nagg_3 _) S242 0 ?_
   refine eqlT ?_
   simp only [pq]
   refine dx ?_
   refine df (fa_43_4 _ _) ?_
   refine dl (nagg_41 _) S242 0 ?_
   simp only [pq]
   refine dr (pP b268 (o269 + 6 * 15)) (ex_at (i := 6) (sz := 15) Tryz.underlying41 (sizeof_54 _) rfl ha270 rfl (by omega) rfl) ?_
   refine df (fa_54_1 _ _) ?_
   refine dr _ (ex_load rfl (load1 (nagg_35 _) (St.fz S242 c278))) ?_
   simp only [pq]
   refine dr bT (ex_eql (m := (repT 0 2).code) (n := (0 : Int)) (b := true) rfl rfl (beq_iff_eq.2 (rfl))) ?_
   refine dp ?_
   refine dx ?_
   simp only [pq]
   refine df (fa_43_4 _ _) ?_
   refine dl (nagg_41 _) S242 0 ?_
   refine dr (pP b268 (o269 + 6 * 15)) (ex_at (i := 6) (sz := 15) Tryz.underlying41 (sizeof_54 _) rfl ha270 rfl (by omega) rfl) ?_
   simp only [pq]
   refine df (fa_54_2 _ _) ?_
   refine dr _ (ex_load rfl (load1 (nagg_3 _) (St.fz S242 c279))) ?_
   refine dr bT (ex_eql (m := (repT 0 2).turn) (n := (2 : Int)) (b := true) rfl rfl (beq_iff_eq.2 (rfl))) ?_
   simp only [pq]
   refine dp ?_
   refine dy ?_
   refine wl_nil (hK267 _ _ ?_)
   refine wp_ret ?_
   try simp only [xt]
   refine bR (res_t rfl (gD rfl)) ?_
   ·exact ⟨rfl, S242.gr.below⟩
 ·refine geqF ?_
  refine dx ?_
  simp only [pq]
  iterate 3 refine nO ?_
  simp only [pq]
  refine dp ?_
  refine wn hK246 ?_
  refine wp_cond_false rfl ?_
  refine wp_skip ?_
  refine hK245 _ _ ?_
  refine wp_seq_k (fun K287 hK287 => ?_)
  obtain ⟨q1, q2⟩ := ge3 (by omega)
  obtain ⟨b288, o289, ha290, xa291, xc292, xa293, xc294, xa295, xc296, c297, c298, c299, c300, c301, c302, c303, r304, r305, r306⟩ := Rps.get r237 q2
  refine region_wl ?_
  refine df (fa_43_1 _ _) ?_
  refine dl (nagg_3 _) S242 0 ?_
  refine eqlT ?_
  simp only [pq]
  refine dx ?_
  refine df (fa_43_4 _ _) ?_
  refine dl (nagg_41 _) S242 0 ?_
  simp only [pq]
  refine dr (pP b288 (o289 + 6 * 15)) (ex_at (i := 6) (sz := 15) Tryz.underlying41 (sizeof_54 _) rfl ha290 rfl (by omega) rfl) ?_
  refine df (fa_54_1 _ _) ?_
  refine dr _ (ex_load rfl (load1 (nagg_35 _) (St.fz S242 c298))) ?_
  simp only [pq]
  refine dr bT (ex_eql (m := (repT 0 2).code) (n := (0 : Int)) (b := true) rfl rfl (beq_iff_eq.2 (rfl))) ?_
  refine dp ?_
  refine dx ?_
  simp only [pq]
  refine df (fa_43_4 _ _) ?_
  refine dl (nagg_41 _) S242 0 ?_
  refine dr (pP b288 (o289 + 6 * 15)) (ex_at (i := 6) (sz := 15) Tryz.underlying41 (sizeof_54 _) rfl ha290 rfl (by omega) rfl) ?_
  simp only [pq]
  refine df (fa_54_2 _ _) ?_
  refine dr _ (ex_load rfl (load1 (nagg_3 _) (St.fz S242 c299))) ?_
  refine dr bT (ex_eql (m := (repT 0 2).turn) (n := (2 : Int)) (b := true) rfl rfl (beq_iff_eq.2 (rfl))) ?_
  simp only [pq]
  refine dp ?_
  refine dy ?_
  refine wl_nil (hK287 _ _ ?_)
  refine wp_ret ?_
  try simp only [xt]
  refine bR (res_t rfl (gD rfl)) ?_
  ·exact ⟨rfl, S242.gr.below⟩
end Go.Proofs.YtilgpdpooildcaaGreatDoor
