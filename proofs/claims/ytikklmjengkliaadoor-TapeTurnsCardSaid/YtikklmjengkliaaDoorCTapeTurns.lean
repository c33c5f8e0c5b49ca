/- The walk of TapeTurns -/
import Derived.Test.YtikklmjengkliaaDoorBT11
namespace Go.Proofs.YtikklmjengkliaaDoor
open Go.RowKit
set_option maxRecDepth 100000
set_option linter.unusedVariables false
set_option linter.unusedSimpArgs false
set_option maxHeartbeats 8000000 in
theorem tapeTurns_walk (W : World) (hT : Tabs W) (v0 : Value) (l0 : List Pl) (z0 : Pls (whole W) v0 l0) (p1 : Pl) (v10 : Value) (z10 : Bs (whole W) v10 p1.name) (v11 : Value) (z11 : Bs (whole W) v11 p1.key) (v12 : Value) (z12 : Bs (whole W) v12 p1.value) (x2 : Int) (b2 : -9223372036854775808 ≤ x2) (b2' : x2 ≤ 9223372036854775807) :
    Calls Tryd.prog 11 #[v0, .agg #[v10, v11, v12, .bool p1.gone], .int .i64 x2] W (Tells W (.bool true)) := by
 obtain ⟨a0, c0, rfl, q0, q0'⟩ := Sl.shape z0
 obtain ⟨a10, c10, rfl, _⟩ := z10.shape
 obtain ⟨a11, c11, rfl, _⟩ := z11.shape
 obtain ⟨a12, c12, rfl, _⟩ := z12.shape
 obtain ⟨i5, hi5, hz5, hs5, hb5⟩ := info_parts infoU8
 have S := St.start (Sat.whole W)
 go_enter Tryd.func11, Tryd.ntmps11
 refine wp_seq_k (fun K101 hK101 => region_wl ?_)
 refine stNew S (v := fun n => .pointer (some ⟨n, 0, none⟩)) rfl (ex_box (v := (.agg #[(.slice a10 p1.name.length c10), (.slice a11 p1.key.length c11), (.slice a12 p1.value.length c12), (.bool p1.gone)])) rfl) (fun n102 w103 S104 => ?_)
 simp only [pS, pN, pA, pC, pZ]
 have S104 : St W (whole W) w103 (whole W) [⟨n102, [(.slice a10 p1.name.length c10), (.slice a11 p1.key.length c11), (.slice a12 p1.value.length c12), (.bool p1.gone)], 45⟩] [] := S104
 refine do_ rfl (.bool false) (ex_assign _) ?_
 simp only [pS, pN, pA, pC, pZ]
 refine wl_nil (hK101 _ _ ?_)
 refine wp_seq_k (fun K105 hK105 => region_wl ?_)
 refine do_ rfl (.slice a0 l0.length c0) (ex_move _) ?_
 simp only [pS, pN, pA, pC, pZ]
 refine stGives S104 rfl (ex_fn (vs := #[(.slice a0 l0.length c0), (.int .i64 12)]) (map2 rfl rfl) rfl (ent_25 _ _)) (commitsN_spec _ _ _ l0 12 (S104).sat z0 (by omega)) ?_
 intro v111 w106 F108 S107 le109 R110
 obtain ⟨cs, R110, hh, hcl, hcp⟩ := R110
 obtain ⟨a112, c113, rfl, h114, h115⟩ := Sl.shape R110
 unfold maxLen at h115
 have htl := tapeB_len_le hh.ok
 simp only [pS, pN, pA, pC, pZ]
 refine do_ rfl (.slice a112 cs.length c113) (ex_assign _) ?_
 simp only [pS, pN, pA, pC, pZ]
 refine wl_nil (hK105 _ _ ?_)
 refine wp_seq_k (fun K116 hK116 => region_wl ?_)
 refine do_ rfl (.slice a112 cs.length c113) (ex_move _) ?_
 simp only [pS, pN, pA, pC, pZ]
 refine stGives S107 rfl (ex_fn (vs := #[(.slice a112 cs.length c113)]) (map1 rfl) rfl (ent_29 _ _)) (taped_spec _ _ _ cs (S107).sat (hT.at S107.gr.below) R110 hh.ok (by omega)) ?_
 intro v122 w117 F119 S118 le120 R121
 obtain ⟨_, rfl, R123⟩ := R121
 obtain ⟨a124, c125, rfl, r126⟩ := R123
 have r126 : Bs _ (.slice a124 (tapeB cs).length c125) (tapeB cs) := r126
 simp only [pS, pN, pA, pC, pZ]
 refine do_ rfl (.tuple #[(.agg #[(.slice a124 (tapeB cs).length c125), (.int .i64 0)]), (.bool true)]) (ex_move _) ?_
 simp only [pS, pN, pA, pC, pZ]
 refine do_ rfl (.agg #[(.slice a124 (tapeB cs).length c125), (.int .i64 0)]) (ex_extract rfl rfl) ?_
 simp only [pS, pN, pA, pC, pZ]
 refine do_ rfl (.bool true) (ex_extract rfl rfl) ?_
 simp only [pS, pN, pA, pC, pZ]
 refine stNew S118 (v := fun n => .pointer (some ⟨n, 0, none⟩)) rfl (ex_alloc (zero_67 _)) (fun n127 w128 S129 => ?_)
 simp only [pS, pN, pA, pC, pZ]
 have S129 : St W (whole W) w128 F119 [⟨n127, [(.slice none 0 0), (.int .i64 0)], 67⟩, ⟨n102, [(.slice a10 p1.name.length c10), (.slice a11 p1.key.length c11), (.slice a12 p1.value.length c12), (.bool p1.gone)], 45⟩] [] := S129
 refine stStore (i := 0) (v := (.agg #[(.slice a124 (tapeB cs).length c125), (.int .i64 0)])) S129 rfl rfl rfl rfl (size_67) (allc2 rfl rfl) (Nat.le_of_ble_eq_true rfl) (fun w130 S131 => ?_)
 simp only [pS, pN, pA, pC, pZ]
 have S131 : St W (whole W) w130 F119 [⟨n127, [(.slice a124 (tapeB cs).length c125), (.int .i64 0)], 67⟩, ⟨n102, [(.slice a10 p1.name.length c10), (.slice a11 p1.key.length c11), (.slice a12 p1.value.length c12), (.bool p1.gone)], 45⟩] [] := S131
 refine do_ rfl (.bool true) (ex_assign _) ?_
 simp only [pS, pN, pA, pC, pZ]
 refine wl_nil (hK116 _ _ ?_)
 refine wp_seq_k (fun K132 hK132 => ?_)
 obtain ⟨hp0kn, hp1kn⟩ := pick_bd x2 (40 : Int) (by omega)
 obtain ⟨kn, hkn⟩ : ∃ k : Nat, pick x2 (40 : Int) = (k : Int) := ⟨(pick x2 (40 : Int)).toNat, (Int.toNat_of_nonneg hp0kn).symm⟩
 have hkb : kn < 40 := by omega
 refine region_wl ?_
 refine do_ rfl (.int .i64 x2) (ex_move _) ?_
 simp only [pS, pN, pA, pC, pZ]
 refine stTells (v := (.int .i64 ((kn : Nat) : Int))) S131 rfl (ex_fn (vs := #[(.int .i64 x2), (.int .i64 40)]) (map2 rfl rfl) rfl (ent_15 _ _)) (hkn ▸ tells_same (picked_spec x2 (40 : Int) _ b2 b2' (by omega) (by omega))) (fun w133 S134 => ?_)
 simp only [pS, pN, pA, pC, pZ]
 refine do_ rfl (.int .i64 (((1 + kn) : Nat) : Int)) (ex_add (m := (1 : Int)) (n := ((kn : Nat) : Int)) (r := (((1 + kn) : Nat) : Int)) rfl rfl (by omega) (by omega) (by omega)) ?_
 simp only [pS, pN, pA, pC, pZ]
 refine do_ rfl (.int .i64 (((1 + kn) : Nat) : Int)) (ex_assign _) ?_
 simp only [pS, pN, pA, pC, pZ]
 refine wl_nil (hK132 _ _ ?_)
 refine wp_seq_k (fun K135 hK135 => region_wl ?_)
 refine do_ rfl (.int .i64 (((1 + kn) : Nat) : Int)) (ex_move _) ?_
 simp only [pS, pN, pA, pC, pZ]
 refine do_ rfl (.agg #[(.slice a10 p1.name.length c10), (.slice a11 p1.key.length c11), (.slice a12 p1.value.length c12), (.bool p1.gone)]) (ex_load rfl (loadN (cs := [(.slice a10 p1.name.length c10), (.slice a11 p1.key.length c11), (.slice a12 p1.value.length c12), (.bool p1.gone)]) Tryd.underlying45 rfl (size_45) (St.range S134 (i := 1) rfl 0 [(.slice a10 p1.name.length c10), (.slice a11 p1.key.length c11), (.slice a12 p1.value.length c12), (.bool p1.gone)] (sub_range 0 rfl)))) ?_
 simp only [pS, pN, pA, pC, pZ]
 refine stGives S134 rfl (ex_fn (vs := #[(.agg #[(.slice a10 p1.name.length c10), (.slice a11 p1.key.length c11), (.slice a12 p1.value.length c12), (.bool p1.gone)])]) (map1 rfl) rfl (ent_20 _ _)) (keepWrite_spec _ _ _ p1 (S134).sat ⟨_, _, _, _, _, _, rfl, (z10.mono (le109.trans le120)), (z11.mono (le109.trans le120)), (z12.mono (le109.trans le120))⟩) ?_
 intro v141 w136 F138 S137 le139 R140
 obtain ⟨xa142, xc143, xa144, xc145, xa146, xc147, rfl, r148, r149, r150⟩ := R140
 simp only [pS, pN, pA, pC, pZ]
 refine stNew S137 (v := fun n => .slice (some ⟨n, 0, none⟩) 1 1) rfl (ex_lit (ps := #[(0, (.agg #[(.slice xa142 (writeP p1).name.length xc143), (.slice xa144 (writeP p1).key.length xc145), (.bool (writeP p1).gone), (.slice xa146 (writeP p1).value.length xc147)]))]) (cells := #[(.slice xa142 (writeP p1).name.length xc143), (.slice xa144 (writeP p1).key.length xc145), (.bool (writeP p1).gone), (.slice xa146 (writeP p1).value.length xc147)]) (E := 36) (bmap1 rfl) (fun w => by kernel_rfl)) (fun n151 w152 S153 => ?_)
 simp only [pS, pN, pA, pC, pZ]
 have S153 : St W (whole W) w152 F138 [⟨n151, [(.slice xa142 (writeP p1).name.length xc143), (.slice xa144 (writeP p1).key.length xc145), (.bool (writeP p1).gone), (.slice xa146 (writeP p1).value.length xc147)], 36⟩, ⟨n127, [(.slice a124 (tapeB cs).length c125), (.int .i64 0)], 67⟩, ⟨n102, [(.slice a10 p1.name.length c10), (.slice a11 p1.key.length c11), (.slice a12 p1.value.length c12), (.bool p1.gone)], 45⟩] [] := S153
 refine do_ rfl (.agg #[(.int .i64 (((1 + kn) : Nat) : Int)), (.slice (some ⟨n151, 0, none⟩) 1 1)]) (ex_build (ps := #[(0, (.int .i64 (((1 + kn) : Nat) : Int))), (1, (.slice (some ⟨n151, 0, none⟩) 1 1))]) (bmap2 rfl rfl) (by kernel_rfl)) ?_
 simp only [pS, pN, pA, pC, pZ]
 refine stNew S153 (v := fun n => .pointer (some ⟨n, 0, none⟩)) rfl (ex_alloc (zero_72 _)) (fun n154 w155 S156 => ?_)
 simp only [pS, pN, pA, pC, pZ]
 have S156 : St W (whole W) w155 F138 [⟨n154, [(.int .i64 0), (.slice none 0 0)], 72⟩, ⟨n151, [(.slice xa142 (writeP p1).name.length xc143), (.slice xa144 (writeP p1).key.length xc145), (.bool (writeP p1).gone), (.slice xa146 (writeP p1).value.length xc147)], 36⟩, ⟨n127, [(.slice a124 (tapeB cs).length c125), (.int .i64 0)], 67⟩, ⟨n102, [(.slice a10 p1.name.length c10), (.slice a11 p1.key.length c11), (.slice a12 p1.value.length c12), (.bool p1.gone)], 45⟩] [] := S156
 refine stStore (i := 0) (v := (.agg #[(.int .i64 (((1 + kn) : Nat) : Int)), (.slice (some ⟨n151, 0, none⟩) 1 1)])) S156 rfl rfl rfl rfl (size_72) (allc2 rfl rfl) (Nat.le_of_ble_eq_true rfl) (fun w157 S158 => ?_)
 simp only [pS, pN, pA, pC, pZ]
 have S158 : St W (whole W) w157 F138 [⟨n154, [(.int .i64 (((1 + kn) : Nat) : Int)), (.slice (some ⟨n151, 0, none⟩) 1 1)], 72⟩, ⟨n151, [(.slice xa142 (writeP p1).name.length xc143), (.slice xa144 (writeP p1).key.length xc145), (.bool (writeP p1).gone), (.slice xa146 (writeP p1).value.length xc147)], 36⟩, ⟨n127, [(.slice a124 (tapeB cs).length c125), (.int .i64 0)], 67⟩, ⟨n102, [(.slice a10 p1.name.length c10), (.slice a11 p1.key.length c11), (.slice a12 p1.value.length c12), (.bool p1.gone)], 45⟩] [] := S158
 refine wl_nil (hK135 _ _ ?_)
 refine wp_seq_k (fun K159 hK159 => ?_)
 have hcw : CmOk (⟨(1 + kn), [(writeP p1)]⟩ : Cm) := wr1_ok (by omega) (by omega)
 have hfl := frameB_len hcw
 have hbl := bodyB_len hcw
 refine region_wl ?_
 refine do_ rfl (.agg #[(.slice a124 (tapeB cs).length c125), (.int .i64 0)]) (ex_load rfl (loadN (cs := [(.slice a124 (tapeB cs).length c125), (.int .i64 0)]) Tryd.underlying67 rfl (size_67) (St.range S158 (i := 2) rfl 0 [(.slice a124 (tapeB cs).length c125), (.int .i64 0)] (sub_range 0 rfl)))) ?_
 simp only [pS, pN, pA, pC, pZ]
 refine do_ rfl (.agg #[(.int .i64 (((1 + kn) : Nat) : Int)), (.slice (some ⟨n151, 0, none⟩) 1 1)]) (ex_load rfl (loadN (cs := [(.int .i64 (((1 + kn) : Nat) : Int)), (.slice (some ⟨n151, 0, none⟩) 1 1)]) Tryd.underlying72 rfl (size_72) (St.range S158 (i := 0) rfl 0 [(.int .i64 (((1 + kn) : Nat) : Int)), (.slice (some ⟨n151, 0, none⟩) 1 1)] (sub_range 0 rfl)))) ?_
 simp only [pS, pN, pA, pC, pZ]
 obtain ⟨S160, le161, hc162⟩ := St.freezeBlk S158 (i := 1) rfl
 have r164 : Wrs _ (.slice (some ⟨n151, 0, none⟩) 1 1) [(writeP p1)] := sl_of_block (R := WrC) (l := [(writeP p1)]) (el := [[(.slice xa142 (writeP p1).name.length xc143), (.slice xa144 (writeP p1).key.length xc145), (.bool (writeP p1).gone), (.slice xa146 (writeP p1).value.length xc147)]]) hc162 rfl ⟨⟨_, _, _, _, rfl, (r148.mono le161), (r149.mono le161), rfl, (r150.mono le161)⟩, trivial⟩ (by simp) (by unfold maxLen; simp)
 generalize addF F138 w157 n151 = F163 at *
 have S160 : St W (whole W) w157 F163 [⟨n154, [(.int .i64 (((1 + kn) : Nat) : Int)), (.slice (some ⟨n151, 0, none⟩) 1 1)], 72⟩, ⟨n127, [(.slice a124 (tapeB cs).length c125), (.int .i64 0)], 67⟩, ⟨n102, [(.slice a10 p1.name.length c10), (.slice a11 p1.key.length c11), (.slice a12 p1.value.length c12), (.bool p1.gone)], 45⟩] [] := S160
 refine stGives S160 rfl (ex_fn (vs := #[(.agg #[(.slice a124 (tapeB cs).length c125), (.int .i64 0)]), (.agg #[(.int .i64 (((1 + kn) : Nat) : Int)), (.slice (some ⟨n151, 0, none⟩) 1 1)])]) (map2 rfl rfl) rfl (ent_34 _ _)) (append_spec _ _ _ _ (⟨tapeB cs, 0⟩ : Tp) (⟨(1 + kn), [(writeP p1)]⟩ : Cm) (S160).sat (hT.at S160.gr.below) ⟨_, _, rfl, (r126.mono (le139.trans le161))⟩ ⟨_, _, rfl, r164⟩ (⟨by simp only; omega, Nat.zero_le _⟩) (wr1_ok (by omega) (by omega))) ?_
 intro v170 w165 F167 S166 le168 R169
 obtain ⟨_, rfl, R171⟩ := R169
 obtain ⟨a172, c173, rfl, r174⟩ := R171
 have r174 : Bs _ (.slice a172 (tapeB cs ++ frameB (⟨(1 + kn), [(writeP p1)]⟩ : Cm)).length c173) (tapeB cs ++ frameB (⟨(1 + kn), [(writeP p1)]⟩ : Cm)) := r174
 simp only [pS, pN, pA, pC, pZ]
 refine do_ rfl (.tuple #[(.agg #[(.slice a172 (tapeB cs ++ frameB (⟨(1 + kn), [(writeP p1)]⟩ : Cm)).length c173), (.int .i64 0)]), (.int .i64 0)]) (ex_move _) ?_
 simp only [pS, pN, pA, pC, pZ]
 refine do_ rfl (.agg #[(.slice a172 (tapeB cs ++ frameB (⟨(1 + kn), [(writeP p1)]⟩ : Cm)).length c173), (.int .i64 0)]) (ex_extract rfl rfl) ?_
 simp only [pS, pN, pA, pC, pZ]
 refine do_ rfl (.int .i64 0) (ex_extract rfl rfl) ?_
 simp only [pS, pN, pA, pC, pZ]
 refine stNew S166 (v := fun n => .pointer (some ⟨n, 0, none⟩)) rfl (ex_alloc (zero_67 _)) (fun n175 w176 S177 => ?_)
 simp only [pS, pN, pA, pC, pZ]
 have S177 : St W (whole W) w176 F167 [⟨n175, [(.slice none 0 0), (.int .i64 0)], 67⟩, ⟨n154, [(.int .i64 (((1 + kn) : Nat) : Int)), (.slice (some ⟨n151, 0, none⟩) 1 1)], 72⟩, ⟨n127, [(.slice a124 (tapeB cs).length c125), (.int .i64 0)], 67⟩, ⟨n102, [(.slice a10 p1.name.length c10), (.slice a11 p1.key.length c11), (.slice a12 p1.value.length c12), (.bool p1.gone)], 45⟩] [] := S177
 refine stStore (i := 0) (v := (.agg #[(.slice a172 (tapeB cs ++ frameB (⟨(1 + kn), [(writeP p1)]⟩ : Cm)).length c173), (.int .i64 0)])) S177 rfl rfl rfl rfl (size_67) (allc2 rfl rfl) (Nat.le_of_ble_eq_true rfl) (fun w178 S179 => ?_)
 simp only [pS, pN, pA, pC, pZ]
 have S179 : St W (whole W) w178 F167 [⟨n175, [(.slice a172 (tapeB cs ++ frameB (⟨(1 + kn), [(writeP p1)]⟩ : Cm)).length c173), (.int .i64 0)], 67⟩, ⟨n154, [(.int .i64 (((1 + kn) : Nat) : Int)), (.slice (some ⟨n151, 0, none⟩) 1 1)], 72⟩, ⟨n127, [(.slice a124 (tapeB cs).length c125), (.int .i64 0)], 67⟩, ⟨n102, [(.slice a10 p1.name.length c10), (.slice a11 p1.key.length c11), (.slice a12 p1.value.length c12), (.bool p1.gone)], 45⟩] [] := S179
 refine do_ rfl (.int .i64 0) (ex_assign _) ?_
 simp only [pS, pN, pA, pC, pZ]
 refine wl_nil (hK159 _ _ ?_)
 refine wp_seq_k (fun K180 hK180 => ?_)
 by_cases hq : ((⟨(1 + kn), [(writeP p1)]⟩ : Cm)).turn = cs.length + 1
 ·have hq2 : (1 + kn) = cs.length + 1 := hq
  have hla : (cs ++ [(⟨(1 + kn), [(writeP p1)]⟩ : Cm)]).length = cs.length + 1 := by simp
  refine region_wl ?_
  refine do_ rfl (.agg #[(.slice a172 (tapeB cs ++ frameB (⟨(1 + kn), [(writeP p1)]⟩ : Cm)).length c173), (.int .i64 0)]) (ex_load rfl (loadN (cs := [(.slice a172 (tapeB cs ++ frameB (⟨(1 + kn), [(writeP p1)]⟩ : Cm)).length c173), (.int .i64 0)]) Tryd.underlying67 rfl (size_67) (St.range S179 (i := 0) rfl 0 [(.slice a172 (tapeB cs ++ frameB (⟨(1 + kn), [(writeP p1)]⟩ : Cm)).length c173), (.int .i64 0)] (sub_range 0 rfl)))) ?_
  simp only [pS, pN, pA, pC, pZ]
  refine stGives S179 rfl (ex_fn (vs := #[(.agg #[(.slice a172 (tapeB cs ++ frameB (⟨(1 + kn), [(writeP p1)]⟩ : Cm)).length c173), (.int .i64 0)])]) (map1 rfl) rfl (ent_32 _ _)) (recIs2_spec _ _ _ (⟨tapeB cs ++ frameB (⟨(1 + kn), [(writeP p1)]⟩ : Cm), 0⟩ : Tp) (S179).sat (hT.at S179.gr.below) ⟨_, _, rfl, r174⟩ (⟨by simp only [List.length_append]; omega, Nat.zero_le _⟩) (rec_more hh hcw hq) (List.take_length)) ?_
  intro v186 w181 F183 S182 le184 R185
  obtain ⟨a187, c188, a189, c190, rfl, r191, r192, h193⟩ := R185
  simp only [pS, pN, pA, pC, pZ]
  refine do_ rfl (.tuple #[(.slice a187 (cs ++ [(⟨(1 + kn), [(writeP p1)]⟩ : Cm)]).length c188), (.agg #[(.slice a189 (tapeB cs ++ frameB (⟨(1 + kn), [(writeP p1)]⟩ : Cm)).length c190), (.int .i64 (((min 0 (tapeB cs ++ frameB (⟨(1 + kn), [(writeP p1)]⟩ : Cm)).length) : Nat) : Int))]), (.int .i64 0)]) (ex_move _) ?_
  simp only [pS, pN, pA, pC, pZ]
  refine do_ rfl (.slice a187 (cs ++ [(⟨(1 + kn), [(writeP p1)]⟩ : Cm)]).length c188) (ex_extract rfl rfl) ?_
  simp only [pS, pN, pA, pC, pZ]
  refine do_ rfl (.agg #[(.slice a189 (tapeB cs ++ frameB (⟨(1 + kn), [(writeP p1)]⟩ : Cm)).length c190), (.int .i64 (((min 0 (tapeB cs ++ frameB (⟨(1 + kn), [(writeP p1)]⟩ : Cm)).length) : Nat) : Int))]) (ex_extract rfl rfl) ?_
  simp only [pS, pN, pA, pC, pZ]
  refine do_ rfl (.int .i64 0) (ex_extract rfl rfl) ?_
  simp only [pS, pN, pA, pC, pZ]
  refine stNew S182 (v := fun n => .pointer (some ⟨n, 0, none⟩)) rfl (ex_alloc (zero_67 _)) (fun n194 w195 S196 => ?_)
  simp only [pS, pN, pA, pC, pZ]
  have S196 : St W (whole W) w195 F183 [⟨n194, [(.slice none 0 0), (.int .i64 0)], 67⟩, ⟨n175, [(.slice a172 (tapeB cs ++ frameB (⟨(1 + kn), [(writeP p1)]⟩ : Cm)).length c173), (.int .i64 0)], 67⟩, ⟨n154, [(.int .i64 (((1 + kn) : Nat) : Int)), (.slice (some ⟨n151, 0, none⟩) 1 1)], 72⟩, ⟨n127, [(.slice a124 (tapeB cs).length c125), (.int .i64 0)], 67⟩, ⟨n102, [(.slice a10 p1.name.length c10), (.slice a11 p1.key.length c11), (.slice a12 p1.value.length c12), (.bool p1.gone)], 45⟩] [] := S196
  refine do_ rfl (.slice a187 (cs ++ [(⟨(1 + kn), [(writeP p1)]⟩ : Cm)]).length c188) (ex_assign _) ?_
  simp only [pS, pN, pA, pC, pZ]
  refine stStore (i := 0) (v := (.agg #[(.slice a189 (tapeB cs ++ frameB (⟨(1 + kn), [(writeP p1)]⟩ : Cm)).length c190), (.int .i64 (((min 0 (tapeB cs ++ frameB (⟨(1 + kn), [(writeP p1)]⟩ : Cm)).length) : Nat) : Int))])) S196 rfl rfl rfl rfl (size_67) (allc2 rfl rfl) (Nat.le_of_ble_eq_true rfl) (fun w197 S198 => ?_)
  simp only [pS, pN, pA, pC, pZ]
  have S198 : St W (whole W) w197 F183 [⟨n194, [(.slice a189 (tapeB cs ++ frameB (⟨(1 + kn), [(writeP p1)]⟩ : Cm)).length c190), (.int .i64 (((min 0 (tapeB cs ++ frameB (⟨(1 + kn), [(writeP p1)]⟩ : Cm)).length) : Nat) : Int))], 67⟩, ⟨n175, [(.slice a172 (tapeB cs ++ frameB (⟨(1 + kn), [(writeP p1)]⟩ : Cm)).length c173), (.int .i64 0)], 67⟩, ⟨n154, [(.int .i64 (((1 + kn) : Nat) : Int)), (.slice (some ⟨n151, 0, none⟩) 1 1)], 72⟩, ⟨n127, [(.slice a124 (tapeB cs).length c125), (.int .i64 0)], 67⟩, ⟨n102, [(.slice a10 p1.name.length c10), (.slice a11 p1.key.length c11), (.slice a12 p1.value.length c12), (.bool p1.gone)], 45⟩] [] := S198
  refine do_ rfl (.int .i64 0) (ex_assign _) ?_
  simp only [pS, pN, pA, pC, pZ]
  refine wl_nil (hK180 _ _ ?_)
  refine wp_seq_k (fun K199 hK199 => region_wl ?_)
  refine do_ rfl (.slice a112 cs.length c113) (ex_move _) ?_
  simp only [pS, pN, pA, pC, pZ]
  refine do_ rfl (.int .i64 ((cs.length : Nat) : Int)) (ex_len Tryd.underlying60 rfl) ?_
  simp only [pS, pN, pA, pC, pZ]
  refine do_ rfl (.int .i64 ((cs.length : Nat) : Int)) (ex_assign _) ?_
  simp only [pS, pN, pA, pC, pZ]
  refine wl_nil (hK199 _ _ ?_)
  refine wp_seq_k (fun K200 hK200 => ?_)
  refine wp_seq_k (fun K201 hK201 => region_wl ?_)
  refine do_ rfl (.int .i64 (((1 + kn) : Nat) : Int)) (ex_move _) ?_
  simp only [pS, pN, pA, pC, pZ]
  refine do_ rfl (.int .i64 ((cs.length : Nat) : Int)) (ex_move _) ?_
  simp only [pS, pN, pA, pC, pZ]
  refine do_ rfl (.int .i64 (((cs.length + 1) : Nat) : Int)) (ex_add (m := ((cs.length : Nat) : Int)) (n := (1 : Int)) (r := (((cs.length + 1) : Nat) : Int)) rfl rfl (by omega) (by omega) (by omega)) ?_
  simp only [pS, pN, pA, pC, pZ]
  refine do_ rfl (.bool true) (ex_eql (m := (((1 + kn) : Nat) : Int)) (n := (((cs.length + 1) : Nat) : Int)) (b := true) rfl rfl (beq_iff_eq.2 (by omega))) ?_
  simp only [pS, pN, pA, pC, pZ]
  refine wl_nil (hK201 _ _ ?_)
  refine wp_cond_true rfl ?_
  refine region_wl ?_
  refine do_ rfl (.int .i64 ((cs.length : Nat) : Int)) (ex_move _) ?_
  simp only [pS, pN, pA, pC, pZ]
  refine do_ rfl (.int .i64 (((cs.length + 1) : Nat) : Int)) (ex_add (m := ((cs.length : Nat) : Int)) (n := (1 : Int)) (r := (((cs.length + 1) : Nat) : Int)) rfl rfl (by omega) (by omega) (by omega)) ?_
  simp only [pS, pN, pA, pC, pZ]
  refine do_ rfl (.int .i64 (((cs.length + 1) : Nat) : Int)) (ex_assign _) ?_
  simp only [pS, pN, pA, pC, pZ]
  refine wl_nil (hK200 _ _ ?_)
  refine wp_seq_k (fun K202 hK202 => region_wl ?_)
  refine do_ rfl (.agg #[(.slice a124 (tapeB cs).length c125), (.int .i64 0)]) (ex_load rfl (loadN (cs := [(.slice a124 (tapeB cs).length c125), (.int .i64 0)]) Tryd.underlying67 rfl (size_67) (St.range S198 (i := 3) rfl 0 [(.slice a124 (tapeB cs).length c125), (.int .i64 0)] (sub_range 0 rfl)))) ?_
  simp only [pS, pN, pA, pC, pZ]
  refine do_ rfl (.agg #[(.int .i64 0), (.slice none 0 0)]) (ex_build (ps := #[]) (bmap0) (by kernel_rfl)) ?_
  simp only [pS, pN, pA, pC, pZ]
  refine stGives S198 rfl (ex_fn (vs := #[(.agg #[(.slice a124 (tapeB cs).length c125), (.int .i64 0)]), (.agg #[(.int .i64 0), (.slice none 0 0)])]) (map2 rfl rfl) rfl (ent_34 _ _)) (appendZero_spec _ _ _ (⟨tapeB cs, 0⟩ : Tp) (S198).sat ⟨_, _, rfl, (r126.mono (((le139.trans le161).trans le168).trans le184))⟩ (⟨by simp only; omega, Nat.zero_le _⟩)) ?_
  intro v208 w203 F205 S204 le206 R207
  obtain ⟨_, rfl, a210, c211, rfl, r209⟩ := R207
  simp only [pS, pN, pA, pC, pZ]
  refine do_ rfl (.tuple #[(.agg #[(.slice a210 ([] : By).length c211), (.int .i64 0)]), (.int .i64 2)]) (ex_move _) ?_
  simp only [pS, pN, pA, pC, pZ]
  refine do_ rfl (.agg #[(.slice a210 ([] : By).length c211), (.int .i64 0)]) (ex_extract rfl rfl) ?_
  simp only [pS, pN, pA, pC, pZ]
  refine do_ rfl (.int .i64 2) (ex_extract rfl rfl) ?_
  simp only [pS, pN, pA, pC, pZ]
  refine stNew S204 (v := fun n => .pointer (some ⟨n, 0, none⟩)) rfl (ex_alloc (zero_67 _)) (fun n212 w213 S214 => ?_)
  simp only [pS, pN, pA, pC, pZ]
  have S214 : St W (whole W) w213 F205 [⟨n212, [(.slice none 0 0), (.int .i64 0)], 67⟩, ⟨n194, [(.slice a189 (tapeB cs ++ frameB (⟨(1 + kn), [(writeP p1)]⟩ : Cm)).length c190), (.int .i64 (((min 0 (tapeB cs ++ frameB (⟨(1 + kn), [(writeP p1)]⟩ : Cm)).length) : Nat) : Int))], 67⟩, ⟨n175, [(.slice a172 (tapeB cs ++ frameB (⟨(1 + kn), [(writeP p1)]⟩ : Cm)).length c173), (.int .i64 0)], 67⟩, ⟨n154, [(.int .i64 (((1 + kn) : Nat) : Int)), (.slice (some ⟨n151, 0, none⟩) 1 1)], 72⟩, ⟨n127, [(.slice a124 (tapeB cs).length c125), (.int .i64 0)], 67⟩, ⟨n102, [(.slice a10 p1.name.length c10), (.slice a11 p1.key.length c11), (.slice a12 p1.value.length c12), (.bool p1.gone)], 45⟩] [] := S214
  refine stStore (i := 0) (v := (.agg #[(.slice a210 ([] : By).length c211), (.int .i64 0)])) S214 rfl rfl rfl rfl (size_67) (allc2 rfl rfl) (Nat.le_of_ble_eq_true rfl) (fun w215 S216 => ?_)
  simp only [pS, pN, pA, pC, pZ]
  have S216 : St W (whole W) w215 F205 [⟨n212, [(.slice a210 ([] : By).length c211), (.int .i64 0)], 67⟩, ⟨n194, [(.slice a189 (tapeB cs ++ frameB (⟨(1 + kn), [(writeP p1)]⟩ : Cm)).length c190), (.int .i64 (((min 0 (tapeB cs ++ frameB (⟨(1 + kn), [(writeP p1)]⟩ : Cm)).length) : Nat) : Int))], 67⟩, ⟨n175, [(.slice a172 (tapeB cs ++ frameB (⟨(1 + kn), [(writeP p1)]⟩ : Cm)).length c173), (.int .i64 0)], 67⟩, ⟨n154, [(.int .i64 (((1 + kn) : Nat) : Int)), (.slice (some ⟨n151, 0, none⟩) 1 1)], 72⟩, ⟨n127, [(.slice a124 (tapeB cs).length c125), (.int .i64 0)], 67⟩, ⟨n102, [(.slice a10 p1.name.length c10), (.slice a11 p1.key.length c11), (.slice a12 p1.value.length c12), (.bool p1.gone)], 45⟩] [] := S216
  refine do_ rfl (.int .i64 2) (ex_assign _) ?_
  simp only [pS, pN, pA, pC, pZ]
  refine wl_nil (hK202 _ _ ?_)
  refine wp_seq_k (fun K217 hK217 => region_wl ?_)
  refine do_ rfl (.bool true) (ex_move _) ?_
  simp only [pS, pN, pA, pC, pZ]
  refine do_ rfl (.bool true) (ex_move _) ?_
  simp only [pS, pN, pA, pC, pZ]
  refine do_ rfl (.int .i64 0) (ex_move _) ?_
  simp only [pS, pN, pA, pC, pZ]
  refine do_ rfl (.bool true) (ex_eql (b := true) rfl rfl (by decide)) ?_
  simp only [pS, pN, pA, pC, pZ]
  refine do_ rfl (.bool true) (ex_pick (b := true) rfl) ?_
  simp only [pS, pN, pA, pC, pZ]
  refine do_ rfl (.bool true) (ex_move _) ?_
  simp only [pS, pN, pA, pC, pZ]
  refine do_ rfl (.int .i64 0) (ex_move _) ?_
  simp only [pS, pN, pA, pC, pZ]
  refine do_ rfl (.bool true) (ex_eql (b := true) rfl rfl (by decide)) ?_
  simp only [pS, pN, pA, pC, pZ]
  refine do_ rfl (.bool true) (ex_pick (b := true) rfl) ?_
  simp only [pS, pN, pA, pC, pZ]
  refine do_ rfl (.bool true) (ex_move _) ?_
  simp only [pS, pN, pA, pC, pZ]
  refine do_ rfl (.int .i64 2) (ex_move _) ?_
  simp only [pS, pN, pA, pC, pZ]
  refine do_ rfl (.bool true) (ex_eql (b := true) rfl rfl (by decide)) ?_
  simp only [pS, pN, pA, pC, pZ]
  refine do_ rfl (.bool true) (ex_pick (b := true) rfl) ?_
  simp only [pS, pN, pA, pC, pZ]
  refine do_ rfl (.bool true) (ex_move _) ?_
  simp only [pS, pN, pA, pC, pZ]
  refine do_ rfl (.slice a187 (cs ++ [(⟨(1 + kn), [(writeP p1)]⟩ : Cm)]).length c188) (ex_move _) ?_
  simp only [pS, pN, pA, pC, pZ]
  refine do_ rfl (.int .i64 (((cs ++ [(⟨(1 + kn), [(writeP p1)]⟩ : Cm)]).length : Nat) : Int)) (ex_len Tryd.underlying60 rfl) ?_
  simp only [pS, pN, pA, pC, pZ]
  refine do_ rfl (.int .i64 (((cs.length + 1) : Nat) : Int)) (ex_move _) ?_
  simp only [pS, pN, pA, pC, pZ]
  refine do_ rfl (.bool true) (ex_eql (m := (((cs ++ [(⟨(1 + kn), [(writeP p1)]⟩ : Cm)]).length : Nat) : Int)) (n := (((cs.length + 1) : Nat) : Int)) (b := true) rfl rfl (beq_iff_eq.2 (by omega))) ?_
  simp only [pS, pN, pA, pC, pZ]
  refine do_ rfl (.bool true) (ex_pick (b := true) rfl) ?_
  simp only [pS, pN, pA, pC, pZ]
  refine do_ rfl (.bool true) (ex_assign _) ?_
  simp only [pS, pN, pA, pC, pZ]
  refine wl_nil (hK217 _ _ ?_)
  refine wp_ret ?_
  (try simp only [Exit.then, Exit.inBlock, ↓reduceIte, Nat.reduceEqDiff])
  refine bodyPost_ret (v := (.bool true)) ?_ rfl ?_
  ·exact res_t rfl rfl
  ·exact ⟨rfl, S216.gr.below⟩
 ·have hq2 : ¬ (1 + kn) = cs.length + 1 := hq
  refine region_wl ?_
  refine do_ rfl (.agg #[(.slice a172 (tapeB cs ++ frameB (⟨(1 + kn), [(writeP p1)]⟩ : Cm)).length c173), (.int .i64 0)]) (ex_load rfl (loadN (cs := [(.slice a172 (tapeB cs ++ frameB (⟨(1 + kn), [(writeP p1)]⟩ : Cm)).length c173), (.int .i64 0)]) Tryd.underlying67 rfl (size_67) (St.range S179 (i := 0) rfl 0 [(.slice a172 (tapeB cs ++ frameB (⟨(1 + kn), [(writeP p1)]⟩ : Cm)).length c173), (.int .i64 0)] (sub_range 0 rfl)))) ?_
  simp only [pS, pN, pA, pC, pZ]
  refine stGives S179 rfl (ex_fn (vs := #[(.agg #[(.slice a172 (tapeB cs ++ frameB (⟨(1 + kn), [(writeP p1)]⟩ : Cm)).length c173), (.int .i64 0)])]) (map1 rfl) rfl (ent_32 _ _)) (recIs2_spec _ _ _ (⟨tapeB cs ++ frameB (⟨(1 + kn), [(writeP p1)]⟩ : Cm), 0⟩ : Tp) (S179).sat (hT.at S179.gr.below) ⟨_, _, rfl, r174⟩ (⟨by simp only [List.length_append]; omega, Nat.zero_le _⟩) (rec_less hh hcw hq) (List.take_left' rfl)) ?_
  intro v223 w218 F220 S219 le221 R222
  obtain ⟨a224, c225, a226, c227, rfl, r228, r229, h230⟩ := R222
  simp only [pS, pN, pA, pC, pZ]
  refine do_ rfl (.tuple #[(.slice a224 cs.length c225), (.agg #[(.slice a226 (tapeB cs).length c227), (.int .i64 (((min 0 (tapeB cs).length) : Nat) : Int))]), (.int .i64 0)]) (ex_move _) ?_
  simp only [pS, pN, pA, pC, pZ]
  refine do_ rfl (.slice a224 cs.length c225) (ex_extract rfl rfl) ?_
  simp only [pS, pN, pA, pC, pZ]
  refine do_ rfl (.agg #[(.slice a226 (tapeB cs).length c227), (.int .i64 (((min 0 (tapeB cs).length) : Nat) : Int))]) (ex_extract rfl rfl) ?_
  simp only [pS, pN, pA, pC, pZ]
  refine do_ rfl (.int .i64 0) (ex_extract rfl rfl) ?_
  simp only [pS, pN, pA, pC, pZ]
  refine stNew S219 (v := fun n => .pointer (some ⟨n, 0, none⟩)) rfl (ex_alloc (zero_67 _)) (fun n231 w232 S233 => ?_)
  simp only [pS, pN, pA, pC, pZ]
  have S233 : St W (whole W) w232 F220 [⟨n231, [(.slice none 0 0), (.int .i64 0)], 67⟩, ⟨n175, [(.slice a172 (tapeB cs ++ frameB (⟨(1 + kn), [(writeP p1)]⟩ : Cm)).length c173), (.int .i64 0)], 67⟩, ⟨n154, [(.int .i64 (((1 + kn) : Nat) : Int)), (.slice (some ⟨n151, 0, none⟩) 1 1)], 72⟩, ⟨n127, [(.slice a124 (tapeB cs).length c125), (.int .i64 0)], 67⟩, ⟨n102, [(.slice a10 p1.name.length c10), (.slice a11 p1.key.length c11), (.slice a12 p1.value.length c12), (.bool p1.gone)], 45⟩] [] := S233
  refine do_ rfl (.slice a224 cs.length c225) (ex_assign _) ?_
  simp only [pS, pN, pA, pC, pZ]
  refine stStore (i := 0) (v := (.agg #[(.slice a226 (tapeB cs).length c227), (.int .i64 (((min 0 (tapeB cs).length) : Nat) : Int))])) S233 rfl rfl rfl rfl (size_67) (allc2 rfl rfl) (Nat.le_of_ble_eq_true rfl) (fun w234 S235 => ?_)
  simp only [pS, pN, pA, pC, pZ]
  have S235 : St W (whole W) w234 F220 [⟨n231, [(.slice a226 (tapeB cs).length c227), (.int .i64 (((min 0 (tapeB cs).length) : Nat) : Int))], 67⟩, ⟨n175, [(.slice a172 (tapeB cs ++ frameB (⟨(1 + kn), [(writeP p1)]⟩ : Cm)).length c173), (.int .i64 0)], 67⟩, ⟨n154, [(.int .i64 (((1 + kn) : Nat) : Int)), (.slice (some ⟨n151, 0, none⟩) 1 1)], 72⟩, ⟨n127, [(.slice a124 (tapeB cs).length c125), (.int .i64 0)], 67⟩, ⟨n102, [(.slice a10 p1.name.length c10), (.slice a11 p1.key.length c11), (.slice a12 p1.value.length c12), (.bool p1.gone)], 45⟩] [] := S235
  refine do_ rfl (.int .i64 0) (ex_assign _) ?_
  simp only [pS, pN, pA, pC, pZ]
  refine wl_nil (hK180 _ _ ?_)
  refine wp_seq_k (fun K236 hK236 => region_wl ?_)
  refine do_ rfl (.slice a112 cs.length c113) (ex_move _) ?_
  simp only [pS, pN, pA, pC, pZ]
  refine do_ rfl (.int .i64 ((cs.length : Nat) : Int)) (ex_len Tryd.underlying60 rfl) ?_
  simp only [pS, pN, pA, pC, pZ]
  refine do_ rfl (.int .i64 ((cs.length : Nat) : Int)) (ex_assign _) ?_
  simp only [pS, pN, pA, pC, pZ]
  refine wl_nil (hK236 _ _ ?_)
  refine wp_seq_k (fun K237 hK237 => ?_)
  refine wp_seq_k (fun K238 hK238 => region_wl ?_)
  refine do_ rfl (.int .i64 (((1 + kn) : Nat) : Int)) (ex_move _) ?_
  simp only [pS, pN, pA, pC, pZ]
  refine do_ rfl (.int .i64 ((cs.length : Nat) : Int)) (ex_move _) ?_
  simp only [pS, pN, pA, pC, pZ]
  refine do_ rfl (.int .i64 (((cs.length + 1) : Nat) : Int)) (ex_add (m := ((cs.length : Nat) : Int)) (n := (1 : Int)) (r := (((cs.length + 1) : Nat) : Int)) rfl rfl (by omega) (by omega) (by omega)) ?_
  simp only [pS, pN, pA, pC, pZ]
  refine do_ rfl (.bool false) (ex_eql (m := (((1 + kn) : Nat) : Int)) (n := (((cs.length + 1) : Nat) : Int)) (b := false) rfl rfl (beq_eq_false_iff_ne.2 (by omega))) ?_
  simp only [pS, pN, pA, pC, pZ]
  refine wl_nil (hK238 _ _ ?_)
  refine wp_cond_false rfl ?_
  refine wp_skip ?_
  refine hK237 _ _ ?_
  refine wp_seq_k (fun K239 hK239 => region_wl ?_)
  refine do_ rfl (.agg #[(.slice a124 (tapeB cs).length c125), (.int .i64 0)]) (ex_load rfl (loadN (cs := [(.slice a124 (tapeB cs).length c125), (.int .i64 0)]) Tryd.underlying67 rfl (size_67) (St.range S235 (i := 3) rfl 0 [(.slice a124 (tapeB cs).length c125), (.int .i64 0)] (sub_range 0 rfl)))) ?_
  simp only [pS, pN, pA, pC, pZ]
  refine do_ rfl (.agg #[(.int .i64 0), (.slice none 0 0)]) (ex_build (ps := #[]) (bmap0) (by kernel_rfl)) ?_
  simp only [pS, pN, pA, pC, pZ]
  refine stGives S235 rfl (ex_fn (vs := #[(.agg #[(.slice a124 (tapeB cs).length c125), (.int .i64 0)]), (.agg #[(.int .i64 0), (.slice none 0 0)])]) (map2 rfl rfl) rfl (ent_34 _ _)) (appendZero_spec _ _ _ (⟨tapeB cs, 0⟩ : Tp) (S235).sat ⟨_, _, rfl, (r126.mono (((le139.trans le161).trans le168).trans le221))⟩ (⟨by simp only; omega, Nat.zero_le _⟩)) ?_
  intro v245 w240 F242 S241 le243 R244
  obtain ⟨_, rfl, a247, c248, rfl, r246⟩ := R244
  simp only [pS, pN, pA, pC, pZ]
  refine do_ rfl (.tuple #[(.agg #[(.slice a247 ([] : By).length c248), (.int .i64 0)]), (.int .i64 2)]) (ex_move _) ?_
  simp only [pS, pN, pA, pC, pZ]
  refine do_ rfl (.agg #[(.slice a247 ([] : By).length c248), (.int .i64 0)]) (ex_extract rfl rfl) ?_
  simp only [pS, pN, pA, pC, pZ]
  refine do_ rfl (.int .i64 2) (ex_extract rfl rfl) ?_
  simp only [pS, pN, pA, pC, pZ]
  refine stNew S241 (v := fun n => .pointer (some ⟨n, 0, none⟩)) rfl (ex_alloc (zero_67 _)) (fun n249 w250 S251 => ?_)
  simp only [pS, pN, pA, pC, pZ]
  have S251 : St W (whole W) w250 F242 [⟨n249, [(.slice none 0 0), (.int .i64 0)], 67⟩, ⟨n231, [(.slice a226 (tapeB cs).length c227), (.int .i64 (((min 0 (tapeB cs).length) : Nat) : Int))], 67⟩, ⟨n175, [(.slice a172 (tapeB cs ++ frameB (⟨(1 + kn), [(writeP p1)]⟩ : Cm)).length c173), (.int .i64 0)], 67⟩, ⟨n154, [(.int .i64 (((1 + kn) : Nat) : Int)), (.slice (some ⟨n151, 0, none⟩) 1 1)], 72⟩, ⟨n127, [(.slice a124 (tapeB cs).length c125), (.int .i64 0)], 67⟩, ⟨n102, [(.slice a10 p1.name.length c10), (.slice a11 p1.key.length c11), (.slice a12 p1.value.length c12), (.bool p1.gone)], 45⟩] [] := S251
  refine stStore (i := 0) (v := (.agg #[(.slice a247 ([] : By).length c248), (.int .i64 0)])) S251 rfl rfl rfl rfl (size_67) (allc2 rfl rfl) (Nat.le_of_ble_eq_true rfl) (fun w252 S253 => ?_)
  simp only [pS, pN, pA, pC, pZ]
  have S253 : St W (whole W) w252 F242 [⟨n249, [(.slice a247 ([] : By).length c248), (.int .i64 0)], 67⟩, ⟨n231, [(.slice a226 (tapeB cs).length c227), (.int .i64 (((min 0 (tapeB cs).length) : Nat) : Int))], 67⟩, ⟨n175, [(.slice a172 (tapeB cs ++ frameB (⟨(1 + kn), [(writeP p1)]⟩ : Cm)).length c173), (.int .i64 0)], 67⟩, ⟨n154, [(.int .i64 (((1 + kn) : Nat) : Int)), (.slice (some ⟨n151, 0, none⟩) 1 1)], 72⟩, ⟨n127, [(.slice a124 (tapeB cs).length c125), (.int .i64 0)], 67⟩, ⟨n102, [(.slice a10 p1.name.length c10), (.slice a11 p1.key.length c11), (.slice a12 p1.value.length c12), (.bool p1.gone)], 45⟩] [] := S253
  refine do_ rfl (.int .i64 2) (ex_assign _) ?_
  simp only [pS, pN, pA, pC, pZ]
  refine wl_nil (hK239 _ _ ?_)
  refine wp_seq_k (fun K254 hK254 => region_wl ?_)
  refine do_ rfl (.bool true) (ex_move _) ?_
  simp only [pS, pN, pA, pC, pZ]
  refine do_ rfl (.bool true) (ex_move _) ?_
  simp only [pS, pN, pA, pC, pZ]
  refine do_ rfl (.int .i64 0) (ex_move _) ?_
  simp only [pS, pN, pA, pC, pZ]
  refine do_ rfl (.bool true) (ex_eql (b := true) rfl rfl (by decide)) ?_
  simp only [pS, pN, pA, pC, pZ]
  refine do_ rfl (.bool true) (ex_pick (b := true) rfl) ?_
  simp only [pS, pN, pA, pC, pZ]
  refine do_ rfl (.bool true) (ex_move _) ?_
  simp only [pS, pN, pA, pC, pZ]
  refine do_ rfl (.int .i64 0) (ex_move _) ?_
  simp only [pS, pN, pA, pC, pZ]
  refine do_ rfl (.bool true) (ex_eql (b := true) rfl rfl (by decide)) ?_
  simp only [pS, pN, pA, pC, pZ]
  refine do_ rfl (.bool true) (ex_pick (b := true) rfl) ?_
  simp only [pS, pN, pA, pC, pZ]
  refine do_ rfl (.bool true) (ex_move _) ?_
  simp only [pS, pN, pA, pC, pZ]
  refine do_ rfl (.int .i64 2) (ex_move _) ?_
  simp only [pS, pN, pA, pC, pZ]
  refine do_ rfl (.bool true) (ex_eql (b := true) rfl rfl (by decide)) ?_
  simp only [pS, pN, pA, pC, pZ]
  refine do_ rfl (.bool true) (ex_pick (b := true) rfl) ?_
  simp only [pS, pN, pA, pC, pZ]
  refine do_ rfl (.bool true) (ex_move _) ?_
  simp only [pS, pN, pA, pC, pZ]
  refine do_ rfl (.slice a224 cs.length c225) (ex_move _) ?_
  simp only [pS, pN, pA, pC, pZ]
  refine do_ rfl (.int .i64 ((cs.length : Nat) : Int)) (ex_len Tryd.underlying60 rfl) ?_
  simp only [pS, pN, pA, pC, pZ]
  refine do_ rfl (.int .i64 ((cs.length : Nat) : Int)) (ex_move _) ?_
  simp only [pS, pN, pA, pC, pZ]
  refine do_ rfl (.bool true) (ex_eql (m := ((cs.length : Nat) : Int)) (n := ((cs.length : Nat) : Int)) (b := true) rfl rfl (beq_iff_eq.2 (by omega))) ?_
  simp only [pS, pN, pA, pC, pZ]
  refine do_ rfl (.bool true) (ex_pick (b := true) rfl) ?_
  simp only [pS, pN, pA, pC, pZ]
  refine do_ rfl (.bool true) (ex_assign _) ?_
  simp only [pS, pN, pA, pC, pZ]
  refine wl_nil (hK254 _ _ ?_)
  refine wp_ret ?_
  (try simp only [Exit.then, Exit.inBlock, ↓reduceIte, Nat.reduceEqDiff])
  refine bodyPost_ret (v := (.bool true)) ?_ rfl ?_
  ·exact res_t rfl rfl
  ·exact ⟨rfl, S253.gr.below⟩
end Go.Proofs.YtikklmjengkliaaDoor
