/- The walk of CommitBack -/
import Derived.Test.YtcpngkkconalhaaT10
namespace Go.Proofs.Ytcpngkkconalhaa
open Go.RowKit
set_option maxRecDepth 100000
set_option linter.unusedVariables false
set_option linter.unusedSimpArgs false
set_option maxHeartbeats 8000000 in
theorem commitBack_walk (W : World) (v0 : Value) (l0 : List Pl) (z0 : Pls (whole W) v0 l0) (x1 : Int) (b1 : -9223372036854775808 ≤ x1) (b1' : x1 ≤ 9223372036854775807) :
    Calls Try.prog 7 #[v0, .int .i64 x1] W (Tells W (.bool true)) := by
 obtain ⟨a0, c0, rfl, q0, q0'⟩ := Sl.shape z0
 obtain ⟨i5, hi5, hz5, hs5, hb5⟩ := info_parts infoU8
 have S := St.start (Sat.whole W)
 go_enter Try.func7, Try.ntmps7
 refine wp_seq_k (fun K101 hK101 => region_wl ?_)
 refine do_ rfl (.bool false) (ex_assign _) ?_
 simp only [pS, pN, pA, pC, pZ]
 refine wl_nil (hK101 _ _ ?_)
 refine wp_seq_k (fun K102 hK102 => ?_)
 have hwl := writesN_len l0 10
 have hwok := writesN_ok l0 10
 obtain ⟨hp0, hp1⟩ := pick_bd x1 1048576 (by omega)
 obtain ⟨kn, hkn⟩ : ∃ kn : Nat, pick x1 1048576 = (kn : Int) := ⟨(pick x1 1048576).toNat, (Int.toNat_of_nonneg hp0).symm⟩
 have hkb : kn < 1048576 := by omega
 refine region_wl ?_
 refine do_ rfl (.int .i64 x1) (ex_move _) ?_
 simp only [pS, pN, pA, pC, pZ]
 refine stTells (v := (.int .i64 ((kn : Nat) : Int))) S rfl (ex_fn (vs := #[(.int .i64 x1), (.int .i64 1048576)]) (map2 rfl rfl) rfl (ent_25 _ _)) (hkn ▸ tells_same (picked_spec x1 (1048576 : Int) _ b1 b1' (by omega) (by omega))) (fun w103 S104 => ?_)
 simp only [pS, pN, pA, pC, pZ]
 refine do_ rfl (.int .i64 (((1 + kn) : Nat) : Int)) (ex_add (m := (1 : Int)) (n := ((kn : Nat) : Int)) (r := (((1 + kn) : Nat) : Int)) rfl rfl (by omega) (by omega) (by omega)) ?_
 simp only [pS, pN, pA, pC, pZ]
 refine do_ rfl (.slice a0 l0.length c0) (ex_move _) ?_
 simp only [pS, pN, pA, pC, pZ]
 refine stGives S104 rfl (ex_fn (vs := #[(.slice a0 l0.length c0), (.int .i64 10)]) (map2 rfl rfl) rfl (ent_24 _ _)) (writes_spec _ _ _ l0 10 (S104).sat z0 (by omega)) ?_
 intro v110 w105 F107 S106 le108 R109
 obtain ⟨a111, c112, rfl, h113, h114⟩ := Sl.shape R109
 unfold maxLen at h114
 simp only [pS, pN, pA, pC, pZ]
 refine do_ rfl (.agg #[(.int .i64 (((1 + kn) : Nat) : Int)), (.slice a111 (writesN l0 10).length c112)]) (ex_build (ps := #[(0, (.int .i64 (((1 + kn) : Nat) : Int))), (1, (.slice a111 (writesN l0 10).length c112))]) (bmap2 rfl rfl) (by kernel_rfl)) ?_
 simp only [pS, pN, pA, pC, pZ]
 refine stNew S106 (v := fun n => .pointer (some ⟨n, 0, none⟩)) rfl (ex_alloc (zero_50 _)) (fun n115 w116 S117 => ?_)
 simp only [pS, pN, pA, pC, pZ]
 have S117 : St W (whole W) w116 F107 [⟨n115, [(.int .i64 0), (.slice none 0 0)], 50⟩] [] := S117
 refine stStore (i := 0) (v := (.agg #[(.int .i64 (((1 + kn) : Nat) : Int)), (.slice a111 (writesN l0 10).length c112)])) S117 rfl rfl rfl rfl (size_50) (allc2 rfl rfl) (Nat.le_of_ble_eq_true rfl) (fun w118 S119 => ?_)
 simp only [pS, pN, pA, pC, pZ]
 have S119 : St W (whole W) w118 F107 [⟨n115, [(.int .i64 (((1 + kn) : Nat) : Int)), (.slice a111 (writesN l0 10).length c112)], 50⟩] [] := S119
 refine wl_nil (hK102 _ _ ?_)
 refine wp_seq_k (fun K120 hK120 => ?_)
 refine wp_seq_k (fun K121 hK121 => ?_)
 by_cases hz : (writesN l0 10).length = 0
 ·refine region_wl ?_
  refine do_ rfl (.pointer (some ⟨n115, 1, none⟩)) (ex_field (q := ⟨n115, 1, none⟩) rfl (fa_50_1 _ _)) ?_
  simp only [pS, pN, pA, pC, pZ]
  refine do_ rfl (.slice a111 (writesN l0 10).length c112) (ex_load rfl (load1 (nagg_44 _) (St.cell S119 (i := 0) rfl rfl))) ?_
  simp only [pS, pN, pA, pC, pZ]
  refine do_ rfl (.int .i64 (((writesN l0 10).length : Nat) : Int)) (ex_len Try.underlying44 rfl) ?_
  simp only [pS, pN, pA, pC, pZ]
  refine do_ rfl (.bool true) (ex_eql (m := (((writesN l0 10).length : Nat) : Int)) (n := (0 : Int)) (b := true) rfl rfl (beq_iff_eq.2 (by omega))) ?_
  simp only [pS, pN, pA, pC, pZ]
  refine wl_nil (hK121 _ _ ?_)
  refine wp_cond_true rfl ?_
  refine wp_seq_k (fun K122 hK122 => region_wl ?_)
  refine do_ rfl (.agg #[(.int .i64 (((1 + kn) : Nat) : Int)), (.slice a111 (writesN l0 10).length c112)]) (ex_load rfl (loadN (cs := [(.int .i64 (((1 + kn) : Nat) : Int)), (.slice a111 (writesN l0 10).length c112)]) Try.underlying50 rfl (size_50) (St.range S119 (i := 0) rfl 0 [(.int .i64 (((1 + kn) : Nat) : Int)), (.slice a111 (writesN l0 10).length c112)] (sub_range 0 rfl)))) ?_
  simp only [pS, pN, pA, pC, pZ]
  refine stGives S119 rfl (ex_fn (vs := #[(.agg #[(.int .i64 (((1 + kn) : Nat) : Int)), (.slice a111 (writesN l0 10).length c112)])]) (map1 rfl) rfl (ent_26 _ _)) (encodeNil_spec _ _ _ (⟨(1 + kn), (writesN l0 10)⟩ : Cm) (S119).sat ⟨_, _, rfl, R109⟩ ⟨by show 1 ≤ 1 + kn; omega, by show 1 + kn ≤ 1048576; omega⟩ hz) ?_
  intro v128 w123 F125 S124 le126 R127
  obtain ⟨_, rfl, r131⟩ := R127
  obtain ⟨a129, c130, rfl, _⟩ := r131.shape
  simp only [pS, pN, pA, pC, pZ]
  refine do_ rfl (.tuple #[(.slice a129 ([] : By).length c130), (.int .i64 1)]) (ex_move _) ?_
  simp only [pS, pN, pA, pC, pZ]
  refine do_ rfl (.slice a129 ([] : By).length c130) (ex_extract rfl rfl) ?_
  simp only [pS, pN, pA, pC, pZ]
  refine do_ rfl (.int .i64 1) (ex_extract rfl rfl) ?_
  simp only [pS, pN, pA, pC, pZ]
  refine do_ rfl (.slice a129 ([] : By).length c130) (ex_assign _) ?_
  simp only [pS, pN, pA, pC, pZ]
  refine do_ rfl (.int .i64 1) (ex_assign _) ?_
  simp only [pS, pN, pA, pC, pZ]
  refine wl_nil (hK122 _ _ ?_)
  refine wp_seq_k (fun K132 hK132 => region_wl ?_)
  refine do_ rfl (.int .i64 1) (ex_move _) ?_
  simp only [pS, pN, pA, pC, pZ]
  refine do_ rfl (.bool true) (ex_eql (b := true) rfl rfl (by decide)) ?_
  simp only [pS, pN, pA, pC, pZ]
  refine do_ rfl (.bool true) (ex_assign _) ?_
  simp only [pS, pN, pA, pC, pZ]
  refine wl_nil (hK132 _ _ ?_)
  refine wp_ret ?_
  (try simp only [Exit.then, Exit.inBlock, ↓reduceIte, Nat.reduceEqDiff])
  refine bodyPost_ret (v := (.bool true)) ?_ rfl ?_
  ·exact res_t rfl rfl
  ·exact ⟨rfl, S124.gr.below⟩
 ·have hm : CmOk (⟨1 + kn, (writesN l0 10)⟩ : Cm) := ⟨⟨by show 1 ≤ 1 + kn; omega, by show 1 + kn ≤ 1048576; omega⟩, ⟨by show 1 ≤ (writesN l0 10).length; omega, hwl⟩, hwok⟩
  have hd1 := dec_back hm
  have hd2 := dec_more hm
  obtain ⟨hel, _⟩ := encCm_len hm
  have hel : (encCm (1 + kn) (writesN l0 10)).length ≤ 594 := hel
  refine region_wl ?_
  refine do_ rfl (.pointer (some ⟨n115, 1, none⟩)) (ex_field (q := ⟨n115, 1, none⟩) rfl (fa_50_1 _ _)) ?_
  simp only [pS, pN, pA, pC, pZ]
  refine do_ rfl (.slice a111 (writesN l0 10).length c112) (ex_load rfl (load1 (nagg_44 _) (St.cell S119 (i := 0) rfl rfl))) ?_
  simp only [pS, pN, pA, pC, pZ]
  refine do_ rfl (.int .i64 (((writesN l0 10).length : Nat) : Int)) (ex_len Try.underlying44 rfl) ?_
  simp only [pS, pN, pA, pC, pZ]
  refine do_ rfl (.bool false) (ex_eql (m := (((writesN l0 10).length : Nat) : Int)) (n := (0 : Int)) (b := false) rfl rfl (beq_eq_false_iff_ne.2 (by omega))) ?_
  simp only [pS, pN, pA, pC, pZ]
  refine wl_nil (hK121 _ _ ?_)
  refine wp_cond_false rfl ?_
  refine wp_skip ?_
  refine hK120 _ _ ?_
  refine wp_seq_k (fun K133 hK133 => region_wl ?_)
  refine do_ rfl (.agg #[(.int .i64 (((1 + kn) : Nat) : Int)), (.slice a111 (writesN l0 10).length c112)]) (ex_load rfl (loadN (cs := [(.int .i64 (((1 + kn) : Nat) : Int)), (.slice a111 (writesN l0 10).length c112)]) Try.underlying50 rfl (size_50) (St.range S119 (i := 0) rfl 0 [(.int .i64 (((1 + kn) : Nat) : Int)), (.slice a111 (writesN l0 10).length c112)] (sub_range 0 rfl)))) ?_
  simp only [pS, pN, pA, pC, pZ]
  refine stGives S119 rfl (ex_fn (vs := #[(.agg #[(.int .i64 (((1 + kn) : Nat) : Int)), (.slice a111 (writesN l0 10).length c112)])]) (map1 rfl) rfl (ent_26 _ _)) (encode_spec _ _ _ (⟨(1 + kn), (writesN l0 10)⟩ : Cm) (S119).sat ⟨_, _, rfl, R109⟩ hm) ?_
  intro v139 w134 F136 S135 le137 R138
  obtain ⟨_, rfl, r142⟩ := R138
  obtain ⟨a140, c141, rfl, h143, _⟩ := r142.shape
  have h143 : (encCm (1 + kn) (writesN l0 10)).length ≤ c141 := h143
  have r142 : Bs _ (.slice a140 (encCm (1 + kn) (writesN l0 10)).length c141) (encCm (1 + kn) (writesN l0 10)) := r142
  simp only [pS, pN, pA, pC, pZ]
  refine do_ rfl (.tuple #[(.slice a140 (encCm (1 + kn) (writesN l0 10)).length c141), (.int .i64 0)]) (ex_move _) ?_
  simp only [pS, pN, pA, pC, pZ]
  refine do_ rfl (.slice a140 (encCm (1 + kn) (writesN l0 10)).length c141) (ex_extract rfl rfl) ?_
  simp only [pS, pN, pA, pC, pZ]
  refine do_ rfl (.int .i64 0) (ex_extract rfl rfl) ?_
  simp only [pS, pN, pA, pC, pZ]
  refine do_ rfl (.slice a140 (encCm (1 + kn) (writesN l0 10)).length c141) (ex_assign _) ?_
  simp only [pS, pN, pA, pC, pZ]
  refine do_ rfl (.int .i64 0) (ex_assign _) ?_
  simp only [pS, pN, pA, pC, pZ]
  refine wl_nil (hK133 _ _ ?_)
  refine wp_seq_k (fun K144 hK144 => region_wl ?_)
  refine do_ rfl (.slice a140 (encCm (1 + kn) (writesN l0 10)).length c141) (ex_move _) ?_
  simp only [pS, pN, pA, pC, pZ]
  refine stGives S135 rfl (ex_fn (vs := #[(.slice a140 (encCm (1 + kn) (writesN l0 10)).length c141)]) (map1 rfl) rfl (ent_38 _ _)) (decodeIs_spec _ _ _ (encCm (1 + kn) (writesN l0 10)) (S135).sat r142 (by omega) hd1.1 hd1.2) ?_
  intro v150 w145 F147 S146 le148 R149
  obtain ⟨_, rfl, xa151, xc152, rfl, r153⟩ := R149
  have r153 : Wrs _ (.slice xa151 (writesN l0 10).length xc152) (writesN l0 10) := r153
  simp only [pS, pN, pA, pC, pZ]
  refine do_ rfl (.tuple #[(.agg #[(.int .i64 (((1 + kn) : Nat) : Int)), (.slice xa151 (writesN l0 10).length xc152)]), (.int .i64 0)]) (ex_move _) ?_
  simp only [pS, pN, pA, pC, pZ]
  refine do_ rfl (.agg #[(.int .i64 (((1 + kn) : Nat) : Int)), (.slice xa151 (writesN l0 10).length xc152)]) (ex_extract rfl rfl) ?_
  simp only [pS, pN, pA, pC, pZ]
  refine do_ rfl (.int .i64 0) (ex_extract rfl rfl) ?_
  simp only [pS, pN, pA, pC, pZ]
  refine stNew S146 (v := fun n => .pointer (some ⟨n, 0, none⟩)) rfl (ex_alloc (zero_50 _)) (fun n154 w155 S156 => ?_)
  simp only [pS, pN, pA, pC, pZ]
  have S156 : St W (whole W) w155 F147 [⟨n154, [(.int .i64 0), (.slice none 0 0)], 50⟩, ⟨n115, [(.int .i64 (((1 + kn) : Nat) : Int)), (.slice a111 (writesN l0 10).length c112)], 50⟩] [] := S156
  refine stStore (i := 0) (v := (.agg #[(.int .i64 (((1 + kn) : Nat) : Int)), (.slice xa151 (writesN l0 10).length xc152)])) S156 rfl rfl rfl rfl (size_50) (allc2 rfl rfl) (Nat.le_of_ble_eq_true rfl) (fun w157 S158 => ?_)
  simp only [pS, pN, pA, pC, pZ]
  have S158 : St W (whole W) w157 F147 [⟨n154, [(.int .i64 (((1 + kn) : Nat) : Int)), (.slice xa151 (writesN l0 10).length xc152)], 50⟩, ⟨n115, [(.int .i64 (((1 + kn) : Nat) : Int)), (.slice a111 (writesN l0 10).length c112)], 50⟩] [] := S158
  refine do_ rfl (.int .i64 0) (ex_assign _) ?_
  simp only [pS, pN, pA, pC, pZ]
  refine wl_nil (hK144 _ _ ?_)
  refine wp_seq_k (fun K159 hK159 => region_wl ?_)
  refine do_ rfl (.slice a140 (encCm (1 + kn) (writesN l0 10)).length c141) (ex_move _) ?_
  simp only [pS, pN, pA, pC, pZ]
  have S160 := St.addNil S158 1 ByC ByC.mono 5 W.heap.size
  refine stAppendS (r := 0) (u := (.slice a140 (encCm (1 + kn) (writesN l0 10)).length c141)) S160 rfl i5 (.int .u8 0) 1 Try.underlying25 hi5 hz5 hs5 hb5 rfl (by decide) rfl rfl rfl (Sl.toW (Bs.sl (r142.mono le148)) (S160).sat) ByC.one (Nat.le_refl _) S160.gr.below.size (by unfold maxLen; simp only [List.length_nil]; omega) (by simp only [List.length_nil]; omega) ?_
  intro v161 w162 S163 hn164
  simp only [pS, pN, pA, pC, pZ]
  have S163 : St W (whole W) w162 F147 [⟨n154, [(.int .i64 (((1 + kn) : Nat) : Int)), (.slice xa151 (writesN l0 10).length xc152)], 50⟩, ⟨n115, [(.int .i64 (((1 + kn) : Nat) : Int)), (.slice a111 (writesN l0 10).length c112)], 50⟩] [ownP 1 ByC ByC.mono 5 W.heap.size v161 ([] ++ (encCm (1 + kn) (writesN l0 10)))] := S163
  refine stNew S163 (v := fun n => .slice (some ⟨n, 0, none⟩) 1 1) rfl (ex_lit (ps := #[(0, (.int .u8 0))]) (cells := #[(.int .u8 0)]) (E := 5) (bmap1 rfl) (fun w => by kernel_rfl)) (fun n165 w166 S167 => ?_)
  simp only [pS, pN, pA, pC, pZ]
  have S167 : St W (whole W) w166 F147 [⟨n165, [(.int .u8 0)], 5⟩, ⟨n154, [(.int .i64 (((1 + kn) : Nat) : Int)), (.slice xa151 (writesN l0 10).length xc152)], 50⟩, ⟨n115, [(.int .i64 (((1 + kn) : Nat) : Int)), (.slice a111 (writesN l0 10).length c112)], 50⟩] [ownP 1 ByC ByC.mono 5 W.heap.size v161 ([] ++ (encCm (1 + kn) (writesN l0 10)))] := S167
  rw [List.nil_append] at S167
  refine stPush (i := 0) (r := 0) (p := (0 : UInt8)) (cs := [(.int .u8 0)]) S167 rfl i5 (.int .u8 0) 1 Try.underlying25 hi5 hz5 hs5 hb5 rfl (by decide) rfl rfl rfl rfl rfl (bv_one 0) (rfl) (Nat.le_refl _) S167.gr.below.size (by unfold maxLen; omega) (by omega) ?_
  intro v169 w170 S171 hn172
  simp only [pS, pN, pA, pC, pZ]
  have S171 := St.drop S171 (L' := [⟨n154, [(.int .i64 (((1 + kn) : Nat) : Int)), (.slice xa151 (writesN l0 10).length xc152)], 50⟩, ⟨n115, [(.int .i64 (((1 + kn) : Nat) : Int)), (.slice a111 (writesN l0 10).length c112)], 50⟩]) (.cons _ (List.Sublist.refl _))
  have S171 : St W (whole W) w170 F147 [⟨n154, [(.int .i64 (((1 + kn) : Nat) : Int)), (.slice xa151 (writesN l0 10).length xc152)], 50⟩, ⟨n115, [(.int .i64 (((1 + kn) : Nat) : Int)), (.slice a111 (writesN l0 10).length c112)], 50⟩] [ownP 1 ByC ByC.mono 5 W.heap.size v169 ((encCm (1 + kn) (writesN l0 10)) ++ [(0 : UInt8)])] := S171
  obtain ⟨F173, S174, le175, hv176⟩ := St.freeze S171 (i := 0) rfl (Nat.le_refl _)
  have S174 : St W (whole W) w170 F173 [⟨n154, [(.int .i64 (((1 + kn) : Nat) : Int)), (.slice xa151 (writesN l0 10).length xc152)], 50⟩, ⟨n115, [(.int .i64 (((1 + kn) : Nat) : Int)), (.slice a111 (writesN l0 10).length c112)], 50⟩] [] := S174
  have hv176 : Bys _ v169 ((encCm (1 + kn) (writesN l0 10)) ++ [(0 : UInt8)]) := hv176
  have r177 := bs_of_sl hv176
  obtain ⟨a178, c179, rfl, _⟩ := r177.shape
  have hll : (((encCm (1 + kn) (writesN l0 10)) ++ [(0 : UInt8)])).length = (encCm (1 + kn) (writesN l0 10)).length + 1 := by simp
  refine stGives S174 rfl (ex_fn (vs := #[(.slice a178 ((encCm (1 + kn) (writesN l0 10)) ++ [(0 : UInt8)]).length c179)]) (map1 rfl) rfl (ent_38 _ _)) (decodeIs_spec _ _ _ ((encCm (1 + kn) (writesN l0 10)) ++ [(0 : UInt8)]) (S174).sat r177 (by omega) hd2.1 hd2.2) ?_
  intro v185 w180 F182 S181 le183 R184
  obtain ⟨_, rfl, xa186, xc187, rfl, r188⟩ := R184
  simp only [pS, pN, pA, pC, pZ]
  refine do_ rfl (.tuple #[(.agg #[(.int .i64 0), (.slice xa186 ([] : List Wr).length xc187)]), (.int .i64 4)]) (ex_move _) ?_
  simp only [pS, pN, pA, pC, pZ]
  refine do_ rfl (.agg #[(.int .i64 0), (.slice xa186 ([] : List Wr).length xc187)]) (ex_extract rfl rfl) ?_
  simp only [pS, pN, pA, pC, pZ]
  refine do_ rfl (.int .i64 4) (ex_extract rfl rfl) ?_
  simp only [pS, pN, pA, pC, pZ]
  refine stNew S181 (v := fun n => .pointer (some ⟨n, 0, none⟩)) rfl (ex_alloc (zero_50 _)) (fun n189 w190 S191 => ?_)
  simp only [pS, pN, pA, pC, pZ]
  have S191 : St W (whole W) w190 F182 [⟨n189, [(.int .i64 0), (.slice none 0 0)], 50⟩, ⟨n154, [(.int .i64 (((1 + kn) : Nat) : Int)), (.slice xa151 (writesN l0 10).length xc152)], 50⟩, ⟨n115, [(.int .i64 (((1 + kn) : Nat) : Int)), (.slice a111 (writesN l0 10).length c112)], 50⟩] [] := S191
  refine stStore (i := 0) (v := (.agg #[(.int .i64 0), (.slice xa186 ([] : List Wr).length xc187)])) S191 rfl rfl rfl rfl (size_50) (allc2 rfl rfl) (Nat.le_of_ble_eq_true rfl) (fun w192 S193 => ?_)
  simp only [pS, pN, pA, pC, pZ]
  have S193 : St W (whole W) w192 F182 [⟨n189, [(.int .i64 0), (.slice xa186 ([] : List Wr).length xc187)], 50⟩, ⟨n154, [(.int .i64 (((1 + kn) : Nat) : Int)), (.slice xa151 (writesN l0 10).length xc152)], 50⟩, ⟨n115, [(.int .i64 (((1 + kn) : Nat) : Int)), (.slice a111 (writesN l0 10).length c112)], 50⟩] [] := S193
  refine do_ rfl (.int .i64 4) (ex_assign _) ?_
  simp only [pS, pN, pA, pC, pZ]
  refine wl_nil (hK159 _ _ ?_)
  refine wp_seq_k (fun K194 hK194 => region_wl ?_)
  refine do_ rfl (.int .i64 0) (ex_move _) ?_
  simp only [pS, pN, pA, pC, pZ]
  refine do_ rfl (.bool true) (ex_eql (b := true) rfl rfl (by decide)) ?_
  simp only [pS, pN, pA, pC, pZ]
  refine do_ rfl (.bool true) (ex_move _) ?_
  simp only [pS, pN, pA, pC, pZ]
  refine do_ rfl (.int .i64 0) (ex_move _) ?_
  simp only [pS, pN, pA, pC, pZ]
  refine do_ rfl (.bool true) (ex_eql (b := true) rfl rfl (by decide)) ?_
  simp only [pS, pN, pA, pC, pZ]
  refine do_ rfl (.bool true) (ex_pick (b := true) rfl) ?_
  simp only [pS, pN, pA, pC, pZ]
  refine do_ rfl (.bool true) (ex_move _) ?_
  simp only [pS, pN, pA, pC, pZ]
  refine do_ rfl (.int .i64 4) (ex_move _) ?_
  simp only [pS, pN, pA, pC, pZ]
  refine do_ rfl (.bool true) (ex_eql (b := true) rfl rfl (by decide)) ?_
  simp only [pS, pN, pA, pC, pZ]
  refine do_ rfl (.bool true) (ex_pick (b := true) rfl) ?_
  simp only [pS, pN, pA, pC, pZ]
  refine do_ rfl (.bool true) (ex_move _) ?_
  simp only [pS, pN, pA, pC, pZ]
  refine do_ rfl (.agg #[(.int .i64 (((1 + kn) : Nat) : Int)), (.slice a111 (writesN l0 10).length c112)]) (ex_load rfl (loadN (cs := [(.int .i64 (((1 + kn) : Nat) : Int)), (.slice a111 (writesN l0 10).length c112)]) Try.underlying50 rfl (size_50) (St.range S193 (i := 2) rfl 0 [(.int .i64 (((1 + kn) : Nat) : Int)), (.slice a111 (writesN l0 10).length c112)] (sub_range 0 rfl)))) ?_
  simp only [pS, pN, pA, pC, pZ]
  refine do_ rfl (.agg #[(.int .i64 (((1 + kn) : Nat) : Int)), (.slice xa151 (writesN l0 10).length xc152)]) (ex_load rfl (loadN (cs := [(.int .i64 (((1 + kn) : Nat) : Int)), (.slice xa151 (writesN l0 10).length xc152)]) Try.underlying50 rfl (size_50) (St.range S193 (i := 1) rfl 0 [(.int .i64 (((1 + kn) : Nat) : Int)), (.slice xa151 (writesN l0 10).length xc152)] (sub_range 0 rfl)))) ?_
  simp only [pS, pN, pA, pC, pZ]
  refine stTells (v := (.bool true)) S193 rfl (ex_fn (vs := #[(.agg #[(.int .i64 (((1 + kn) : Nat) : Int)), (.slice a111 (writesN l0 10).length c112)]), (.agg #[(.int .i64 (((1 + kn) : Nat) : Int)), (.slice xa151 (writesN l0 10).length xc152)])]) (map2 rfl rfl) rfl (ent_39 _ _)) (sameCommit_is _ _ _ _ (⟨1 + kn, (writesN l0 10)⟩ : Cm) (S193).sat ⟨_, _, rfl, (R109.mono (((le137.trans le148).trans le175).trans le183))⟩ ⟨_, _, rfl, (r153.mono (le175.trans le183))⟩) (fun w195 S196 => ?_)
  simp only [pS, pN, pA, pC, pZ]
  refine do_ rfl (.bool true) (ex_pick (b := true) rfl) ?_
  simp only [pS, pN, pA, pC, pZ]
  refine do_ rfl (.bool true) (ex_move _) ?_
  simp only [pS, pN, pA, pC, pZ]
  refine do_ rfl (.agg #[(.int .i64 (((1 + kn) : Nat) : Int)), (.slice a111 (writesN l0 10).length c112)]) (ex_load rfl (loadN (cs := [(.int .i64 (((1 + kn) : Nat) : Int)), (.slice a111 (writesN l0 10).length c112)]) Try.underlying50 rfl (size_50) (St.range S196 (i := 2) rfl 0 [(.int .i64 (((1 + kn) : Nat) : Int)), (.slice a111 (writesN l0 10).length c112)] (sub_range 0 rfl)))) ?_
  simp only [pS, pN, pA, pC, pZ]
  refine stTells (v := (.int .i64 0)) S196 rfl (ex_fn (vs := #[(.agg #[(.int .i64 (((1 + kn) : Nat) : Int)), (.slice a111 (writesN l0 10).length c112)])]) (map1 rfl) rfl (ent_40 _ _)) (tapeCheckOk_spec _ _ _ (⟨1 + kn, (writesN l0 10)⟩ : Cm) (S196).sat ⟨_, _, rfl, (R109.mono (((le137.trans le148).trans le175).trans le183))⟩ hm) (fun w197 S198 => ?_)
  simp only [pS, pN, pA, pC, pZ]
  refine do_ rfl (.bool true) (ex_eql (b := true) rfl rfl (by decide)) ?_
  simp only [pS, pN, pA, pC, pZ]
  refine do_ rfl (.bool true) (ex_pick (b := true) rfl) ?_
  simp only [pS, pN, pA, pC, pZ]
  refine do_ rfl (.bool true) (ex_assign _) ?_
  simp only [pS, pN, pA, pC, pZ]
  refine wl_nil (hK194 _ _ ?_)
  refine wp_ret ?_
  (try simp only [Exit.then, Exit.inBlock, ↓reduceIte, Nat.reduceEqDiff])
  refine bodyPost_ret (v := (.bool true)) ?_ rfl ?_
  ·exact res_t rfl rfl
  ·exact ⟨rfl, S198.gr.below⟩
end Go.Proofs.Ytcpngkkconalhaa
