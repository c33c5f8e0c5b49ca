/- The walk of WireTells -/
import Derived.Test.YticbfdhdipfjmaaDoorBX13
namespace Go.Proofs.YticbfdhdipfjmaaDoor
open Go.RowKit
set_option maxRecDepth 100000
set_option linter.unusedVariables false
set_option linter.unusedSimpArgs false
set_option maxHeartbeats 8000000 in
theorem wireTells_walk (W : World) (kind : Int) (a b c d : Value) (n y l x : By) (hh : Has W) (ha : Bs (whole W) a n) (hb : Bs (whole W) b y) (hc : Bs (whole W) c l) (hd : Bs (whole W) d x)
    (k1 : -9223372036854775808 ≤ kind) (k2 : kind ≤ 9223372036854775807) :
    Calls Tryd.prog 6 #[.agg #[.int .i64 kind, a, b, c, d]] W (Tells W (.bool true)) := by
 obtain ⟨a0, c0, rfl, _⟩ := ha.shape
 obtain ⟨a1, c1, rfl, _⟩ := hb.shape
 obtain ⟨a2, c2, rfl, _⟩ := hc.shape
 obtain ⟨a3, c3, rfl, _⟩ := hd.shape
 obtain ⟨k, r, ok, hreq⟩ := request_all kind n y l x k1 k2
 have hkk := ok.kind
 have hql := encQ_len ok
 have S := St.start (Sat.whole W)
 go_enter Tryd.func6, Tryd.ntmps6
 refine wp_seq_k (fun K101 hK101 => region_wl ?_)
 refine stNew S (v := fun n => .pointer (some ⟨n, 0, none⟩)) rfl (ex_box (v := (.agg #[(.int .i64 kind), (.slice a0 n.length c0), (.slice a1 y.length c1), (.slice a2 l.length c2), (.slice a3 x.length c3)])) rfl) (fun n102 w103 S104 => ?_)
 simp only [pS, pN, pA, pC, pZ]
 have S104 : St W (whole W) w103 (whole W) [⟨n102, [(.int .i64 kind), (.slice a0 n.length c0), (.slice a1 y.length c1), (.slice a2 l.length c2), (.slice a3 x.length c3)], 24⟩] [] := S104
 refine do_ rfl (.bool false) (ex_assign _) ?_
 simp only [pS, pN, pA, pC, pZ]
 refine wl_nil (hK101 _ _ ?_)
 refine wp_seq_k (fun K105 hK105 => region_wl ?_)
 refine do_ rfl (.agg #[(.int .i64 kind), (.slice a0 n.length c0), (.slice a1 y.length c1), (.slice a2 l.length c2), (.slice a3 x.length c3)]) (ex_load rfl (loadN (cs := [(.int .i64 kind), (.slice a0 n.length c0), (.slice a1 y.length c1), (.slice a2 l.length c2), (.slice a3 x.length c3)]) Tryd.underlying24 rfl (size_24) (St.range S104 (i := 0) rfl 0 [(.int .i64 kind), (.slice a0 n.length c0), (.slice a1 y.length c1), (.slice a2 l.length c2), (.slice a3 x.length c3)] (sub_range 0 rfl)))) ?_
 simp only [pS, pN, pA, pC, pZ]
 refine stGives S104 rfl (ex_fn (vs := #[(.agg #[(.int .i64 kind), (.slice a0 n.length c0), (.slice a1 y.length c1), (.slice a2 l.length c2), (.slice a3 x.length c3)])]) (map1 rfl) rfl (ent_10 _ _)) (hreq _ _ _ _ _ _ (S104).sat ha hb hc hd) ?_
 intro v111 w106 F108 S107 le109 R110
 obtain ⟨_, _, _, _, rfl, r120, r121, r122, r123⟩ := R110
 obtain ⟨xa112, xc116, rfl, _⟩ := r120.shape
 obtain ⟨xa113, xc117, rfl, _⟩ := r121.shape
 obtain ⟨xa114, xc118, rfl, _⟩ := r122.shape
 obtain ⟨xa115, xc119, rfl, _⟩ := r123.shape
 simp only [pS, pN, pA, pC, pZ]
 refine stNew S107 (v := fun n => .pointer (some ⟨n, 0, none⟩)) rfl (ex_alloc (zero_25 _)) (fun n128 w129 S130 => ?_)
 simp only [pS, pN, pA, pC, pZ]
 have S130 : St W (whole W) w129 F108 [⟨n128, [(.int .i64 0), (.slice none 0 0), (.slice none 0 0), (.slice none 0 0), (.slice none 0 0)], 25⟩, ⟨n102, [(.int .i64 kind), (.slice a0 n.length c0), (.slice a1 y.length c1), (.slice a2 l.length c2), (.slice a3 x.length c3)], 24⟩] [] := S130
 refine stStore (i := 0) (v := (.agg #[(.int .i64 ((k : Nat) : Int)), (.slice xa112 r.name.length xc116), (.slice xa113 r.key.length xc117), (.slice xa114 r.last.length xc118), (.slice xa115 r.value.length xc119)])) S130 rfl rfl rfl rfl (size_25) (allc5 rfl rfl rfl rfl rfl) (Nat.le_of_ble_eq_true rfl) (fun w131 S132 => ?_)
 simp only [pS, pN, pA, pC, pZ]
 have S132 : St W (whole W) w131 F108 [⟨n128, [(.int .i64 ((k : Nat) : Int)), (.slice xa112 r.name.length xc116), (.slice xa113 r.key.length xc117), (.slice xa114 r.last.length xc118), (.slice xa115 r.value.length xc119)], 25⟩, ⟨n102, [(.int .i64 kind), (.slice a0 n.length c0), (.slice a1 y.length c1), (.slice a2 l.length c2), (.slice a3 x.length c3)], 24⟩] [] := S132
 refine wl_nil (hK105 _ _ ?_)
 refine wp_seq_k (fun K133 hK133 => ?_)
 rcases (by omega : k = 2 ∨ k = 3 ∨ k = 4 ∨ k = 5 ∨ (k ≠ 2 ∧ k ≠ 3 ∧ k ≠ 4 ∧ k ≠ 5)) with hm | hm | hm | hm | hm
 ·refine region_wl ?_
  refine do_ rfl (.agg #[(.int .i64 ((k : Nat) : Int)), (.slice xa112 r.name.length xc116), (.slice xa113 r.key.length xc117), (.slice xa114 r.last.length xc118), (.slice xa115 r.value.length xc119)]) (ex_load rfl (loadN (cs := [(.int .i64 ((k : Nat) : Int)), (.slice xa112 r.name.length xc116), (.slice xa113 r.key.length xc117), (.slice xa114 r.last.length xc118), (.slice xa115 r.value.length xc119)]) Tryd.underlying25 rfl (size_25) (St.range S132 (i := 0) rfl 0 [(.int .i64 ((k : Nat) : Int)), (.slice xa112 r.name.length xc116), (.slice xa113 r.key.length xc117), (.slice xa114 r.last.length xc118), (.slice xa115 r.value.length xc119)] (sub_range 0 rfl)))) ?_
  simp only [pS, pN, pA, pC, pZ]
  refine stGives S132 rfl (ex_fn (vs := #[(.agg #[(.int .i64 ((k : Nat) : Int)), (.slice xa112 r.name.length xc116), (.slice xa113 r.key.length xc117), (.slice xa114 r.last.length xc118), (.slice xa115 r.value.length xc119)])]) (map1 rfl) rfl (ent_15 _ _)) (wireRead_yes _ _ _ k r (b := false) (S132).sat (hh.below S132.gr.below) ⟨_, _, _, _, rfl, r120, r121, r122, r123⟩ ok (Or.inl ⟨hm, rfl⟩)) ?_
  intro v139 w134 F136 S135 le137 R138
  obtain ⟨_, rfl, xa140, xc141, xa142, xc143, xa144, xc145, rfl, r146, r147, r148⟩ := R138
  have r146 : Bs _ (.slice xa140 r.name.length xc141) r.name := r146
  have r147 : Bs _ (.slice xa142 r.key.length xc143) r.key := r147
  have r148 : Bs _ (.slice xa144 r.last.length xc145) r.last := r148
  simp only [pS, pN, pA, pC, pZ]
  refine do_ rfl (.tuple #[(.agg #[(.slice xa140 r.name.length xc141), (.slice xa142 r.key.length xc143), (.bool false), (.slice xa144 r.last.length xc145)]), (.int .i64 0)]) (ex_move _) ?_
  simp only [pS, pN, pA, pC, pZ]
  refine do_ rfl (.agg #[(.slice xa140 r.name.length xc141), (.slice xa142 r.key.length xc143), (.bool false), (.slice xa144 r.last.length xc145)]) (ex_extract rfl rfl) ?_
  simp only [pS, pN, pA, pC, pZ]
  refine do_ rfl (.int .i64 0) (ex_extract rfl rfl) ?_
  simp only [pS, pN, pA, pC, pZ]
  refine stNew S135 (v := fun n => .pointer (some ⟨n, 0, none⟩)) rfl (ex_alloc (zero_38 _)) (fun n149 w150 S151 => ?_)
  simp only [pS, pN, pA, pC, pZ]
  have S151 : St W (whole W) w150 F136 [⟨n149, [(.slice none 0 0), (.slice none 0 0), (.bool false), (.slice none 0 0)], 38⟩, ⟨n128, [(.int .i64 ((k : Nat) : Int)), (.slice xa112 r.name.length xc116), (.slice xa113 r.key.length xc117), (.slice xa114 r.last.length xc118), (.slice xa115 r.value.length xc119)], 25⟩, ⟨n102, [(.int .i64 kind), (.slice a0 n.length c0), (.slice a1 y.length c1), (.slice a2 l.length c2), (.slice a3 x.length c3)], 24⟩] [] := S151
  refine stStore (i := 0) (v := (.agg #[(.slice xa140 r.name.length xc141), (.slice xa142 r.key.length xc143), (.bool false), (.slice xa144 r.last.length xc145)])) S151 rfl rfl rfl rfl (size_38) (allc4 rfl rfl rfl rfl) (Nat.le_of_ble_eq_true rfl) (fun w152 S153 => ?_)
  simp only [pS, pN, pA, pC, pZ]
  have S153 : St W (whole W) w152 F136 [⟨n149, [(.slice xa140 r.name.length xc141), (.slice xa142 r.key.length xc143), (.bool false), (.slice xa144 r.last.length xc145)], 38⟩, ⟨n128, [(.int .i64 ((k : Nat) : Int)), (.slice xa112 r.name.length xc116), (.slice xa113 r.key.length xc117), (.slice xa114 r.last.length xc118), (.slice xa115 r.value.length xc119)], 25⟩, ⟨n102, [(.int .i64 kind), (.slice a0 n.length c0), (.slice a1 y.length c1), (.slice a2 l.length c2), (.slice a3 x.length c3)], 24⟩] [] := S153
  refine do_ rfl (.int .i64 0) (ex_assign _) ?_
  simp only [pS, pN, pA, pC, pZ]
  refine wl_nil (hK133 _ _ ?_)
  refine wp_seq_k (fun K154 hK154 => region_wl ?_)
  refine do_ rfl (.agg #[(.int .i64 ((k : Nat) : Int)), (.slice xa112 r.name.length xc116), (.slice xa113 r.key.length xc117), (.slice xa114 r.last.length xc118), (.slice xa115 r.value.length xc119)]) (ex_load rfl (loadN (cs := [(.int .i64 ((k : Nat) : Int)), (.slice xa112 r.name.length xc116), (.slice xa113 r.key.length xc117), (.slice xa114 r.last.length xc118), (.slice xa115 r.value.length xc119)]) Tryd.underlying25 rfl (size_25) (St.range S153 (i := 1) rfl 0 [(.int .i64 ((k : Nat) : Int)), (.slice xa112 r.name.length xc116), (.slice xa113 r.key.length xc117), (.slice xa114 r.last.length xc118), (.slice xa115 r.value.length xc119)] (sub_range 0 rfl)))) ?_
  simp only [pS, pN, pA, pC, pZ]
  refine stGives S153 rfl (ex_fn (vs := #[(.agg #[(.int .i64 ((k : Nat) : Int)), (.slice xa112 r.name.length xc116), (.slice xa113 r.key.length xc117), (.slice xa114 r.last.length xc118), (.slice xa115 r.value.length xc119)])]) (map1 rfl) rfl (ent_16 _ _)) (wireWrite_no _ _ _ k r (S153).sat (hh.below S153.gr.below) ⟨_, _, _, _, rfl, (r120.mono le137), (r121.mono le137), (r122.mono le137), (r123.mono le137)⟩ ok (by omega)) ?_
  intro v160 w155 F157 S156 le158 R159
  obtain ⟨_, rfl, xa161, xc162, xa163, xc164, xa165, xc166, rfl, r167, r168, r169⟩ := R159
  simp only [pS, pN, pA, pC, pZ]
  refine do_ rfl (.tuple #[(.agg #[(.slice xa161 ([] : By).length xc162), (.slice xa163 ([] : By).length xc164), (.bool false), (.slice xa165 ([] : By).length xc166)]), (.int .i64 7)]) (ex_move _) ?_
  simp only [pS, pN, pA, pC, pZ]
  refine do_ rfl (.agg #[(.slice xa161 ([] : By).length xc162), (.slice xa163 ([] : By).length xc164), (.bool false), (.slice xa165 ([] : By).length xc166)]) (ex_extract rfl rfl) ?_
  simp only [pS, pN, pA, pC, pZ]
  refine do_ rfl (.int .i64 7) (ex_extract rfl rfl) ?_
  simp only [pS, pN, pA, pC, pZ]
  refine stNew S156 (v := fun n => .pointer (some ⟨n, 0, none⟩)) rfl (ex_alloc (zero_42 _)) (fun n170 w171 S172 => ?_)
  simp only [pS, pN, pA, pC, pZ]
  have S172 : St W (whole W) w171 F157 [⟨n170, [(.slice none 0 0), (.slice none 0 0), (.bool false), (.slice none 0 0)], 42⟩, ⟨n149, [(.slice xa140 r.name.length xc141), (.slice xa142 r.key.length xc143), (.bool false), (.slice xa144 r.last.length xc145)], 38⟩, ⟨n128, [(.int .i64 ((k : Nat) : Int)), (.slice xa112 r.name.length xc116), (.slice xa113 r.key.length xc117), (.slice xa114 r.last.length xc118), (.slice xa115 r.value.length xc119)], 25⟩, ⟨n102, [(.int .i64 kind), (.slice a0 n.length c0), (.slice a1 y.length c1), (.slice a2 l.length c2), (.slice a3 x.length c3)], 24⟩] [] := S172
  refine stStore (i := 0) (v := (.agg #[(.slice xa161 ([] : By).length xc162), (.slice xa163 ([] : By).length xc164), (.bool false), (.slice xa165 ([] : By).length xc166)])) S172 rfl rfl rfl rfl (size_42) (allc4 rfl rfl rfl rfl) (Nat.le_of_ble_eq_true rfl) (fun w173 S174 => ?_)
  simp only [pS, pN, pA, pC, pZ]
  have S174 : St W (whole W) w173 F157 [⟨n170, [(.slice xa161 ([] : By).length xc162), (.slice xa163 ([] : By).length xc164), (.bool false), (.slice xa165 ([] : By).length xc166)], 42⟩, ⟨n149, [(.slice xa140 r.name.length xc141), (.slice xa142 r.key.length xc143), (.bool false), (.slice xa144 r.last.length xc145)], 38⟩, ⟨n128, [(.int .i64 ((k : Nat) : Int)), (.slice xa112 r.name.length xc116), (.slice xa113 r.key.length xc117), (.slice xa114 r.last.length xc118), (.slice xa115 r.value.length xc119)], 25⟩, ⟨n102, [(.int .i64 kind), (.slice a0 n.length c0), (.slice a1 y.length c1), (.slice a2 l.length c2), (.slice a3 x.length c3)], 24⟩] [] := S174
  refine do_ rfl (.int .i64 7) (ex_assign _) ?_
  simp only [pS, pN, pA, pC, pZ]
  refine wl_nil (hK154 _ _ ?_)
  refine wp_seq_k (fun K175 hK175 => ?_)
  refine wp_seq_k (fun K176 hK176 => region_wl ?_)
  refine do_ rfl (.pointer (some ⟨n128, 0, none⟩)) (ex_field (q := ⟨n128, 0, none⟩) rfl (fa_25_0 _ _)) ?_
  simp only [pS, pN, pA, pC, pZ]
  refine do_ rfl (.int .i64 ((k : Nat) : Int)) (ex_load rfl (load1 (nagg_3 _) (St.cell S174 (i := 2) rfl rfl))) ?_
  simp only [pS, pN, pA, pC, pZ]
  refine wl_nil (hK176 _ _ ?_)
  refine wp_block ?_
  refine wp_seq_k (fun K177 hK177 => ?_)
  refine wp_seq_k (fun K178 hK178 => region_wl ?_)
  refine do_ rfl (.bool true) (ex_eql (m := ((k : Nat) : Int)) (n := (2 : Int)) (b := true) rfl rfl (beq_iff_eq.2 (by omega))) ?_
  simp only [pS, pN, pA, pC, pZ]
  refine do_ rfl (.bool true) (ex_assign _) ?_
  simp only [pS, pN, pA, pC, pZ]
  refine wl_nil (hK178 _ _ ?_)
  refine wp_cond_true rfl ?_
  refine wp_skip ?_
  refine hK177 _ _ ?_
  refine wp_cond_true rfl ?_
  refine wp_seq_k (fun K179 hK179 => region_wl ?_)
  refine do_ rfl (.int .i64 0) (ex_move _) ?_
  simp only [pS, pN, pA, pC, pZ]
  refine do_ rfl (.bool true) (ex_eql (b := true) rfl rfl (by decide)) ?_
  simp only [pS, pN, pA, pC, pZ]
  refine do_ rfl (.bool true) (ex_move _) ?_
  simp only [pS, pN, pA, pC, pZ]
  refine do_ rfl (.int .i64 7) (ex_move _) ?_
  simp only [pS, pN, pA, pC, pZ]
  refine do_ rfl (.bool true) (ex_eql (b := true) rfl rfl (by decide)) ?_
  simp only [pS, pN, pA, pC, pZ]
  refine do_ rfl (.bool true) (ex_pick (b := true) rfl) ?_
  simp only [pS, pN, pA, pC, pZ]
  refine do_ rfl (.bool true) (ex_move _) ?_
  simp only [pS, pN, pA, pC, pZ]
  refine do_ rfl (.pointer (some ⟨n149, 0, none⟩)) (ex_field (q := ⟨n149, 0, none⟩) rfl (fa_38_0 _ _)) ?_
  simp only [pS, pN, pA, pC, pZ]
  refine do_ rfl (.slice xa140 r.name.length xc141) (ex_load rfl (load1 (nagg_22 _) (St.cell S174 (i := 1) rfl rfl))) ?_
  simp only [pS, pN, pA, pC, pZ]
  refine do_ rfl (.pointer (some ⟨n128, 1, none⟩)) (ex_field (q := ⟨n128, 1, none⟩) rfl (fa_25_1 _ _)) ?_
  simp only [pS, pN, pA, pC, pZ]
  refine do_ rfl (.slice xa112 r.name.length xc116) (ex_load rfl (load1 (nagg_22 _) (St.cell S174 (i := 2) rfl rfl))) ?_
  simp only [pS, pN, pA, pC, pZ]
  refine stTells (v := (.bool true)) S174 rfl (ex_fn (vs := #[(.slice xa140 r.name.length xc141), (.slice xa112 r.name.length xc116)]) (map2 rfl rfl) rfl (ent_13 _ _)) (tells_bool (tells_same (same_spec _ _ _ _ r.name r.name (S174).sat (r146.mono le158) (r120.mono (le137.trans le158)))) (beq_iff_eq.2 (rfl))) (fun w180 S181 => ?_)
  simp only [pS, pN, pA, pC, pZ]
  refine do_ rfl (.bool true) (ex_pick (b := true) rfl) ?_
  simp only [pS, pN, pA, pC, pZ]
  refine do_ rfl (.bool true) (ex_move _) ?_
  simp only [pS, pN, pA, pC, pZ]
  refine do_ rfl (.pointer (some ⟨n149, 1, none⟩)) (ex_field (q := ⟨n149, 1, none⟩) rfl (fa_38_1 _ _)) ?_
  simp only [pS, pN, pA, pC, pZ]
  refine do_ rfl (.slice xa142 r.key.length xc143) (ex_load rfl (load1 (nagg_22 _) (St.cell S181 (i := 1) rfl rfl))) ?_
  simp only [pS, pN, pA, pC, pZ]
  refine do_ rfl (.pointer (some ⟨n128, 2, none⟩)) (ex_field (q := ⟨n128, 2, none⟩) rfl (fa_25_2 _ _)) ?_
  simp only [pS, pN, pA, pC, pZ]
  refine do_ rfl (.slice xa113 r.key.length xc117) (ex_load rfl (load1 (nagg_22 _) (St.cell S181 (i := 2) rfl rfl))) ?_
  simp only [pS, pN, pA, pC, pZ]
  refine stTells (v := (.bool true)) S181 rfl (ex_fn (vs := #[(.slice xa142 r.key.length xc143), (.slice xa113 r.key.length xc117)]) (map2 rfl rfl) rfl (ent_13 _ _)) (tells_bool (tells_same (same_spec _ _ _ _ r.key r.key (S181).sat (r147.mono le158) (r121.mono (le137.trans le158)))) (beq_iff_eq.2 (rfl))) (fun w182 S183 => ?_)
  simp only [pS, pN, pA, pC, pZ]
  refine do_ rfl (.bool true) (ex_pick (b := true) rfl) ?_
  simp only [pS, pN, pA, pC, pZ]
  refine do_ rfl (.bool true) (ex_move _) ?_
  simp only [pS, pN, pA, pC, pZ]
  refine do_ rfl (.pointer (some ⟨n149, 2, none⟩)) (ex_field (q := ⟨n149, 2, none⟩) rfl (fa_38_2 _ _)) ?_
  simp only [pS, pN, pA, pC, pZ]
  refine do_ rfl (.bool false) (ex_load rfl (load1 (nagg_4 _) (St.cell S183 (i := 1) rfl rfl))) ?_
  simp only [pS, pN, pA, pC, pZ]
  refine do_ rfl (.pointer (some ⟨n128, 0, none⟩)) (ex_field (q := ⟨n128, 0, none⟩) rfl (fa_25_0 _ _)) ?_
  simp only [pS, pN, pA, pC, pZ]
  refine do_ rfl (.int .i64 ((k : Nat) : Int)) (ex_load rfl (load1 (nagg_3 _) (St.cell S183 (i := 2) rfl rfl))) ?_
  simp only [pS, pN, pA, pC, pZ]
  refine do_ rfl (.bool false) (ex_eql (m := ((k : Nat) : Int)) (n := (3 : Int)) (b := false) rfl rfl (beq_eq_false_iff_ne.2 (by omega))) ?_
  simp only [pS, pN, pA, pC, pZ]
  refine do_ rfl (.bool true) (ex_eqlB Tryd.underlying4 rfl rfl (rfl)) ?_
  simp only [pS, pN, pA, pC, pZ]
  refine do_ rfl (.bool true) (ex_pick (b := true) rfl) ?_
  simp only [pS, pN, pA, pC, pZ]
  refine do_ rfl (.bool true) (ex_move _) ?_
  simp only [pS, pN, pA, pC, pZ]
  refine do_ rfl (.pointer (some ⟨n149, 3, none⟩)) (ex_field (q := ⟨n149, 3, none⟩) rfl (fa_38_3 _ _)) ?_
  simp only [pS, pN, pA, pC, pZ]
  refine do_ rfl (.slice xa144 r.last.length xc145) (ex_load rfl (load1 (nagg_22 _) (St.cell S183 (i := 1) rfl rfl))) ?_
  simp only [pS, pN, pA, pC, pZ]
  refine do_ rfl (.pointer (some ⟨n128, 3, none⟩)) (ex_field (q := ⟨n128, 3, none⟩) rfl (fa_25_3 _ _)) ?_
  simp only [pS, pN, pA, pC, pZ]
  refine do_ rfl (.slice xa114 r.last.length xc118) (ex_load rfl (load1 (nagg_22 _) (St.cell S183 (i := 2) rfl rfl))) ?_
  simp only [pS, pN, pA, pC, pZ]
  refine stTells (v := (.bool true)) S183 rfl (ex_fn (vs := #[(.slice xa144 r.last.length xc145), (.slice xa114 r.last.length xc118)]) (map2 rfl rfl) rfl (ent_13 _ _)) (tells_bool (tells_same (same_spec _ _ _ _ r.last r.last (S183).sat (r148.mono le158) (r122.mono (le137.trans le158)))) (beq_iff_eq.2 (rfl))) (fun w184 S185 => ?_)
  simp only [pS, pN, pA, pC, pZ]
  refine do_ rfl (.bool true) (ex_pick (b := true) rfl) ?_
  simp only [pS, pN, pA, pC, pZ]
  refine do_ rfl (.bool true) (ex_assign _) ?_
  simp only [pS, pN, pA, pC, pZ]
  refine wl_nil (hK179 _ _ ?_)
  refine wp_ret ?_
  (try simp only [Exit.then, Exit.inBlock, ↓reduceIte, Nat.reduceEqDiff])
  refine bodyPost_ret (v := (.bool true)) ?_ rfl ?_
  ·exact res_t rfl rfl
  ·exact ⟨rfl, S185.gr.below⟩
 ·refine region_wl ?_
  refine do_ rfl (.agg #[(.int .i64 ((k : Nat) : Int)), (.slice xa112 r.name.length xc116), (.slice xa113 r.key.length xc117), (.slice xa114 r.last.length xc118), (.slice xa115 r.value.length xc119)]) (ex_load rfl (loadN (cs := [(.int .i64 ((k : Nat) : Int)), (.slice xa112 r.name.length xc116), (.slice xa113 r.key.length xc117), (.slice xa114 r.last.length xc118), (.slice xa115 r.value.length xc119)]) Tryd.underlying25 rfl (size_25) (St.range S132 (i := 0) rfl 0 [(.int .i64 ((k : Nat) : Int)), (.slice xa112 r.name.length xc116), (.slice xa113 r.key.length xc117), (.slice xa114 r.last.length xc118), (.slice xa115 r.value.length xc119)] (sub_range 0 rfl)))) ?_
  simp only [pS, pN, pA, pC, pZ]
  refine stGives S132 rfl (ex_fn (vs := #[(.agg #[(.int .i64 ((k : Nat) : Int)), (.slice xa112 r.name.length xc116), (.slice xa113 r.key.length xc117), (.slice xa114 r.last.length xc118), (.slice xa115 r.value.length xc119)])]) (map1 rfl) rfl (ent_15 _ _)) (wireRead_yes _ _ _ k r (b := true) (S132).sat (hh.below S132.gr.below) ⟨_, _, _, _, rfl, r120, r121, r122, r123⟩ ok (Or.inr ⟨hm, rfl⟩)) ?_
  intro v191 w186 F188 S187 le189 R190
  obtain ⟨_, rfl, xa192, xc193, xa194, xc195, xa196, xc197, rfl, r198, r199, r200⟩ := R190
  have r198 : Bs _ (.slice xa192 r.name.length xc193) r.name := r198
  have r199 : Bs _ (.slice xa194 r.key.length xc195) r.key := r199
  have r200 : Bs _ (.slice xa196 r.last.length xc197) r.last := r200
  simp only [pS, pN, pA, pC, pZ]
  refine do_ rfl (.tuple #[(.agg #[(.slice xa192 r.name.length xc193), (.slice xa194 r.key.length xc195), (.bool true), (.slice xa196 r.last.length xc197)]), (.int .i64 0)]) (ex_move _) ?_
  simp only [pS, pN, pA, pC, pZ]
  refine do_ rfl (.agg #[(.slice xa192 r.name.length xc193), (.slice xa194 r.key.length xc195), (.bool true), (.slice xa196 r.last.length xc197)]) (ex_extract rfl rfl) ?_
  simp only [pS, pN, pA, pC, pZ]
  refine do_ rfl (.int .i64 0) (ex_extract rfl rfl) ?_
  simp only [pS, pN, pA, pC, pZ]
  refine stNew S187 (v := fun n => .pointer (some ⟨n, 0, none⟩)) rfl (ex_alloc (zero_38 _)) (fun n201 w202 S203 => ?_)
  simp only [pS, pN, pA, pC, pZ]
  have S203 : St W (whole W) w202 F188 [⟨n201, [(.slice none 0 0), (.slice none 0 0), (.bool false), (.slice none 0 0)], 38⟩, ⟨n128, [(.int .i64 ((k : Nat) : Int)), (.slice xa112 r.name.length xc116), (.slice xa113 r.key.length xc117), (.slice xa114 r.last.length xc118), (.slice xa115 r.value.length xc119)], 25⟩, ⟨n102, [(.int .i64 kind), (.slice a0 n.length c0), (.slice a1 y.length c1), (.slice a2 l.length c2), (.slice a3 x.length c3)], 24⟩] [] := S203
  refine stStore (i := 0) (v := (.agg #[(.slice xa192 r.name.length xc193), (.slice xa194 r.key.length xc195), (.bool true), (.slice xa196 r.last.length xc197)])) S203 rfl rfl rfl rfl (size_38) (allc4 rfl rfl rfl rfl) (Nat.le_of_ble_eq_true rfl) (fun w204 S205 => ?_)
  simp only [pS, pN, pA, pC, pZ]
  have S205 : St W (whole W) w204 F188 [⟨n201, [(.slice xa192 r.name.length xc193), (.slice xa194 r.key.length xc195), (.bool true), (.slice xa196 r.last.length xc197)], 38⟩, ⟨n128, [(.int .i64 ((k : Nat) : Int)), (.slice xa112 r.name.length xc116), (.slice xa113 r.key.length xc117), (.slice xa114 r.last.length xc118), (.slice xa115 r.value.length xc119)], 25⟩, ⟨n102, [(.int .i64 kind), (.slice a0 n.length c0), (.slice a1 y.length c1), (.slice a2 l.length c2), (.slice a3 x.length c3)], 24⟩] [] := S205
  refine do_ rfl (.int .i64 0) (ex_assign _) ?_
  simp only [pS, pN, pA, pC, pZ]
  refine wl_nil (hK133 _ _ ?_)
  refine wp_seq_k (fun K206 hK206 => region_wl ?_)
  refine do_ rfl (.agg #[(.int .i64 ((k : Nat) : Int)), (.slice xa112 r.name.length xc116), (.slice xa113 r.key.length xc117), (.slice xa114 r.last.length xc118), (.slice xa115 r.value.length xc119)]) (ex_load rfl (loadN (cs := [(.int .i64 ((k : Nat) : Int)), (.slice xa112 r.name.length xc116), (.slice xa113 r.key.length xc117), (.slice xa114 r.last.length xc118), (.slice xa115 r.value.length xc119)]) Tryd.underlying25 rfl (size_25) (St.range S205 (i := 1) rfl 0 [(.int .i64 ((k : Nat) : Int)), (.slice xa112 r.name.length xc116), (.slice xa113 r.key.length xc117), (.slice xa114 r.last.length xc118), (.slice xa115 r.value.length xc119)] (sub_range 0 rfl)))) ?_
  simp only [pS, pN, pA, pC, pZ]
  refine stGives S205 rfl (ex_fn (vs := #[(.agg #[(.int .i64 ((k : Nat) : Int)), (.slice xa112 r.name.length xc116), (.slice xa113 r.key.length xc117), (.slice xa114 r.last.length xc118), (.slice xa115 r.value.length xc119)])]) (map1 rfl) rfl (ent_16 _ _)) (wireWrite_no _ _ _ k r (S205).sat (hh.below S205.gr.below) ⟨_, _, _, _, rfl, (r120.mono le189), (r121.mono le189), (r122.mono le189), (r123.mono le189)⟩ ok (by omega)) ?_
  intro v212 w207 F209 S208 le210 R211
  obtain ⟨_, rfl, xa213, xc214, xa215, xc216, xa217, xc218, rfl, r219, r220, r221⟩ := R211
  simp only [pS, pN, pA, pC, pZ]
  refine do_ rfl (.tuple #[(.agg #[(.slice xa213 ([] : By).length xc214), (.slice xa215 ([] : By).length xc216), (.bool false), (.slice xa217 ([] : By).length xc218)]), (.int .i64 7)]) (ex_move _) ?_
  simp only [pS, pN, pA, pC, pZ]
  refine do_ rfl (.agg #[(.slice xa213 ([] : By).length xc214), (.slice xa215 ([] : By).length xc216), (.bool false), (.slice xa217 ([] : By).length xc218)]) (ex_extract rfl rfl) ?_
  simp only [pS, pN, pA, pC, pZ]
  refine do_ rfl (.int .i64 7) (ex_extract rfl rfl) ?_
  simp only [pS, pN, pA, pC, pZ]
  refine stNew S208 (v := fun n => .pointer (some ⟨n, 0, none⟩)) rfl (ex_alloc (zero_42 _)) (fun n222 w223 S224 => ?_)
  simp only [pS, pN, pA, pC, pZ]
  have S224 : St W (whole W) w223 F209 [⟨n222, [(.slice none 0 0), (.slice none 0 0), (.bool false), (.slice none 0 0)], 42⟩, ⟨n201, [(.slice xa192 r.name.length xc193), (.slice xa194 r.key.length xc195), (.bool true), (.slice xa196 r.last.length xc197)], 38⟩, ⟨n128, [(.int .i64 ((k : Nat) : Int)), (.slice xa112 r.name.length xc116), (.slice xa113 r.key.length xc117), (.slice xa114 r.last.length xc118), (.slice xa115 r.value.length xc119)], 25⟩, ⟨n102, [(.int .i64 kind), (.slice a0 n.length c0), (.slice a1 y.length c1), (.slice a2 l.length c2), (.slice a3 x.length c3)], 24⟩] [] := S224
  refine stStore (i := 0) (v := (.agg #[(.slice xa213 ([] : By).length xc214), (.slice xa215 ([] : By).length xc216), (.bool false), (.slice xa217 ([] : By).length xc218)])) S224 rfl rfl rfl rfl (size_42) (allc4 rfl rfl rfl rfl) (Nat.le_of_ble_eq_true rfl) (fun w225 S226 => ?_)
  simp only [pS, pN, pA, pC, pZ]
  have S226 : St W (whole W) w225 F209 [⟨n222, [(.slice xa213 ([] : By).length xc214), (.slice xa215 ([] : By).length xc216), (.bool false), (.slice xa217 ([] : By).length xc218)], 42⟩, ⟨n201, [(.slice xa192 r.name.length xc193), (.slice xa194 r.key.length xc195), (.bool true), (.slice xa196 r.last.length xc197)], 38⟩, ⟨n128, [(.int .i64 ((k : Nat) : Int)), (.slice xa112 r.name.length xc116), (.slice xa113 r.key.length xc117), (.slice xa114 r.last.length xc118), (.slice xa115 r.value.length xc119)], 25⟩, ⟨n102, [(.int .i64 kind), (.slice a0 n.length c0), (.slice a1 y.length c1), (.slice a2 l.length c2), (.slice a3 x.length c3)], 24⟩] [] := S226
  refine do_ rfl (.int .i64 7) (ex_assign _) ?_
  simp only [pS, pN, pA, pC, pZ]
  refine wl_nil (hK206 _ _ ?_)
  refine wp_seq_k (fun K227 hK227 => ?_)
  refine wp_seq_k (fun K228 hK228 => region_wl ?_)
  refine do_ rfl (.pointer (some ⟨n128, 0, none⟩)) (ex_field (q := ⟨n128, 0, none⟩) rfl (fa_25_0 _ _)) ?_
  simp only [pS, pN, pA, pC, pZ]
  refine do_ rfl (.int .i64 ((k : Nat) : Int)) (ex_load rfl (load1 (nagg_3 _) (St.cell S226 (i := 2) rfl rfl))) ?_
  simp only [pS, pN, pA, pC, pZ]
  refine wl_nil (hK228 _ _ ?_)
  refine wp_block ?_
  refine wp_seq_k (fun K229 hK229 => ?_)
  refine wp_seq_k (fun K230 hK230 => region_wl ?_)
  refine do_ rfl (.bool false) (ex_eql (m := ((k : Nat) : Int)) (n := (2 : Int)) (b := false) rfl rfl (beq_eq_false_iff_ne.2 (by omega))) ?_
  simp only [pS, pN, pA, pC, pZ]
  refine do_ rfl (.bool false) (ex_assign _) ?_
  simp only [pS, pN, pA, pC, pZ]
  refine wl_nil (hK230 _ _ ?_)
  refine wp_cond_false rfl ?_
  refine region_wl ?_
  refine do_ rfl (.bool true) (ex_eql (m := ((k : Nat) : Int)) (n := (3 : Int)) (b := true) rfl rfl (beq_iff_eq.2 (by omega))) ?_
  simp only [pS, pN, pA, pC, pZ]
  refine do_ rfl (.bool true) (ex_assign _) ?_
  simp only [pS, pN, pA, pC, pZ]
  refine wl_nil (hK229 _ _ ?_)
  refine wp_cond_true rfl ?_
  refine wp_seq_k (fun K231 hK231 => region_wl ?_)
  refine do_ rfl (.int .i64 0) (ex_move _) ?_
  simp only [pS, pN, pA, pC, pZ]
  refine do_ rfl (.bool true) (ex_eql (b := true) rfl rfl (by decide)) ?_
  simp only [pS, pN, pA, pC, pZ]
  refine do_ rfl (.bool true) (ex_move _) ?_
  simp only [pS, pN, pA, pC, pZ]
  refine do_ rfl (.int .i64 7) (ex_move _) ?_
  simp only [pS, pN, pA, pC, pZ]
  refine do_ rfl (.bool true) (ex_eql (b := true) rfl rfl (by decide)) ?_
  simp only [pS, pN, pA, pC, pZ]
  refine do_ rfl (.bool true) (ex_pick (b := true) rfl) ?_
  simp only [pS, pN, pA, pC, pZ]
  refine do_ rfl (.bool true) (ex_move _) ?_
  simp only [pS, pN, pA, pC, pZ]
  refine do_ rfl (.pointer (some ⟨n201, 0, none⟩)) (ex_field (q := ⟨n201, 0, none⟩) rfl (fa_38_0 _ _)) ?_
  simp only [pS, pN, pA, pC, pZ]
  refine do_ rfl (.slice xa192 r.name.length xc193) (ex_load rfl (load1 (nagg_22 _) (St.cell S226 (i := 1) rfl rfl))) ?_
  simp only [pS, pN, pA, pC, pZ]
  refine do_ rfl (.pointer (some ⟨n128, 1, none⟩)) (ex_field (q := ⟨n128, 1, none⟩) rfl (fa_25_1 _ _)) ?_
  simp only [pS, pN, pA, pC, pZ]
  refine do_ rfl (.slice xa112 r.name.length xc116) (ex_load rfl (load1 (nagg_22 _) (St.cell S226 (i := 2) rfl rfl))) ?_
  simp only [pS, pN, pA, pC, pZ]
  refine stTells (v := (.bool true)) S226 rfl (ex_fn (vs := #[(.slice xa192 r.name.length xc193), (.slice xa112 r.name.length xc116)]) (map2 rfl rfl) rfl (ent_13 _ _)) (tells_bool (tells_same (same_spec _ _ _ _ r.name r.name (S226).sat (r198.mono le210) (r120.mono (le189.trans le210)))) (beq_iff_eq.2 (rfl))) (fun w232 S233 => ?_)
  simp only [pS, pN, pA, pC, pZ]
  refine do_ rfl (.bool true) (ex_pick (b := true) rfl) ?_
  simp only [pS, pN, pA, pC, pZ]
  refine do_ rfl (.bool true) (ex_move _) ?_
  simp only [pS, pN, pA, pC, pZ]
  refine do_ rfl (.pointer (some ⟨n201, 1, none⟩)) (ex_field (q := ⟨n201, 1, none⟩) rfl (fa_38_1 _ _)) ?_
  simp only [pS, pN, pA, pC, pZ]
  refine do_ rfl (.slice xa194 r.key.length xc195) (ex_load rfl (load1 (nagg_22 _) (St.cell S233 (i := 1) rfl rfl))) ?_
  simp only [pS, pN, pA, pC, pZ]
  refine do_ rfl (.pointer (some ⟨n128, 2, none⟩)) (ex_field (q := ⟨n128, 2, none⟩) rfl (fa_25_2 _ _)) ?_
  simp only [pS, pN, pA, pC, pZ]
  refine do_ rfl (.slice xa113 r.key.length xc117) (ex_load rfl (load1 (nagg_22 _) (St.cell S233 (i := 2) rfl rfl))) ?_
  simp only [pS, pN, pA, pC, pZ]
  refine stTells (v := (.bool true)) S233 rfl (ex_fn (vs := #[(.slice xa194 r.key.length xc195), (.slice xa113 r.key.length xc117)]) (map2 rfl rfl) rfl (ent_13 _ _)) (tells_bool (tells_same (same_spec _ _ _ _ r.key r.key (S233).sat (r199.mono le210) (r121.mono (le189.trans le210)))) (beq_iff_eq.2 (rfl))) (fun w234 S235 => ?_)
  simp only [pS, pN, pA, pC, pZ]
  refine do_ rfl (.bool true) (ex_pick (b := true) rfl) ?_
  simp only [pS, pN, pA, pC, pZ]
  refine do_ rfl (.bool true) (ex_move _) ?_
  simp only [pS, pN, pA, pC, pZ]
  refine do_ rfl (.pointer (some ⟨n201, 2, none⟩)) (ex_field (q := ⟨n201, 2, none⟩) rfl (fa_38_2 _ _)) ?_
  simp only [pS, pN, pA, pC, pZ]
  refine do_ rfl (.bool true) (ex_load rfl (load1 (nagg_4 _) (St.cell S235 (i := 1) rfl rfl))) ?_
  simp only [pS, pN, pA, pC, pZ]
  refine do_ rfl (.pointer (some ⟨n128, 0, none⟩)) (ex_field (q := ⟨n128, 0, none⟩) rfl (fa_25_0 _ _)) ?_
  simp only [pS, pN, pA, pC, pZ]
  refine do_ rfl (.int .i64 ((k : Nat) : Int)) (ex_load rfl (load1 (nagg_3 _) (St.cell S235 (i := 2) rfl rfl))) ?_
  simp only [pS, pN, pA, pC, pZ]
  refine do_ rfl (.bool true) (ex_eql (m := ((k : Nat) : Int)) (n := (3 : Int)) (b := true) rfl rfl (beq_iff_eq.2 (by omega))) ?_
  simp only [pS, pN, pA, pC, pZ]
  refine do_ rfl (.bool true) (ex_eqlB Tryd.underlying4 rfl rfl (rfl)) ?_
  simp only [pS, pN, pA, pC, pZ]
  refine do_ rfl (.bool true) (ex_pick (b := true) rfl) ?_
  simp only [pS, pN, pA, pC, pZ]
  refine do_ rfl (.bool true) (ex_move _) ?_
  simp only [pS, pN, pA, pC, pZ]
  refine do_ rfl (.pointer (some ⟨n201, 3, none⟩)) (ex_field (q := ⟨n201, 3, none⟩) rfl (fa_38_3 _ _)) ?_
  simp only [pS, pN, pA, pC, pZ]
  refine do_ rfl (.slice xa196 r.last.length xc197) (ex_load rfl (load1 (nagg_22 _) (St.cell S235 (i := 1) rfl rfl))) ?_
  simp only [pS, pN, pA, pC, pZ]
  refine do_ rfl (.pointer (some ⟨n128, 3, none⟩)) (ex_field (q := ⟨n128, 3, none⟩) rfl (fa_25_3 _ _)) ?_
  simp only [pS, pN, pA, pC, pZ]
  refine do_ rfl (.slice xa114 r.last.length xc118) (ex_load rfl (load1 (nagg_22 _) (St.cell S235 (i := 2) rfl rfl))) ?_
  simp only [pS, pN, pA, pC, pZ]
  refine stTells (v := (.bool true)) S235 rfl (ex_fn (vs := #[(.slice xa196 r.last.length xc197), (.slice xa114 r.last.length xc118)]) (map2 rfl rfl) rfl (ent_13 _ _)) (tells_bool (tells_same (same_spec _ _ _ _ r.last r.last (S235).sat (r200.mono le210) (r122.mono (le189.trans le210)))) (beq_iff_eq.2 (rfl))) (fun w236 S237 => ?_)
  simp only [pS, pN, pA, pC, pZ]
  refine do_ rfl (.bool true) (ex_pick (b := true) rfl) ?_
  simp only [pS, pN, pA, pC, pZ]
  refine do_ rfl (.bool true) (ex_assign _) ?_
  simp only [pS, pN, pA, pC, pZ]
  refine wl_nil (hK231 _ _ ?_)
  refine wp_ret ?_
  (try simp only [Exit.then, Exit.inBlock, ↓reduceIte, Nat.reduceEqDiff])
  refine bodyPost_ret (v := (.bool true)) ?_ rfl ?_
  ·exact res_t rfl rfl
  ·exact ⟨rfl, S237.gr.below⟩
 ·refine region_wl ?_
  refine do_ rfl (.agg #[(.int .i64 ((k : Nat) : Int)), (.slice xa112 r.name.length xc116), (.slice xa113 r.key.length xc117), (.slice xa114 r.last.length xc118), (.slice xa115 r.value.length xc119)]) (ex_load rfl (loadN (cs := [(.int .i64 ((k : Nat) : Int)), (.slice xa112 r.name.length xc116), (.slice xa113 r.key.length xc117), (.slice xa114 r.last.length xc118), (.slice xa115 r.value.length xc119)]) Tryd.underlying25 rfl (size_25) (St.range S132 (i := 0) rfl 0 [(.int .i64 ((k : Nat) : Int)), (.slice xa112 r.name.length xc116), (.slice xa113 r.key.length xc117), (.slice xa114 r.last.length xc118), (.slice xa115 r.value.length xc119)] (sub_range 0 rfl)))) ?_
  simp only [pS, pN, pA, pC, pZ]
  refine stGives S132 rfl (ex_fn (vs := #[(.agg #[(.int .i64 ((k : Nat) : Int)), (.slice xa112 r.name.length xc116), (.slice xa113 r.key.length xc117), (.slice xa114 r.last.length xc118), (.slice xa115 r.value.length xc119)])]) (map1 rfl) rfl (ent_15 _ _)) (wireRead_no _ _ _ k r (S132).sat (hh.below S132.gr.below) ⟨_, _, _, _, rfl, r120, r121, r122, r123⟩ ok (by omega)) ?_
  intro v243 w238 F240 S239 le241 R242
  obtain ⟨_, rfl, xa244, xc245, xa246, xc247, xa248, xc249, rfl, r250, r251, r252⟩ := R242
  simp only [pS, pN, pA, pC, pZ]
  refine do_ rfl (.tuple #[(.agg #[(.slice xa244 ([] : By).length xc245), (.slice xa246 ([] : By).length xc247), (.bool false), (.slice xa248 ([] : By).length xc249)]), (.int .i64 7)]) (ex_move _) ?_
  simp only [pS, pN, pA, pC, pZ]
  refine do_ rfl (.agg #[(.slice xa244 ([] : By).length xc245), (.slice xa246 ([] : By).length xc247), (.bool false), (.slice xa248 ([] : By).length xc249)]) (ex_extract rfl rfl) ?_
  simp only [pS, pN, pA, pC, pZ]
  refine do_ rfl (.int .i64 7) (ex_extract rfl rfl) ?_
  simp only [pS, pN, pA, pC, pZ]
  refine stNew S239 (v := fun n => .pointer (some ⟨n, 0, none⟩)) rfl (ex_alloc (zero_38 _)) (fun n253 w254 S255 => ?_)
  simp only [pS, pN, pA, pC, pZ]
  have S255 : St W (whole W) w254 F240 [⟨n253, [(.slice none 0 0), (.slice none 0 0), (.bool false), (.slice none 0 0)], 38⟩, ⟨n128, [(.int .i64 ((k : Nat) : Int)), (.slice xa112 r.name.length xc116), (.slice xa113 r.key.length xc117), (.slice xa114 r.last.length xc118), (.slice xa115 r.value.length xc119)], 25⟩, ⟨n102, [(.int .i64 kind), (.slice a0 n.length c0), (.slice a1 y.length c1), (.slice a2 l.length c2), (.slice a3 x.length c3)], 24⟩] [] := S255
  refine stStore (i := 0) (v := (.agg #[(.slice xa244 ([] : By).length xc245), (.slice xa246 ([] : By).length xc247), (.bool false), (.slice xa248 ([] : By).length xc249)])) S255 rfl rfl rfl rfl (size_38) (allc4 rfl rfl rfl rfl) (Nat.le_of_ble_eq_true rfl) (fun w256 S257 => ?_)
  simp only [pS, pN, pA, pC, pZ]
  have S257 : St W (whole W) w256 F240 [⟨n253, [(.slice xa244 ([] : By).length xc245), (.slice xa246 ([] : By).length xc247), (.bool false), (.slice xa248 ([] : By).length xc249)], 38⟩, ⟨n128, [(.int .i64 ((k : Nat) : Int)), (.slice xa112 r.name.length xc116), (.slice xa113 r.key.length xc117), (.slice xa114 r.last.length xc118), (.slice xa115 r.value.length xc119)], 25⟩, ⟨n102, [(.int .i64 kind), (.slice a0 n.length c0), (.slice a1 y.length c1), (.slice a2 l.length c2), (.slice a3 x.length c3)], 24⟩] [] := S257
  refine do_ rfl (.int .i64 7) (ex_assign _) ?_
  simp only [pS, pN, pA, pC, pZ]
  refine wl_nil (hK133 _ _ ?_)
  refine wp_seq_k (fun K258 hK258 => region_wl ?_)
  refine do_ rfl (.agg #[(.int .i64 ((k : Nat) : Int)), (.slice xa112 r.name.length xc116), (.slice xa113 r.key.length xc117), (.slice xa114 r.last.length xc118), (.slice xa115 r.value.length xc119)]) (ex_load rfl (loadN (cs := [(.int .i64 ((k : Nat) : Int)), (.slice xa112 r.name.length xc116), (.slice xa113 r.key.length xc117), (.slice xa114 r.last.length xc118), (.slice xa115 r.value.length xc119)]) Tryd.underlying25 rfl (size_25) (St.range S257 (i := 1) rfl 0 [(.int .i64 ((k : Nat) : Int)), (.slice xa112 r.name.length xc116), (.slice xa113 r.key.length xc117), (.slice xa114 r.last.length xc118), (.slice xa115 r.value.length xc119)] (sub_range 0 rfl)))) ?_
  simp only [pS, pN, pA, pC, pZ]
  refine stGives S257 rfl (ex_fn (vs := #[(.agg #[(.int .i64 ((k : Nat) : Int)), (.slice xa112 r.name.length xc116), (.slice xa113 r.key.length xc117), (.slice xa114 r.last.length xc118), (.slice xa115 r.value.length xc119)])]) (map1 rfl) rfl (ent_16 _ _)) (wireWrite_yes _ _ _ k r (b := false) (S257).sat (hh.below S257.gr.below) ⟨_, _, _, _, rfl, (r120.mono le241), (r121.mono le241), (r122.mono le241), (r123.mono le241)⟩ ok (Or.inl ⟨hm, rfl⟩)) ?_
  intro v264 w259 F261 S260 le262 R263
  obtain ⟨_, rfl, xa265, xc266, xa267, xc268, xa269, xc270, rfl, r271, r272, r273⟩ := R263
  have r271 : Bs _ (.slice xa265 r.name.length xc266) r.name := r271
  have r272 : Bs _ (.slice xa267 r.key.length xc268) r.key := r272
  have r273 : Bs _ (.slice xa269 r.value.length xc270) r.value := r273
  simp only [pS, pN, pA, pC, pZ]
  refine do_ rfl (.tuple #[(.agg #[(.slice xa265 r.name.length xc266), (.slice xa267 r.key.length xc268), (.bool false), (.slice xa269 r.value.length xc270)]), (.int .i64 0)]) (ex_move _) ?_
  simp only [pS, pN, pA, pC, pZ]
  refine do_ rfl (.agg #[(.slice xa265 r.name.length xc266), (.slice xa267 r.key.length xc268), (.bool false), (.slice xa269 r.value.length xc270)]) (ex_extract rfl rfl) ?_
  simp only [pS, pN, pA, pC, pZ]
  refine do_ rfl (.int .i64 0) (ex_extract rfl rfl) ?_
  simp only [pS, pN, pA, pC, pZ]
  refine stNew S260 (v := fun n => .pointer (some ⟨n, 0, none⟩)) rfl (ex_alloc (zero_42 _)) (fun n274 w275 S276 => ?_)
  simp only [pS, pN, pA, pC, pZ]
  have S276 : St W (whole W) w275 F261 [⟨n274, [(.slice none 0 0), (.slice none 0 0), (.bool false), (.slice none 0 0)], 42⟩, ⟨n253, [(.slice xa244 ([] : By).length xc245), (.slice xa246 ([] : By).length xc247), (.bool false), (.slice xa248 ([] : By).length xc249)], 38⟩, ⟨n128, [(.int .i64 ((k : Nat) : Int)), (.slice xa112 r.name.length xc116), (.slice xa113 r.key.length xc117), (.slice xa114 r.last.length xc118), (.slice xa115 r.value.length xc119)], 25⟩, ⟨n102, [(.int .i64 kind), (.slice a0 n.length c0), (.slice a1 y.length c1), (.slice a2 l.length c2), (.slice a3 x.length c3)], 24⟩] [] := S276
  refine stStore (i := 0) (v := (.agg #[(.slice xa265 r.name.length xc266), (.slice xa267 r.key.length xc268), (.bool false), (.slice xa269 r.value.length xc270)])) S276 rfl rfl rfl rfl (size_42) (allc4 rfl rfl rfl rfl) (Nat.le_of_ble_eq_true rfl) (fun w277 S278 => ?_)
  simp only [pS, pN, pA, pC, pZ]
  have S278 : St W (whole W) w277 F261 [⟨n274, [(.slice xa265 r.name.length xc266), (.slice xa267 r.key.length xc268), (.bool false), (.slice xa269 r.value.length xc270)], 42⟩, ⟨n253, [(.slice xa244 ([] : By).length xc245), (.slice xa246 ([] : By).length xc247), (.bool false), (.slice xa248 ([] : By).length xc249)], 38⟩, ⟨n128, [(.int .i64 ((k : Nat) : Int)), (.slice xa112 r.name.length xc116), (.slice xa113 r.key.length xc117), (.slice xa114 r.last.length xc118), (.slice xa115 r.value.length xc119)], 25⟩, ⟨n102, [(.int .i64 kind), (.slice a0 n.length c0), (.slice a1 y.length c1), (.slice a2 l.length c2), (.slice a3 x.length c3)], 24⟩] [] := S278
  refine do_ rfl (.int .i64 0) (ex_assign _) ?_
  simp only [pS, pN, pA, pC, pZ]
  refine wl_nil (hK258 _ _ ?_)
  refine wp_seq_k (fun K279 hK279 => ?_)
  refine wp_seq_k (fun K280 hK280 => region_wl ?_)
  refine do_ rfl (.pointer (some ⟨n128, 0, none⟩)) (ex_field (q := ⟨n128, 0, none⟩) rfl (fa_25_0 _ _)) ?_
  simp only [pS, pN, pA, pC, pZ]
  refine do_ rfl (.int .i64 ((k : Nat) : Int)) (ex_load rfl (load1 (nagg_3 _) (St.cell S278 (i := 2) rfl rfl))) ?_
  simp only [pS, pN, pA, pC, pZ]
  refine wl_nil (hK280 _ _ ?_)
  refine wp_block ?_
  refine wp_seq_k (fun K281 hK281 => ?_)
  refine wp_seq_k (fun K282 hK282 => region_wl ?_)
  refine do_ rfl (.bool false) (ex_eql (m := ((k : Nat) : Int)) (n := (2 : Int)) (b := false) rfl rfl (beq_eq_false_iff_ne.2 (by omega))) ?_
  simp only [pS, pN, pA, pC, pZ]
  refine do_ rfl (.bool false) (ex_assign _) ?_
  simp only [pS, pN, pA, pC, pZ]
  refine wl_nil (hK282 _ _ ?_)
  refine wp_cond_false rfl ?_
  refine region_wl ?_
  refine do_ rfl (.bool false) (ex_eql (m := ((k : Nat) : Int)) (n := (3 : Int)) (b := false) rfl rfl (beq_eq_false_iff_ne.2 (by omega))) ?_
  simp only [pS, pN, pA, pC, pZ]
  refine do_ rfl (.bool false) (ex_assign _) ?_
  simp only [pS, pN, pA, pC, pZ]
  refine wl_nil (hK281 _ _ ?_)
  refine wp_cond_false rfl ?_
  refine wp_seq_k (fun K283 hK283 => ?_)
  refine wp_seq_k (fun K284 hK284 => region_wl ?_)
  refine do_ rfl (.bool true) (ex_eql (m := ((k : Nat) : Int)) (n := (4 : Int)) (b := true) rfl rfl (beq_iff_eq.2 (by omega))) ?_
  simp only [pS, pN, pA, pC, pZ]
  refine do_ rfl (.bool true) (ex_assign _) ?_
  simp only [pS, pN, pA, pC, pZ]
  refine wl_nil (hK284 _ _ ?_)
  refine wp_cond_true rfl ?_
  refine wp_skip ?_
  refine hK283 _ _ ?_
  refine wp_cond_true rfl ?_
  refine wp_seq_k (fun K285 hK285 => region_wl ?_)
  refine do_ rfl (.int .i64 7) (ex_move _) ?_
  simp only [pS, pN, pA, pC, pZ]
  refine do_ rfl (.bool true) (ex_eql (b := true) rfl rfl (by decide)) ?_
  simp only [pS, pN, pA, pC, pZ]
  refine do_ rfl (.bool true) (ex_move _) ?_
  simp only [pS, pN, pA, pC, pZ]
  refine do_ rfl (.int .i64 0) (ex_move _) ?_
  simp only [pS, pN, pA, pC, pZ]
  refine do_ rfl (.bool true) (ex_eql (b := true) rfl rfl (by decide)) ?_
  simp only [pS, pN, pA, pC, pZ]
  refine do_ rfl (.bool true) (ex_pick (b := true) rfl) ?_
  simp only [pS, pN, pA, pC, pZ]
  refine do_ rfl (.bool true) (ex_move _) ?_
  simp only [pS, pN, pA, pC, pZ]
  refine do_ rfl (.pointer (some ⟨n274, 0, none⟩)) (ex_field (q := ⟨n274, 0, none⟩) rfl (fa_42_0 _ _)) ?_
  simp only [pS, pN, pA, pC, pZ]
  refine do_ rfl (.slice xa265 r.name.length xc266) (ex_load rfl (load1 (nagg_22 _) (St.cell S278 (i := 0) rfl rfl))) ?_
  simp only [pS, pN, pA, pC, pZ]
  refine do_ rfl (.pointer (some ⟨n128, 1, none⟩)) (ex_field (q := ⟨n128, 1, none⟩) rfl (fa_25_1 _ _)) ?_
  simp only [pS, pN, pA, pC, pZ]
  refine do_ rfl (.slice xa112 r.name.length xc116) (ex_load rfl (load1 (nagg_22 _) (St.cell S278 (i := 2) rfl rfl))) ?_
  simp only [pS, pN, pA, pC, pZ]
  refine stTells (v := (.bool true)) S278 rfl (ex_fn (vs := #[(.slice xa265 r.name.length xc266), (.slice xa112 r.name.length xc116)]) (map2 rfl rfl) rfl (ent_13 _ _)) (tells_bool (tells_same (same_spec _ _ _ _ r.name r.name (S278).sat r271 (r120.mono (le241.trans le262)))) (beq_iff_eq.2 (rfl))) (fun w286 S287 => ?_)
  simp only [pS, pN, pA, pC, pZ]
  refine do_ rfl (.bool true) (ex_pick (b := true) rfl) ?_
  simp only [pS, pN, pA, pC, pZ]
  refine do_ rfl (.bool true) (ex_move _) ?_
  simp only [pS, pN, pA, pC, pZ]
  refine do_ rfl (.pointer (some ⟨n274, 1, none⟩)) (ex_field (q := ⟨n274, 1, none⟩) rfl (fa_42_1 _ _)) ?_
  simp only [pS, pN, pA, pC, pZ]
  refine do_ rfl (.slice xa267 r.key.length xc268) (ex_load rfl (load1 (nagg_22 _) (St.cell S287 (i := 0) rfl rfl))) ?_
  simp only [pS, pN, pA, pC, pZ]
  refine do_ rfl (.pointer (some ⟨n128, 2, none⟩)) (ex_field (q := ⟨n128, 2, none⟩) rfl (fa_25_2 _ _)) ?_
  simp only [pS, pN, pA, pC, pZ]
  refine do_ rfl (.slice xa113 r.key.length xc117) (ex_load rfl (load1 (nagg_22 _) (St.cell S287 (i := 2) rfl rfl))) ?_
  simp only [pS, pN, pA, pC, pZ]
  refine stTells (v := (.bool true)) S287 rfl (ex_fn (vs := #[(.slice xa267 r.key.length xc268), (.slice xa113 r.key.length xc117)]) (map2 rfl rfl) rfl (ent_13 _ _)) (tells_bool (tells_same (same_spec _ _ _ _ r.key r.key (S287).sat r272 (r121.mono (le241.trans le262)))) (beq_iff_eq.2 (rfl))) (fun w288 S289 => ?_)
  simp only [pS, pN, pA, pC, pZ]
  refine do_ rfl (.bool true) (ex_pick (b := true) rfl) ?_
  simp only [pS, pN, pA, pC, pZ]
  refine do_ rfl (.bool true) (ex_move _) ?_
  simp only [pS, pN, pA, pC, pZ]
  refine do_ rfl (.pointer (some ⟨n274, 2, none⟩)) (ex_field (q := ⟨n274, 2, none⟩) rfl (fa_42_2 _ _)) ?_
  simp only [pS, pN, pA, pC, pZ]
  refine do_ rfl (.bool false) (ex_load rfl (load1 (nagg_4 _) (St.cell S289 (i := 0) rfl rfl))) ?_
  simp only [pS, pN, pA, pC, pZ]
  refine do_ rfl (.pointer (some ⟨n128, 0, none⟩)) (ex_field (q := ⟨n128, 0, none⟩) rfl (fa_25_0 _ _)) ?_
  simp only [pS, pN, pA, pC, pZ]
  refine do_ rfl (.int .i64 ((k : Nat) : Int)) (ex_load rfl (load1 (nagg_3 _) (St.cell S289 (i := 2) rfl rfl))) ?_
  simp only [pS, pN, pA, pC, pZ]
  refine do_ rfl (.bool false) (ex_eql (m := ((k : Nat) : Int)) (n := (5 : Int)) (b := false) rfl rfl (beq_eq_false_iff_ne.2 (by omega))) ?_
  simp only [pS, pN, pA, pC, pZ]
  refine do_ rfl (.bool true) (ex_eqlB Tryd.underlying4 rfl rfl (rfl)) ?_
  simp only [pS, pN, pA, pC, pZ]
  refine do_ rfl (.bool true) (ex_pick (b := true) rfl) ?_
  simp only [pS, pN, pA, pC, pZ]
  refine do_ rfl (.bool true) (ex_move _) ?_
  simp only [pS, pN, pA, pC, pZ]
  refine do_ rfl (.pointer (some ⟨n274, 3, none⟩)) (ex_field (q := ⟨n274, 3, none⟩) rfl (fa_42_3 _ _)) ?_
  simp only [pS, pN, pA, pC, pZ]
  refine do_ rfl (.slice xa269 r.value.length xc270) (ex_load rfl (load1 (nagg_22 _) (St.cell S289 (i := 0) rfl rfl))) ?_
  simp only [pS, pN, pA, pC, pZ]
  refine do_ rfl (.pointer (some ⟨n128, 4, none⟩)) (ex_field (q := ⟨n128, 4, none⟩) rfl (fa_25_4 _ _)) ?_
  simp only [pS, pN, pA, pC, pZ]
  refine do_ rfl (.slice xa115 r.value.length xc119) (ex_load rfl (load1 (nagg_22 _) (St.cell S289 (i := 2) rfl rfl))) ?_
  simp only [pS, pN, pA, pC, pZ]
  refine stTells (v := (.bool true)) S289 rfl (ex_fn (vs := #[(.slice xa269 r.value.length xc270), (.slice xa115 r.value.length xc119)]) (map2 rfl rfl) rfl (ent_13 _ _)) (tells_bool (tells_same (same_spec _ _ _ _ r.value r.value (S289).sat r273 (r123.mono (le241.trans le262)))) (beq_iff_eq.2 (rfl))) (fun w290 S291 => ?_)
  simp only [pS, pN, pA, pC, pZ]
  refine do_ rfl (.bool true) (ex_pick (b := true) rfl) ?_
  simp only [pS, pN, pA, pC, pZ]
  refine do_ rfl (.bool true) (ex_assign _) ?_
  simp only [pS, pN, pA, pC, pZ]
  refine wl_nil (hK285 _ _ ?_)
  refine wp_ret ?_
  (try simp only [Exit.then, Exit.inBlock, ↓reduceIte, Nat.reduceEqDiff])
  refine bodyPost_ret (v := (.bool true)) ?_ rfl ?_
  ·exact res_t rfl rfl
  ·exact ⟨rfl, S291.gr.below⟩
 ·refine region_wl ?_
  refine do_ rfl (.agg #[(.int .i64 ((k : Nat) : Int)), (.slice xa112 r.name.length xc116), (.slice xa113 r.key.length xc117), (.slice xa114 r.last.length xc118), (.slice xa115 r.value.length xc119)]) (ex_load rfl (loadN (cs := [(.int .i64 ((k : Nat) : Int)), (.slice xa112 r.name.length xc116), (.slice xa113 r.key.length xc117), (.slice xa114 r.last.length xc118), (.slice xa115 r.value.length xc119)]) Tryd.underlying25 rfl (size_25) (St.range S132 (i := 0) rfl 0 [(.int .i64 ((k : Nat) : Int)), (.slice xa112 r.name.length xc116), (.slice xa113 r.key.length xc117), (.slice xa114 r.last.length xc118), (.slice xa115 r.value.length xc119)] (sub_range 0 rfl)))) ?_
  simp only [pS, pN, pA, pC, pZ]
  refine stGives S132 rfl (ex_fn (vs := #[(.agg #[(.int .i64 ((k : Nat) : Int)), (.slice xa112 r.name.length xc116), (.slice xa113 r.key.length xc117), (.slice xa114 r.last.length xc118), (.slice xa115 r.value.length xc119)])]) (map1 rfl) rfl (ent_15 _ _)) (wireRead_no _ _ _ k r (S132).sat (hh.below S132.gr.below) ⟨_, _, _, _, rfl, r120, r121, r122, r123⟩ ok (by omega)) ?_
  intro v297 w292 F294 S293 le295 R296
  obtain ⟨_, rfl, xa298, xc299, xa300, xc301, xa302, xc303, rfl, r304, r305, r306⟩ := R296
  simp only [pS, pN, pA, pC, pZ]
  refine do_ rfl (.tuple #[(.agg #[(.slice xa298 ([] : By).length xc299), (.slice xa300 ([] : By).length xc301), (.bool false), (.slice xa302 ([] : By).length xc303)]), (.int .i64 7)]) (ex_move _) ?_
  simp only [pS, pN, pA, pC, pZ]
  refine do_ rfl (.agg #[(.slice xa298 ([] : By).length xc299), (.slice xa300 ([] : By).length xc301), (.bool false), (.slice xa302 ([] : By).length xc303)]) (ex_extract rfl rfl) ?_
  simp only [pS, pN, pA, pC, pZ]
  refine do_ rfl (.int .i64 7) (ex_extract rfl rfl) ?_
  simp only [pS, pN, pA, pC, pZ]
  refine stNew S293 (v := fun n => .pointer (some ⟨n, 0, none⟩)) rfl (ex_alloc (zero_38 _)) (fun n307 w308 S309 => ?_)
  simp only [pS, pN, pA, pC, pZ]
  have S309 : St W (whole W) w308 F294 [⟨n307, [(.slice none 0 0), (.slice none 0 0), (.bool false), (.slice none 0 0)], 38⟩, ⟨n128, [(.int .i64 ((k : Nat) : Int)), (.slice xa112 r.name.length xc116), (.slice xa113 r.key.length xc117), (.slice xa114 r.last.length xc118), (.slice xa115 r.value.length xc119)], 25⟩, ⟨n102, [(.int .i64 kind), (.slice a0 n.length c0), (.slice a1 y.length c1), (.slice a2 l.length c2), (.slice a3 x.length c3)], 24⟩] [] := S309
  refine stStore (i := 0) (v := (.agg #[(.slice xa298 ([] : By).length xc299), (.slice xa300 ([] : By).length xc301), (.bool false), (.slice xa302 ([] : By).length xc303)])) S309 rfl rfl rfl rfl (size_38) (allc4 rfl rfl rfl rfl) (Nat.le_of_ble_eq_true rfl) (fun w310 S311 => ?_)
  simp only [pS, pN, pA, pC, pZ]
  have S311 : St W (whole W) w310 F294 [⟨n307, [(.slice xa298 ([] : By).length xc299), (.slice xa300 ([] : By).length xc301), (.bool false), (.slice xa302 ([] : By).length xc303)], 38⟩, ⟨n128, [(.int .i64 ((k : Nat) : Int)), (.slice xa112 r.name.length xc116), (.slice xa113 r.key.length xc117), (.slice xa114 r.last.length xc118), (.slice xa115 r.value.length xc119)], 25⟩, ⟨n102, [(.int .i64 kind), (.slice a0 n.length c0), (.slice a1 y.length c1), (.slice a2 l.length c2), (.slice a3 x.length c3)], 24⟩] [] := S311
  refine do_ rfl (.int .i64 7) (ex_assign _) ?_
  simp only [pS, pN, pA, pC, pZ]
  refine wl_nil (hK133 _ _ ?_)
  refine wp_seq_k (fun K312 hK312 => region_wl ?_)
  refine do_ rfl (.agg #[(.int .i64 ((k : Nat) : Int)), (.slice xa112 r.name.length xc116), (.slice xa113 r.key.length xc117), (.slice xa114 r.last.length xc118), (.slice xa115 r.value.length xc119)]) (ex_load rfl (loadN (cs := [(.int .i64 ((k : Nat) : Int)), (.slice xa112 r.name.length xc116), (.slice xa113 r.key.length xc117), (.slice xa114 r.last.length xc118), (.slice xa115 r.value.length xc119)]) Tryd.underlying25 rfl (size_25) (St.range S311 (i := 1) rfl 0 [(.int .i64 ((k : Nat) : Int)), (.slice xa112 r.name.length xc116), (.slice xa113 r.key.length xc117), (.slice xa114 r.last.length xc118), (.slice xa115 r.value.length xc119)] (sub_range 0 rfl)))) ?_
  simp only [pS, pN, pA, pC, pZ]
  refine stGives S311 rfl (ex_fn (vs := #[(.agg #[(.int .i64 ((k : Nat) : Int)), (.slice xa112 r.name.length xc116), (.slice xa113 r.key.length xc117), (.slice xa114 r.last.length xc118), (.slice xa115 r.value.length xc119)])]) (map1 rfl) rfl (ent_16 _ _)) (wireWrite_yes _ _ _ k r (b := true) (S311).sat (hh.below S311.gr.below) ⟨_, _, _, _, rfl, (r120.mono le295), (r121.mono le295), (r122.mono le295), (r123.mono le295)⟩ ok (Or.inr ⟨hm, rfl⟩)) ?_
  intro v318 w313 F315 S314 le316 R317
  obtain ⟨_, rfl, xa319, xc320, xa321, xc322, xa323, xc324, rfl, r325, r326, r327⟩ := R317
  have r325 : Bs _ (.slice xa319 r.name.length xc320) r.name := r325
  have r326 : Bs _ (.slice xa321 r.key.length xc322) r.key := r326
  have r327 : Bs _ (.slice xa323 r.value.length xc324) r.value := r327
  simp only [pS, pN, pA, pC, pZ]
  refine do_ rfl (.tuple #[(.agg #[(.slice xa319 r.name.length xc320), (.slice xa321 r.key.length xc322), (.bool true), (.slice xa323 r.value.length xc324)]), (.int .i64 0)]) (ex_move _) ?_
  simp only [pS, pN, pA, pC, pZ]
  refine do_ rfl (.agg #[(.slice xa319 r.name.length xc320), (.slice xa321 r.key.length xc322), (.bool true), (.slice xa323 r.value.length xc324)]) (ex_extract rfl rfl) ?_
  simp only [pS, pN, pA, pC, pZ]
  refine do_ rfl (.int .i64 0) (ex_extract rfl rfl) ?_
  simp only [pS, pN, pA, pC, pZ]
  refine stNew S314 (v := fun n => .pointer (some ⟨n, 0, none⟩)) rfl (ex_alloc (zero_42 _)) (fun n328 w329 S330 => ?_)
  simp only [pS, pN, pA, pC, pZ]
  have S330 : St W (whole W) w329 F315 [⟨n328, [(.slice none 0 0), (.slice none 0 0), (.bool false), (.slice none 0 0)], 42⟩, ⟨n307, [(.slice xa298 ([] : By).length xc299), (.slice xa300 ([] : By).length xc301), (.bool false), (.slice xa302 ([] : By).length xc303)], 38⟩, ⟨n128, [(.int .i64 ((k : Nat) : Int)), (.slice xa112 r.name.length xc116), (.slice xa113 r.key.length xc117), (.slice xa114 r.last.length xc118), (.slice xa115 r.value.length xc119)], 25⟩, ⟨n102, [(.int .i64 kind), (.slice a0 n.length c0), (.slice a1 y.length c1), (.slice a2 l.length c2), (.slice a3 x.length c3)], 24⟩] [] := S330
  refine stStore (i := 0) (v := (.agg #[(.slice xa319 r.name.length xc320), (.slice xa321 r.key.length xc322), (.bool true), (.slice xa323 r.value.length xc324)])) S330 rfl rfl rfl rfl (size_42) (allc4 rfl rfl rfl rfl) (Nat.le_of_ble_eq_true rfl) (fun w331 S332 => ?_)
  simp only [pS, pN, pA, pC, pZ]
  have S332 : St W (whole W) w331 F315 [⟨n328, [(.slice xa319 r.name.length xc320), (.slice xa321 r.key.length xc322), (.bool true), (.slice xa323 r.value.length xc324)], 42⟩, ⟨n307, [(.slice xa298 ([] : By).length xc299), (.slice xa300 ([] : By).length xc301), (.bool false), (.slice xa302 ([] : By).length xc303)], 38⟩, ⟨n128, [(.int .i64 ((k : Nat) : Int)), (.slice xa112 r.name.length xc116), (.slice xa113 r.key.length xc117), (.slice xa114 r.last.length xc118), (.slice xa115 r.value.length xc119)], 25⟩, ⟨n102, [(.int .i64 kind), (.slice a0 n.length c0), (.slice a1 y.length c1), (.slice a2 l.length c2), (.slice a3 x.length c3)], 24⟩] [] := S332
  refine do_ rfl (.int .i64 0) (ex_assign _) ?_
  simp only [pS, pN, pA, pC, pZ]
  refine wl_nil (hK312 _ _ ?_)
  refine wp_seq_k (fun K333 hK333 => ?_)
  refine wp_seq_k (fun K334 hK334 => region_wl ?_)
  refine do_ rfl (.pointer (some ⟨n128, 0, none⟩)) (ex_field (q := ⟨n128, 0, none⟩) rfl (fa_25_0 _ _)) ?_
  simp only [pS, pN, pA, pC, pZ]
  refine do_ rfl (.int .i64 ((k : Nat) : Int)) (ex_load rfl (load1 (nagg_3 _) (St.cell S332 (i := 2) rfl rfl))) ?_
  simp only [pS, pN, pA, pC, pZ]
  refine wl_nil (hK334 _ _ ?_)
  refine wp_block ?_
  refine wp_seq_k (fun K335 hK335 => ?_)
  refine wp_seq_k (fun K336 hK336 => region_wl ?_)
  refine do_ rfl (.bool false) (ex_eql (m := ((k : Nat) : Int)) (n := (2 : Int)) (b := false) rfl rfl (beq_eq_false_iff_ne.2 (by omega))) ?_
  simp only [pS, pN, pA, pC, pZ]
  refine do_ rfl (.bool false) (ex_assign _) ?_
  simp only [pS, pN, pA, pC, pZ]
  refine wl_nil (hK336 _ _ ?_)
  refine wp_cond_false rfl ?_
  refine region_wl ?_
  refine do_ rfl (.bool false) (ex_eql (m := ((k : Nat) : Int)) (n := (3 : Int)) (b := false) rfl rfl (beq_eq_false_iff_ne.2 (by omega))) ?_
  simp only [pS, pN, pA, pC, pZ]
  refine do_ rfl (.bool false) (ex_assign _) ?_
  simp only [pS, pN, pA, pC, pZ]
  refine wl_nil (hK335 _ _ ?_)
  refine wp_cond_false rfl ?_
  refine wp_seq_k (fun K337 hK337 => ?_)
  refine wp_seq_k (fun K338 hK338 => region_wl ?_)
  refine do_ rfl (.bool false) (ex_eql (m := ((k : Nat) : Int)) (n := (4 : Int)) (b := false) rfl rfl (beq_eq_false_iff_ne.2 (by omega))) ?_
  simp only [pS, pN, pA, pC, pZ]
  refine do_ rfl (.bool false) (ex_assign _) ?_
  simp only [pS, pN, pA, pC, pZ]
  refine wl_nil (hK338 _ _ ?_)
  refine wp_cond_false rfl ?_
  refine region_wl ?_
  refine do_ rfl (.bool true) (ex_eql (m := ((k : Nat) : Int)) (n := (5 : Int)) (b := true) rfl rfl (beq_iff_eq.2 (by omega))) ?_
  simp only [pS, pN, pA, pC, pZ]
  refine do_ rfl (.bool true) (ex_assign _) ?_
  simp only [pS, pN, pA, pC, pZ]
  refine wl_nil (hK337 _ _ ?_)
  refine wp_cond_true rfl ?_
  refine wp_seq_k (fun K339 hK339 => region_wl ?_)
  refine do_ rfl (.int .i64 7) (ex_move _) ?_
  simp only [pS, pN, pA, pC, pZ]
  refine do_ rfl (.bool true) (ex_eql (b := true) rfl rfl (by decide)) ?_
  simp only [pS, pN, pA, pC, pZ]
  refine do_ rfl (.bool true) (ex_move _) ?_
  simp only [pS, pN, pA, pC, pZ]
  refine do_ rfl (.int .i64 0) (ex_move _) ?_
  simp only [pS, pN, pA, pC, pZ]
  refine do_ rfl (.bool true) (ex_eql (b := true) rfl rfl (by decide)) ?_
  simp only [pS, pN, pA, pC, pZ]
  refine do_ rfl (.bool true) (ex_pick (b := true) rfl) ?_
  simp only [pS, pN, pA, pC, pZ]
  refine do_ rfl (.bool true) (ex_move _) ?_
  simp only [pS, pN, pA, pC, pZ]
  refine do_ rfl (.pointer (some ⟨n328, 0, none⟩)) (ex_field (q := ⟨n328, 0, none⟩) rfl (fa_42_0 _ _)) ?_
  simp only [pS, pN, pA, pC, pZ]
  refine do_ rfl (.slice xa319 r.name.length xc320) (ex_load rfl (load1 (nagg_22 _) (St.cell S332 (i := 0) rfl rfl))) ?_
  simp only [pS, pN, pA, pC, pZ]
  refine do_ rfl (.pointer (some ⟨n128, 1, none⟩)) (ex_field (q := ⟨n128, 1, none⟩) rfl (fa_25_1 _ _)) ?_
  simp only [pS, pN, pA, pC, pZ]
  refine do_ rfl (.slice xa112 r.name.length xc116) (ex_load rfl (load1 (nagg_22 _) (St.cell S332 (i := 2) rfl rfl))) ?_
  simp only [pS, pN, pA, pC, pZ]
  refine stTells (v := (.bool true)) S332 rfl (ex_fn (vs := #[(.slice xa319 r.name.length xc320), (.slice xa112 r.name.length xc116)]) (map2 rfl rfl) rfl (ent_13 _ _)) (tells_bool (tells_same (same_spec _ _ _ _ r.name r.name (S332).sat r325 (r120.mono (le295.trans le316)))) (beq_iff_eq.2 (rfl))) (fun w340 S341 => ?_)
  simp only [pS, pN, pA, pC, pZ]
  refine do_ rfl (.bool true) (ex_pick (b := true) rfl) ?_
  simp only [pS, pN, pA, pC, pZ]
  refine do_ rfl (.bool true) (ex_move _) ?_
  simp only [pS, pN, pA, pC, pZ]
  refine do_ rfl (.pointer (some ⟨n328, 1, none⟩)) (ex_field (q := ⟨n328, 1, none⟩) rfl (fa_42_1 _ _)) ?_
  simp only [pS, pN, pA, pC, pZ]
  refine do_ rfl (.slice xa321 r.key.length xc322) (ex_load rfl (load1 (nagg_22 _) (St.cell S341 (i := 0) rfl rfl))) ?_
  simp only [pS, pN, pA, pC, pZ]
  refine do_ rfl (.pointer (some ⟨n128, 2, none⟩)) (ex_field (q := ⟨n128, 2, none⟩) rfl (fa_25_2 _ _)) ?_
  simp only [pS, pN, pA, pC, pZ]
  refine do_ rfl (.slice xa113 r.key.length xc117) (ex_load rfl (load1 (nagg_22 _) (St.cell S341 (i := 2) rfl rfl))) ?_
  simp only [pS, pN, pA, pC, pZ]
  refine stTells (v := (.bool true)) S341 rfl (ex_fn (vs := #[(.slice xa321 r.key.length xc322), (.slice xa113 r.key.length xc117)]) (map2 rfl rfl) rfl (ent_13 _ _)) (tells_bool (tells_same (same_spec _ _ _ _ r.key r.key (S341).sat r326 (r121.mono (le295.trans le316)))) (beq_iff_eq.2 (rfl))) (fun w342 S343 => ?_)
  simp only [pS, pN, pA, pC, pZ]
  refine do_ rfl (.bool true) (ex_pick (b := true) rfl) ?_
  simp only [pS, pN, pA, pC, pZ]
  refine do_ rfl (.bool true) (ex_move _) ?_
  simp only [pS, pN, pA, pC, pZ]
  refine do_ rfl (.pointer (some ⟨n328, 2, none⟩)) (ex_field (q := ⟨n328, 2, none⟩) rfl (fa_42_2 _ _)) ?_
  simp only [pS, pN, pA, pC, pZ]
  refine do_ rfl (.bool true) (ex_load rfl (load1 (nagg_4 _) (St.cell S343 (i := 0) rfl rfl))) ?_
  simp only [pS, pN, pA, pC, pZ]
  refine do_ rfl (.pointer (some ⟨n128, 0, none⟩)) (ex_field (q := ⟨n128, 0, none⟩) rfl (fa_25_0 _ _)) ?_
  simp only [pS, pN, pA, pC, pZ]
  refine do_ rfl (.int .i64 ((k : Nat) : Int)) (ex_load rfl (load1 (nagg_3 _) (St.cell S343 (i := 2) rfl rfl))) ?_
  simp only [pS, pN, pA, pC, pZ]
  refine do_ rfl (.bool true) (ex_eql (m := ((k : Nat) : Int)) (n := (5 : Int)) (b := true) rfl rfl (beq_iff_eq.2 (by omega))) ?_
  simp only [pS, pN, pA, pC, pZ]
  refine do_ rfl (.bool true) (ex_eqlB Tryd.underlying4 rfl rfl (rfl)) ?_
  simp only [pS, pN, pA, pC, pZ]
  refine do_ rfl (.bool true) (ex_pick (b := true) rfl) ?_
  simp only [pS, pN, pA, pC, pZ]
  refine do_ rfl (.bool true) (ex_move _) ?_
  simp only [pS, pN, pA, pC, pZ]
  refine do_ rfl (.pointer (some ⟨n328, 3, none⟩)) (ex_field (q := ⟨n328, 3, none⟩) rfl (fa_42_3 _ _)) ?_
  simp only [pS, pN, pA, pC, pZ]
  refine do_ rfl (.slice xa323 r.value.length xc324) (ex_load rfl (load1 (nagg_22 _) (St.cell S343 (i := 0) rfl rfl))) ?_
  simp only [pS, pN, pA, pC, pZ]
  refine do_ rfl (.pointer (some ⟨n128, 4, none⟩)) (ex_field (q := ⟨n128, 4, none⟩) rfl (fa_25_4 _ _)) ?_
  simp only [pS, pN, pA, pC, pZ]
  refine do_ rfl (.slice xa115 r.value.length xc119) (ex_load rfl (load1 (nagg_22 _) (St.cell S343 (i := 2) rfl rfl))) ?_
  simp only [pS, pN, pA, pC, pZ]
  refine stTells (v := (.bool true)) S343 rfl (ex_fn (vs := #[(.slice xa323 r.value.length xc324), (.slice xa115 r.value.length xc119)]) (map2 rfl rfl) rfl (ent_13 _ _)) (tells_bool (tells_same (same_spec _ _ _ _ r.value r.value (S343).sat r327 (r123.mono (le295.trans le316)))) (beq_iff_eq.2 (rfl))) (fun w344 S345 => ?_)
  simp only [pS, pN, pA, pC, pZ]
  refine do_ rfl (.bool true) (ex_pick (b := true) rfl) ?_
  simp only [pS, pN, pA, pC, pZ]
  refine do_ rfl (.bool true) (ex_assign _) ?_
  simp only [pS, pN, pA, pC, pZ]
  refine wl_nil (hK339 _ _ ?_)
  refine wp_ret ?_
  (try simp only [Exit.then, Exit.inBlock, ↓reduceIte, Nat.reduceEqDiff])
  refine bodyPost_ret (v := (.bool true)) ?_ rfl ?_
  ·exact res_t rfl rfl
  ·exact ⟨rfl, S345.gr.below⟩
 ·refine region_wl ?_
  refine do_ rfl (.agg #[(.int .i64 ((k : Nat) : Int)), (.slice xa112 r.name.length xc116), (.slice xa113 r.key.length xc117), (.slice xa114 r.last.length xc118), (.slice xa115 r.value.length xc119)]) (ex_load rfl (loadN (cs := [(.int .i64 ((k : Nat) : Int)), (.slice xa112 r.name.length xc116), (.slice xa113 r.key.length xc117), (.slice xa114 r.last.length xc118), (.slice xa115 r.value.length xc119)]) Tryd.underlying25 rfl (size_25) (St.range S132 (i := 0) rfl 0 [(.int .i64 ((k : Nat) : Int)), (.slice xa112 r.name.length xc116), (.slice xa113 r.key.length xc117), (.slice xa114 r.last.length xc118), (.slice xa115 r.value.length xc119)] (sub_range 0 rfl)))) ?_
  simp only [pS, pN, pA, pC, pZ]
  refine stGives S132 rfl (ex_fn (vs := #[(.agg #[(.int .i64 ((k : Nat) : Int)), (.slice xa112 r.name.length xc116), (.slice xa113 r.key.length xc117), (.slice xa114 r.last.length xc118), (.slice xa115 r.value.length xc119)])]) (map1 rfl) rfl (ent_15 _ _)) (wireRead_no _ _ _ k r (S132).sat (hh.below S132.gr.below) ⟨_, _, _, _, rfl, r120, r121, r122, r123⟩ ok (by omega)) ?_
  intro v351 w346 F348 S347 le349 R350
  obtain ⟨_, rfl, xa352, xc353, xa354, xc355, xa356, xc357, rfl, r358, r359, r360⟩ := R350
  simp only [pS, pN, pA, pC, pZ]
  refine do_ rfl (.tuple #[(.agg #[(.slice xa352 ([] : By).length xc353), (.slice xa354 ([] : By).length xc355), (.bool false), (.slice xa356 ([] : By).length xc357)]), (.int .i64 7)]) (ex_move _) ?_
  simp only [pS, pN, pA, pC, pZ]
  refine do_ rfl (.agg #[(.slice xa352 ([] : By).length xc353), (.slice xa354 ([] : By).length xc355), (.bool false), (.slice xa356 ([] : By).length xc357)]) (ex_extract rfl rfl) ?_
  simp only [pS, pN, pA, pC, pZ]
  refine do_ rfl (.int .i64 7) (ex_extract rfl rfl) ?_
  simp only [pS, pN, pA, pC, pZ]
  refine stNew S347 (v := fun n => .pointer (some ⟨n, 0, none⟩)) rfl (ex_alloc (zero_38 _)) (fun n361 w362 S363 => ?_)
  simp only [pS, pN, pA, pC, pZ]
  have S363 : St W (whole W) w362 F348 [⟨n361, [(.slice none 0 0), (.slice none 0 0), (.bool false), (.slice none 0 0)], 38⟩, ⟨n128, [(.int .i64 ((k : Nat) : Int)), (.slice xa112 r.name.length xc116), (.slice xa113 r.key.length xc117), (.slice xa114 r.last.length xc118), (.slice xa115 r.value.length xc119)], 25⟩, ⟨n102, [(.int .i64 kind), (.slice a0 n.length c0), (.slice a1 y.length c1), (.slice a2 l.length c2), (.slice a3 x.length c3)], 24⟩] [] := S363
  refine stStore (i := 0) (v := (.agg #[(.slice xa352 ([] : By).length xc353), (.slice xa354 ([] : By).length xc355), (.bool false), (.slice xa356 ([] : By).length xc357)])) S363 rfl rfl rfl rfl (size_38) (allc4 rfl rfl rfl rfl) (Nat.le_of_ble_eq_true rfl) (fun w364 S365 => ?_)
  simp only [pS, pN, pA, pC, pZ]
  have S365 : St W (whole W) w364 F348 [⟨n361, [(.slice xa352 ([] : By).length xc353), (.slice xa354 ([] : By).length xc355), (.bool false), (.slice xa356 ([] : By).length xc357)], 38⟩, ⟨n128, [(.int .i64 ((k : Nat) : Int)), (.slice xa112 r.name.length xc116), (.slice xa113 r.key.length xc117), (.slice xa114 r.last.length xc118), (.slice xa115 r.value.length xc119)], 25⟩, ⟨n102, [(.int .i64 kind), (.slice a0 n.length c0), (.slice a1 y.length c1), (.slice a2 l.length c2), (.slice a3 x.length c3)], 24⟩] [] := S365
  refine do_ rfl (.int .i64 7) (ex_assign _) ?_
  simp only [pS, pN, pA, pC, pZ]
  refine wl_nil (hK133 _ _ ?_)
  refine wp_seq_k (fun K366 hK366 => region_wl ?_)
  refine do_ rfl (.agg #[(.int .i64 ((k : Nat) : Int)), (.slice xa112 r.name.length xc116), (.slice xa113 r.key.length xc117), (.slice xa114 r.last.length xc118), (.slice xa115 r.value.length xc119)]) (ex_load rfl (loadN (cs := [(.int .i64 ((k : Nat) : Int)), (.slice xa112 r.name.length xc116), (.slice xa113 r.key.length xc117), (.slice xa114 r.last.length xc118), (.slice xa115 r.value.length xc119)]) Tryd.underlying25 rfl (size_25) (St.range S365 (i := 1) rfl 0 [(.int .i64 ((k : Nat) : Int)), (.slice xa112 r.name.length xc116), (.slice xa113 r.key.length xc117), (.slice xa114 r.last.length xc118), (.slice xa115 r.value.length xc119)] (sub_range 0 rfl)))) ?_
  simp only [pS, pN, pA, pC, pZ]
  refine stGives S365 rfl (ex_fn (vs := #[(.agg #[(.int .i64 ((k : Nat) : Int)), (.slice xa112 r.name.length xc116), (.slice xa113 r.key.length xc117), (.slice xa114 r.last.length xc118), (.slice xa115 r.value.length xc119)])]) (map1 rfl) rfl (ent_16 _ _)) (wireWrite_no _ _ _ k r (S365).sat (hh.below S365.gr.below) ⟨_, _, _, _, rfl, (r120.mono le349), (r121.mono le349), (r122.mono le349), (r123.mono le349)⟩ ok (by omega)) ?_
  intro v372 w367 F369 S368 le370 R371
  obtain ⟨_, rfl, xa373, xc374, xa375, xc376, xa377, xc378, rfl, r379, r380, r381⟩ := R371
  simp only [pS, pN, pA, pC, pZ]
  refine do_ rfl (.tuple #[(.agg #[(.slice xa373 ([] : By).length xc374), (.slice xa375 ([] : By).length xc376), (.bool false), (.slice xa377 ([] : By).length xc378)]), (.int .i64 7)]) (ex_move _) ?_
  simp only [pS, pN, pA, pC, pZ]
  refine do_ rfl (.agg #[(.slice xa373 ([] : By).length xc374), (.slice xa375 ([] : By).length xc376), (.bool false), (.slice xa377 ([] : By).length xc378)]) (ex_extract rfl rfl) ?_
  simp only [pS, pN, pA, pC, pZ]
  refine do_ rfl (.int .i64 7) (ex_extract rfl rfl) ?_
  simp only [pS, pN, pA, pC, pZ]
  refine stNew S368 (v := fun n => .pointer (some ⟨n, 0, none⟩)) rfl (ex_alloc (zero_42 _)) (fun n382 w383 S384 => ?_)
  simp only [pS, pN, pA, pC, pZ]
  have S384 : St W (whole W) w383 F369 [⟨n382, [(.slice none 0 0), (.slice none 0 0), (.bool false), (.slice none 0 0)], 42⟩, ⟨n361, [(.slice xa352 ([] : By).length xc353), (.slice xa354 ([] : By).length xc355), (.bool false), (.slice xa356 ([] : By).length xc357)], 38⟩, ⟨n128, [(.int .i64 ((k : Nat) : Int)), (.slice xa112 r.name.length xc116), (.slice xa113 r.key.length xc117), (.slice xa114 r.last.length xc118), (.slice xa115 r.value.length xc119)], 25⟩, ⟨n102, [(.int .i64 kind), (.slice a0 n.length c0), (.slice a1 y.length c1), (.slice a2 l.length c2), (.slice a3 x.length c3)], 24⟩] [] := S384
  refine stStore (i := 0) (v := (.agg #[(.slice xa373 ([] : By).length xc374), (.slice xa375 ([] : By).length xc376), (.bool false), (.slice xa377 ([] : By).length xc378)])) S384 rfl rfl rfl rfl (size_42) (allc4 rfl rfl rfl rfl) (Nat.le_of_ble_eq_true rfl) (fun w385 S386 => ?_)
  simp only [pS, pN, pA, pC, pZ]
  have S386 : St W (whole W) w385 F369 [⟨n382, [(.slice xa373 ([] : By).length xc374), (.slice xa375 ([] : By).length xc376), (.bool false), (.slice xa377 ([] : By).length xc378)], 42⟩, ⟨n361, [(.slice xa352 ([] : By).length xc353), (.slice xa354 ([] : By).length xc355), (.bool false), (.slice xa356 ([] : By).length xc357)], 38⟩, ⟨n128, [(.int .i64 ((k : Nat) : Int)), (.slice xa112 r.name.length xc116), (.slice xa113 r.key.length xc117), (.slice xa114 r.last.length xc118), (.slice xa115 r.value.length xc119)], 25⟩, ⟨n102, [(.int .i64 kind), (.slice a0 n.length c0), (.slice a1 y.length c1), (.slice a2 l.length c2), (.slice a3 x.length c3)], 24⟩] [] := S386
  refine do_ rfl (.int .i64 7) (ex_assign _) ?_
  simp only [pS, pN, pA, pC, pZ]
  refine wl_nil (hK366 _ _ ?_)
  refine wp_seq_k (fun K387 hK387 => ?_)
  refine wp_seq_k (fun K388 hK388 => region_wl ?_)
  refine do_ rfl (.pointer (some ⟨n128, 0, none⟩)) (ex_field (q := ⟨n128, 0, none⟩) rfl (fa_25_0 _ _)) ?_
  simp only [pS, pN, pA, pC, pZ]
  refine do_ rfl (.int .i64 ((k : Nat) : Int)) (ex_load rfl (load1 (nagg_3 _) (St.cell S386 (i := 2) rfl rfl))) ?_
  simp only [pS, pN, pA, pC, pZ]
  refine wl_nil (hK388 _ _ ?_)
  refine wp_block ?_
  refine wp_seq_k (fun K389 hK389 => ?_)
  refine wp_seq_k (fun K390 hK390 => region_wl ?_)
  refine do_ rfl (.bool false) (ex_eql (m := ((k : Nat) : Int)) (n := (2 : Int)) (b := false) rfl rfl (beq_eq_false_iff_ne.2 (by omega))) ?_
  simp only [pS, pN, pA, pC, pZ]
  refine do_ rfl (.bool false) (ex_assign _) ?_
  simp only [pS, pN, pA, pC, pZ]
  refine wl_nil (hK390 _ _ ?_)
  refine wp_cond_false rfl ?_
  refine region_wl ?_
  refine do_ rfl (.bool false) (ex_eql (m := ((k : Nat) : Int)) (n := (3 : Int)) (b := false) rfl rfl (beq_eq_false_iff_ne.2 (by omega))) ?_
  simp only [pS, pN, pA, pC, pZ]
  refine do_ rfl (.bool false) (ex_assign _) ?_
  simp only [pS, pN, pA, pC, pZ]
  refine wl_nil (hK389 _ _ ?_)
  refine wp_cond_false rfl ?_
  refine wp_seq_k (fun K391 hK391 => ?_)
  refine wp_seq_k (fun K392 hK392 => region_wl ?_)
  refine do_ rfl (.bool false) (ex_eql (m := ((k : Nat) : Int)) (n := (4 : Int)) (b := false) rfl rfl (beq_eq_false_iff_ne.2 (by omega))) ?_
  simp only [pS, pN, pA, pC, pZ]
  refine do_ rfl (.bool false) (ex_assign _) ?_
  simp only [pS, pN, pA, pC, pZ]
  refine wl_nil (hK392 _ _ ?_)
  refine wp_cond_false rfl ?_
  refine region_wl ?_
  refine do_ rfl (.bool false) (ex_eql (m := ((k : Nat) : Int)) (n := (5 : Int)) (b := false) rfl rfl (beq_eq_false_iff_ne.2 (by omega))) ?_
  simp only [pS, pN, pA, pC, pZ]
  refine do_ rfl (.bool false) (ex_assign _) ?_
  simp only [pS, pN, pA, pC, pZ]
  refine wl_nil (hK391 _ _ ?_)
  refine wp_cond_false rfl ?_
  refine wp_skip ?_
  refine hK387 _ _ ?_
  refine wp_seq_k (fun K393 hK393 => region_wl ?_)
  refine do_ rfl (.int .i64 7) (ex_move _) ?_
  simp only [pS, pN, pA, pC, pZ]
  refine do_ rfl (.bool true) (ex_eql (b := true) rfl rfl (by decide)) ?_
  simp only [pS, pN, pA, pC, pZ]
  refine do_ rfl (.bool true) (ex_move _) ?_
  simp only [pS, pN, pA, pC, pZ]
  refine do_ rfl (.int .i64 7) (ex_move _) ?_
  simp only [pS, pN, pA, pC, pZ]
  refine do_ rfl (.bool true) (ex_eql (b := true) rfl rfl (by decide)) ?_
  simp only [pS, pN, pA, pC, pZ]
  refine do_ rfl (.bool true) (ex_pick (b := true) rfl) ?_
  simp only [pS, pN, pA, pC, pZ]
  refine do_ rfl (.bool true) (ex_assign _) ?_
  simp only [pS, pN, pA, pC, pZ]
  refine wl_nil (hK393 _ _ ?_)
  refine wp_ret ?_
  (try simp only [Exit.then, Exit.inBlock, ↓reduceIte, Nat.reduceEqDiff])
  refine bodyPost_ret (v := (.bool true)) ?_ rfl ?_
  ·exact res_t rfl rfl
  ·exact ⟨rfl, S386.gr.below⟩
end Go.Proofs.YticbfdhdipfjmaaDoor
