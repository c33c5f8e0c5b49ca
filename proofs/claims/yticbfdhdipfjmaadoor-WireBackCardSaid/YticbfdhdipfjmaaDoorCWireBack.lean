/- The walk of WireBack -/
import Derived.Test.YticbfdhdipfjmaaDoorBW6
namespace Go.Proofs.YticbfdhdipfjmaaDoor
open Go.RowKit
set_option maxRecDepth 100000
set_option linter.unusedVariables false
set_option linter.unusedSimpArgs false
set_option maxHeartbeats 8000000 in
theorem wireBack_walk (W : World) (kind : Int) (a b c d : Value) (n y l x : By) (t : UInt8) (hh : Has W) (ha : Bs (whole W) a n) (hb : Bs (whole W) b y) (hc : Bs (whole W) c l) (hd : Bs (whole W) d x)
    (k1 : -9223372036854775808 ≤ kind) (k2 : kind ≤ 9223372036854775807) :
    Calls Tryd.prog 3 #[.agg #[.int .i64 kind, a, b, c, d], bv t] W (Tells W (.bool true)) := by
 obtain ⟨a0, c0, rfl, _⟩ := ha.shape
 obtain ⟨a1, c1, rfl, _⟩ := hb.shape
 obtain ⟨a2, c2, rfl, _⟩ := hc.shape
 obtain ⟨a3, c3, rfl, _⟩ := hd.shape
 obtain ⟨k, r, ok, hreq⟩ := request_all kind n y l x k1 k2
 have hkk := ok.kind
 have hql := encQ_len ok
 obtain ⟨i5, hi5, hz5, hs5, hb5⟩ := info_parts infoU8
 have S := St.start (Sat.whole W)
 go_enter Tryd.func3, Tryd.ntmps3
 refine wp_seq_k (fun K101 hK101 => region_wl ?_)
 refine stNew S (v := fun n => .pointer (some ⟨n, 0, none⟩)) rfl (ex_box (v := (.agg #[(.int .i64 kind), (.slice a0 n.length c0), (.slice a1 y.length c1), (.slice a2 l.length c2), (.slice a3 x.length c3)])) rfl) (fun n102 w103 S104 => ?_)
 simp only [pS, pN, pA, pC, pZ]
 have S104 : St W (whole W) w103 (whole W) [⟨n102, [(.int .i64 kind), (.slice a0 n.length c0), (.slice a1 y.length c1), (.slice a2 l.length c2), (.slice a3 x.length c3)], 24⟩] [] := S104
 refine do_ rfl (.bool false) (ex_assign _) ?_
 simp only [pS, pN, pA, pC, pZ]
 refine wl_nil (hK101 _ _ ?_)
 refine wp_seq_k (fun K105 hK105 => region_wl ?_)
 refine do_ rfl (.agg #[(.int .i64 kind), (.slice a0 n.length c0), (.slice a1 y.length c1), (.slice a2 l.length c2), (.slice a3 x.length c3)]) (ex_load rfl (loadN (cs := [(.int .i64 kind), (.slice a0 n.length c0), (.slice a1 y.length c1), (.slice a2 l.length c2), (.slice a3 x.length c3)]) Tryd.underlying24 rfl (size_24) (St.range S104 (i := 0) rfl 0 [(.int .i64 kind), (.slice a0 n.length c0), (.slice a1 y.length c1), (.slice a2 l.length c2), (.slice a3 x.length c3)] (sub_range 0 rfl)))) ?_
 simp only [pS, pN, pA, pC, pZ]
 refine stGives S104 rfl (ex_fn (vs := #[(.agg #[(.int .i64 kind), (.slice a0 n.length c0), (.slice a1 y.length c1), (.slice a2 l.length c2), (.slice a3 x.length c3)])]) (map1 rfl) rfl (ent_10 _ _)) (hreq _ _ _ _ _ _ (S104).sat ha hb hc hd) ?_
 intro v111 w106 F108 S107 le109 R110
 obtain ⟨_, _, _, _, rfl, r120, r121, r122, r123⟩ := R110
 obtain ⟨xa112, xc116, rfl, _⟩ := r120.shape
 obtain ⟨xa113, xc117, rfl, _⟩ := r121.shape
 obtain ⟨xa114, xc118, rfl, _⟩ := r122.shape
 obtain ⟨xa115, xc119, rfl, _⟩ := r123.shape
 simp only [pS, pN, pA, pC, pZ]
 refine stNew S107 (v := fun n => .pointer (some ⟨n, 0, none⟩)) rfl (ex_alloc (zero_25 _)) (fun n128 w129 S130 => ?_)
 simp only [pS, pN, pA, pC, pZ]
 have S130 : St W (whole W) w129 F108 [⟨n128, [(.int .i64 0), (.slice none 0 0), (.slice none 0 0), (.slice none 0 0), (.slice none 0 0)], 25⟩, ⟨n102, [(.int .i64 kind), (.slice a0 n.length c0), (.slice a1 y.length c1), (.slice a2 l.length c2), (.slice a3 x.length c3)], 24⟩] [] := S130
 refine stStore (i := 0) (v := (.agg #[(.int .i64 ((k : Nat) : Int)), (.slice xa112 r.name.length xc116), (.slice xa113 r.key.length xc117), (.slice xa114 r.last.length xc118), (.slice xa115 r.value.length xc119)])) S130 rfl rfl rfl rfl (size_25) (allc5 rfl rfl rfl rfl rfl) (Nat.le_of_ble_eq_true rfl) (fun w131 S132 => ?_)
 simp only [pS, pN, pA, pC, pZ]
 have S132 : St W (whole W) w131 F108 [⟨n128, [(.int .i64 ((k : Nat) : Int)), (.slice xa112 r.name.length xc116), (.slice xa113 r.key.length xc117), (.slice xa114 r.last.length xc118), (.slice xa115 r.value.length xc119)], 25⟩, ⟨n102, [(.int .i64 kind), (.slice a0 n.length c0), (.slice a1 y.length c1), (.slice a2 l.length c2), (.slice a3 x.length c3)], 24⟩] [] := S132
 refine wl_nil (hK105 _ _ ?_)
 refine wp_seq_k (fun K133 hK133 => region_wl ?_)
 refine do_ rfl (.agg #[(.int .i64 ((k : Nat) : Int)), (.slice xa112 r.name.length xc116), (.slice xa113 r.key.length xc117), (.slice xa114 r.last.length xc118), (.slice xa115 r.value.length xc119)]) (ex_load rfl (loadN (cs := [(.int .i64 ((k : Nat) : Int)), (.slice xa112 r.name.length xc116), (.slice xa113 r.key.length xc117), (.slice xa114 r.last.length xc118), (.slice xa115 r.value.length xc119)]) Tryd.underlying25 rfl (size_25) (St.range S132 (i := 0) rfl 0 [(.int .i64 ((k : Nat) : Int)), (.slice xa112 r.name.length xc116), (.slice xa113 r.key.length xc117), (.slice xa114 r.last.length xc118), (.slice xa115 r.value.length xc119)] (sub_range 0 rfl)))) ?_
 simp only [pS, pN, pA, pC, pZ]
 refine stGives S132 rfl (ex_fn (vs := #[(.agg #[(.int .i64 ((k : Nat) : Int)), (.slice xa112 r.name.length xc116), (.slice xa113 r.key.length xc117), (.slice xa114 r.last.length xc118), (.slice xa115 r.value.length xc119)])]) (map1 rfl) rfl (ent_11 _ _)) (wireEncode_spec _ _ _ k r (S132).sat (hh.below S132.gr.below) ⟨_, _, _, _, rfl, r120, r121, r122, r123⟩ ok) ?_
 intro v139 w134 F136 S135 le137 R138
 obtain ⟨_, rfl, r142⟩ := R138
 obtain ⟨a140, c141, rfl, h143, _⟩ := r142.shape
 have h143 : (encQ k r).length ≤ c141 := h143
 have r142 : Bs _ (.slice a140 (encQ k r).length c141) (encQ k r) := r142
 simp only [pS, pN, pA, pC, pZ]
 refine do_ rfl (.tuple #[(.slice a140 (encQ k r).length c141), (.int .i64 0)]) (ex_move _) ?_
 simp only [pS, pN, pA, pC, pZ]
 refine do_ rfl (.slice a140 (encQ k r).length c141) (ex_extract rfl rfl) ?_
 simp only [pS, pN, pA, pC, pZ]
 refine do_ rfl (.int .i64 0) (ex_extract rfl rfl) ?_
 simp only [pS, pN, pA, pC, pZ]
 refine do_ rfl (.slice a140 (encQ k r).length c141) (ex_assign _) ?_
 simp only [pS, pN, pA, pC, pZ]
 refine do_ rfl (.int .i64 0) (ex_assign _) ?_
 simp only [pS, pN, pA, pC, pZ]
 refine wl_nil (hK133 _ _ ?_)
 refine wp_seq_k (fun K144 hK144 => region_wl ?_)
 refine do_ rfl (.slice a140 (encQ k r).length c141) (ex_move _) ?_
 simp only [pS, pN, pA, pC, pZ]
 refine stGives S135 rfl (ex_fn (vs := #[(.slice a140 (encQ k r).length c141)]) (map1 rfl) rfl (ent_12 _ _)) (wireDecIs_spec _ _ _ (encQ k r) (S135).sat (hh.below S135.gr.below) r142 (wd_back ok).1 (wd_back ok).2) ?_
 intro v150 w145 F147 S146 le148 R149
 obtain ⟨_, rfl, r151⟩ := R149
 obtain ⟨_, _, _, _, rfl, r160, r161, r162, r163⟩ := r151
 obtain ⟨xa152, xc156, rfl, _⟩ := r160.shape
 obtain ⟨xa153, xc157, rfl, _⟩ := r161.shape
 obtain ⟨xa154, xc158, rfl, _⟩ := r162.shape
 obtain ⟨xa155, xc159, rfl, _⟩ := r163.shape
 simp only [pS, pN, pA, pC, pZ]
 refine do_ rfl (.tuple #[(.agg #[(.int .i64 ((k : Nat) : Int)), (.slice xa152 r.name.length xc156), (.slice xa153 r.key.length xc157), (.slice xa154 r.last.length xc158), (.slice xa155 r.value.length xc159)]), (.int .i64 0)]) (ex_move _) ?_
 simp only [pS, pN, pA, pC, pZ]
 refine do_ rfl (.agg #[(.int .i64 ((k : Nat) : Int)), (.slice xa152 r.name.length xc156), (.slice xa153 r.key.length xc157), (.slice xa154 r.last.length xc158), (.slice xa155 r.value.length xc159)]) (ex_extract rfl rfl) ?_
 simp only [pS, pN, pA, pC, pZ]
 refine do_ rfl (.int .i64 0) (ex_extract rfl rfl) ?_
 simp only [pS, pN, pA, pC, pZ]
 refine stNew S146 (v := fun n => .pointer (some ⟨n, 0, none⟩)) rfl (ex_alloc (zero_25 _)) (fun n168 w169 S170 => ?_)
 simp only [pS, pN, pA, pC, pZ]
 have S170 : St W (whole W) w169 F147 [⟨n168, [(.int .i64 0), (.slice none 0 0), (.slice none 0 0), (.slice none 0 0), (.slice none 0 0)], 25⟩, ⟨n128, [(.int .i64 ((k : Nat) : Int)), (.slice xa112 r.name.length xc116), (.slice xa113 r.key.length xc117), (.slice xa114 r.last.length xc118), (.slice xa115 r.value.length xc119)], 25⟩, ⟨n102, [(.int .i64 kind), (.slice a0 n.length c0), (.slice a1 y.length c1), (.slice a2 l.length c2), (.slice a3 x.length c3)], 24⟩] [] := S170
 refine stStore (i := 0) (v := (.agg #[(.int .i64 ((k : Nat) : Int)), (.slice xa152 r.name.length xc156), (.slice xa153 r.key.length xc157), (.slice xa154 r.last.length xc158), (.slice xa155 r.value.length xc159)])) S170 rfl rfl rfl rfl (size_25) (allc5 rfl rfl rfl rfl rfl) (Nat.le_of_ble_eq_true rfl) (fun w171 S172 => ?_)
 simp only [pS, pN, pA, pC, pZ]
 have S172 : St W (whole W) w171 F147 [⟨n168, [(.int .i64 ((k : Nat) : Int)), (.slice xa152 r.name.length xc156), (.slice xa153 r.key.length xc157), (.slice xa154 r.last.length xc158), (.slice xa155 r.value.length xc159)], 25⟩, ⟨n128, [(.int .i64 ((k : Nat) : Int)), (.slice xa112 r.name.length xc116), (.slice xa113 r.key.length xc117), (.slice xa114 r.last.length xc118), (.slice xa115 r.value.length xc119)], 25⟩, ⟨n102, [(.int .i64 kind), (.slice a0 n.length c0), (.slice a1 y.length c1), (.slice a2 l.length c2), (.slice a3 x.length c3)], 24⟩] [] := S172
 refine do_ rfl (.int .i64 0) (ex_assign _) ?_
 simp only [pS, pN, pA, pC, pZ]
 refine wl_nil (hK144 _ _ ?_)
 refine wp_seq_k (fun K173 hK173 => region_wl ?_)
 refine do_ rfl (.slice a140 (encQ k r).length c141) (ex_move _) ?_
 simp only [pS, pN, pA, pC, pZ]
 have S174 := St.addNil S172 1 ByC ByC.mono 5 W.heap.size
 refine stAppendS (r := 0) (u := (.slice a140 (encQ k r).length c141)) S174 rfl i5 (.int .u8 0) 1 Tryd.underlying22 hi5 hz5 hs5 hb5 rfl (by decide) rfl rfl rfl (Sl.toW (Bs.sl (r142.mono le148)) (S174).sat) ByC.one (Nat.le_refl _) S174.gr.below.size (by unfold maxLen; simp only [List.length_nil]; omega) (by simp only [List.length_nil]; omega) ?_
 intro v175 w176 S177 hn178
 simp only [pS, pN, pA, pC, pZ]
 have S177 : St W (whole W) w176 F147 [⟨n168, [(.int .i64 ((k : Nat) : Int)), (.slice xa152 r.name.length xc156), (.slice xa153 r.key.length xc157), (.slice xa154 r.last.length xc158), (.slice xa155 r.value.length xc159)], 25⟩, ⟨n128, [(.int .i64 ((k : Nat) : Int)), (.slice xa112 r.name.length xc116), (.slice xa113 r.key.length xc117), (.slice xa114 r.last.length xc118), (.slice xa115 r.value.length xc119)], 25⟩, ⟨n102, [(.int .i64 kind), (.slice a0 n.length c0), (.slice a1 y.length c1), (.slice a2 l.length c2), (.slice a3 x.length c3)], 24⟩] [ownP 1 ByC ByC.mono 5 W.heap.size v175 ([] ++ (encQ k r))] := S177
 refine do_ rfl (bv t) (ex_move _) ?_
 simp only [pS, pN, pA, pC, pZ]
 refine stNew S177 (v := fun n => .slice (some ⟨n, 0, none⟩) 1 1) rfl (ex_lit (ps := #[(0, (bv t))]) (cells := #[(bv t)]) (E := 5) (bmap1 rfl) (fun w => by kernel_rfl)) (fun n179 w180 S181 => ?_)
 simp only [pS, pN, pA, pC, pZ]
 have S181 : St W (whole W) w180 F147 [⟨n179, [(bv t)], 5⟩, ⟨n168, [(.int .i64 ((k : Nat) : Int)), (.slice xa152 r.name.length xc156), (.slice xa153 r.key.length xc157), (.slice xa154 r.last.length xc158), (.slice xa155 r.value.length xc159)], 25⟩, ⟨n128, [(.int .i64 ((k : Nat) : Int)), (.slice xa112 r.name.length xc116), (.slice xa113 r.key.length xc117), (.slice xa114 r.last.length xc118), (.slice xa115 r.value.length xc119)], 25⟩, ⟨n102, [(.int .i64 kind), (.slice a0 n.length c0), (.slice a1 y.length c1), (.slice a2 l.length c2), (.slice a3 x.length c3)], 24⟩] [ownP 1 ByC ByC.mono 5 W.heap.size v175 ([] ++ (encQ k r))] := S181
 rw [List.nil_append] at S181
 refine stPush (i := 0) (r := 0) (p := t) (cs := [(bv t)]) S181 rfl i5 (.int .u8 0) 1 Tryd.underlying22 hi5 hz5 hs5 hb5 rfl (by decide) rfl rfl rfl rfl rfl (bv_one t) (rfl) (Nat.le_refl _) S181.gr.below.size (by unfold maxLen; omega) (by omega) ?_
 intro v182 w183 S184 hn185
 simp only [pS, pN, pA, pC, pZ]
 have S184 := St.drop S184 (L' := [⟨n168, [(.int .i64 ((k : Nat) : Int)), (.slice xa152 r.name.length xc156), (.slice xa153 r.key.length xc157), (.slice xa154 r.last.length xc158), (.slice xa155 r.value.length xc159)], 25⟩, ⟨n128, [(.int .i64 ((k : Nat) : Int)), (.slice xa112 r.name.length xc116), (.slice xa113 r.key.length xc117), (.slice xa114 r.last.length xc118), (.slice xa115 r.value.length xc119)], 25⟩, ⟨n102, [(.int .i64 kind), (.slice a0 n.length c0), (.slice a1 y.length c1), (.slice a2 l.length c2), (.slice a3 x.length c3)], 24⟩]) (.cons _ (List.Sublist.refl _))
 have S184 : St W (whole W) w183 F147 [⟨n168, [(.int .i64 ((k : Nat) : Int)), (.slice xa152 r.name.length xc156), (.slice xa153 r.key.length xc157), (.slice xa154 r.last.length xc158), (.slice xa155 r.value.length xc159)], 25⟩, ⟨n128, [(.int .i64 ((k : Nat) : Int)), (.slice xa112 r.name.length xc116), (.slice xa113 r.key.length xc117), (.slice xa114 r.last.length xc118), (.slice xa115 r.value.length xc119)], 25⟩, ⟨n102, [(.int .i64 kind), (.slice a0 n.length c0), (.slice a1 y.length c1), (.slice a2 l.length c2), (.slice a3 x.length c3)], 24⟩] [ownP 1 ByC ByC.mono 5 W.heap.size v182 ((encQ k r) ++ [t])] := S184
 obtain ⟨F186, S187, le188, hv189⟩ := St.freeze S184 (i := 0) rfl (Nat.le_refl _)
 have S187 : St W (whole W) w183 F186 [⟨n168, [(.int .i64 ((k : Nat) : Int)), (.slice xa152 r.name.length xc156), (.slice xa153 r.key.length xc157), (.slice xa154 r.last.length xc158), (.slice xa155 r.value.length xc159)], 25⟩, ⟨n128, [(.int .i64 ((k : Nat) : Int)), (.slice xa112 r.name.length xc116), (.slice xa113 r.key.length xc117), (.slice xa114 r.last.length xc118), (.slice xa115 r.value.length xc119)], 25⟩, ⟨n102, [(.int .i64 kind), (.slice a0 n.length c0), (.slice a1 y.length c1), (.slice a2 l.length c2), (.slice a3 x.length c3)], 24⟩] [] := S187
 have hv189 : Bys _ v182 ((encQ k r) ++ [t]) := hv189
 have r190 := bs_of_sl hv189
 obtain ⟨a191, c192, rfl, _⟩ := r190.shape
 refine stGives S187 rfl (ex_fn (vs := #[(.slice a191 ((encQ k r) ++ [t]).length c192)]) (map1 rfl) rfl (ent_12 _ _)) (wireDecIs_spec _ _ _ ((encQ k r) ++ [t]) (S187).sat (hh.below S187.gr.below) r190 (wd_more ok t) (wd_no (wd_more ok t) (by decide))) ?_
 intro v198 w193 F195 S194 le196 R197
 obtain ⟨_, rfl, r199⟩ := R197
 obtain ⟨_, _, _, _, rfl, r208, r209, r210, r211⟩ := r199
 obtain ⟨xa200, xc204, rfl, _⟩ := r208.shape
 obtain ⟨xa201, xc205, rfl, _⟩ := r209.shape
 obtain ⟨xa202, xc206, rfl, _⟩ := r210.shape
 obtain ⟨xa203, xc207, rfl, _⟩ := r211.shape
 simp only [pS, pN, pA, pC, pZ]
 refine do_ rfl (.tuple #[(.agg #[(.int .i64 0), (.slice xa200 (⟨[], [], [], []⟩ : Rq).name.length xc204), (.slice xa201 (⟨[], [], [], []⟩ : Rq).key.length xc205), (.slice xa202 (⟨[], [], [], []⟩ : Rq).last.length xc206), (.slice xa203 (⟨[], [], [], []⟩ : Rq).value.length xc207)]), (.int .i64 4)]) (ex_move _) ?_
 simp only [pS, pN, pA, pC, pZ]
 refine do_ rfl (.agg #[(.int .i64 0), (.slice xa200 (⟨[], [], [], []⟩ : Rq).name.length xc204), (.slice xa201 (⟨[], [], [], []⟩ : Rq).key.length xc205), (.slice xa202 (⟨[], [], [], []⟩ : Rq).last.length xc206), (.slice xa203 (⟨[], [], [], []⟩ : Rq).value.length xc207)]) (ex_extract rfl rfl) ?_
 simp only [pS, pN, pA, pC, pZ]
 refine do_ rfl (.int .i64 4) (ex_extract rfl rfl) ?_
 simp only [pS, pN, pA, pC, pZ]
 refine stNew S194 (v := fun n => .pointer (some ⟨n, 0, none⟩)) rfl (ex_alloc (zero_25 _)) (fun n216 w217 S218 => ?_)
 simp only [pS, pN, pA, pC, pZ]
 have S218 : St W (whole W) w217 F195 [⟨n216, [(.int .i64 0), (.slice none 0 0), (.slice none 0 0), (.slice none 0 0), (.slice none 0 0)], 25⟩, ⟨n168, [(.int .i64 ((k : Nat) : Int)), (.slice xa152 r.name.length xc156), (.slice xa153 r.key.length xc157), (.slice xa154 r.last.length xc158), (.slice xa155 r.value.length xc159)], 25⟩, ⟨n128, [(.int .i64 ((k : Nat) : Int)), (.slice xa112 r.name.length xc116), (.slice xa113 r.key.length xc117), (.slice xa114 r.last.length xc118), (.slice xa115 r.value.length xc119)], 25⟩, ⟨n102, [(.int .i64 kind), (.slice a0 n.length c0), (.slice a1 y.length c1), (.slice a2 l.length c2), (.slice a3 x.length c3)], 24⟩] [] := S218
 refine stStore (i := 0) (v := (.agg #[(.int .i64 0), (.slice xa200 (⟨[], [], [], []⟩ : Rq).name.length xc204), (.slice xa201 (⟨[], [], [], []⟩ : Rq).key.length xc205), (.slice xa202 (⟨[], [], [], []⟩ : Rq).last.length xc206), (.slice xa203 (⟨[], [], [], []⟩ : Rq).value.length xc207)])) S218 rfl rfl rfl rfl (size_25) (allc5 rfl rfl rfl rfl rfl) (Nat.le_of_ble_eq_true rfl) (fun w219 S220 => ?_)
 simp only [pS, pN, pA, pC, pZ]
 have S220 : St W (whole W) w219 F195 [⟨n216, [(.int .i64 0), (.slice xa200 (⟨[], [], [], []⟩ : Rq).name.length xc204), (.slice xa201 (⟨[], [], [], []⟩ : Rq).key.length xc205), (.slice xa202 (⟨[], [], [], []⟩ : Rq).last.length xc206), (.slice xa203 (⟨[], [], [], []⟩ : Rq).value.length xc207)], 25⟩, ⟨n168, [(.int .i64 ((k : Nat) : Int)), (.slice xa152 r.name.length xc156), (.slice xa153 r.key.length xc157), (.slice xa154 r.last.length xc158), (.slice xa155 r.value.length xc159)], 25⟩, ⟨n128, [(.int .i64 ((k : Nat) : Int)), (.slice xa112 r.name.length xc116), (.slice xa113 r.key.length xc117), (.slice xa114 r.last.length xc118), (.slice xa115 r.value.length xc119)], 25⟩, ⟨n102, [(.int .i64 kind), (.slice a0 n.length c0), (.slice a1 y.length c1), (.slice a2 l.length c2), (.slice a3 x.length c3)], 24⟩] [] := S220
 refine do_ rfl (.int .i64 4) (ex_assign _) ?_
 simp only [pS, pN, pA, pC, pZ]
 refine wl_nil (hK173 _ _ ?_)
 refine wp_seq_k (fun K221 hK221 => region_wl ?_)
 refine do_ rfl (.int .i64 0) (ex_move _) ?_
 simp only [pS, pN, pA, pC, pZ]
 refine do_ rfl (.bool true) (ex_eql (b := true) rfl rfl (by decide)) ?_
 simp only [pS, pN, pA, pC, pZ]
 refine do_ rfl (.bool true) (ex_move _) ?_
 simp only [pS, pN, pA, pC, pZ]
 refine do_ rfl (.int .i64 0) (ex_move _) ?_
 simp only [pS, pN, pA, pC, pZ]
 refine do_ rfl (.bool true) (ex_eql (b := true) rfl rfl (by decide)) ?_
 simp only [pS, pN, pA, pC, pZ]
 refine do_ rfl (.bool true) (ex_pick (b := true) rfl) ?_
 simp only [pS, pN, pA, pC, pZ]
 refine do_ rfl (.bool true) (ex_move _) ?_
 simp only [pS, pN, pA, pC, pZ]
 refine do_ rfl (.int .i64 4) (ex_move _) ?_
 simp only [pS, pN, pA, pC, pZ]
 refine do_ rfl (.bool true) (ex_eql (b := true) rfl rfl (by decide)) ?_
 simp only [pS, pN, pA, pC, pZ]
 refine do_ rfl (.bool true) (ex_pick (b := true) rfl) ?_
 simp only [pS, pN, pA, pC, pZ]
 refine do_ rfl (.bool true) (ex_move _) ?_
 simp only [pS, pN, pA, pC, pZ]
 refine do_ rfl (.pointer (some ⟨n168, 0, none⟩)) (ex_field (q := ⟨n168, 0, none⟩) rfl (fa_25_0 _ _)) ?_
 simp only [pS, pN, pA, pC, pZ]
 refine do_ rfl (.int .i64 ((k : Nat) : Int)) (ex_load rfl (load1 (nagg_3 _) (St.cell S220 (i := 1) rfl rfl))) ?_
 simp only [pS, pN, pA, pC, pZ]
 refine do_ rfl (.pointer (some ⟨n128, 0, none⟩)) (ex_field (q := ⟨n128, 0, none⟩) rfl (fa_25_0 _ _)) ?_
 simp only [pS, pN, pA, pC, pZ]
 refine do_ rfl (.int .i64 ((k : Nat) : Int)) (ex_load rfl (load1 (nagg_3 _) (St.cell S220 (i := 2) rfl rfl))) ?_
 simp only [pS, pN, pA, pC, pZ]
 refine do_ rfl (.bool true) (ex_eql (m := ((k : Nat) : Int)) (n := ((k : Nat) : Int)) (b := true) rfl rfl (beq_iff_eq.2 (by omega))) ?_
 simp only [pS, pN, pA, pC, pZ]
 refine do_ rfl (.bool true) (ex_pick (b := true) rfl) ?_
 simp only [pS, pN, pA, pC, pZ]
 refine do_ rfl (.bool true) (ex_move _) ?_
 simp only [pS, pN, pA, pC, pZ]
 refine do_ rfl (.pointer (some ⟨n168, 1, none⟩)) (ex_field (q := ⟨n168, 1, none⟩) rfl (fa_25_1 _ _)) ?_
 simp only [pS, pN, pA, pC, pZ]
 refine do_ rfl (.slice xa152 r.name.length xc156) (ex_load rfl (load1 (nagg_22 _) (St.cell S220 (i := 1) rfl rfl))) ?_
 simp only [pS, pN, pA, pC, pZ]
 refine do_ rfl (.pointer (some ⟨n128, 1, none⟩)) (ex_field (q := ⟨n128, 1, none⟩) rfl (fa_25_1 _ _)) ?_
 simp only [pS, pN, pA, pC, pZ]
 refine do_ rfl (.slice xa112 r.name.length xc116) (ex_load rfl (load1 (nagg_22 _) (St.cell S220 (i := 2) rfl rfl))) ?_
 simp only [pS, pN, pA, pC, pZ]
 refine stTells (v := (.bool true)) S220 rfl (ex_fn (vs := #[(.slice xa152 r.name.length xc156), (.slice xa112 r.name.length xc116)]) (map2 rfl rfl) rfl (ent_13 _ _)) (tells_bool (tells_same (same_spec _ _ _ _ r.name r.name (S220).sat (r160.mono (le188.trans le196)) (r120.mono (((le137.trans le148).trans le188).trans le196)))) (beq_iff_eq.2 (rfl))) (fun w222 S223 => ?_)
 simp only [pS, pN, pA, pC, pZ]
 refine do_ rfl (.bool true) (ex_pick (b := true) rfl) ?_
 simp only [pS, pN, pA, pC, pZ]
 refine do_ rfl (.bool true) (ex_move _) ?_
 simp only [pS, pN, pA, pC, pZ]
 refine do_ rfl (.pointer (some ⟨n168, 2, none⟩)) (ex_field (q := ⟨n168, 2, none⟩) rfl (fa_25_2 _ _)) ?_
 simp only [pS, pN, pA, pC, pZ]
 refine do_ rfl (.slice xa153 r.key.length xc157) (ex_load rfl (load1 (nagg_22 _) (St.cell S223 (i := 1) rfl rfl))) ?_
 simp only [pS, pN, pA, pC, pZ]
 refine do_ rfl (.pointer (some ⟨n128, 2, none⟩)) (ex_field (q := ⟨n128, 2, none⟩) rfl (fa_25_2 _ _)) ?_
 simp only [pS, pN, pA, pC, pZ]
 refine do_ rfl (.slice xa113 r.key.length xc117) (ex_load rfl (load1 (nagg_22 _) (St.cell S223 (i := 2) rfl rfl))) ?_
 simp only [pS, pN, pA, pC, pZ]
 refine stTells (v := (.bool true)) S223 rfl (ex_fn (vs := #[(.slice xa153 r.key.length xc157), (.slice xa113 r.key.length xc117)]) (map2 rfl rfl) rfl (ent_13 _ _)) (tells_bool (tells_same (same_spec _ _ _ _ r.key r.key (S223).sat (r161.mono (le188.trans le196)) (r121.mono (((le137.trans le148).trans le188).trans le196)))) (beq_iff_eq.2 (rfl))) (fun w224 S225 => ?_)
 simp only [pS, pN, pA, pC, pZ]
 refine do_ rfl (.bool true) (ex_pick (b := true) rfl) ?_
 simp only [pS, pN, pA, pC, pZ]
 refine do_ rfl (.bool true) (ex_move _) ?_
 simp only [pS, pN, pA, pC, pZ]
 refine do_ rfl (.pointer (some ⟨n168, 3, none⟩)) (ex_field (q := ⟨n168, 3, none⟩) rfl (fa_25_3 _ _)) ?_
 simp only [pS, pN, pA, pC, pZ]
 refine do_ rfl (.slice xa154 r.last.length xc158) (ex_load rfl (load1 (nagg_22 _) (St.cell S225 (i := 1) rfl rfl))) ?_
 simp only [pS, pN, pA, pC, pZ]
 refine do_ rfl (.pointer (some ⟨n128, 3, none⟩)) (ex_field (q := ⟨n128, 3, none⟩) rfl (fa_25_3 _ _)) ?_
 simp only [pS, pN, pA, pC, pZ]
 refine do_ rfl (.slice xa114 r.last.length xc118) (ex_load rfl (load1 (nagg_22 _) (St.cell S225 (i := 2) rfl rfl))) ?_
 simp only [pS, pN, pA, pC, pZ]
 refine stTells (v := (.bool true)) S225 rfl (ex_fn (vs := #[(.slice xa154 r.last.length xc158), (.slice xa114 r.last.length xc118)]) (map2 rfl rfl) rfl (ent_13 _ _)) (tells_bool (tells_same (same_spec _ _ _ _ r.last r.last (S225).sat (r162.mono (le188.trans le196)) (r122.mono (((le137.trans le148).trans le188).trans le196)))) (beq_iff_eq.2 (rfl))) (fun w226 S227 => ?_)
 simp only [pS, pN, pA, pC, pZ]
 refine do_ rfl (.bool true) (ex_pick (b := true) rfl) ?_
 simp only [pS, pN, pA, pC, pZ]
 refine do_ rfl (.bool true) (ex_move _) ?_
 simp only [pS, pN, pA, pC, pZ]
 refine do_ rfl (.pointer (some ⟨n168, 4, none⟩)) (ex_field (q := ⟨n168, 4, none⟩) rfl (fa_25_4 _ _)) ?_
 simp only [pS, pN, pA, pC, pZ]
 refine do_ rfl (.slice xa155 r.value.length xc159) (ex_load rfl (load1 (nagg_22 _) (St.cell S227 (i := 1) rfl rfl))) ?_
 simp only [pS, pN, pA, pC, pZ]
 refine do_ rfl (.pointer (some ⟨n128, 4, none⟩)) (ex_field (q := ⟨n128, 4, none⟩) rfl (fa_25_4 _ _)) ?_
 simp only [pS, pN, pA, pC, pZ]
 refine do_ rfl (.slice xa115 r.value.length xc119) (ex_load rfl (load1 (nagg_22 _) (St.cell S227 (i := 2) rfl rfl))) ?_
 simp only [pS, pN, pA, pC, pZ]
 refine stTells (v := (.bool true)) S227 rfl (ex_fn (vs := #[(.slice xa155 r.value.length xc159), (.slice xa115 r.value.length xc119)]) (map2 rfl rfl) rfl (ent_13 _ _)) (tells_bool (tells_same (same_spec _ _ _ _ r.value r.value (S227).sat (r163.mono (le188.trans le196)) (r123.mono (((le137.trans le148).trans le188).trans le196)))) (beq_iff_eq.2 (rfl))) (fun w228 S229 => ?_)
 simp only [pS, pN, pA, pC, pZ]
 refine do_ rfl (.bool true) (ex_pick (b := true) rfl) ?_
 simp only [pS, pN, pA, pC, pZ]
 refine do_ rfl (.bool true) (ex_assign _) ?_
 simp only [pS, pN, pA, pC, pZ]
 refine wl_nil (hK221 _ _ ?_)
 refine wp_ret ?_
 (try simp only [Exit.then, Exit.inBlock, ↓reduceIte, Nat.reduceEqDiff])
 refine bodyPost_ret (v := (.bool true)) ?_ rfl ?_
 ·exact res_t rfl rfl
 ·exact ⟨rfl, S229.gr.below⟩
end Go.Proofs.YticbfdhdipfjmaaDoor
