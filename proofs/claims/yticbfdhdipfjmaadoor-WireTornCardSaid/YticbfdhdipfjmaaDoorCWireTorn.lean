/- The walk of WireTorn -/
import Derived.Test.YticbfdhdipfjmaaDoorBW6
namespace Go.Proofs.YticbfdhdipfjmaaDoor
open Go.RowKit
set_option maxRecDepth 100000
set_option linter.unusedVariables false
set_option linter.unusedSimpArgs false
set_option maxHeartbeats 8000000 in
theorem wireTorn_walk (W : World) (kind : Int) (a b c d : Value) (n y l x : By) (x1 : Int) (hh : Has W) (ha : Bs (whole W) a n) (hb : Bs (whole W) b y) (hc : Bs (whole W) c l) (hd : Bs (whole W) d x)
    (k1 : -9223372036854775808 ≤ kind) (k2 : kind ≤ 9223372036854775807) (b1 : -9223372036854775808 ≤ x1) (b1' : x1 ≤ 9223372036854775807) :
    Calls Tryd.prog 5 #[.agg #[.int .i64 kind, a, b, c, d], .int .i64 x1] W (Tells W (.bool true)) := by
 obtain ⟨a0, c0, rfl, _⟩ := ha.shape
 obtain ⟨a1, c1, rfl, _⟩ := hb.shape
 obtain ⟨a2, c2, rfl, _⟩ := hc.shape
 obtain ⟨a3, c3, rfl, _⟩ := hd.shape
 obtain ⟨k, r, ok, hreq⟩ := request_all kind n y l x k1 k2
 have hkk := ok.kind
 have hql := encQ_len ok
 have S := St.start (Sat.whole W)
 go_enter Tryd.func5, Tryd.ntmps5
 refine wp_seq_k (fun K101 hK101 => region_wl ?_)
 refine stNew S (v := fun n => .pointer (some ⟨n, 0, none⟩)) rfl (ex_box (v := (.agg #[(.int .i64 kind), (.slice a0 n.length c0), (.slice a1 y.length c1), (.slice a2 l.length c2), (.slice a3 x.length c3)])) rfl) (fun n102 w103 S104 => ?_)
 simp only [pS, pN, pA, pC, pZ]
 have S104 : St W (whole W) w103 (whole W) [⟨n102, [(.int .i64 kind), (.slice a0 n.length c0), (.slice a1 y.length c1), (.slice a2 l.length c2), (.slice a3 x.length c3)], 24⟩] [] := S104
 refine do_ rfl (.bool false) (ex_assign _) ?_
 simp only [pS, pN, pA, pC, pZ]
 refine wl_nil (hK101 _ _ ?_)
 refine wp_seq_k (fun K105 hK105 => region_wl ?_)
 refine do_ rfl (.agg #[(.int .i64 kind), (.slice a0 n.length c0), (.slice a1 y.length c1), (.slice a2 l.length c2), (.slice a3 x.length c3)]) (ex_load rfl (loadN (cs := [(.int .i64 kind), (.slice a0 n.length c0), (.slice a1 y.length c1), (.slice a2 l.length c2), (.slice a3 x.length c3)]) Tryd.underlying24 rfl (size_24) (St.range S104 (i := 0) rfl 0 [(.int .i64 kind), (.slice a0 n.length c0), (.slice a1 y.length c1), (.slice a2 l.length c2), (.slice a3 x.length c3)] (sub_range 0 rfl)))) ?_
 simp only [pS, pN, pA, pC, pZ]
 refine stGives S104 rfl (ex_fn (vs := #[(.agg #[(.int .i64 kind), (.slice a0 n.length c0), (.slice a1 y.length c1), (.slice a2 l.length c2), (.slice a3 x.length c3)])]) (map1 rfl) rfl (ent_10 _ _)) (hreq _ _ _ _ _ _ (S104).sat ha hb hc hd) ?_
 intro v111 w106 F108 S107 le109 R110
 obtain ⟨_, _, _, _, rfl, r120, r121, r122, r123⟩ := R110
 obtain ⟨xa112, xc116, rfl, _⟩ := r120.shape
 obtain ⟨xa113, xc117, rfl, _⟩ := r121.shape
 obtain ⟨xa114, xc118, rfl, _⟩ := r122.shape
 obtain ⟨xa115, xc119, rfl, _⟩ := r123.shape
 simp only [pS, pN, pA, pC, pZ]
 refine stGives S107 rfl (ex_fn (vs := #[(.agg #[(.int .i64 ((k : Nat) : Int)), (.slice xa112 r.name.length xc116), (.slice xa113 r.key.length xc117), (.slice xa114 r.last.length xc118), (.slice xa115 r.value.length xc119)])]) (map1 rfl) rfl (ent_11 _ _)) (wireEncode_spec _ _ _ k r (S107).sat (hh.below S107.gr.below) ⟨_, _, _, _, rfl, r120, r121, r122, r123⟩ ok) ?_
 intro v133 w128 F130 S129 le131 R132
 obtain ⟨_, rfl, r136⟩ := R132
 obtain ⟨a134, c135, rfl, h137, _⟩ := r136.shape
 have h137 : (encQ k r).length ≤ c135 := h137
 have r136 : Bs _ (.slice a134 (encQ k r).length c135) (encQ k r) := r136
 simp only [pS, pN, pA, pC, pZ]
 refine do_ rfl (.tuple #[(.slice a134 (encQ k r).length c135), (.int .i64 0)]) (ex_move _) ?_
 simp only [pS, pN, pA, pC, pZ]
 refine do_ rfl (.slice a134 (encQ k r).length c135) (ex_extract rfl rfl) ?_
 simp only [pS, pN, pA, pC, pZ]
 refine do_ rfl (.int .i64 0) (ex_extract rfl rfl) ?_
 simp only [pS, pN, pA, pC, pZ]
 refine do_ rfl (.slice a134 (encQ k r).length c135) (ex_assign _) ?_
 simp only [pS, pN, pA, pC, pZ]
 refine do_ rfl (.int .i64 0) (ex_assign _) ?_
 simp only [pS, pN, pA, pC, pZ]
 refine wl_nil (hK105 _ _ ?_)
 refine wp_seq_k (fun K138 hK138 => ?_)
 have hql2 : 1 ≤ (encQ k r).length := by simp [encQ]
 obtain ⟨hp0, hp1⟩ := pick_bd x1 (((encQ k r).length : Nat) : Int) (by omega)
 obtain ⟨kn, hkn⟩ : ∃ kn : Nat, pick x1 (((encQ k r).length : Nat) : Int) = (kn : Int) := ⟨(pick x1 (((encQ k r).length : Nat) : Int)).toNat, (Int.toNat_of_nonneg hp0).symm⟩
 have hkb : kn < (encQ k r).length := by omega
 refine region_wl ?_
 refine do_ rfl (.slice a134 (encQ k r).length c135) (ex_move _) ?_
 simp only [pS, pN, pA, pC, pZ]
 refine do_ rfl (.int .i64 x1) (ex_move _) ?_
 simp only [pS, pN, pA, pC, pZ]
 refine do_ rfl (.slice a134 (encQ k r).length c135) (ex_move _) ?_
 simp only [pS, pN, pA, pC, pZ]
 refine do_ rfl (.int .i64 (((encQ k r).length : Nat) : Int)) (ex_len Tryd.underlying22 rfl) ?_
 simp only [pS, pN, pA, pC, pZ]
 refine do_ rfl (.int .i64 (((encQ k r).length : Nat) : Int)) (ex_max (m := (((encQ k r).length : Nat) : Int)) (n := (1 : Int)) (r := (((encQ k r).length : Nat) : Int)) rfl rfl (by split <;> omega)) ?_
 simp only [pS, pN, pA, pC, pZ]
 refine stTells (v := (.int .i64 ((kn : Nat) : Int))) S129 rfl (ex_fn (vs := #[(.int .i64 x1), (.int .i64 (((encQ k r).length : Nat) : Int))]) (map2 rfl rfl) rfl (ent_14 _ _)) (hkn ▸ tells_same (picked_spec x1 (((encQ k r).length : Nat) : Int) _ b1 b1' (by omega) (by omega))) (fun w139 S140 => ?_)
 simp only [pS, pN, pA, pC, pZ]
 have r141 : Bs _ (.slice a134 (encQ k r).length c135) (encQ k r) := r136
 have r141 := bs_of_sl (Sl.takeN (m := kn) r141.sl (by omega))
 refine do_ rfl (.slice a134 kn c135) (ex_slice (l := 0) (h := kn) (sz := 1) Tryd.underlying22 rfl (sizeof_5 _) (.inl ⟨rfl, rfl⟩) (.inr ⟨_, rfl, rfl⟩) (by omega) (by omega) (slice_zero)) ?_
 simp only [pS, pN, pA, pC, pZ]
 refine stGives S140 rfl (ex_fn (vs := #[(.slice a134 kn c135)]) (map1 rfl) rfl (ent_12 _ _)) (wireDecIs_spec _ _ _ ((encQ k r).take kn) (S140).sat (hh.below S140.gr.below) r141 (wd_torn ok hkb) (wd_no (wd_torn ok hkb) (by decide))) ?_
 intro v147 w142 F144 S143 le145 R146
 obtain ⟨_, rfl, r148⟩ := R146
 obtain ⟨_, _, _, _, rfl, r157, r158, r159, r160⟩ := r148
 obtain ⟨xa149, xc153, rfl, _⟩ := r157.shape
 obtain ⟨xa150, xc154, rfl, _⟩ := r158.shape
 obtain ⟨xa151, xc155, rfl, _⟩ := r159.shape
 obtain ⟨xa152, xc156, rfl, _⟩ := r160.shape
 simp only [pS, pN, pA, pC, pZ]
 refine do_ rfl (.tuple #[(.agg #[(.int .i64 0), (.slice xa149 (⟨[], [], [], []⟩ : Rq).name.length xc153), (.slice xa150 (⟨[], [], [], []⟩ : Rq).key.length xc154), (.slice xa151 (⟨[], [], [], []⟩ : Rq).last.length xc155), (.slice xa152 (⟨[], [], [], []⟩ : Rq).value.length xc156)]), (.int .i64 14)]) (ex_move _) ?_
 simp only [pS, pN, pA, pC, pZ]
 refine do_ rfl (.agg #[(.int .i64 0), (.slice xa149 (⟨[], [], [], []⟩ : Rq).name.length xc153), (.slice xa150 (⟨[], [], [], []⟩ : Rq).key.length xc154), (.slice xa151 (⟨[], [], [], []⟩ : Rq).last.length xc155), (.slice xa152 (⟨[], [], [], []⟩ : Rq).value.length xc156)]) (ex_extract rfl rfl) ?_
 simp only [pS, pN, pA, pC, pZ]
 refine do_ rfl (.int .i64 14) (ex_extract rfl rfl) ?_
 simp only [pS, pN, pA, pC, pZ]
 refine stNew S143 (v := fun n => .pointer (some ⟨n, 0, none⟩)) rfl (ex_alloc (zero_25 _)) (fun n165 w166 S167 => ?_)
 simp only [pS, pN, pA, pC, pZ]
 have S167 : St W (whole W) w166 F144 [⟨n165, [(.int .i64 0), (.slice none 0 0), (.slice none 0 0), (.slice none 0 0), (.slice none 0 0)], 25⟩, ⟨n102, [(.int .i64 kind), (.slice a0 n.length c0), (.slice a1 y.length c1), (.slice a2 l.length c2), (.slice a3 x.length c3)], 24⟩] [] := S167
 refine stStore (i := 0) (v := (.agg #[(.int .i64 0), (.slice xa149 (⟨[], [], [], []⟩ : Rq).name.length xc153), (.slice xa150 (⟨[], [], [], []⟩ : Rq).key.length xc154), (.slice xa151 (⟨[], [], [], []⟩ : Rq).last.length xc155), (.slice xa152 (⟨[], [], [], []⟩ : Rq).value.length xc156)])) S167 rfl rfl rfl rfl (size_25) (allc5 rfl rfl rfl rfl rfl) (Nat.le_of_ble_eq_true rfl) (fun w168 S169 => ?_)
 simp only [pS, pN, pA, pC, pZ]
 have S169 : St W (whole W) w168 F144 [⟨n165, [(.int .i64 0), (.slice xa149 (⟨[], [], [], []⟩ : Rq).name.length xc153), (.slice xa150 (⟨[], [], [], []⟩ : Rq).key.length xc154), (.slice xa151 (⟨[], [], [], []⟩ : Rq).last.length xc155), (.slice xa152 (⟨[], [], [], []⟩ : Rq).value.length xc156)], 25⟩, ⟨n102, [(.int .i64 kind), (.slice a0 n.length c0), (.slice a1 y.length c1), (.slice a2 l.length c2), (.slice a3 x.length c3)], 24⟩] [] := S169
 refine do_ rfl (.int .i64 14) (ex_assign _) ?_
 simp only [pS, pN, pA, pC, pZ]
 refine wl_nil (hK138 _ _ ?_)
 refine wp_seq_k (fun K170 hK170 => region_wl ?_)
 refine do_ rfl (.int .i64 0) (ex_move _) ?_
 simp only [pS, pN, pA, pC, pZ]
 refine do_ rfl (.bool true) (ex_eql (b := true) rfl rfl (by decide)) ?_
 simp only [pS, pN, pA, pC, pZ]
 refine do_ rfl (.bool true) (ex_move _) ?_
 simp only [pS, pN, pA, pC, pZ]
 refine do_ rfl (.int .i64 14) (ex_move _) ?_
 simp only [pS, pN, pA, pC, pZ]
 refine do_ rfl (.bool true) (ex_eql (b := true) rfl rfl (by decide)) ?_
 simp only [pS, pN, pA, pC, pZ]
 refine do_ rfl (.bool true) (ex_pick (b := true) rfl) ?_
 simp only [pS, pN, pA, pC, pZ]
 refine do_ rfl (.bool true) (ex_assign _) ?_
 simp only [pS, pN, pA, pC, pZ]
 refine wl_nil (hK170 _ _ ?_)
 refine wp_ret ?_
 (try simp only [Exit.then, Exit.inBlock, ↓reduceIte, Nat.reduceEqDiff])
 refine bodyPost_ret (v := (.bool true)) ?_ rfl ?_
 ·exact res_t rfl rfl
 ·exact ⟨rfl, S169.gr.below⟩
end Go.Proofs.YticbfdhdipfjmaaDoor
