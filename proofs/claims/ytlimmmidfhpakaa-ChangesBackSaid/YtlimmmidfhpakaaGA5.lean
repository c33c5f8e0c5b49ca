/- Rules, plain laws and walks: F2 F3 -/
import Derived.Test.YtlimmmidfhpakaaGA4
namespace Go.Proofs.Ytlimmmidfhpakaa
open Go.RowKit
set_option maxRecDepth 100000
set_option linter.unusedVariables false
set_option linter.unusedSimpArgs false
theorem TnC.one (F : Fz) (cs : List Value) (p : By × List Pr) (h : TnC F cs p) : ∀ u ∈ cs, u.oneCell' = true := h.oneCell
theorem ForestOk.small {f : Forest} (h : ForestOk 60 f) {t : By × List Pr} (ht : t ∈ f) : t.1.length ≤ 100000 ∧ t.2.length ≤ 60 ∧ ∀ p ∈ t.2, p.1.length ≤ 100000 ∧ p.2.length ≤ 100000 := by
  have h1 := h.name t ht
  have h2 := h.tree t ht
  exact ⟨by have := h1.2; omega, h2.len, fun p hp => h2.small hp⟩
set_option maxHeartbeats 8000000 in
theorem ownT_spec (F : Fz) (w : World) (v : Value) (l : Forest) (hs : Sat w F) (hv : Tns F v l) (hl : l.length ≤ 100000) (hL : ∀ t ∈ l, t.1.length ≤ 100000 ∧ t.2.length ≤ 60 ∧ ∀ p ∈ t.2, p.1.length ≤ 100000 ∧ p.2.length ≤ 100000) :
    Calls Try.prog 39 #[v] w (GivesO w F 2 TnC 80 l) := by
 obtain ⟨a, c, rfl, hc1, hc2⟩ := Sl.shape hv
 unfold maxLen at hc2
 obtain ⟨i36, hi36, hz36, hs36, hb36⟩ := info_parts info_36
 obtain ⟨i80, hi80, hz80, hs80, hb80⟩ := info_parts info_80
 have S := St.start hs
 go_enter Try.func39, Try.ntmps39
 refine wp_seq_k (fun K1 hK1 => region_wl ?_)
 refine do_ rfl (.slice none 0 0) (ex_assign _) ?_
 simp only [pS, pN, pA, pC, pZ]
 refine wl_nil (hK1 _ _ ?_)
 refine wp_seq_k (fun K2 hK2 => region_wl ?_)
 refine do_ rfl (.slice none 0 0) (ex_assign _) ?_
 simp only [pS, pN, pA, pC, pZ]
 refine wl_nil (hK2 _ _ ?_)
 refine wp_seq_k (fun K3 hK3 => ?_)
 refine wp_seq_k (fun K4 hK4 => region_wl ?_)
 refine do_ rfl (.slice a l.length c) (ex_move _) ?_
 simp only [pS, pN, pA, pC, pZ]
 refine do_ rfl (.int .i64 ((l.length : Nat) : Int)) (ex_len Try.underlying52 rfl) ?_
 simp only [pS, pN, pA, pC, pZ]
 refine do_ rfl (.int .i64 0) (ex_move _) ?_
 simp only [pS, pN, pA, pC, pZ]
 refine wl_nil (hK4 _ _ ?_)
 refine wp_block ?_
 have S5 := St.addNil S 2 TnC TnC.mono 80 w.heap.size
 refine wp_loop_g (fun mm aa w8 => ∃ (k : Nat) (v : Value) (F6 : Fz) (u7 : Nat → Value), mm = l.length - k ∧ u7 = slots aa ∧ aa = ⟨#[(.slice a l.length c), undef, (.slice none 0 0), v, undef, (u7 5), (u7 6), undef, (u7 8), (.slice a l.length c), (.int .i64 ((l.length : Nat) : Int)), (.int .i64 ((k : Nat) : Int)), (u7 12), (u7 13), (u7 14), (u7 15), (u7 16), (u7 17), (u7 18), (u7 19), (u7 20), (u7 21), (u7 22), (u7 23), (u7 24), (u7 25), (u7 26), (u7 27), (u7 28), (u7 29), (u7 30), (u7 31), (u7 32), (u7 33), (u7 34), (u7 35), (u7 36), (u7 37), (u7 38), (u7 39), (u7 40), (u7 41), (u7 42), (u7 43), undef], []⟩ ∧ St w F w8 F6 [] [ownP 2 TnC TnC.mono 80 w.heap.size v (l.take k)] ∧ Le F F6 ∧ (k ≤ l.length)) _ ⟨0, (.slice none 0 0), F, _, rfl, rfl, rfl, S5, Le.refl _, (by omega)⟩ ?_
 rintro m9 a10 w11 ⟨k, v, F6, u7, rfl, -, rfl, S12, le13, hk⟩ K14 hK14
 refine wp_seq_k (fun K15 hK15 => region_wl ?_)
 by_cases hc12 : k < l.length
 ·refine do_ rfl (.bool true) (ex_lss (m := ((k : Nat) : Int)) (n := ((l.length : Nat) : Int)) (b := true) rfl rfl (decide_eq_true (by omega))) ?_
  simp only [pS, pN, pA, pC, pZ]
  refine wl_nil (hK15 _ _ ?_)
  refine wp_seq_k (fun K16 hK16 => ?_)
  refine wp_cond_true rfl ?_
  refine wp_skip ?_
  refine hK16 _ _ ?_
  refine wp_seq_k (fun K17 hK17 => ?_)
  refine wp_block ?_
  refine wp_seq_k (fun K18 hK18 => ?_)
  obtain ⟨t, ht⟩ : ∃ t, l[k]? = some t := ⟨l[k], List.getElem?_eq_getElem hc12⟩
  obtain ⟨hs1, hs2, hs3⟩ := hL t (List.mem_of_getElem? ht)
  have htk : (l.take k).length = k := by rw [List.length_take]; omega
  obtain ⟨b19, o20, ha21, xa23, xc24, xa27, xc28, c22, c26, r25, r29⟩ := Tns.get (hv.mono le13) ht
  refine region_wl ?_
  refine do_ rfl (.pointer (some ⟨b19, o20 + k * 2, none⟩)) (ex_at (i := k) (sz := 2) Try.underlying52 (sizeof_80 _) rfl ha21 rfl (by omega) rfl) ?_
  simp only [pS, pN, pA, pC, pZ]
  refine do_ rfl (.agg #[(.slice xa23 t.1.length xc24), (.slice xa27 t.2.length xc28)]) (ex_load rfl (loadN (cs := [(.slice xa23 t.1.length xc24), (.slice xa27 t.2.length xc28)]) Try.underlying80 rfl (size_80) (range2 (St.fz S12 c22) (St.fz S12 c26)))) ?_
  simp only [pS, pN, pA, pC, pZ]
  refine stNew S12 (v := fun n => .pointer (some ⟨n, 0, none⟩)) rfl (ex_alloc (zero_80 _)) (fun n30 w31 S32 => ?_)
  simp only [pS, pN, pA, pC, pZ]
  have S32 : St w F w31 F6 [⟨n30, [(.slice none 0 0), (.slice none 0 0)], 80⟩] [ownP 2 TnC TnC.mono 80 w.heap.size v (l.take k)] := S32
  refine stStore (i := 0) (v := (.agg #[(.slice xa23 t.1.length xc24), (.slice xa27 t.2.length xc28)])) S32 rfl rfl rfl rfl (size_80) (allc2 rfl rfl) (Nat.le_of_ble_eq_true rfl) (fun w33 S34 => ?_)
  simp only [pS, pN, pA, pC, pZ]
  have S34 : St w F w33 F6 [⟨n30, [(.slice xa23 t.1.length xc24), (.slice xa27 t.2.length xc28)], 80⟩] [ownP 2 TnC TnC.mono 80 w.heap.size v (l.take k)] := S34
  refine wl_nil (hK18 _ _ ?_)
  refine wp_seq_k (fun K35 hK35 => region_wl ?_)
  refine do_ rfl (.pointer (some ⟨n30, 0, none⟩)) (ex_field (q := ⟨n30, 0, none⟩) rfl (fa_80_0 _ _)) ?_
  simp only [pS, pN, pA, pC, pZ]
  refine do_ rfl (.slice xa23 t.1.length xc24) (ex_load rfl (load1 (nagg_25 _) (St.cell S34 (i := 0) rfl rfl))) ?_
  simp only [pS, pN, pA, pC, pZ]
  refine stGives S34 rfl (ex_fn (vs := #[(.slice xa23 t.1.length xc24)]) (map1 rfl) rfl (ent_30 _ _)) (clone_spec _ _ _ t.1 (S34).sat r25 (by omega)) ?_
  intro v41 w36 F38 S37 le39 R40
  obtain ⟨xa42, xc43, rfl, _⟩ := R40.shape
  simp only [pS, pN, pA, pC, pZ]
  refine do_ rfl (.agg #[(.slice xa42 t.1.length xc43), (.slice none 0 0)]) (ex_build (ps := #[(0, (.slice xa42 t.1.length xc43))]) (bmap1 rfl) (by kernel_rfl)) ?_
  simp only [pS, pN, pA, pC, pZ]
  refine stNew S37 (v := fun n => .pointer (some ⟨n, 0, none⟩)) rfl (ex_alloc (zero_80 _)) (fun n44 w45 S46 => ?_)
  simp only [pS, pN, pA, pC, pZ]
  have S46 : St w F w45 F38 [⟨n44, [(.slice none 0 0), (.slice none 0 0)], 80⟩, ⟨n30, [(.slice xa23 t.1.length xc24), (.slice xa27 t.2.length xc28)], 80⟩] [ownP 2 TnC TnC.mono 80 w.heap.size v (l.take k)] := S46
  refine stStore (i := 0) (v := (.agg #[(.slice xa42 t.1.length xc43), (.slice none 0 0)])) S46 rfl rfl rfl rfl (size_80) (allc2 rfl rfl) (Nat.le_of_ble_eq_true rfl) (fun w47 S48 => ?_)
  simp only [pS, pN, pA, pC, pZ]
  have S48 : St w F w47 F38 [⟨n44, [(.slice xa42 t.1.length xc43), (.slice none 0 0)], 80⟩, ⟨n30, [(.slice xa23 t.1.length xc24), (.slice xa27 t.2.length xc28)], 80⟩] [ownP 2 TnC TnC.mono 80 w.heap.size v (l.take k)] := S48
  refine wl_nil (hK35 _ _ ?_)
  refine wp_seq_k (fun K49 hK49 => ?_)
  refine wp_seq_k (fun K50 hK50 => region_wl ?_)
  refine do_ rfl (.pointer (some ⟨n30, 1, none⟩)) (ex_field (q := ⟨n30, 1, none⟩) rfl (fa_80_1 _ _)) ?_
  simp only [pS, pN, pA, pC, pZ]
  refine do_ rfl (.slice xa27 t.2.length xc28) (ex_load rfl (load1 (nagg_23 _) (St.cell S48 (i := 1) rfl rfl))) ?_
  simp only [pS, pN, pA, pC, pZ]
  refine do_ rfl (.int .i64 ((t.2.length : Nat) : Int)) (ex_len Try.underlying23 rfl) ?_
  simp only [pS, pN, pA, pC, pZ]
  refine do_ rfl (.int .i64 0) (ex_move _) ?_
  simp only [pS, pN, pA, pC, pZ]
  refine wl_nil (hK50 _ _ ?_)
  refine wp_block ?_
  have S51 := St.addNil S48 2 PrC PrC.mono 36 w.heap.size
  refine wp_loop_g (fun mm aa w54 => ∃ (j : Nat) (v2 : Value) (F52 : Fz) (u53 : Nat → Value), mm = t.2.length - j ∧ u53 = slots aa ∧ aa = ⟨#[(.slice a l.length c), undef, (.slice none 0 0), v, undef, (.pointer (some ⟨n30, 0, none⟩)), (.pointer (some ⟨n44, 0, none⟩)), undef, (u53 8), (.slice a l.length c), (.int .i64 ((l.length : Nat) : Int)), (.int .i64 ((k : Nat) : Int)), (.bool true), (.pointer (some ⟨b19, o20 + k * 2, none⟩)), (.agg #[(.slice xa23 t.1.length xc24), (.slice xa27 t.2.length xc28)]), (.pointer (some ⟨n30, 0, none⟩)), (.slice xa23 t.1.length xc24), (.slice xa42 t.1.length xc43), (.agg #[(.slice xa42 t.1.length xc43), (.slice none 0 0)]), (.pointer (some ⟨n30, 1, none⟩)), (.slice xa27 t.2.length xc28), (.int .i64 ((t.2.length : Nat) : Int)), (.int .i64 ((j : Nat) : Int)), (u53 23), (u53 24), (u53 25), (u53 26), (u53 27), (u53 28), (u53 29), (u53 30), (u53 31), (u53 32), (u53 33), (u53 34), (u53 35), (u53 36), (u53 37), (u53 38), (u7 39), (u7 40), (u7 41), (u7 42), (u7 43), undef], []⟩ ∧ St w F w54 F52 [⟨n44, [(.slice xa42 t.1.length xc43), v2], 80⟩, ⟨n30, [(.slice xa23 t.1.length xc24), (.slice xa27 t.2.length xc28)], 80⟩] [ownP 2 PrC PrC.mono 36 w.heap.size v2 (t.2.take j), ownP 2 TnC TnC.mono 80 w.heap.size v (l.take k)] ∧ Le F38 F52 ∧ (j ≤ t.2.length)) _ ⟨0, (.slice none 0 0), F38, _, rfl, rfl, rfl, S51, Le.refl _, (by omega)⟩ ?_
  rintro m55 a56 w57 ⟨j, v2, F52, u53, rfl, -, rfl, S58, le59, hj⟩ K60 hK60
  refine wp_seq_k (fun K61 hK61 => region_wl ?_)
  by_cases hc23 : j < t.2.length
  ·refine do_ rfl (.bool true) (ex_lss (m := ((j : Nat) : Int)) (n := ((t.2.length : Nat) : Int)) (b := true) rfl rfl (decide_eq_true (by omega))) ?_
   simp only [pS, pN, pA, pC, pZ]
   refine wl_nil (hK61 _ _ ?_)
   refine wp_seq_k (fun K62 hK62 => ?_)
   refine wp_cond_true rfl ?_
   refine wp_skip ?_
   refine hK62 _ _ ?_
   refine wp_seq_k (fun K63 hK63 => ?_)
   refine wp_block ?_
   refine wp_seq_k (fun K64 hK64 => ?_)
   obtain ⟨p, hp⟩ : ∃ p, t.2[j]? = some p := ⟨t.2[j], List.getElem?_eq_getElem hc23⟩
   obtain ⟨hp1, hp2⟩ := hs3 p (List.mem_of_getElem? hp)
   have hpk : (t.2.take j).length = j := by rw [List.length_take]; omega
   obtain ⟨b65, o66, ha67, xa69, xc70, xa73, xc74, c68, c72, r71, r75⟩ := Prs.get (r29.mono (le39.trans le59)) hp
   refine region_wl ?_
   refine do_ rfl (.pointer (some ⟨b65, o66 + j * 2, none⟩)) (ex_at (i := j) (sz := 2) Try.underlying23 (sizeof_36 _) rfl ha67 rfl (by omega) rfl) ?_
   simp only [pS, pN, pA, pC, pZ]
   refine do_ rfl (.agg #[(.slice xa69 p.1.length xc70), (.slice xa73 p.2.length xc74)]) (ex_load rfl (loadN (cs := [(.slice xa69 p.1.length xc70), (.slice xa73 p.2.length xc74)]) Try.underlying36 rfl (size_36) (range2 (St.fz S58 c68) (St.fz S58 c72)))) ?_
   simp only [pS, pN, pA, pC, pZ]
   refine stNew S58 (v := fun n => .pointer (some ⟨n, 0, none⟩)) rfl (ex_alloc (zero_36 _)) (fun n76 w77 S78 => ?_)
   simp only [pS, pN, pA, pC, pZ]
   have S78 : St w F w77 F52 [⟨n76, [(.slice none 0 0), (.slice none 0 0)], 36⟩, ⟨n44, [(.slice xa42 t.1.length xc43), v2], 80⟩, ⟨n30, [(.slice xa23 t.1.length xc24), (.slice xa27 t.2.length xc28)], 80⟩] [ownP 2 PrC PrC.mono 36 w.heap.size v2 (t.2.take j), ownP 2 TnC TnC.mono 80 w.heap.size v (l.take k)] := S78
   refine stStore (i := 0) (v := (.agg #[(.slice xa69 p.1.length xc70), (.slice xa73 p.2.length xc74)])) S78 rfl rfl rfl rfl (size_36) (allc2 rfl rfl) (Nat.le_of_ble_eq_true rfl) (fun w79 S80 => ?_)
   simp only [pS, pN, pA, pC, pZ]
   have S80 : St w F w79 F52 [⟨n76, [(.slice xa69 p.1.length xc70), (.slice xa73 p.2.length xc74)], 36⟩, ⟨n44, [(.slice xa42 t.1.length xc43), v2], 80⟩, ⟨n30, [(.slice xa23 t.1.length xc24), (.slice xa27 t.2.length xc28)], 80⟩] [ownP 2 PrC PrC.mono 36 w.heap.size v2 (t.2.take j), ownP 2 TnC TnC.mono 80 w.heap.size v (l.take k)] := S80
   refine wl_nil (hK64 _ _ ?_)
   refine region_gw F52 10 [(4, .made (fun F' u => Bs F' u p.1)), (7, .made (fun F' u => Bs F' u p.2)), (8, .made (fun F' u => Pr2V F' u (p.1, p.2))), (9, .made (fun F' u => Prs F' u [(p.1, p.2)]))] (by kernel_rfl) (by kernel_rfl) ?_
   simp only [List.take_succ_cons, List.take_zero]
   refine gw_pure rfl rfl (.pointer (some ⟨n44, 1, none⟩)) (fun w81 hCw81 => pureAt_of (ex_field (q := ⟨n44, 1, none⟩) rfl (fa_80_1 _ _))) ?_
   simp only [pS, pN, pA, pC, pZ]
   refine gw_pure rfl rfl v2 (fun w81 hCw81 => pureAt_of (ex_load rfl (load1 (nagg_23 _) (St.cell (St.tells S80 hCw81) (i := 1) rfl rfl)))) ?_
   simp only [pS, pN, pA, pC, pZ]
   refine gw_pure rfl rfl (.pointer (some ⟨n76, 0, none⟩)) (fun w81 hCw81 => pureAt_of (ex_field (q := ⟨n76, 0, none⟩) rfl (fa_36_0 _ _))) ?_
   simp only [pS, pN, pA, pC, pZ]
   refine gw_pure rfl rfl (.slice xa69 p.1.length xc70) (fun w81 hCw81 => pureAt_of (ex_load rfl (load1 (nagg_25 _) (St.cell (St.tells S80 hCw81) (i := 0) rfl rfl)))) ?_
   simp only [pS, pN, pA, pC, pZ]
   refine gw_rel rfl rfl (fun w81 hCw81 hF => does_call (ex_fn (vs := #[(.slice xa69 p.1.length xc70)]) (map1 rfl) rfl (ent_30 _ _)) (call_made S80.sat hCw81 (clone_spec _ _ _ p.1 ((St.tells S80 hCw81)).sat r71 (by omega)))) (fun v82 => ?_)
   simp only [pS, pN, pA, pC, pZ]
   refine gw_pure rfl rfl (.pointer (some ⟨n76, 1, none⟩)) (fun w81 hCw81 => pureAt_of (ex_field (q := ⟨n76, 1, none⟩) rfl (fa_36_1 _ _))) ?_
   simp only [pS, pN, pA, pC, pZ]
   refine gw_pure rfl rfl (.slice xa73 p.2.length xc74) (fun w81 hCw81 => pureAt_of (ex_load rfl (load1 (nagg_25 _) (St.cell (St.tells S80 hCw81) (i := 0) rfl rfl)))) ?_
   simp only [pS, pN, pA, pC, pZ]
   refine gw_rel rfl rfl (fun w81 hCw81 hF => does_call (ex_fn (vs := #[(.slice xa73 p.2.length xc74)]) (map1 rfl) rfl (ent_30 _ _)) (call_made S80.sat hCw81 (clone_spec _ _ _ p.2 ((St.tells S80 hCw81)).sat r75 (by omega)))) (fun v83 => ?_)
   simp only [pS, pN, pA, pC, pZ]
   refine gw_rel rfl rfl (fun w81 hCw81 hF_ => ?_) (fun v84 => ?_)
   ·obtain ⟨F85, g86, R87⟩ := hF_.get 4 (by kernel_rfl) rfl rfl
    obtain ⟨F90, g91, R92⟩ := hF_.get 7 (by kernel_rfl) rfl rfl
    have hR0 := (R87.mono (both_left F85 F90))
    obtain ⟨xa95, xc96, rfl, _⟩ := hR0.shape
    have hR1 := (R92.mono (both_right g86.sat g91.sat))
    obtain ⟨xa97, xc98, rfl, _⟩ := hR1.shape
    exact does_val (ex_build (bmap2 rfl rfl) (by kernel_rfl)) ⟨(both F85 F90), (g86.both g91), ⟨_, _, _, _, rfl, hR0, hR1⟩⟩ (Below.refl _ _)
   simp only [pS, pN, pA, pC, pZ]
   refine gw_rel rfl rfl (fun w81 hCw81 hF_ => ?_) (fun v108 => ?_)
   ·obtain ⟨F105, g106, R107⟩ := hF_.get 8 (by kernel_rfl) rfl rfl
    obtain ⟨xa99, xc100, xa102, xc103, rfl, r101, r104⟩ := R107
    exact does_lit (k := 2) (R := PrC) (hR := PrC.mono) (p := (p.1, p.2)) (cs := [.slice xa99 _ xc100, .slice xa102 _ xc103]) (E := 36) g106 ⟨_, _, rfl, r101, r104⟩ rfl (ex_lit (E := 36) (cells := #[.slice xa99 _ xc100, .slice xa102 _ xc103]) (bmap1 rfl) (fun w => by kernel_rfl))
   simp only [pS, pN, pA, pC, pZ]
   refine gw_nil ?_
   intro w109 hC111 hF112
   obtain ⟨F113, g114, R115⟩ := hF112.get 9 rfl rfl
   have S110 := St.gives S80 g114
   have le117 : Le _ _ := g114.le S80.sat
   have R118 := R115
   generalize F113 = F116 at *
   obtain ⟨xa119, xc120, rfl, _⟩ := Sl.shape R118
   clear hF112
   simp only [List.drop_succ_cons, List.drop_zero]
   refine stAppendS (r := 0) (u := (.slice xa119 [(p.1, p.2)].length xc120)) S110 rfl i36 (.agg #[(.slice none 0 0), (.slice none 0 0)]) 48 Try.underlying23 hi36 hz36 hs36 hb36 rfl (by decide) rfl rfl rfl (Sl.toW R118 (S110).sat) (fun F cs p h => PrC.one F cs p h) (Nat.le_refl _) S110.gr.below.size (by unfold maxLen; simp only [List.length_take, List.length_cons, List.length_nil]; omega) (by simp only [List.length_take, List.length_cons, List.length_nil]; omega) ?_
   intro v121 w122 S123 hn124
   simp only [pS, pN, pA, pC, pZ]
   have S123 : St w F w122 F116 [⟨n76, [(.slice xa69 p.1.length xc70), (.slice xa73 p.2.length xc74)], 36⟩, ⟨n44, [(.slice xa42 t.1.length xc43), v2], 80⟩, ⟨n30, [(.slice xa23 t.1.length xc24), (.slice xa27 t.2.length xc28)], 80⟩] [ownP 2 PrC PrC.mono 36 w.heap.size v121 ((t.2.take j) ++ [(p.1, p.2)]), ownP 2 TnC TnC.mono 80 w.heap.size v (l.take k)] := S123
   obtain ⟨a125, cap126, rfl, h127, h128⟩ := (S123.own (i := 0) rfl).shape
   unfold maxLen at h128
   refine do_ rfl (.pointer (some ⟨n44, 1, none⟩)) (ex_field (q := ⟨n44, 1, none⟩) rfl (fa_80_1 _ _)) ?_
   simp only [pS, pN, pA, pC, pZ]
   refine stStore (i := 1) (v := (.slice a125 ((t.2.take j) ++ [(p.1, p.2)]).length cap126)) S123 rfl rfl rfl rfl (size_23) (allc1 rfl) (Nat.le_of_ble_eq_true rfl) (fun w129 S130 => ?_)
   simp only [pS, pN, pA, pC, pZ]
   have S130 : St w F w129 F116 [⟨n76, [(.slice xa69 p.1.length xc70), (.slice xa73 p.2.length xc74)], 36⟩, ⟨n44, [(.slice xa42 t.1.length xc43), (.slice a125 ((t.2.take j) ++ [(p.1, p.2)]).length cap126)], 80⟩, ⟨n30, [(.slice xa23 t.1.length xc24), (.slice xa27 t.2.length xc28)], 80⟩] [ownP 2 PrC PrC.mono 36 w.heap.size (.slice a125 ((t.2.take j) ++ [(p.1, p.2)]).length cap126) ((t.2.take j) ++ [(p.1, p.2)]), ownP 2 TnC TnC.mono 80 w.heap.size v (l.take k)] := S130
   refine wl_nil (hK63 _ _ ?_)
   refine region_wl ?_
   refine do_ rfl (.int .i64 (((j + 1) : Nat) : Int)) (ex_add (m := ((j : Nat) : Int)) (n := (1 : Int)) (r := (((j + 1) : Nat) : Int)) rfl rfl (by omega) (by omega) (by omega)) ?_
   simp only [pS, pN, pA, pC, pZ]
   refine do_ rfl (.int .i64 (((j + 1) : Nat) : Int)) (ex_move _) ?_
   simp only [pS, pN, pA, pC, pZ]
   refine wl_nil ?_
   have S130 := St.drop S130 (L' := [⟨n44, [(.slice xa42 t.1.length xc43), (.slice a125 ((t.2.take j) ++ [(p.1, p.2)]).length cap126)], 80⟩, ⟨n30, [(.slice xa23 t.1.length xc24), (.slice xa27 t.2.length xc28)], 80⟩]) (.cons _ (List.Sublist.refl _))
   rw [← take_snoc hp] at S130
   exact hK60 _ _ _ (by omega) ⟨(j + 1), (.slice a125 (t.2.take (j + 1)).length cap126), F116, _, rfl, rfl, rfl, S130, (le59.trans le117), (by omega)⟩
  ·refine do_ rfl (.bool false) (ex_lss (m := ((j : Nat) : Int)) (n := ((t.2.length : Nat) : Int)) (b := false) rfl rfl (decide_eq_false (by omega))) ?_
   simp only [pS, pN, pA, pC, pZ]
   refine wl_nil (hK61 _ _ ?_)
   refine wp_seq_k (fun K131 hK131 => ?_)
   refine wp_cond_false rfl ?_
   refine wp_exit ?_
   refine hK49 _ _ ?_
   have hj2 : t.2.take j = t.2 := List.take_of_length_le (by omega)
   rw [hj2] at S58
   obtain ⟨F132, S133, le134, hv135⟩ := St.freeze S58 (i := 0) rfl (Nat.le_refl _)
   have S133 : St w F w57 F132 [⟨n44, [(.slice xa42 t.1.length xc43), v2], 80⟩, ⟨n30, [(.slice xa23 t.1.length xc24), (.slice xa27 t.2.length xc28)], 80⟩] [ownP 2 TnC TnC.mono 80 w.heap.size v (l.take k)] := S133
   have hv135 : Prs _ v2 t.2 := hv135
   obtain ⟨a136, c137, rfl, h138, h139⟩ := Sl.shape hv135
   unfold maxLen at h139
   refine region_wl ?_
   refine do_ rfl v (ex_move _) ?_
   simp only [pS, pN, pA, pC, pZ]
   refine do_ rfl (.agg #[(.slice xa42 t.1.length xc43), (.slice a136 t.2.length c137)]) (ex_load rfl (loadN (cs := [(.slice xa42 t.1.length xc43), (.slice a136 t.2.length c137)]) Try.underlying80 rfl (size_80) (St.range S133 (i := 0) rfl 0 [(.slice xa42 t.1.length xc43), (.slice a136 t.2.length c137)] (sub_range 0 rfl)))) ?_
   simp only [pS, pN, pA, pC, pZ]
   refine stNew S133 (v := fun n => .slice (some ⟨n, 0, none⟩) 1 1) rfl (ex_lit (ps := #[(0, (.agg #[(.slice xa42 t.1.length xc43), (.slice a136 t.2.length c137)]))]) (cells := #[(.slice xa42 t.1.length xc43), (.slice a136 t.2.length c137)]) (E := 80) (bmap1 rfl) (fun w => by kernel_rfl)) (fun n140 w141 S142 => ?_)
   simp only [pS, pN, pA, pC, pZ]
   have S142 : St w F w141 F132 [⟨n140, [(.slice xa42 t.1.length xc43), (.slice a136 t.2.length c137)], 80⟩, ⟨n44, [(.slice xa42 t.1.length xc43), (.slice a136 t.2.length c137)], 80⟩, ⟨n30, [(.slice xa23 t.1.length xc24), (.slice xa27 t.2.length xc28)], 80⟩] [ownP 2 TnC TnC.mono 80 w.heap.size v (l.take k)] := S142
   refine stPush (i := 0) (r := 0) (p := t) (cs := [(.slice xa42 t.1.length xc43), (.slice a136 t.2.length c137)]) S142 rfl i80 (.agg #[(.slice none 0 0), (.slice none 0 0)]) 48 Try.underlying52 hi80 hz80 hs80 hb80 rfl (by decide) rfl rfl rfl rfl rfl (TnC.oneCell (p := t) ⟨_, _, rfl, (R40.mono (le59.trans le134)), hv135⟩) (⟨_, _, rfl, (R40.mono (le59.trans le134)), hv135⟩) (Nat.le_refl _) S142.gr.below.size (by unfold maxLen; omega) (by omega) ?_
   intro v143 w144 S145 hn146
   simp only [pS, pN, pA, pC, pZ]
   have S145 := St.drop S145 (L' := [⟨n44, [(.slice xa42 t.1.length xc43), (.slice a136 t.2.length c137)], 80⟩, ⟨n30, [(.slice xa23 t.1.length xc24), (.slice xa27 t.2.length xc28)], 80⟩]) (.cons _ (List.Sublist.refl _))
   have S145 : St w F w144 F132 [⟨n44, [(.slice xa42 t.1.length xc43), (.slice a136 t.2.length c137)], 80⟩, ⟨n30, [(.slice xa23 t.1.length xc24), (.slice xa27 t.2.length xc28)], 80⟩] [ownP 2 TnC TnC.mono 80 w.heap.size v143 ((l.take k) ++ [t])] := S145
   refine do_ rfl v143 (ex_assign _) ?_
   simp only [pS, pN, pA, pC, pZ]
   refine wl_nil (hK17 _ _ ?_)
   refine region_wl ?_
   refine do_ rfl (.int .i64 (((k + 1) : Nat) : Int)) (ex_add (m := ((k : Nat) : Int)) (n := (1 : Int)) (r := (((k + 1) : Nat) : Int)) rfl rfl (by omega) (by omega) (by omega)) ?_
   simp only [pS, pN, pA, pC, pZ]
   refine do_ rfl (.int .i64 (((k + 1) : Nat) : Int)) (ex_move _) ?_
   simp only [pS, pN, pA, pC, pZ]
   refine wl_nil ?_
   have S145 := St.drop S145 (L' := []) (.cons _ (.cons _ (List.Sublist.refl _)))
   rw [← take_snoc ht] at S145
   exact hK14 _ _ _ (by omega) ⟨(k + 1), v143, F132, _, rfl, rfl, rfl, S145, (((le13.trans le39).trans le59).trans le134), (by omega)⟩
 ·refine do_ rfl (.bool false) (ex_lss (m := ((k : Nat) : Int)) (n := ((l.length : Nat) : Int)) (b := false) rfl rfl (decide_eq_false (by omega))) ?_
  simp only [pS, pN, pA, pC, pZ]
  refine wl_nil (hK15 _ _ ?_)
  refine wp_seq_k (fun K147 hK147 => ?_)
  refine wp_cond_false rfl ?_
  refine wp_exit ?_
  refine hK3 _ _ ?_
  refine wp_seq_k (fun K148 hK148 => region_wl ?_)
  refine do_ rfl v (ex_move _) ?_
  simp only [pS, pN, pA, pC, pZ]
  refine do_ rfl v (ex_assign _) ?_
  simp only [pS, pN, pA, pC, pZ]
  refine wl_nil (hK148 _ _ ?_)
  refine wp_ret ?_
  (try simp only [Exit.then, Exit.inBlock, ↓reduceIte, Nat.reduceEqDiff])
  refine bodyPost_ret (v := v) ?_ rfl ?_
  ·exact res_t rfl rfl
  ·obtain rfl : k = l.length := by omega
   exact ⟨_, _, rfl, S12.gr, by have h := St.own (i := 0) S12 rfl; rwa [List.take_length] at h⟩
end Go.Proofs.Ytlimmmidfhpakaa
namespace Go.Proofs.Ytlimmmidfhpakaa
open Go.RowKit
set_option maxRecDepth 100000
set_option linter.unusedVariables false
set_option linter.unusedSimpArgs false
theorem wr_bad {l : Forest} {r : Wr} (h : wrE r ≠ 0) : applyR l [r] = (wrE r, []) := by unfold applyR; rw [if_pos h]
theorem wr_none {l : Forest} {r : Wr} (h : wrE r = 0) (hw : writeF l r = none) : applyR l [r] = (11, []) := by unfold applyR; rw [if_neg (by simp [h]), hw]
theorem wr_some {l g : Forest} {r : Wr} (h : wrE r = 0) (hw : writeF l r = some g) : applyR l [r] = (0, g) := by unfold applyR; rw [if_neg (by simp [h]), hw]; rfl
theorem delBad_spec (F : Fz) (w : World) (v u : Value) (l : List Pr) (k : By) (hs : Sat w F) (hv : Prs F v l) (hu : Bs F u k) (ok : TreeOk 60 l) (hk : checkN k.length ≠ 0) :
    Calls Try.prog 7 #[v, u] w (Gives w F (PrsE [] (checkN k.length))) := by
  have := delete_spec F w v u l k hs hv hu ok
  unfold delR delE at this
  rwa [if_neg hk] at this
theorem putBad_spec (F : Fz) (w : World) (v u : Value) (l : List Pr) (p : Pr) (hs : Sat w F) (hv : Prs F v l) (hu : Pr2V F u p) (ok : TreeOk 60 l) (hk : p.1.length ≤ 100000) (hx : p.2.length ≤ 100000) (h : pairE p ≠ 0) :
    Calls Try.prog 8 #[v, u] w (Gives w F (PrsE [] (pairE p))) := by
  have := put_spec F w v u l p hs hv hu ok hk hx
  have he : putE l p = pairE p := by unfold putE; rw [if_pos h]
  unfold putR at this
  rwa [he, if_neg h] at this
theorem putFull_spec (F : Fz) (w : World) (v u : Value) (l : List Pr) (p : Pr) (hs : Sat w F) (hv : Prs F v l) (hu : Pr2V F u p) (ok : TreeOk 60 l) (hk : p.1.length ≤ 100000) (hx : p.2.length ≤ 100000) (h : pairE p = 0) (h2 : 60 < (putT l p.1 p.2).length) :
    Calls Try.prog 8 #[v, u] w (Gives w F (PrsE [] 11)) := by
  have := put_spec F w v u l p hs hv hu ok hk hx
  have he : putE l p = 11 := by unfold putE; rw [if_neg (by simp [h]), if_pos h2]
  unfold putR at this
  rwa [he, if_neg (by decide)] at this
theorem putFit_spec (F : Fz) (w : World) (v u : Value) (l : List Pr) (p : Pr) (hs : Sat w F) (hv : Prs F v l) (hu : Pr2V F u p) (ok : TreeOk 60 l) (hk : p.1.length ≤ 100000) (hx : p.2.length ≤ 100000) (h : pairE p = 0) (h2 : ¬ 60 < (putT l p.1 p.2).length) :
    Calls Try.prog 8 #[v, u] w (Gives w F (PrsE (putT l p.1 p.2) 0)) := by
  have := put_spec F w v u l p hs hv hu ok hk hx
  have he : putE l p = 0 := by unfold putE; rw [if_neg (by simp [h]), if_neg h2]
  unfold putR at this
  rwa [he, if_pos rfl] at this
theorem find_is {F : Fz} {w : World} {v u : Value} {l : Forest} {k : By} {b : Bool} (hs : Sat w F) (hv : Tns F v l) (hu : Bs F u k) (hr : Rise l) (hl : l.length ≤ 1000000) (h : hasT l k = b) :
    Calls Try.prog 52 #[v, u] w (Tells w (.tuple #[.int .i64 (posT l k : Nat), .bool b])) := by
  subst h; exact findT_spec F w v u l k hs hv hu hr hl
/-- What a write makes of a forest, case by case. -/
theorem writeF_is {l : Forest} {r : Wr} {O N : List Pr} (hO : treeF l r.name = O) (hN : nextT r O = N) : writeF l r = if r.gone = false ∧ 60 < N.length then none else if N = [] then some (delT l r.name) else if 8 < (putT l r.name N).length then none else some (putT l r.name N) := by
  subst hO; subst hN; rfl
theorem next_gone {r : Wr} {O : List Pr} (h : r.gone = true) : nextT r O = delT O r.key := by unfold nextT; rw [if_pos h]
theorem next_put {r : Wr} {O : List Pr} (h : r.gone = false) : nextT r O = putT O r.key r.value := by unfold nextT; rw [if_neg (by rw [h]; simp)]
theorem nil_len {N : List Pr} (h : N.length = 0) : N = [] := List.eq_nil_of_length_eq_zero h
theorem not_nil {N : List Pr} (h : ¬ N.length = 0) : N ≠ [] := fun e => h (by rw [e]; rfl)
theorem putF_set {l : Forest} (hr : Rise l) {k : By} (h : hasT l k = true) (N : List Pr) : putT l k N = l.set (posT l k) (k, N) := by unfold putT; rw [if_pos h]
theorem putF_new {l : Forest} {k : By} (h : hasT l k = false) (N : List Pr) : putT l k N = l.take (posT l k) ++ (k, N) :: l.drop (posT l k) := by unfold putT; rw [if_neg (by rw [h]; simp)]
theorem delF_has {l : Forest} {k : By} (h : hasT l k = true) : delT l k = l.take (posT l k) ++ l.drop (posT l k + 1) := by unfold delT; rw [if_pos h]
theorem delF_not {l : Forest} {k : By} (h : hasT l k = false) : delT l k = l := by unfold delT; rw [if_neg (by rw [h]; simp)]
set_option maxHeartbeats 8000000 in
theorem write_spec {w0 w : World} {F0 F : Fz} {L0 : List Blk} {M0 : List RowP} {v u : Value} {l : Forest} {r : Wr}
    (S : St w0 F0 w F L0 (ownP 2 TnC TnC.mono 80 w0.heap.size v l :: M0)) (hu : WrV F u r) (ok : ForestOk 60 l) (hb0 : r.name.length ≤ 100000) (hb1 : r.key.length ≤ 100000) (hb2 : r.value.length ≤ 100000) :
    Calls Try.prog 40 #[v, u] w fun e w' => ∃ v', e = .returned (.tuple #[v', .int .i64 (applyR l [r]).1]) ∧ ∃ F', Le F F' ∧
      (((applyR l [r]).1 = 0 ∧ St w0 F0 w' F' L0 (ownP 2 TnC TnC.mono 80 w0.heap.size v' (applyR l [r]).2 :: M0)) ∨ ((applyR l [r]).1 ≠ 0 ∧ v' = .slice none 0 0 ∧ St w0 F0 w' F' L0 M0)) := by
 obtain ⟨a, c, rfl, hc1, hc2⟩ := (S.own (i := 0) rfl).shape
 obtain ⟨x0, y0, x1, y1, x3, y3, rfl, h0, h1, h3⟩ := hu
 unfold maxLen at hc2
 obtain ⟨i80, hi80, hz80, hs80, hb80⟩ := info_parts info_80
 go_enter Try.func40, Try.ntmps40
 refine wp_seq_k (fun K1 hK1 => region_wl ?_)
 refine stNew S (v := fun n => .pointer (some ⟨n, 0, none⟩)) rfl (ex_box (v := (.agg #[(.slice x0 r.name.length y0), (.slice x1 r.key.length y1), (.bool r.gone), (.slice x3 r.value.length y3)])) rfl) (fun n2 w3 S4 => ?_)
 simp only [pS, pN, pA, pC, pZ]
 have S4 : St w0 F0 w3 F (⟨n2, [(.slice x0 r.name.length y0), (.slice x1 r.key.length y1), (.bool r.gone), (.slice x3 r.value.length y3)], 27⟩ :: L0) (ownP 2 TnC TnC.mono 80 w0.heap.size (.slice a l.length c) l :: M0) := S4
 refine do_ rfl (.slice none 0 0) (ex_assign _) ?_
 simp only [pS, pN, pA, pC, pZ]
 refine do_ rfl (.int .i64 0) (ex_assign _) ?_
 simp only [pS, pN, pA, pC, pZ]
 refine wl_nil (hK1 _ _ ?_)
 refine wp_seq_k (fun K5 hK5 => ?_)
 refine wp_seq_k (fun K6 hK6 => region_wl ?_)
 refine do_ rfl (.pointer (some ⟨n2, 0, none⟩)) (ex_field (q := ⟨n2, 0, none⟩) rfl (fa_27_0 _ _)) ?_
 simp only [pS, pN, pA, pC, pZ]
 refine do_ rfl (.slice x0 r.name.length y0) (ex_load rfl (load1 (nagg_25 _) (St.cell S4 (i := 0) rfl rfl))) ?_
 simp only [pS, pN, pA, pC, pZ]
 refine stTells (v := (.int .i64 (nameN r.name.length))) S4 rfl (ex_fn (vs := #[(.slice x0 r.name.length y0)]) (map1 rfl) rfl (ent_51 _ _)) (tells_same (name_len _ _ _ _)) (fun w7 S8 => ?_)
 simp only [pS, pN, pA, pC, pZ]
 refine do_ rfl (.int .i64 (nameN r.name.length)) (ex_assign _) ?_
 simp only [pS, pN, pA, pC, pZ]
 refine wl_nil (hK6 _ _ ?_)
 refine wp_seq_k (fun K9 hK9 => region_wl ?_)
 refine do_ rfl (.int .i64 (nameN r.name.length)) (ex_move _) ?_
 simp only [pS, pN, pA, pC, pZ]
 by_cases hc16 : (nameN r.name.length) = (0 : Int)
 ·refine do_ rfl (.bool false) (ex_neq (m := (nameN r.name.length)) (n := (0 : Int)) (b := false) rfl rfl (bne_eq_false_iff_eq.2 (by omega))) ?_
  simp only [pS, pN, pA, pC, pZ]
  refine wl_nil (hK9 _ _ ?_)
  refine wp_cond_false rfl ?_
  refine wp_skip ?_
  refine hK5 _ _ ?_
  refine wp_seq_k (fun K10 hK10 => ?_)
  have hl8 := ok.len
  have hpl : posT l r.name ≤ l.length := posBy_le _ _ _
  cases hh : hasT l r.name with
  | false =>
   have hO := treeF_not hh
   refine region_wl ?_
   refine do_ rfl (.slice a l.length c) (ex_move _) ?_
   simp only [pS, pN, pA, pC, pZ]
   refine do_ rfl (.pointer (some ⟨n2, 0, none⟩)) (ex_field (q := ⟨n2, 0, none⟩) rfl (fa_27_0 _ _)) ?_
   simp only [pS, pN, pA, pC, pZ]
   refine do_ rfl (.slice x0 r.name.length y0) (ex_load rfl (load1 (nagg_25 _) (St.cell S8 (i := 0) rfl rfl))) ?_
   simp only [pS, pN, pA, pC, pZ]
   obtain ⟨F11, hs12, le13, hsl14⟩ := own_peek S8 (i := 0) rfl
   refine stTells (v := (.tuple #[(.int .i64 (((posT l r.name) : Nat) : Int)), (.bool false)])) S8 rfl (ex_fn (vs := #[(.slice a l.length c), (.slice x0 r.name.length y0)]) (map2 rfl rfl) rfl (ent_52 _ _)) (find_is hs12 hsl14 (h0.mono le13) ok.rise (by omega) hh) (fun w15 S16 => ?_)
   simp only [pS, pN, pA, pC, pZ]
   refine do_ rfl (.tuple #[(.int .i64 (((posT l r.name) : Nat) : Int)), (.bool false)]) (ex_move _) ?_
   simp only [pS, pN, pA, pC, pZ]
   refine do_ rfl (.int .i64 (((posT l r.name) : Nat) : Int)) (ex_extract rfl rfl) ?_
   simp only [pS, pN, pA, pC, pZ]
   refine do_ rfl (.bool false) (ex_extract rfl rfl) ?_
   simp only [pS, pN, pA, pC, pZ]
   refine do_ rfl (.int .i64 (((posT l r.name) : Nat) : Int)) (ex_assign _) ?_
   simp only [pS, pN, pA, pC, pZ]
   refine do_ rfl (.bool false) (ex_assign _) ?_
   simp only [pS, pN, pA, pC, pZ]
   refine wl_nil (hK10 _ _ ?_)
   refine wp_seq_k (fun K17 hK17 => region_wl ?_)
   refine do_ rfl (.slice none 0 0) (ex_assign _) ?_
   simp only [pS, pN, pA, pC, pZ]
   refine do_ rfl (.slice none 0 0) (ex_assign _) ?_
   simp only [pS, pN, pA, pC, pZ]
   refine wl_nil (hK17 _ _ ?_)
   refine wp_seq_k (fun K18 hK18 => ?_)
   refine wp_seq_k (fun K19 hK19 => region_wl ?_)
   refine do_ rfl (.bool false) (ex_move _) ?_
   simp only [pS, pN, pA, pC, pZ]
   refine wl_nil (hK19 _ _ ?_)
   refine wp_cond_false rfl ?_
   refine wp_skip ?_
   refine hK18 _ _ ?_
   refine wp_seq_k (fun K20 hK20 => region_wl ?_)
   refine do_ rfl (.int .i64 0) (ex_assign _) ?_
   simp only [pS, pN, pA, pC, pZ]
   refine wl_nil (hK20 _ _ ?_)
   refine wp_seq_k (fun K21 hK21 => ?_)
   refine wp_seq_k (fun K22 hK22 => region_wl ?_)
   refine do_ rfl (.pointer (some ⟨n2, 2, none⟩)) (ex_field (q := ⟨n2, 2, none⟩) rfl (fa_27_2 _ _)) ?_
   simp only [pS, pN, pA, pC, pZ]
   refine do_ rfl (.bool r.gone) (ex_load rfl (load1 (nagg_4 _) (St.cell S16 (i := 0) rfl rfl))) ?_
   simp only [pS, pN, pA, pC, pZ]
   refine wl_nil (hK22 _ _ ?_)
   refine wp_cond_split rfl (fun hgone => ?_) (fun hgone => ?_)
   ·refine wp_seq_k (fun K23 hK23 => ?_)
    by_cases hk : checkN r.key.length = 0
    ·refine region_wl ?_
     refine do_ rfl (.slice none 0 0) (ex_move _) ?_
     simp only [pS, pN, pA, pC, pZ]
     refine do_ rfl (.pointer (some ⟨n2, 1, none⟩)) (ex_field (q := ⟨n2, 1, none⟩) rfl (fa_27_1 _ _)) ?_
     simp only [pS, pN, pA, pC, pZ]
     refine do_ rfl (.slice x1 r.key.length y1) (ex_load rfl (load1 (nagg_25 _) (St.cell S16 (i := 0) rfl rfl))) ?_
     simp only [pS, pN, pA, pC, pZ]
     refine stGives S16 rfl (ex_fn (vs := #[(.slice none 0 0), (.slice x1 r.key.length y1)]) (map2 rfl rfl) rfl (ent_7 _ _)) (delOk_spec _ _ _ _ ([] : List Pr) r.key (S16).sat (Sl.nil _ _ _) h1 (TreeOk.nil 60) (checkN_zero.1 hk)) ?_
     intro v29 w24 F26 S25 le27 R28
     obtain ⟨_, rfl, r32⟩ := R28
     obtain ⟨a30, c31, rfl, h33, h34⟩ := Sl.shape r32
     unfold maxLen at h34
     have h33 : (delT ([] : List Pr) r.key).length ≤ c31 := h33
     have r32 : Prs _ (.slice a30 (delT ([] : List Pr) r.key).length c31) (delT ([] : List Pr) r.key) := r32
     simp only [pS, pN, pA, pC, pZ]
     refine do_ rfl (.tuple #[(.slice a30 (delT ([] : List Pr) r.key).length c31), (.int .i64 0)]) (ex_move _) ?_
     simp only [pS, pN, pA, pC, pZ]
     refine do_ rfl (.slice a30 (delT ([] : List Pr) r.key).length c31) (ex_extract rfl rfl) ?_
     simp only [pS, pN, pA, pC, pZ]
     refine do_ rfl (.int .i64 0) (ex_extract rfl rfl) ?_
     simp only [pS, pN, pA, pC, pZ]
     refine do_ rfl (.slice a30 (delT ([] : List Pr) r.key).length c31) (ex_assign _) ?_
     simp only [pS, pN, pA, pC, pZ]
     refine do_ rfl (.int .i64 0) (ex_assign _) ?_
     simp only [pS, pN, pA, pC, pZ]
     refine wl_nil (hK23 _ _ ?_)
     refine wp_seq_k (fun K35 hK35 => region_wl ?_)
     refine do_ rfl (.int .i64 0) (ex_move _) ?_
     simp only [pS, pN, pA, pC, pZ]
     refine do_ rfl (.bool true) (ex_eql (b := true) rfl rfl (by decide)) ?_
     simp only [pS, pN, pA, pC, pZ]
     refine do_ rfl (.bool true) (ex_move _) ?_
     simp only [pS, pN, pA, pC, pZ]
     refine do_ rfl (.pointer (some ⟨n2, 3, none⟩)) (ex_field (q := ⟨n2, 3, none⟩) rfl (fa_27_3 _ _)) ?_
     simp only [pS, pN, pA, pC, pZ]
     refine do_ rfl (.slice x3 r.value.length y3) (ex_load rfl (load1 (nagg_25 _) (St.cell S25 (i := 0) rfl rfl))) ?_
     simp only [pS, pN, pA, pC, pZ]
     refine do_ rfl (.int .i64 ((r.value.length : Nat) : Int)) (ex_len Try.underlying25 rfl) ?_
     simp only [pS, pN, pA, pC, pZ]
     by_cases hc46 : 0 < r.value.length
     ·refine do_ rfl (.bool true) (ex_gtr (m := ((r.value.length : Nat) : Int)) (n := (0 : Int)) (b := true) rfl rfl (decide_eq_true (by omega))) ?_
      simp only [pS, pN, pA, pC, pZ]
      refine do_ rfl (.bool true) (ex_pick (b := true) rfl) ?_
      simp only [pS, pN, pA, pC, pZ]
      refine wl_nil (hK35 _ _ ?_)
      refine wp_cond_true rfl ?_
      refine region_wl ?_
      refine do_ rfl (.int .i64 4) (ex_assign _) ?_
      simp only [pS, pN, pA, pC, pZ]
      refine wl_nil (hK21 _ _ ?_)
      refine wp_seq_k (fun K36 hK36 => ?_)
      refine wp_block ?_
      refine wp_seq_k (fun K37 hK37 => region_wl ?_)
      refine do_ rfl (.int .i64 4) (ex_move _) ?_
      simp only [pS, pN, pA, pC, pZ]
      refine do_ rfl (.bool true) (ex_neq (b := true) rfl rfl (by decide)) ?_
      simp only [pS, pN, pA, pC, pZ]
      refine do_ rfl (.bool true) (ex_assign _) ?_
      simp only [pS, pN, pA, pC, pZ]
      refine wl_nil (hK37 _ _ ?_)
      refine wp_cond_true rfl ?_
      refine wp_seq_k (fun K38 hK38 => region_wl ?_)
      refine do_ rfl (.int .i64 4) (ex_move _) ?_
      simp only [pS, pN, pA, pC, pZ]
      refine do_ rfl (.slice none 0 0) (ex_assign _) ?_
      simp only [pS, pN, pA, pC, pZ]
      refine do_ rfl (.int .i64 4) (ex_assign _) ?_
      simp only [pS, pN, pA, pC, pZ]
      refine wl_nil (hK38 _ _ ?_)
      refine wp_ret ?_
      (try simp only [Exit.then, Exit.inBlock, ↓reduceIte, Nat.reduceEqDiff])
      refine bodyPost_ret (v := (.tuple #[(.slice none 0 0), (.int .i64 4)])) ?_ rfl ?_
      ·exact res_tt rfl rfl rfl
      ·skip
       have hwe : wrE r = 4 := by unfold wrE; rw [if_neg (by omega), if_pos hgone, if_neg (by omega), if_pos (by omega)]
       have hne : wrE r ≠ 0 := by rw [hwe]; decide
       have S39 := St.drop S25 (L' := L0) (.cons _ (List.Sublist.refl _))
       rw [wr_bad hne]
       refine ⟨_, by rw [hwe], _, le27, .inr ⟨hne, rfl, St.dropRow S39 (.cons _ (.refl _))⟩⟩
     ·refine do_ rfl (.bool false) (ex_gtr (m := ((r.value.length : Nat) : Int)) (n := (0 : Int)) (b := false) rfl rfl (decide_eq_false (by omega))) ?_
      simp only [pS, pN, pA, pC, pZ]
      refine do_ rfl (.bool false) (ex_pick (b := true) rfl) ?_
      simp only [pS, pN, pA, pC, pZ]
      refine wl_nil (hK35 _ _ ?_)
      refine wp_cond_false rfl ?_
      refine wp_skip ?_
      refine hK21 _ _ ?_
      refine wp_seq_k (fun K41 hK41 => ?_)
      refine wp_block ?_
      refine wp_seq_k (fun K42 hK42 => region_wl ?_)
      refine do_ rfl (.int .i64 0) (ex_move _) ?_
      simp only [pS, pN, pA, pC, pZ]
      refine do_ rfl (.bool false) (ex_neq (b := false) rfl rfl (by decide)) ?_
      simp only [pS, pN, pA, pC, pZ]
      refine do_ rfl (.bool false) (ex_assign _) ?_
      simp only [pS, pN, pA, pC, pZ]
      refine wl_nil (hK42 _ _ ?_)
      refine wp_cond_false rfl ?_
      refine wp_seq_k (fun K43 hK43 => region_wl ?_)
      refine do_ rfl (.bool false) (ex_move _) ?_
      simp only [pS, pN, pA, pC, pZ]
      refine do_ rfl (.bool false) (ex_move _) ?_
      simp only [pS, pN, pA, pC, pZ]
      refine doN (wanted_no rfl rfl rfl (c := false) rfl (by decide)) ?_
      simp only [pS, pN, pA, pC, pZ]
      refine doN (wanted_no rfl rfl rfl (c := false) rfl (by decide)) ?_
      simp only [pS, pN, pA, pC, pZ]
      refine doN (wanted_no rfl rfl rfl (c := false) rfl (by decide)) ?_
      simp only [pS, pN, pA, pC, pZ]
      refine do_ rfl (.bool false) (ex_pick (b := false) rfl) ?_
      simp only [pS, pN, pA, pC, pZ]
      refine do_ rfl (.bool false) (ex_assign _) ?_
      simp only [pS, pN, pA, pC, pZ]
      refine wl_nil (hK43 _ _ ?_)
      refine wp_cond_false rfl ?_
      refine wp_seq_k (fun K44 hK44 => region_wl ?_)
      refine do_ rfl (.bool false) (ex_move _) ?_
      simp only [pS, pN, pA, pC, pZ]
      refine do_ rfl (.bool false) (ex_assign _) ?_
      simp only [pS, pN, pA, pC, pZ]
      refine wl_nil (hK44 _ _ ?_)
      refine wp_cond_false rfl ?_
      refine wp_seq_k (fun K45 hK45 => region_wl ?_)
      refine do_ rfl (.slice a30 (delT ([] : List Pr) r.key).length c31) (ex_move _) ?_
      simp only [pS, pN, pA, pC, pZ]
      refine do_ rfl (.int .i64 (((delT ([] : List Pr) r.key).length : Nat) : Int)) (ex_len Try.underlying23 rfl) ?_
      simp only [pS, pN, pA, pC, pZ]
      by_cases hc85 : (delT ([] : List Pr) r.key).length = 0
      ·refine do_ rfl (.bool true) (ex_eql (m := (((delT ([] : List Pr) r.key).length : Nat) : Int)) (n := (0 : Int)) (b := true) rfl rfl (beq_iff_eq.2 (by omega))) ?_
       simp only [pS, pN, pA, pC, pZ]
       refine do_ rfl (.bool true) (ex_assign _) ?_
       simp only [pS, pN, pA, pC, pZ]
       refine wl_nil (hK45 _ _ ?_)
       refine wp_cond_true rfl ?_
       refine wp_seq_k (fun K46 hK46 => region_wl ?_)
       refine do_ rfl (.slice a l.length c) (ex_move _) ?_
       simp only [pS, pN, pA, pC, pZ]
       refine do_ rfl (.slice a l.length c) (ex_assign _) ?_
       simp only [pS, pN, pA, pC, pZ]
       refine do_ rfl (.int .i64 0) (ex_assign _) ?_
       simp only [pS, pN, pA, pC, pZ]
       refine wl_nil (hK46 _ _ ?_)
       refine wp_ret ?_
       (try simp only [Exit.then, Exit.inBlock, ↓reduceIte, Nat.reduceEqDiff])
       refine bodyPost_ret (v := (.tuple #[(.slice a l.length c), (.int .i64 0)])) ?_ rfl ?_
       ·exact res_tt rfl rfl rfl
       ·skip
        have hw0 : wrE r = 0 := by unfold wrE; rw [if_neg (by omega), if_pos hgone, if_neg (by omega), if_neg (by omega)]
        have hwf := writeF_is hO (next_gone hgone)
        rw [if_neg (fun h => by rw [hgone] at h; simp at h)] at hwf
        rw [if_pos (nil_len hc85), delF_not hh] at hwf
        have S47 := St.drop S25 (L' := L0) (.cons _ (List.Sublist.refl _))
        rw [wr_some hw0 hwf]
        exact ⟨_, rfl, _, le27, .inl ⟨rfl, S47⟩⟩
      ·refine do_ rfl (.bool false) (ex_eql (m := (((delT ([] : List Pr) r.key).length : Nat) : Int)) (n := (0 : Int)) (b := false) rfl rfl (beq_eq_false_iff_ne.2 (by omega))) ?_
       simp only [pS, pN, pA, pC, pZ]
       refine do_ rfl (.bool false) (ex_assign _) ?_
       simp only [pS, pN, pA, pC, pZ]
       refine wl_nil (hK45 _ _ ?_)
       refine wp_cond_false rfl ?_
       refine wp_seq_k (fun K49 hK49 => region_wl ?_)
       refine do_ rfl (.slice a l.length c) (ex_move _) ?_
       simp only [pS, pN, pA, pC, pZ]
       refine do_ rfl (.int .i64 ((l.length : Nat) : Int)) (ex_len Try.underlying52 rfl) ?_
       simp only [pS, pN, pA, pC, pZ]
       by_cases hc90 : l.length = 8
       ·refine do_ rfl (.bool true) (ex_eql (m := ((l.length : Nat) : Int)) (n := (8 : Int)) (b := true) rfl rfl (beq_iff_eq.2 (by omega))) ?_
        simp only [pS, pN, pA, pC, pZ]
        refine do_ rfl (.bool true) (ex_assign _) ?_
        simp only [pS, pN, pA, pC, pZ]
        refine wl_nil (hK49 _ _ ?_)
        refine wp_cond_true rfl ?_
        refine wp_seq_k (fun K50 hK50 => region_wl ?_)
        refine do_ rfl (.slice none 0 0) (ex_assign _) ?_
        simp only [pS, pN, pA, pC, pZ]
        refine do_ rfl (.int .i64 11) (ex_assign _) ?_
        simp only [pS, pN, pA, pC, pZ]
        refine wl_nil (hK50 _ _ ?_)
        refine wp_ret ?_
        (try simp only [Exit.then, Exit.inBlock, ↓reduceIte, Nat.reduceEqDiff])
        refine bodyPost_ret (v := (.tuple #[(.slice none 0 0), (.int .i64 11)])) ?_ rfl ?_
        ·exact res_tt rfl rfl rfl
        ·skip
         have hw0 : wrE r = 0 := by unfold wrE; rw [if_neg (by omega), if_pos hgone, if_neg (by omega), if_neg (by omega)]
         have hwf := writeF_is hO (next_gone hgone)
         rw [if_neg (fun h => by rw [hgone] at h; simp at h)] at hwf
         rw [if_neg (not_nil hc85), if_pos (by rw [len_putT, if_neg (by rw [hh]; simp)]; omega)] at hwf
         have S51 := St.drop S25 (L' := L0) (.cons _ (List.Sublist.refl _))
         rw [wr_none hw0 hwf]
         refine ⟨_, rfl, _, le27, .inr ⟨(by decide : (11 : Int) ≠ 0), rfl, St.dropRow S51 (.cons _ (.refl _))⟩⟩
       ·refine do_ rfl (.bool false) (ex_eql (m := ((l.length : Nat) : Int)) (n := (8 : Int)) (b := false) rfl rfl (beq_eq_false_iff_ne.2 (by omega))) ?_
        simp only [pS, pN, pA, pC, pZ]
        refine do_ rfl (.bool false) (ex_assign _) ?_
        simp only [pS, pN, pA, pC, pZ]
        refine wl_nil (hK49 _ _ ?_)
        refine wp_cond_false rfl ?_
        refine wp_skip ?_
        refine hK41 _ _ ?_
        refine wp_seq_k (fun K53 hK53 => region_wl ?_)
        refine do_ rfl (.slice a l.length c) (ex_move _) ?_
        simp only [pS, pN, pA, pC, pZ]
        refine do_ rfl (.int .i64 (((posT l r.name) : Nat) : Int)) (ex_move _) ?_
        simp only [pS, pN, pA, pC, pZ]
        refine do_ rfl (.pointer (some ⟨n2, 0, none⟩)) (ex_field (q := ⟨n2, 0, none⟩) rfl (fa_27_0 _ _)) ?_
        simp only [pS, pN, pA, pC, pZ]
        refine do_ rfl (.slice x0 r.name.length y0) (ex_load rfl (load1 (nagg_25 _) (St.cell S25 (i := 0) rfl rfl))) ?_
        simp only [pS, pN, pA, pC, pZ]
        refine stGives S25 rfl (ex_fn (vs := #[(.slice x0 r.name.length y0)]) (map1 rfl) rfl (ent_30 _ _)) (clone_spec _ _ _ r.name (S25).sat (h0.mono le27) (by omega)) ?_
        intro v59 w54 F56 S55 le57 R58
        obtain ⟨xa60, xc61, rfl, _⟩ := R58.shape
        simp only [pS, pN, pA, pC, pZ]
        refine do_ rfl (.slice a30 (delT ([] : List Pr) r.key).length c31) (ex_move _) ?_
        simp only [pS, pN, pA, pC, pZ]
        refine do_ rfl (.agg #[(.slice xa60 r.name.length xc61), (.slice a30 (delT ([] : List Pr) r.key).length c31)]) (ex_build (ps := #[(0, (.slice xa60 r.name.length xc61)), (1, (.slice a30 (delT ([] : List Pr) r.key).length c31))]) (bmap2 rfl rfl) (by kernel_rfl)) ?_
        simp only [pS, pN, pA, pC, pZ]
        refine stNew S55 (v := fun n => .slice (some ⟨n, 0, none⟩) 1 1) rfl (ex_lit (ps := #[(0, (.agg #[(.slice xa60 r.name.length xc61), (.slice a30 (delT ([] : List Pr) r.key).length c31)]))]) (cells := #[(.slice xa60 r.name.length xc61), (.slice a30 (delT ([] : List Pr) r.key).length c31)]) (E := 80) (bmap1 rfl) (fun w => by kernel_rfl)) (fun n62 w63 S64 => ?_)
        simp only [pS, pN, pA, pC, pZ]
        have S64 : St w0 F0 w63 F56 (⟨n62, [(.slice xa60 r.name.length xc61), (.slice a30 (delT ([] : List Pr) r.key).length c31)], 80⟩ :: ⟨n2, [(.slice x0 r.name.length y0), (.slice x1 r.key.length y1), (.bool r.gone), (.slice x3 r.value.length y3)], 27⟩ :: L0) (ownP 2 TnC TnC.mono 80 w0.heap.size (.slice a l.length c) l :: M0) := S64
        refine stOwn (L := (⟨n2, [(.slice x0 r.name.length y0), (.slice x1 r.key.length y1), (.bool r.gone), (.slice x3 r.value.length y3)], 27⟩ :: L0)) (M := fun v_ => (ownP 2 TnC TnC.mono 80 w0.heap.size v_ (l.take (posT l r.name) ++ (r.name, (delT ([] : List Pr) r.key)) :: l.drop (posT l r.name)) :: M0)) rfl (ex_fn (vs := #[(.slice a l.length c), (.int .i64 (((posT l r.name) : Nat) : Int)), (.slice (some ⟨n62, 0, none⟩) 1 1)]) (map3 rfl rfl rfl) rfl (ent_54 _ _)) (insertTenant (p := (r.name, (delT ([] : List Pr) r.key))) TnC.one S64 rfl ⟨_, _, rfl, R58, (r32.mono le57)⟩ (by omega) hpl) ?_
        intro v65 w66 S67
        simp only [pS, pN, pA, pC, pZ]
        have S67 : St w0 F0 w66 F56 (⟨n2, [(.slice x0 r.name.length y0), (.slice x1 r.key.length y1), (.bool r.gone), (.slice x3 r.value.length y3)], 27⟩ :: L0) (ownP 2 TnC TnC.mono 80 w0.heap.size v65 (l.take (posT l r.name) ++ (r.name, (delT ([] : List Pr) r.key)) :: l.drop (posT l r.name)) :: M0) := S67
        refine do_ rfl v65 (ex_assign _) ?_
        simp only [pS, pN, pA, pC, pZ]
        refine do_ rfl (.int .i64 0) (ex_assign _) ?_
        simp only [pS, pN, pA, pC, pZ]
        refine wl_nil (hK53 _ _ ?_)
        refine wp_ret ?_
        (try simp only [Exit.then, Exit.inBlock, ↓reduceIte, Nat.reduceEqDiff])
        refine bodyPost_ret (v := (.tuple #[v65, (.int .i64 0)])) ?_ rfl ?_
        ·exact res_tt rfl rfl rfl
        ·skip
         have hw0 : wrE r = 0 := by unfold wrE; rw [if_neg (by omega), if_pos hgone, if_neg (by omega), if_neg (by omega)]
         have hwf := writeF_is hO (next_gone hgone)
         rw [if_neg (fun h => by rw [hgone] at h; simp at h)] at hwf
         rw [if_neg (not_nil hc85), if_neg (by rw [len_putT, if_neg (by rw [hh]; simp)]; omega), putF_new hh] at hwf
         have S68 := St.drop S67 (L' := L0) (.cons _ (List.Sublist.refl _))
         rw [wr_some hw0 hwf]
         exact ⟨_, rfl, _, (le27.trans le57), .inl ⟨rfl, S68⟩⟩
    ·refine region_wl ?_
     refine do_ rfl (.slice none 0 0) (ex_move _) ?_
     simp only [pS, pN, pA, pC, pZ]
     refine do_ rfl (.pointer (some ⟨n2, 1, none⟩)) (ex_field (q := ⟨n2, 1, none⟩) rfl (fa_27_1 _ _)) ?_
     simp only [pS, pN, pA, pC, pZ]
     refine do_ rfl (.slice x1 r.key.length y1) (ex_load rfl (load1 (nagg_25 _) (St.cell S16 (i := 0) rfl rfl))) ?_
     simp only [pS, pN, pA, pC, pZ]
     refine stGives S16 rfl (ex_fn (vs := #[(.slice none 0 0), (.slice x1 r.key.length y1)]) (map2 rfl rfl) rfl (ent_7 _ _)) (delBad_spec _ _ _ _ ([] : List Pr) r.key (S16).sat (Sl.nil _ _ _) h1 (TreeOk.nil 60) hk) ?_
     intro v75 w70 F72 S71 le73 R74
     obtain ⟨_, rfl, r78⟩ := R74
     obtain ⟨a76, c77, rfl, _⟩ := Sl.shape r78
     simp only [pS, pN, pA, pC, pZ]
     refine do_ rfl (.tuple #[(.slice a76 ([] : List Pr).length c77), (.int .i64 (checkN r.key.length))]) (ex_move _) ?_
     simp only [pS, pN, pA, pC, pZ]
     refine do_ rfl (.slice a76 ([] : List Pr).length c77) (ex_extract rfl rfl) ?_
     simp only [pS, pN, pA, pC, pZ]
     refine do_ rfl (.int .i64 (checkN r.key.length)) (ex_extract rfl rfl) ?_
     simp only [pS, pN, pA, pC, pZ]
     refine do_ rfl (.slice a76 ([] : List Pr).length c77) (ex_assign _) ?_
     simp only [pS, pN, pA, pC, pZ]
     refine do_ rfl (.int .i64 (checkN r.key.length)) (ex_assign _) ?_
     simp only [pS, pN, pA, pC, pZ]
     refine wl_nil (hK23 _ _ ?_)
     refine wp_seq_k (fun K79 hK79 => region_wl ?_)
     refine do_ rfl (.int .i64 (checkN r.key.length)) (ex_move _) ?_
     simp only [pS, pN, pA, pC, pZ]
     refine do_ rfl (.bool false) (ex_eql (m := (checkN r.key.length)) (n := (0 : Int)) (b := false) rfl rfl (beq_eq_false_iff_ne.2 (hk))) ?_
     simp only [pS, pN, pA, pC, pZ]
     refine do_ rfl (.bool false) (ex_move _) ?_
     simp only [pS, pN, pA, pC, pZ]
     refine doN (wanted_no rfl rfl rfl (c := false) rfl (by decide)) ?_
     simp only [pS, pN, pA, pC, pZ]
     refine doN (wanted_no rfl rfl rfl (c := false) rfl (by decide)) ?_
     simp only [pS, pN, pA, pC, pZ]
     refine doN (wanted_no rfl rfl rfl (c := false) rfl (by decide)) ?_
     simp only [pS, pN, pA, pC, pZ]
     refine doN (wanted_no rfl rfl rfl (c := false) rfl (by decide)) ?_
     simp only [pS, pN, pA, pC, pZ]
     refine do_ rfl (.bool false) (ex_pick (b := false) rfl) ?_
     simp only [pS, pN, pA, pC, pZ]
     refine wl_nil (hK79 _ _ ?_)
     refine wp_cond_false rfl ?_
     refine wp_skip ?_
     refine hK21 _ _ ?_
     refine wp_seq_k (fun K80 hK80 => ?_)
     refine wp_block ?_
     refine wp_seq_k (fun K81 hK81 => region_wl ?_)
     refine do_ rfl (.int .i64 (checkN r.key.length)) (ex_move _) ?_
     simp only [pS, pN, pA, pC, pZ]
     refine do_ rfl (.bool true) (ex_neq (m := (checkN r.key.length)) (n := (0 : Int)) (b := true) rfl rfl (bne_iff_ne.2 (hk))) ?_
     simp only [pS, pN, pA, pC, pZ]
     refine do_ rfl (.bool true) (ex_assign _) ?_
     simp only [pS, pN, pA, pC, pZ]
     refine wl_nil (hK81 _ _ ?_)
     refine wp_cond_true rfl ?_
     refine wp_seq_k (fun K82 hK82 => region_wl ?_)
     refine do_ rfl (.int .i64 (checkN r.key.length)) (ex_move _) ?_
     simp only [pS, pN, pA, pC, pZ]
     refine do_ rfl (.slice none 0 0) (ex_assign _) ?_
     simp only [pS, pN, pA, pC, pZ]
     refine do_ rfl (.int .i64 (checkN r.key.length)) (ex_assign _) ?_
     simp only [pS, pN, pA, pC, pZ]
     refine wl_nil (hK82 _ _ ?_)
     refine wp_ret ?_
     (try simp only [Exit.then, Exit.inBlock, ↓reduceIte, Nat.reduceEqDiff])
     refine bodyPost_ret (v := (.tuple #[(.slice none 0 0), (.int .i64 (checkN r.key.length))])) ?_ rfl ?_
     ·exact res_tt rfl rfl rfl
     ·skip
      have hwe : wrE r = checkN r.key.length := by unfold wrE; rw [if_neg (by omega), if_pos hgone, if_pos hk]
      have hne : wrE r ≠ 0 := by rw [hwe]; exact hk
      have S83 := St.drop S71 (L' := L0) (.cons _ (List.Sublist.refl _))
      rw [wr_bad hne]
      refine ⟨_, by rw [hwe], _, le73, .inr ⟨hne, rfl, St.dropRow S83 (.cons _ (.refl _))⟩⟩
   ·by_cases hp : pairE (r.key, r.value) = 0
    ·by_cases h60 : 60 < (putT ([] : List Pr) r.key r.value).length
     ·refine region_wl ?_
      refine do_ rfl (.slice none 0 0) (ex_move _) ?_
      simp only [pS, pN, pA, pC, pZ]
      refine do_ rfl (.pointer (some ⟨n2, 1, none⟩)) (ex_field (q := ⟨n2, 1, none⟩) rfl (fa_27_1 _ _)) ?_
      simp only [pS, pN, pA, pC, pZ]
      refine do_ rfl (.slice x1 r.key.length y1) (ex_load rfl (load1 (nagg_25 _) (St.cell S16 (i := 0) rfl rfl))) ?_
      simp only [pS, pN, pA, pC, pZ]
      refine do_ rfl (.pointer (some ⟨n2, 3, none⟩)) (ex_field (q := ⟨n2, 3, none⟩) rfl (fa_27_3 _ _)) ?_
      simp only [pS, pN, pA, pC, pZ]
      refine do_ rfl (.slice x3 r.value.length y3) (ex_load rfl (load1 (nagg_25 _) (St.cell S16 (i := 0) rfl rfl))) ?_
      simp only [pS, pN, pA, pC, pZ]
      refine do_ rfl (.agg #[(.slice x1 r.key.length y1), (.slice x3 r.value.length y3)]) (ex_build (ps := #[(0, (.slice x1 r.key.length y1)), (1, (.slice x3 r.value.length y3))]) (bmap2 rfl rfl) (by kernel_rfl)) ?_
      simp only [pS, pN, pA, pC, pZ]
      refine stGives S16 rfl (ex_fn (vs := #[(.slice none 0 0), (.agg #[(.slice x1 r.key.length y1), (.slice x3 r.value.length y3)])]) (map2 rfl rfl) rfl (ent_8 _ _)) (putFull_spec _ _ _ _ ([] : List Pr) (r.key, r.value) (S16).sat (Sl.nil _ _ _) ⟨_, _, _, _, rfl, h1, h3⟩ (TreeOk.nil 60) hb1 hb2 hp h60) ?_
      intro v90 w85 F87 S86 le88 R89
      obtain ⟨_, rfl, r93⟩ := R89
      obtain ⟨a91, c92, rfl, h94, h95⟩ := Sl.shape r93
      unfold maxLen at h95
      simp only [pS, pN, pA, pC, pZ]
      refine do_ rfl (.tuple #[(.slice a91 ([] : List Pr).length c92), (.int .i64 11)]) (ex_move _) ?_
      simp only [pS, pN, pA, pC, pZ]
      refine do_ rfl (.slice a91 ([] : List Pr).length c92) (ex_extract rfl rfl) ?_
      simp only [pS, pN, pA, pC, pZ]
      refine do_ rfl (.int .i64 11) (ex_extract rfl rfl) ?_
      simp only [pS, pN, pA, pC, pZ]
      refine do_ rfl (.slice a91 ([] : List Pr).length c92) (ex_assign _) ?_
      simp only [pS, pN, pA, pC, pZ]
      refine do_ rfl (.int .i64 11) (ex_assign _) ?_
      simp only [pS, pN, pA, pC, pZ]
      refine wl_nil (hK21 _ _ ?_)
      refine wp_seq_k (fun K96 hK96 => ?_)
      refine wp_block ?_
      refine wp_seq_k (fun K97 hK97 => region_wl ?_)
      refine do_ rfl (.int .i64 11) (ex_move _) ?_
      simp only [pS, pN, pA, pC, pZ]
      refine do_ rfl (.bool true) (ex_neq (b := true) rfl rfl (by decide)) ?_
      simp only [pS, pN, pA, pC, pZ]
      refine do_ rfl (.bool true) (ex_assign _) ?_
      simp only [pS, pN, pA, pC, pZ]
      refine wl_nil (hK97 _ _ ?_)
      refine wp_cond_true rfl ?_
      refine wp_seq_k (fun K98 hK98 => region_wl ?_)
      refine do_ rfl (.int .i64 11) (ex_move _) ?_
      simp only [pS, pN, pA, pC, pZ]
      refine do_ rfl (.slice none 0 0) (ex_assign _) ?_
      simp only [pS, pN, pA, pC, pZ]
      refine do_ rfl (.int .i64 11) (ex_assign _) ?_
      simp only [pS, pN, pA, pC, pZ]
      refine wl_nil (hK98 _ _ ?_)
      refine wp_ret ?_
      (try simp only [Exit.then, Exit.inBlock, ↓reduceIte, Nat.reduceEqDiff])
      refine bodyPost_ret (v := (.tuple #[(.slice none 0 0), (.int .i64 11)])) ?_ rfl ?_
      ·exact res_tt rfl rfl rfl
      ·skip
       have hw0 : wrE r = 0 := by unfold wrE; rw [if_neg (by omega), if_neg (by rw [hgone]; simp)]; exact hp
       have hwf := writeF_is hO (next_put hgone)
       rw [if_pos ⟨hgone, h60⟩] at hwf
       have S99 := St.drop S86 (L' := L0) (.cons _ (List.Sublist.refl _))
       rw [wr_none hw0 hwf]
       refine ⟨_, rfl, _, le88, .inr ⟨(by decide : (11 : Int) ≠ 0), rfl, St.dropRow S99 (.cons _ (.refl _))⟩⟩
     ·refine region_wl ?_
      refine do_ rfl (.slice none 0 0) (ex_move _) ?_
      simp only [pS, pN, pA, pC, pZ]
      refine do_ rfl (.pointer (some ⟨n2, 1, none⟩)) (ex_field (q := ⟨n2, 1, none⟩) rfl (fa_27_1 _ _)) ?_
      simp only [pS, pN, pA, pC, pZ]
      refine do_ rfl (.slice x1 r.key.length y1) (ex_load rfl (load1 (nagg_25 _) (St.cell S16 (i := 0) rfl rfl))) ?_
      simp only [pS, pN, pA, pC, pZ]
      refine do_ rfl (.pointer (some ⟨n2, 3, none⟩)) (ex_field (q := ⟨n2, 3, none⟩) rfl (fa_27_3 _ _)) ?_
      simp only [pS, pN, pA, pC, pZ]
      refine do_ rfl (.slice x3 r.value.length y3) (ex_load rfl (load1 (nagg_25 _) (St.cell S16 (i := 0) rfl rfl))) ?_
      simp only [pS, pN, pA, pC, pZ]
      refine do_ rfl (.agg #[(.slice x1 r.key.length y1), (.slice x3 r.value.length y3)]) (ex_build (ps := #[(0, (.slice x1 r.key.length y1)), (1, (.slice x3 r.value.length y3))]) (bmap2 rfl rfl) (by kernel_rfl)) ?_
      simp only [pS, pN, pA, pC, pZ]
      refine stGives S16 rfl (ex_fn (vs := #[(.slice none 0 0), (.agg #[(.slice x1 r.key.length y1), (.slice x3 r.value.length y3)])]) (map2 rfl rfl) rfl (ent_8 _ _)) (putFit_spec _ _ _ _ ([] : List Pr) (r.key, r.value) (S16).sat (Sl.nil _ _ _) ⟨_, _, _, _, rfl, h1, h3⟩ (TreeOk.nil 60) hb1 hb2 hp h60) ?_
      intro v106 w101 F103 S102 le104 R105
      obtain ⟨_, rfl, r109⟩ := R105
      obtain ⟨a107, c108, rfl, h110, h111⟩ := Sl.shape r109
      unfold maxLen at h111
      have h110 : (putT ([] : List Pr) r.key r.value).length ≤ c108 := h110
      have r109 : Prs _ (.slice a107 (putT ([] : List Pr) r.key r.value).length c108) (putT ([] : List Pr) r.key r.value) := r109
      simp only [pS, pN, pA, pC, pZ]
      refine do_ rfl (.tuple #[(.slice a107 (putT ([] : List Pr) r.key r.value).length c108), (.int .i64 0)]) (ex_move _) ?_
      simp only [pS, pN, pA, pC, pZ]
      refine do_ rfl (.slice a107 (putT ([] : List Pr) r.key r.value).length c108) (ex_extract rfl rfl) ?_
      simp only [pS, pN, pA, pC, pZ]
      refine do_ rfl (.int .i64 0) (ex_extract rfl rfl) ?_
      simp only [pS, pN, pA, pC, pZ]
      refine do_ rfl (.slice a107 (putT ([] : List Pr) r.key r.value).length c108) (ex_assign _) ?_
      simp only [pS, pN, pA, pC, pZ]
      refine do_ rfl (.int .i64 0) (ex_assign _) ?_
      simp only [pS, pN, pA, pC, pZ]
      refine wl_nil (hK21 _ _ ?_)
      refine wp_seq_k (fun K112 hK112 => ?_)
      refine wp_block ?_
      refine wp_seq_k (fun K113 hK113 => region_wl ?_)
      refine do_ rfl (.int .i64 0) (ex_move _) ?_
      simp only [pS, pN, pA, pC, pZ]
      refine do_ rfl (.bool false) (ex_neq (b := false) rfl rfl (by decide)) ?_
      simp only [pS, pN, pA, pC, pZ]
      refine do_ rfl (.bool false) (ex_assign _) ?_
      simp only [pS, pN, pA, pC, pZ]
      refine wl_nil (hK113 _ _ ?_)
      refine wp_cond_false rfl ?_
      refine wp_seq_k (fun K114 hK114 => region_wl ?_)
      refine do_ rfl (.bool false) (ex_move _) ?_
      simp only [pS, pN, pA, pC, pZ]
      refine do_ rfl (.bool false) (ex_move _) ?_
      simp only [pS, pN, pA, pC, pZ]
      refine doN (wanted_no rfl rfl rfl (c := false) rfl (by decide)) ?_
      simp only [pS, pN, pA, pC, pZ]
      refine doN (wanted_no rfl rfl rfl (c := false) rfl (by decide)) ?_
      simp only [pS, pN, pA, pC, pZ]
      refine doN (wanted_no rfl rfl rfl (c := false) rfl (by decide)) ?_
      simp only [pS, pN, pA, pC, pZ]
      refine do_ rfl (.bool false) (ex_pick (b := false) rfl) ?_
      simp only [pS, pN, pA, pC, pZ]
      refine do_ rfl (.bool false) (ex_assign _) ?_
      simp only [pS, pN, pA, pC, pZ]
      refine wl_nil (hK114 _ _ ?_)
      refine wp_cond_false rfl ?_
      refine wp_seq_k (fun K115 hK115 => region_wl ?_)
      refine do_ rfl (.bool false) (ex_move _) ?_
      simp only [pS, pN, pA, pC, pZ]
      refine do_ rfl (.bool false) (ex_assign _) ?_
      simp only [pS, pN, pA, pC, pZ]
      refine wl_nil (hK115 _ _ ?_)
      refine wp_cond_false rfl ?_
      refine wp_seq_k (fun K116 hK116 => region_wl ?_)
      refine do_ rfl (.slice a107 (putT ([] : List Pr) r.key r.value).length c108) (ex_move _) ?_
      simp only [pS, pN, pA, pC, pZ]
      refine do_ rfl (.int .i64 (((putT ([] : List Pr) r.key r.value).length : Nat) : Int)) (ex_len Try.underlying23 rfl) ?_
      simp only [pS, pN, pA, pC, pZ]
      by_cases hc85 : (putT ([] : List Pr) r.key r.value).length = 0
      ·refine do_ rfl (.bool true) (ex_eql (m := (((putT ([] : List Pr) r.key r.value).length : Nat) : Int)) (n := (0 : Int)) (b := true) rfl rfl (beq_iff_eq.2 (by omega))) ?_
       simp only [pS, pN, pA, pC, pZ]
       refine do_ rfl (.bool true) (ex_assign _) ?_
       simp only [pS, pN, pA, pC, pZ]
       refine wl_nil (hK116 _ _ ?_)
       refine wp_cond_true rfl ?_
       refine wp_seq_k (fun K117 hK117 => region_wl ?_)
       refine do_ rfl (.slice a l.length c) (ex_move _) ?_
       simp only [pS, pN, pA, pC, pZ]
       refine do_ rfl (.slice a l.length c) (ex_assign _) ?_
       simp only [pS, pN, pA, pC, pZ]
       refine do_ rfl (.int .i64 0) (ex_assign _) ?_
       simp only [pS, pN, pA, pC, pZ]
       refine wl_nil (hK117 _ _ ?_)
       refine wp_ret ?_
       (try simp only [Exit.then, Exit.inBlock, ↓reduceIte, Nat.reduceEqDiff])
       refine bodyPost_ret (v := (.tuple #[(.slice a l.length c), (.int .i64 0)])) ?_ rfl ?_
       ·exact res_tt rfl rfl rfl
       ·skip
        have hw0 : wrE r = 0 := by unfold wrE; rw [if_neg (by omega), if_neg (by rw [hgone]; simp)]; exact hp
        have hwf := writeF_is hO (next_put hgone)
        rw [if_neg (fun h => h60 h.2)] at hwf
        rw [if_pos (nil_len hc85), delF_not hh] at hwf
        have S118 := St.drop S102 (L' := L0) (.cons _ (List.Sublist.refl _))
        rw [wr_some hw0 hwf]
        exact ⟨_, rfl, _, le104, .inl ⟨rfl, S118⟩⟩
      ·refine do_ rfl (.bool false) (ex_eql (m := (((putT ([] : List Pr) r.key r.value).length : Nat) : Int)) (n := (0 : Int)) (b := false) rfl rfl (beq_eq_false_iff_ne.2 (by omega))) ?_
       simp only [pS, pN, pA, pC, pZ]
       refine do_ rfl (.bool false) (ex_assign _) ?_
       simp only [pS, pN, pA, pC, pZ]
       refine wl_nil (hK116 _ _ ?_)
       refine wp_cond_false rfl ?_
       refine wp_seq_k (fun K120 hK120 => region_wl ?_)
       refine do_ rfl (.slice a l.length c) (ex_move _) ?_
       simp only [pS, pN, pA, pC, pZ]
       refine do_ rfl (.int .i64 ((l.length : Nat) : Int)) (ex_len Try.underlying52 rfl) ?_
       simp only [pS, pN, pA, pC, pZ]
       by_cases hc90 : l.length = 8
       ·refine do_ rfl (.bool true) (ex_eql (m := ((l.length : Nat) : Int)) (n := (8 : Int)) (b := true) rfl rfl (beq_iff_eq.2 (by omega))) ?_
        simp only [pS, pN, pA, pC, pZ]
        refine do_ rfl (.bool true) (ex_assign _) ?_
        simp only [pS, pN, pA, pC, pZ]
        refine wl_nil (hK120 _ _ ?_)
        refine wp_cond_true rfl ?_
        refine wp_seq_k (fun K121 hK121 => region_wl ?_)
        refine do_ rfl (.slice none 0 0) (ex_assign _) ?_
        simp only [pS, pN, pA, pC, pZ]
        refine do_ rfl (.int .i64 11) (ex_assign _) ?_
        simp only [pS, pN, pA, pC, pZ]
        refine wl_nil (hK121 _ _ ?_)
        refine wp_ret ?_
        (try simp only [Exit.then, Exit.inBlock, ↓reduceIte, Nat.reduceEqDiff])
        refine bodyPost_ret (v := (.tuple #[(.slice none 0 0), (.int .i64 11)])) ?_ rfl ?_
        ·exact res_tt rfl rfl rfl
        ·skip
         have hw0 : wrE r = 0 := by unfold wrE; rw [if_neg (by omega), if_neg (by rw [hgone]; simp)]; exact hp
         have hwf := writeF_is hO (next_put hgone)
         rw [if_neg (fun h => h60 h.2)] at hwf
         rw [if_neg (not_nil hc85), if_pos (by rw [len_putT, if_neg (by rw [hh]; simp)]; omega)] at hwf
         have S122 := St.drop S102 (L' := L0) (.cons _ (List.Sublist.refl _))
         rw [wr_none hw0 hwf]
         refine ⟨_, rfl, _, le104, .inr ⟨(by decide : (11 : Int) ≠ 0), rfl, St.dropRow S122 (.cons _ (.refl _))⟩⟩
       ·refine do_ rfl (.bool false) (ex_eql (m := ((l.length : Nat) : Int)) (n := (8 : Int)) (b := false) rfl rfl (beq_eq_false_iff_ne.2 (by omega))) ?_
        simp only [pS, pN, pA, pC, pZ]
        refine do_ rfl (.bool false) (ex_assign _) ?_
        simp only [pS, pN, pA, pC, pZ]
        refine wl_nil (hK120 _ _ ?_)
        refine wp_cond_false rfl ?_
        refine wp_skip ?_
        refine hK112 _ _ ?_
        refine wp_seq_k (fun K124 hK124 => region_wl ?_)
        refine do_ rfl (.slice a l.length c) (ex_move _) ?_
        simp only [pS, pN, pA, pC, pZ]
        refine do_ rfl (.int .i64 (((posT l r.name) : Nat) : Int)) (ex_move _) ?_
        simp only [pS, pN, pA, pC, pZ]
        refine do_ rfl (.pointer (some ⟨n2, 0, none⟩)) (ex_field (q := ⟨n2, 0, none⟩) rfl (fa_27_0 _ _)) ?_
        simp only [pS, pN, pA, pC, pZ]
        refine do_ rfl (.slice x0 r.name.length y0) (ex_load rfl (load1 (nagg_25 _) (St.cell S102 (i := 0) rfl rfl))) ?_
        simp only [pS, pN, pA, pC, pZ]
        refine stGives S102 rfl (ex_fn (vs := #[(.slice x0 r.name.length y0)]) (map1 rfl) rfl (ent_30 _ _)) (clone_spec _ _ _ r.name (S102).sat (h0.mono le104) (by omega)) ?_
        intro v130 w125 F127 S126 le128 R129
        obtain ⟨xa131, xc132, rfl, _⟩ := R129.shape
        simp only [pS, pN, pA, pC, pZ]
        refine do_ rfl (.slice a107 (putT ([] : List Pr) r.key r.value).length c108) (ex_move _) ?_
        simp only [pS, pN, pA, pC, pZ]
        refine do_ rfl (.agg #[(.slice xa131 r.name.length xc132), (.slice a107 (putT ([] : List Pr) r.key r.value).length c108)]) (ex_build (ps := #[(0, (.slice xa131 r.name.length xc132)), (1, (.slice a107 (putT ([] : List Pr) r.key r.value).length c108))]) (bmap2 rfl rfl) (by kernel_rfl)) ?_
        simp only [pS, pN, pA, pC, pZ]
        refine stNew S126 (v := fun n => .slice (some ⟨n, 0, none⟩) 1 1) rfl (ex_lit (ps := #[(0, (.agg #[(.slice xa131 r.name.length xc132), (.slice a107 (putT ([] : List Pr) r.key r.value).length c108)]))]) (cells := #[(.slice xa131 r.name.length xc132), (.slice a107 (putT ([] : List Pr) r.key r.value).length c108)]) (E := 80) (bmap1 rfl) (fun w => by kernel_rfl)) (fun n133 w134 S135 => ?_)
        simp only [pS, pN, pA, pC, pZ]
        have S135 : St w0 F0 w134 F127 (⟨n133, [(.slice xa131 r.name.length xc132), (.slice a107 (putT ([] : List Pr) r.key r.value).length c108)], 80⟩ :: ⟨n2, [(.slice x0 r.name.length y0), (.slice x1 r.key.length y1), (.bool r.gone), (.slice x3 r.value.length y3)], 27⟩ :: L0) (ownP 2 TnC TnC.mono 80 w0.heap.size (.slice a l.length c) l :: M0) := S135
        refine stOwn (L := (⟨n2, [(.slice x0 r.name.length y0), (.slice x1 r.key.length y1), (.bool r.gone), (.slice x3 r.value.length y3)], 27⟩ :: L0)) (M := fun v_ => (ownP 2 TnC TnC.mono 80 w0.heap.size v_ (l.take (posT l r.name) ++ (r.name, (putT ([] : List Pr) r.key r.value)) :: l.drop (posT l r.name)) :: M0)) rfl (ex_fn (vs := #[(.slice a l.length c), (.int .i64 (((posT l r.name) : Nat) : Int)), (.slice (some ⟨n133, 0, none⟩) 1 1)]) (map3 rfl rfl rfl) rfl (ent_54 _ _)) (insertTenant (p := (r.name, (putT ([] : List Pr) r.key r.value))) TnC.one S135 rfl ⟨_, _, rfl, R129, (r109.mono le128)⟩ (by omega) hpl) ?_
        intro v136 w137 S138
        simp only [pS, pN, pA, pC, pZ]
        have S138 : St w0 F0 w137 F127 (⟨n2, [(.slice x0 r.name.length y0), (.slice x1 r.key.length y1), (.bool r.gone), (.slice x3 r.value.length y3)], 27⟩ :: L0) (ownP 2 TnC TnC.mono 80 w0.heap.size v136 (l.take (posT l r.name) ++ (r.name, (putT ([] : List Pr) r.key r.value)) :: l.drop (posT l r.name)) :: M0) := S138
        refine do_ rfl v136 (ex_assign _) ?_
        simp only [pS, pN, pA, pC, pZ]
        refine do_ rfl (.int .i64 0) (ex_assign _) ?_
        simp only [pS, pN, pA, pC, pZ]
        refine wl_nil (hK124 _ _ ?_)
        refine wp_ret ?_
        (try simp only [Exit.then, Exit.inBlock, ↓reduceIte, Nat.reduceEqDiff])
        refine bodyPost_ret (v := (.tuple #[v136, (.int .i64 0)])) ?_ rfl ?_
        ·exact res_tt rfl rfl rfl
        ·skip
         have hw0 : wrE r = 0 := by unfold wrE; rw [if_neg (by omega), if_neg (by rw [hgone]; simp)]; exact hp
         have hwf := writeF_is hO (next_put hgone)
         rw [if_neg (fun h => h60 h.2)] at hwf
         rw [if_neg (not_nil hc85), if_neg (by rw [len_putT, if_neg (by rw [hh]; simp)]; omega), putF_new hh] at hwf
         have S139 := St.drop S138 (L' := L0) (.cons _ (List.Sublist.refl _))
         rw [wr_some hw0 hwf]
         exact ⟨_, rfl, _, (le104.trans le128), .inl ⟨rfl, S139⟩⟩
    ·refine region_wl ?_
     refine do_ rfl (.slice none 0 0) (ex_move _) ?_
     simp only [pS, pN, pA, pC, pZ]
     refine do_ rfl (.pointer (some ⟨n2, 1, none⟩)) (ex_field (q := ⟨n2, 1, none⟩) rfl (fa_27_1 _ _)) ?_
     simp only [pS, pN, pA, pC, pZ]
     refine do_ rfl (.slice x1 r.key.length y1) (ex_load rfl (load1 (nagg_25 _) (St.cell S16 (i := 0) rfl rfl))) ?_
     simp only [pS, pN, pA, pC, pZ]
     refine do_ rfl (.pointer (some ⟨n2, 3, none⟩)) (ex_field (q := ⟨n2, 3, none⟩) rfl (fa_27_3 _ _)) ?_
     simp only [pS, pN, pA, pC, pZ]
     refine do_ rfl (.slice x3 r.value.length y3) (ex_load rfl (load1 (nagg_25 _) (St.cell S16 (i := 0) rfl rfl))) ?_
     simp only [pS, pN, pA, pC, pZ]
     refine do_ rfl (.agg #[(.slice x1 r.key.length y1), (.slice x3 r.value.length y3)]) (ex_build (ps := #[(0, (.slice x1 r.key.length y1)), (1, (.slice x3 r.value.length y3))]) (bmap2 rfl rfl) (by kernel_rfl)) ?_
     simp only [pS, pN, pA, pC, pZ]
     refine stGives S16 rfl (ex_fn (vs := #[(.slice none 0 0), (.agg #[(.slice x1 r.key.length y1), (.slice x3 r.value.length y3)])]) (map2 rfl rfl) rfl (ent_8 _ _)) (putBad_spec _ _ _ _ ([] : List Pr) (r.key, r.value) (S16).sat (Sl.nil _ _ _) ⟨_, _, _, _, rfl, h1, h3⟩ (TreeOk.nil 60) hb1 hb2 hp) ?_
     intro v146 w141 F143 S142 le144 R145
     obtain ⟨_, rfl, r149⟩ := R145
     obtain ⟨a147, c148, rfl, _⟩ := Sl.shape r149
     simp only [pS, pN, pA, pC, pZ]
     refine do_ rfl (.tuple #[(.slice a147 ([] : List Pr).length c148), (.int .i64 (pairE (r.key, r.value)))]) (ex_move _) ?_
     simp only [pS, pN, pA, pC, pZ]
     refine do_ rfl (.slice a147 ([] : List Pr).length c148) (ex_extract rfl rfl) ?_
     simp only [pS, pN, pA, pC, pZ]
     refine do_ rfl (.int .i64 (pairE (r.key, r.value))) (ex_extract rfl rfl) ?_
     simp only [pS, pN, pA, pC, pZ]
     refine do_ rfl (.slice a147 ([] : List Pr).length c148) (ex_assign _) ?_
     simp only [pS, pN, pA, pC, pZ]
     refine do_ rfl (.int .i64 (pairE (r.key, r.value))) (ex_assign _) ?_
     simp only [pS, pN, pA, pC, pZ]
     refine wl_nil (hK21 _ _ ?_)
     refine wp_seq_k (fun K150 hK150 => ?_)
     refine wp_block ?_
     refine wp_seq_k (fun K151 hK151 => region_wl ?_)
     refine do_ rfl (.int .i64 (pairE (r.key, r.value))) (ex_move _) ?_
     simp only [pS, pN, pA, pC, pZ]
     refine do_ rfl (.bool true) (ex_neq (m := (pairE (r.key, r.value))) (n := (0 : Int)) (b := true) rfl rfl (bne_iff_ne.2 (hp))) ?_
     simp only [pS, pN, pA, pC, pZ]
     refine do_ rfl (.bool true) (ex_assign _) ?_
     simp only [pS, pN, pA, pC, pZ]
     refine wl_nil (hK151 _ _ ?_)
     refine wp_cond_true rfl ?_
     refine wp_seq_k (fun K152 hK152 => region_wl ?_)
     refine do_ rfl (.int .i64 (pairE (r.key, r.value))) (ex_move _) ?_
     simp only [pS, pN, pA, pC, pZ]
     refine do_ rfl (.slice none 0 0) (ex_assign _) ?_
     simp only [pS, pN, pA, pC, pZ]
     refine do_ rfl (.int .i64 (pairE (r.key, r.value))) (ex_assign _) ?_
     simp only [pS, pN, pA, pC, pZ]
     refine wl_nil (hK152 _ _ ?_)
     refine wp_ret ?_
     (try simp only [Exit.then, Exit.inBlock, ↓reduceIte, Nat.reduceEqDiff])
     refine bodyPost_ret (v := (.tuple #[(.slice none 0 0), (.int .i64 (pairE (r.key, r.value)))])) ?_ rfl ?_
     ·exact res_tt rfl rfl rfl
     ·skip
      have hwe : wrE r = pairE (r.key, r.value) := by unfold wrE; rw [if_neg (by omega), if_neg (by rw [hgone]; simp)]
      have hne : wrE r ≠ 0 := by rw [hwe]; exact hp
      have S153 := St.drop S142 (L' := L0) (.cons _ (List.Sublist.refl _))
      rw [wr_bad hne]
      refine ⟨_, by rw [hwe], _, le144, .inr ⟨hne, rfl, St.dropRow S153 (.cons _ (.refl _))⟩⟩
  | true =>
   have hpos := hasF_pos ok.rise hh
   obtain ⟨t, ht⟩ : ∃ t, l[posT l r.name]? = some t := ⟨l[posT l r.name], List.getElem?_eq_getElem hpos⟩
   have hO := treeF_has ok.rise hh ht
   have htn : t.1 = r.name := by obtain ⟨_, h2⟩ := (hasBy_at ok.rise).1 hh; obtain ⟨_, rfl⟩ := List.getElem?_eq_some_iff.1 ht; exact h2
   obtain ⟨g155, rfl⟩ := Own.addr0 (S8.own (i := 0) rfl) (by omega)
   refine region_wl ?_
   refine do_ rfl (.slice (some ⟨g155, 0, none⟩) l.length c) (ex_move _) ?_
   simp only [pS, pN, pA, pC, pZ]
   refine do_ rfl (.pointer (some ⟨n2, 0, none⟩)) (ex_field (q := ⟨n2, 0, none⟩) rfl (fa_27_0 _ _)) ?_
   simp only [pS, pN, pA, pC, pZ]
   refine do_ rfl (.slice x0 r.name.length y0) (ex_load rfl (load1 (nagg_25 _) (St.cell S8 (i := 0) rfl rfl))) ?_
   simp only [pS, pN, pA, pC, pZ]
   obtain ⟨F156, hs157, le158, hsl159⟩ := own_peek S8 (i := 0) rfl
   refine stTells (v := (.tuple #[(.int .i64 (((posT l r.name) : Nat) : Int)), (.bool true)])) S8 rfl (ex_fn (vs := #[(.slice (some ⟨g155, 0, none⟩) l.length c), (.slice x0 r.name.length y0)]) (map2 rfl rfl) rfl (ent_52 _ _)) (find_is hs157 hsl159 (h0.mono le158) ok.rise (by omega) hh) (fun w160 S161 => ?_)
   simp only [pS, pN, pA, pC, pZ]
   refine do_ rfl (.tuple #[(.int .i64 (((posT l r.name) : Nat) : Int)), (.bool true)]) (ex_move _) ?_
   simp only [pS, pN, pA, pC, pZ]
   refine do_ rfl (.int .i64 (((posT l r.name) : Nat) : Int)) (ex_extract rfl rfl) ?_
   simp only [pS, pN, pA, pC, pZ]
   refine do_ rfl (.bool true) (ex_extract rfl rfl) ?_
   simp only [pS, pN, pA, pC, pZ]
   refine do_ rfl (.int .i64 (((posT l r.name) : Nat) : Int)) (ex_assign _) ?_
   simp only [pS, pN, pA, pC, pZ]
   refine do_ rfl (.bool true) (ex_assign _) ?_
   simp only [pS, pN, pA, pC, pZ]
   refine wl_nil (hK10 _ _ ?_)
   refine wp_seq_k (fun K162 hK162 => region_wl ?_)
   refine do_ rfl (.slice none 0 0) (ex_assign _) ?_
   simp only [pS, pN, pA, pC, pZ]
   refine do_ rfl (.slice none 0 0) (ex_assign _) ?_
   simp only [pS, pN, pA, pC, pZ]
   refine wl_nil (hK162 _ _ ?_)
   refine wp_seq_k (fun K163 hK163 => ?_)
   refine wp_seq_k (fun K164 hK164 => region_wl ?_)
   refine do_ rfl (.bool true) (ex_move _) ?_
   simp only [pS, pN, pA, pC, pZ]
   refine wl_nil (hK164 _ _ ?_)
   refine wp_cond_true rfl ?_
   obtain ⟨g165, ha166, xa168, xc169, xa172, xc173, c167, c171, r170, r174⟩ := tn_at (S161.own (i := 0) rfl) ht
   injection ha166 with ha166; injection ha166 with ha166; subst ha166
   refine region_wl ?_
   refine do_ rfl (.slice (some ⟨g155, 0, none⟩) l.length c) (ex_move _) ?_
   simp only [pS, pN, pA, pC, pZ]
   refine do_ rfl (.int .i64 (((posT l r.name) : Nat) : Int)) (ex_move _) ?_
   simp only [pS, pN, pA, pC, pZ]
   refine do_ rfl (.pointer (some ⟨g155, 0 + (posT l r.name) * 2, none⟩)) (ex_at (i := (posT l r.name)) (sz := 2) Try.underlying52 (sizeof_80 _) rfl rfl rfl (hpos) rfl) ?_
   simp only [pS, pN, pA, pC, pZ]
   refine do_ rfl (.pointer (some ⟨g155, 0 + (posT l r.name) * 2 + 1, none⟩)) (ex_field (q := ⟨g155, 0 + (posT l r.name) * 2 + 1, none⟩) rfl (fa_80_1 _ _)) ?_
   simp only [pS, pN, pA, pC, pZ]
   refine do_ rfl (.slice xa172 t.2.length xc173) (ex_load rfl (load1 (nagg_23 _) c171)) ?_
   simp only [pS, pN, pA, pC, pZ]
   refine do_ rfl (.slice xa172 t.2.length xc173) (ex_assign _) ?_
   simp only [pS, pN, pA, pC, pZ]
   refine wl_nil (hK163 _ _ ?_)
   refine wp_seq_k (fun K175 hK175 => region_wl ?_)
   refine do_ rfl (.int .i64 0) (ex_assign _) ?_
   simp only [pS, pN, pA, pC, pZ]
   refine wl_nil (hK175 _ _ ?_)
   refine wp_seq_k (fun K176 hK176 => ?_)
   refine wp_seq_k (fun K177 hK177 => region_wl ?_)
   refine do_ rfl (.pointer (some ⟨n2, 2, none⟩)) (ex_field (q := ⟨n2, 2, none⟩) rfl (fa_27_2 _ _)) ?_
   simp only [pS, pN, pA, pC, pZ]
   refine do_ rfl (.bool r.gone) (ex_load rfl (load1 (nagg_4 _) (St.cell S161 (i := 0) rfl rfl))) ?_
   simp only [pS, pN, pA, pC, pZ]
   refine wl_nil (hK177 _ _ ?_)
   refine wp_cond_split rfl (fun hgone => ?_) (fun hgone => ?_)
   ·refine wp_seq_k (fun K178 hK178 => ?_)
    by_cases hk : checkN r.key.length = 0
    ·refine region_wl ?_
     refine do_ rfl (.slice xa172 t.2.length xc173) (ex_move _) ?_
     simp only [pS, pN, pA, pC, pZ]
     refine do_ rfl (.pointer (some ⟨n2, 1, none⟩)) (ex_field (q := ⟨n2, 1, none⟩) rfl (fa_27_1 _ _)) ?_
     simp only [pS, pN, pA, pC, pZ]
     refine do_ rfl (.slice x1 r.key.length y1) (ex_load rfl (load1 (nagg_25 _) (St.cell S161 (i := 0) rfl rfl))) ?_
     simp only [pS, pN, pA, pC, pZ]
     refine stGives S161 rfl (ex_fn (vs := #[(.slice xa172 t.2.length xc173), (.slice x1 r.key.length y1)]) (map2 rfl rfl) rfl (ent_7 _ _)) (delOk_spec _ _ _ _ t.2 r.key (S161).sat r174 h1 (show TreeOk 60 t.2 from ok.tree t (List.mem_of_getElem? ht)) (checkN_zero.1 hk)) ?_
     intro v184 w179 F181 S180 le182 R183
     obtain ⟨_, rfl, r187⟩ := R183
     obtain ⟨a185, c186, rfl, h188, h189⟩ := Sl.shape r187
     unfold maxLen at h189
     have h188 : (delT t.2 r.key).length ≤ c186 := h188
     have r187 : Prs _ (.slice a185 (delT t.2 r.key).length c186) (delT t.2 r.key) := r187
     simp only [pS, pN, pA, pC, pZ]
     refine do_ rfl (.tuple #[(.slice a185 (delT t.2 r.key).length c186), (.int .i64 0)]) (ex_move _) ?_
     simp only [pS, pN, pA, pC, pZ]
     refine do_ rfl (.slice a185 (delT t.2 r.key).length c186) (ex_extract rfl rfl) ?_
     simp only [pS, pN, pA, pC, pZ]
     refine do_ rfl (.int .i64 0) (ex_extract rfl rfl) ?_
     simp only [pS, pN, pA, pC, pZ]
     refine do_ rfl (.slice a185 (delT t.2 r.key).length c186) (ex_assign _) ?_
     simp only [pS, pN, pA, pC, pZ]
     refine do_ rfl (.int .i64 0) (ex_assign _) ?_
     simp only [pS, pN, pA, pC, pZ]
     refine wl_nil (hK178 _ _ ?_)
     refine wp_seq_k (fun K190 hK190 => region_wl ?_)
     refine do_ rfl (.int .i64 0) (ex_move _) ?_
     simp only [pS, pN, pA, pC, pZ]
     refine do_ rfl (.bool true) (ex_eql (b := true) rfl rfl (by decide)) ?_
     simp only [pS, pN, pA, pC, pZ]
     refine do_ rfl (.bool true) (ex_move _) ?_
     simp only [pS, pN, pA, pC, pZ]
     refine do_ rfl (.pointer (some ⟨n2, 3, none⟩)) (ex_field (q := ⟨n2, 3, none⟩) rfl (fa_27_3 _ _)) ?_
     simp only [pS, pN, pA, pC, pZ]
     refine do_ rfl (.slice x3 r.value.length y3) (ex_load rfl (load1 (nagg_25 _) (St.cell S180 (i := 0) rfl rfl))) ?_
     simp only [pS, pN, pA, pC, pZ]
     refine do_ rfl (.int .i64 ((r.value.length : Nat) : Int)) (ex_len Try.underlying25 rfl) ?_
     simp only [pS, pN, pA, pC, pZ]
     by_cases hc46 : 0 < r.value.length
     ·refine do_ rfl (.bool true) (ex_gtr (m := ((r.value.length : Nat) : Int)) (n := (0 : Int)) (b := true) rfl rfl (decide_eq_true (by omega))) ?_
      simp only [pS, pN, pA, pC, pZ]
      refine do_ rfl (.bool true) (ex_pick (b := true) rfl) ?_
      simp only [pS, pN, pA, pC, pZ]
      refine wl_nil (hK190 _ _ ?_)
      refine wp_cond_true rfl ?_
      refine region_wl ?_
      refine do_ rfl (.int .i64 4) (ex_assign _) ?_
      simp only [pS, pN, pA, pC, pZ]
      refine wl_nil (hK176 _ _ ?_)
      refine wp_seq_k (fun K191 hK191 => ?_)
      refine wp_block ?_
      refine wp_seq_k (fun K192 hK192 => region_wl ?_)
      refine do_ rfl (.int .i64 4) (ex_move _) ?_
      simp only [pS, pN, pA, pC, pZ]
      refine do_ rfl (.bool true) (ex_neq (b := true) rfl rfl (by decide)) ?_
      simp only [pS, pN, pA, pC, pZ]
      refine do_ rfl (.bool true) (ex_assign _) ?_
      simp only [pS, pN, pA, pC, pZ]
      refine wl_nil (hK192 _ _ ?_)
      refine wp_cond_true rfl ?_
      refine wp_seq_k (fun K193 hK193 => region_wl ?_)
      refine do_ rfl (.int .i64 4) (ex_move _) ?_
      simp only [pS, pN, pA, pC, pZ]
      refine do_ rfl (.slice none 0 0) (ex_assign _) ?_
      simp only [pS, pN, pA, pC, pZ]
      refine do_ rfl (.int .i64 4) (ex_assign _) ?_
      simp only [pS, pN, pA, pC, pZ]
      refine wl_nil (hK193 _ _ ?_)
      refine wp_ret ?_
      (try simp only [Exit.then, Exit.inBlock, ↓reduceIte, Nat.reduceEqDiff])
      refine bodyPost_ret (v := (.tuple #[(.slice none 0 0), (.int .i64 4)])) ?_ rfl ?_
      ·exact res_tt rfl rfl rfl
      ·skip
       have hwe : wrE r = 4 := by unfold wrE; rw [if_neg (by omega), if_pos hgone, if_neg (by omega), if_pos (by omega)]
       have hne : wrE r ≠ 0 := by rw [hwe]; decide
       have S194 := St.drop S180 (L' := L0) (.cons _ (List.Sublist.refl _))
       rw [wr_bad hne]
       refine ⟨_, by rw [hwe], _, le182, .inr ⟨hne, rfl, St.dropRow S194 (.cons _ (.refl _))⟩⟩
     ·refine do_ rfl (.bool false) (ex_gtr (m := ((r.value.length : Nat) : Int)) (n := (0 : Int)) (b := false) rfl rfl (decide_eq_false (by omega))) ?_
      simp only [pS, pN, pA, pC, pZ]
      refine do_ rfl (.bool false) (ex_pick (b := true) rfl) ?_
      simp only [pS, pN, pA, pC, pZ]
      refine wl_nil (hK190 _ _ ?_)
      refine wp_cond_false rfl ?_
      refine wp_skip ?_
      refine hK176 _ _ ?_
      refine wp_seq_k (fun K196 hK196 => ?_)
      refine wp_block ?_
      refine wp_seq_k (fun K197 hK197 => region_wl ?_)
      refine do_ rfl (.int .i64 0) (ex_move _) ?_
      simp only [pS, pN, pA, pC, pZ]
      refine do_ rfl (.bool false) (ex_neq (b := false) rfl rfl (by decide)) ?_
      simp only [pS, pN, pA, pC, pZ]
      refine do_ rfl (.bool false) (ex_assign _) ?_
      simp only [pS, pN, pA, pC, pZ]
      refine wl_nil (hK197 _ _ ?_)
      refine wp_cond_false rfl ?_
      refine wp_seq_k (fun K198 hK198 => region_wl ?_)
      refine do_ rfl (.bool true) (ex_move _) ?_
      simp only [pS, pN, pA, pC, pZ]
      refine do_ rfl (.bool true) (ex_move _) ?_
      simp only [pS, pN, pA, pC, pZ]
      refine do_ rfl (.slice a185 (delT t.2 r.key).length c186) (ex_move _) ?_
      simp only [pS, pN, pA, pC, pZ]
      refine do_ rfl (.int .i64 (((delT t.2 r.key).length : Nat) : Int)) (ex_len Try.underlying23 rfl) ?_
      simp only [pS, pN, pA, pC, pZ]
      by_cases hc67 : (delT t.2 r.key).length = 0
      ·refine do_ rfl (.bool true) (ex_eql (m := (((delT t.2 r.key).length : Nat) : Int)) (n := (0 : Int)) (b := true) rfl rfl (beq_iff_eq.2 (by omega))) ?_
       simp only [pS, pN, pA, pC, pZ]
       refine do_ rfl (.bool true) (ex_pick (b := true) rfl) ?_
       simp only [pS, pN, pA, pC, pZ]
       refine do_ rfl (.bool true) (ex_assign _) ?_
       simp only [pS, pN, pA, pC, pZ]
       refine wl_nil (hK198 _ _ ?_)
       refine wp_cond_true rfl ?_
       refine wp_seq_k (fun K199 hK199 => region_wl ?_)
       refine do_ rfl (.slice (some ⟨g155, 0, none⟩) l.length c) (ex_move _) ?_
       simp only [pS, pN, pA, pC, pZ]
       refine do_ rfl (.int .i64 (((posT l r.name) : Nat) : Int)) (ex_move _) ?_
       simp only [pS, pN, pA, pC, pZ]
       refine do_ rfl (.int .i64 (((posT l r.name) : Nat) : Int)) (ex_move _) ?_
       simp only [pS, pN, pA, pC, pZ]
       refine do_ rfl (.int .i64 ((((posT l r.name) + 1) : Nat) : Int)) (ex_add (m := (((posT l r.name) : Nat) : Int)) (n := (1 : Int)) (r := ((((posT l r.name) + 1) : Nat) : Int)) rfl rfl (by omega) (by omega) (by omega)) ?_
       simp only [pS, pN, pA, pC, pZ]
       refine stOwn (L := (⟨n2, [(.slice x0 r.name.length y0), (.slice x1 r.key.length y1), (.bool r.gone), (.slice x3 r.value.length y3)], 27⟩ :: L0)) (M := fun v_ => (ownP 2 TnC TnC.mono 80 w0.heap.size v_ (l.take (posT l r.name) ++ l.drop ((posT l r.name) + 1)) :: M0)) rfl (ex_fn (vs := #[(.slice (some ⟨g155, 0, none⟩) l.length c), (.int .i64 (((posT l r.name) : Nat) : Int)), (.int .i64 ((((posT l r.name) + 1) : Nat) : Int))]) (map3 rfl rfl rfl) rfl (ent_53 _ _)) (deleteTenant TnC.one S180 (by omega) hpos) ?_
       intro v200 w201 S202
       simp only [pS, pN, pA, pC, pZ]
       have S202 : St w0 F0 w201 F181 (⟨n2, [(.slice x0 r.name.length y0), (.slice x1 r.key.length y1), (.bool r.gone), (.slice x3 r.value.length y3)], 27⟩ :: L0) (ownP 2 TnC TnC.mono 80 w0.heap.size v200 (l.take (posT l r.name) ++ l.drop ((posT l r.name) + 1)) :: M0) := S202
       refine do_ rfl v200 (ex_assign _) ?_
       simp only [pS, pN, pA, pC, pZ]
       refine do_ rfl (.int .i64 0) (ex_assign _) ?_
       simp only [pS, pN, pA, pC, pZ]
       refine wl_nil (hK199 _ _ ?_)
       refine wp_ret ?_
       (try simp only [Exit.then, Exit.inBlock, ↓reduceIte, Nat.reduceEqDiff])
       refine bodyPost_ret (v := (.tuple #[v200, (.int .i64 0)])) ?_ rfl ?_
       ·exact res_tt rfl rfl rfl
       ·skip
        have hw0 : wrE r = 0 := by unfold wrE; rw [if_neg (by omega), if_pos hgone, if_neg (by omega), if_neg (by omega)]
        have hwf := writeF_is hO (next_gone hgone)
        rw [if_neg (fun h => by rw [hgone] at h; simp at h)] at hwf
        rw [if_pos (nil_len hc67), delF_has hh] at hwf
        have S203 := St.drop S202 (L' := L0) (.cons _ (List.Sublist.refl _))
        rw [wr_some hw0 hwf]
        exact ⟨_, rfl, _, le182, .inl ⟨rfl, S203⟩⟩
      ·refine do_ rfl (.bool false) (ex_eql (m := (((delT t.2 r.key).length : Nat) : Int)) (n := (0 : Int)) (b := false) rfl rfl (beq_eq_false_iff_ne.2 (by omega))) ?_
       simp only [pS, pN, pA, pC, pZ]
       refine do_ rfl (.bool false) (ex_pick (b := true) rfl) ?_
       simp only [pS, pN, pA, pC, pZ]
       refine do_ rfl (.bool false) (ex_assign _) ?_
       simp only [pS, pN, pA, pC, pZ]
       refine wl_nil (hK198 _ _ ?_)
       refine wp_cond_false rfl ?_
       refine wp_seq_k (fun K205 hK205 => region_wl ?_)
       refine do_ rfl (.bool true) (ex_move _) ?_
       simp only [pS, pN, pA, pC, pZ]
       refine do_ rfl (.bool true) (ex_assign _) ?_
       simp only [pS, pN, pA, pC, pZ]
       refine wl_nil (hK205 _ _ ?_)
       refine wp_cond_true rfl ?_
       refine wp_seq_k (fun K206 hK206 => region_wl ?_)
       refine do_ rfl (.slice (some ⟨g155, 0, none⟩) l.length c) (ex_move _) ?_
       simp only [pS, pN, pA, pC, pZ]
       refine do_ rfl (.int .i64 (((posT l r.name) : Nat) : Int)) (ex_move _) ?_
       simp only [pS, pN, pA, pC, pZ]
       refine do_ rfl (.slice a185 (delT t.2 r.key).length c186) (ex_move _) ?_
       simp only [pS, pN, pA, pC, pZ]
       refine do_ rfl (.pointer (some ⟨g155, 0 + (posT l r.name) * 2, none⟩)) (ex_at (i := (posT l r.name)) (sz := 2) Try.underlying52 (sizeof_80 _) rfl rfl rfl (hpos) rfl) ?_
       simp only [pS, pN, pA, pC, pZ]
       refine do_ rfl (.pointer (some ⟨g155, 0 + (posT l r.name) * 2 + 1, none⟩)) (ex_field (q := ⟨g155, 0 + (posT l r.name) * 2 + 1, none⟩) rfl (fa_80_1 _ _)) ?_
       simp only [pS, pN, pA, pC, pZ]
       refine stSetCell (r := 0) (i := (posT l r.name)) (j := 1) (p := (r.name, (delT t.2 r.key))) (u := (.slice a185 (delT t.2 r.key).length c186)) S180 rfl rfl (by omega) (by decide) rfl rfl (by omega) (size_23) rfl rfl (fun cs q hq hR => ?_) (Nat.le_refl _) (fun w207 S208 => ?_)
       ·obtain ⟨x, y, rfl, hx, hy⟩ := hR
        obtain rfl : q = t := by rw [hq] at ht; exact Option.some.inj ht
        exact ⟨_, _, rfl, by rw [← htn]; exact hx, r187⟩
       simp only [pS, pN, pA, pC, pZ]
       have S208 : St w0 F0 w207 F181 (⟨n2, [(.slice x0 r.name.length y0), (.slice x1 r.key.length y1), (.bool r.gone), (.slice x3 r.value.length y3)], 27⟩ :: L0) (ownP 2 TnC TnC.mono 80 w0.heap.size (.slice (some ⟨g155, 0, none⟩) l.length c) (l.set (posT l r.name) (r.name, (delT t.2 r.key))) :: M0) := S208
       refine wl_nil (hK206 _ _ ?_)
       refine wp_seq_k (fun K209 hK209 => region_wl ?_)
       refine do_ rfl (.slice (some ⟨g155, 0, none⟩) l.length c) (ex_move _) ?_
       simp only [pS, pN, pA, pC, pZ]
       refine do_ rfl (.slice (some ⟨g155, 0, none⟩) l.length c) (ex_assign _) ?_
       simp only [pS, pN, pA, pC, pZ]
       refine do_ rfl (.int .i64 0) (ex_assign _) ?_
       simp only [pS, pN, pA, pC, pZ]
       refine wl_nil (hK209 _ _ ?_)
       refine wp_ret ?_
       (try simp only [Exit.then, Exit.inBlock, ↓reduceIte, Nat.reduceEqDiff])
       refine bodyPost_ret (v := (.tuple #[(.slice (some ⟨g155, 0, none⟩) l.length c), (.int .i64 0)])) ?_ rfl ?_
       ·exact res_tt rfl rfl rfl
       ·skip
        have hw0 : wrE r = 0 := by unfold wrE; rw [if_neg (by omega), if_pos hgone, if_neg (by omega), if_neg (by omega)]
        have hwf := writeF_is hO (next_gone hgone)
        rw [if_neg (fun h => by rw [hgone] at h; simp at h)] at hwf
        rw [if_neg (not_nil hc67), if_neg (by rw [len_putT, if_pos hh]; omega), putF_set ok.rise hh] at hwf
        have S210 := St.drop S208 (L' := L0) (.cons _ (List.Sublist.refl _))
        rw [wr_some hw0 hwf]
        exact ⟨_, rfl, _, le182, .inl ⟨rfl, S210⟩⟩
    ·refine region_wl ?_
     refine do_ rfl (.slice xa172 t.2.length xc173) (ex_move _) ?_
     simp only [pS, pN, pA, pC, pZ]
     refine do_ rfl (.pointer (some ⟨n2, 1, none⟩)) (ex_field (q := ⟨n2, 1, none⟩) rfl (fa_27_1 _ _)) ?_
     simp only [pS, pN, pA, pC, pZ]
     refine do_ rfl (.slice x1 r.key.length y1) (ex_load rfl (load1 (nagg_25 _) (St.cell S161 (i := 0) rfl rfl))) ?_
     simp only [pS, pN, pA, pC, pZ]
     refine stGives S161 rfl (ex_fn (vs := #[(.slice xa172 t.2.length xc173), (.slice x1 r.key.length y1)]) (map2 rfl rfl) rfl (ent_7 _ _)) (delBad_spec _ _ _ _ t.2 r.key (S161).sat r174 h1 (show TreeOk 60 t.2 from ok.tree t (List.mem_of_getElem? ht)) hk) ?_
     intro v217 w212 F214 S213 le215 R216
     obtain ⟨_, rfl, r220⟩ := R216
     obtain ⟨a218, c219, rfl, _⟩ := Sl.shape r220
     simp only [pS, pN, pA, pC, pZ]
     refine do_ rfl (.tuple #[(.slice a218 ([] : List Pr).length c219), (.int .i64 (checkN r.key.length))]) (ex_move _) ?_
     simp only [pS, pN, pA, pC, pZ]
     refine do_ rfl (.slice a218 ([] : List Pr).length c219) (ex_extract rfl rfl) ?_
     simp only [pS, pN, pA, pC, pZ]
     refine do_ rfl (.int .i64 (checkN r.key.length)) (ex_extract rfl rfl) ?_
     simp only [pS, pN, pA, pC, pZ]
     refine do_ rfl (.slice a218 ([] : List Pr).length c219) (ex_assign _) ?_
     simp only [pS, pN, pA, pC, pZ]
     refine do_ rfl (.int .i64 (checkN r.key.length)) (ex_assign _) ?_
     simp only [pS, pN, pA, pC, pZ]
     refine wl_nil (hK178 _ _ ?_)
     refine wp_seq_k (fun K221 hK221 => region_wl ?_)
     refine do_ rfl (.int .i64 (checkN r.key.length)) (ex_move _) ?_
     simp only [pS, pN, pA, pC, pZ]
     refine do_ rfl (.bool false) (ex_eql (m := (checkN r.key.length)) (n := (0 : Int)) (b := false) rfl rfl (beq_eq_false_iff_ne.2 (hk))) ?_
     simp only [pS, pN, pA, pC, pZ]
     refine do_ rfl (.bool false) (ex_move _) ?_
     simp only [pS, pN, pA, pC, pZ]
     refine doN (wanted_no rfl rfl rfl (c := false) rfl (by decide)) ?_
     simp only [pS, pN, pA, pC, pZ]
     refine doN (wanted_no rfl rfl rfl (c := false) rfl (by decide)) ?_
     simp only [pS, pN, pA, pC, pZ]
     refine doN (wanted_no rfl rfl rfl (c := false) rfl (by decide)) ?_
     simp only [pS, pN, pA, pC, pZ]
     refine doN (wanted_no rfl rfl rfl (c := false) rfl (by decide)) ?_
     simp only [pS, pN, pA, pC, pZ]
     refine do_ rfl (.bool false) (ex_pick (b := false) rfl) ?_
     simp only [pS, pN, pA, pC, pZ]
     refine wl_nil (hK221 _ _ ?_)
     refine wp_cond_false rfl ?_
     refine wp_skip ?_
     refine hK176 _ _ ?_
     refine wp_seq_k (fun K222 hK222 => ?_)
     refine wp_block ?_
     refine wp_seq_k (fun K223 hK223 => region_wl ?_)
     refine do_ rfl (.int .i64 (checkN r.key.length)) (ex_move _) ?_
     simp only [pS, pN, pA, pC, pZ]
     refine do_ rfl (.bool true) (ex_neq (m := (checkN r.key.length)) (n := (0 : Int)) (b := true) rfl rfl (bne_iff_ne.2 (hk))) ?_
     simp only [pS, pN, pA, pC, pZ]
     refine do_ rfl (.bool true) (ex_assign _) ?_
     simp only [pS, pN, pA, pC, pZ]
     refine wl_nil (hK223 _ _ ?_)
     refine wp_cond_true rfl ?_
     refine wp_seq_k (fun K224 hK224 => region_wl ?_)
     refine do_ rfl (.int .i64 (checkN r.key.length)) (ex_move _) ?_
     simp only [pS, pN, pA, pC, pZ]
     refine do_ rfl (.slice none 0 0) (ex_assign _) ?_
     simp only [pS, pN, pA, pC, pZ]
     refine do_ rfl (.int .i64 (checkN r.key.length)) (ex_assign _) ?_
     simp only [pS, pN, pA, pC, pZ]
     refine wl_nil (hK224 _ _ ?_)
     refine wp_ret ?_
     (try simp only [Exit.then, Exit.inBlock, ↓reduceIte, Nat.reduceEqDiff])
     refine bodyPost_ret (v := (.tuple #[(.slice none 0 0), (.int .i64 (checkN r.key.length))])) ?_ rfl ?_
     ·exact res_tt rfl rfl rfl
     ·skip
      have hwe : wrE r = checkN r.key.length := by unfold wrE; rw [if_neg (by omega), if_pos hgone, if_pos hk]
      have hne : wrE r ≠ 0 := by rw [hwe]; exact hk
      have S225 := St.drop S213 (L' := L0) (.cons _ (List.Sublist.refl _))
      rw [wr_bad hne]
      refine ⟨_, by rw [hwe], _, le215, .inr ⟨hne, rfl, St.dropRow S225 (.cons _ (.refl _))⟩⟩
   ·by_cases hp : pairE (r.key, r.value) = 0
    ·by_cases h60 : 60 < (putT t.2 r.key r.value).length
     ·refine region_wl ?_
      refine do_ rfl (.slice xa172 t.2.length xc173) (ex_move _) ?_
      simp only [pS, pN, pA, pC, pZ]
      refine do_ rfl (.pointer (some ⟨n2, 1, none⟩)) (ex_field (q := ⟨n2, 1, none⟩) rfl (fa_27_1 _ _)) ?_
      simp only [pS, pN, pA, pC, pZ]
      refine do_ rfl (.slice x1 r.key.length y1) (ex_load rfl (load1 (nagg_25 _) (St.cell S161 (i := 0) rfl rfl))) ?_
      simp only [pS, pN, pA, pC, pZ]
      refine do_ rfl (.pointer (some ⟨n2, 3, none⟩)) (ex_field (q := ⟨n2, 3, none⟩) rfl (fa_27_3 _ _)) ?_
      simp only [pS, pN, pA, pC, pZ]
      refine do_ rfl (.slice x3 r.value.length y3) (ex_load rfl (load1 (nagg_25 _) (St.cell S161 (i := 0) rfl rfl))) ?_
      simp only [pS, pN, pA, pC, pZ]
      refine do_ rfl (.agg #[(.slice x1 r.key.length y1), (.slice x3 r.value.length y3)]) (ex_build (ps := #[(0, (.slice x1 r.key.length y1)), (1, (.slice x3 r.value.length y3))]) (bmap2 rfl rfl) (by kernel_rfl)) ?_
      simp only [pS, pN, pA, pC, pZ]
      refine stGives S161 rfl (ex_fn (vs := #[(.slice xa172 t.2.length xc173), (.agg #[(.slice x1 r.key.length y1), (.slice x3 r.value.length y3)])]) (map2 rfl rfl) rfl (ent_8 _ _)) (putFull_spec _ _ _ _ t.2 (r.key, r.value) (S161).sat r174 ⟨_, _, _, _, rfl, h1, h3⟩ (show TreeOk 60 t.2 from ok.tree t (List.mem_of_getElem? ht)) hb1 hb2 hp h60) ?_
      intro v232 w227 F229 S228 le230 R231
      obtain ⟨_, rfl, r235⟩ := R231
      obtain ⟨a233, c234, rfl, h236, h237⟩ := Sl.shape r235
      unfold maxLen at h237
      simp only [pS, pN, pA, pC, pZ]
      refine do_ rfl (.tuple #[(.slice a233 ([] : List Pr).length c234), (.int .i64 11)]) (ex_move _) ?_
      simp only [pS, pN, pA, pC, pZ]
      refine do_ rfl (.slice a233 ([] : List Pr).length c234) (ex_extract rfl rfl) ?_
      simp only [pS, pN, pA, pC, pZ]
      refine do_ rfl (.int .i64 11) (ex_extract rfl rfl) ?_
      simp only [pS, pN, pA, pC, pZ]
      refine do_ rfl (.slice a233 ([] : List Pr).length c234) (ex_assign _) ?_
      simp only [pS, pN, pA, pC, pZ]
      refine do_ rfl (.int .i64 11) (ex_assign _) ?_
      simp only [pS, pN, pA, pC, pZ]
      refine wl_nil (hK176 _ _ ?_)
      refine wp_seq_k (fun K238 hK238 => ?_)
      refine wp_block ?_
      refine wp_seq_k (fun K239 hK239 => region_wl ?_)
      refine do_ rfl (.int .i64 11) (ex_move _) ?_
      simp only [pS, pN, pA, pC, pZ]
      refine do_ rfl (.bool true) (ex_neq (b := true) rfl rfl (by decide)) ?_
      simp only [pS, pN, pA, pC, pZ]
      refine do_ rfl (.bool true) (ex_assign _) ?_
      simp only [pS, pN, pA, pC, pZ]
      refine wl_nil (hK239 _ _ ?_)
      refine wp_cond_true rfl ?_
      refine wp_seq_k (fun K240 hK240 => region_wl ?_)
      refine do_ rfl (.int .i64 11) (ex_move _) ?_
      simp only [pS, pN, pA, pC, pZ]
      refine do_ rfl (.slice none 0 0) (ex_assign _) ?_
      simp only [pS, pN, pA, pC, pZ]
      refine do_ rfl (.int .i64 11) (ex_assign _) ?_
      simp only [pS, pN, pA, pC, pZ]
      refine wl_nil (hK240 _ _ ?_)
      refine wp_ret ?_
      (try simp only [Exit.then, Exit.inBlock, ↓reduceIte, Nat.reduceEqDiff])
      refine bodyPost_ret (v := (.tuple #[(.slice none 0 0), (.int .i64 11)])) ?_ rfl ?_
      ·exact res_tt rfl rfl rfl
      ·skip
       have hw0 : wrE r = 0 := by unfold wrE; rw [if_neg (by omega), if_neg (by rw [hgone]; simp)]; exact hp
       have hwf := writeF_is hO (next_put hgone)
       rw [if_pos ⟨hgone, h60⟩] at hwf
       have S241 := St.drop S228 (L' := L0) (.cons _ (List.Sublist.refl _))
       rw [wr_none hw0 hwf]
       refine ⟨_, rfl, _, le230, .inr ⟨(by decide : (11 : Int) ≠ 0), rfl, St.dropRow S241 (.cons _ (.refl _))⟩⟩
     ·refine region_wl ?_
      refine do_ rfl (.slice xa172 t.2.length xc173) (ex_move _) ?_
      simp only [pS, pN, pA, pC, pZ]
      refine do_ rfl (.pointer (some ⟨n2, 1, none⟩)) (ex_field (q := ⟨n2, 1, none⟩) rfl (fa_27_1 _ _)) ?_
      simp only [pS, pN, pA, pC, pZ]
      refine do_ rfl (.slice x1 r.key.length y1) (ex_load rfl (load1 (nagg_25 _) (St.cell S161 (i := 0) rfl rfl))) ?_
      simp only [pS, pN, pA, pC, pZ]
      refine do_ rfl (.pointer (some ⟨n2, 3, none⟩)) (ex_field (q := ⟨n2, 3, none⟩) rfl (fa_27_3 _ _)) ?_
      simp only [pS, pN, pA, pC, pZ]
      refine do_ rfl (.slice x3 r.value.length y3) (ex_load rfl (load1 (nagg_25 _) (St.cell S161 (i := 0) rfl rfl))) ?_
      simp only [pS, pN, pA, pC, pZ]
      refine do_ rfl (.agg #[(.slice x1 r.key.length y1), (.slice x3 r.value.length y3)]) (ex_build (ps := #[(0, (.slice x1 r.key.length y1)), (1, (.slice x3 r.value.length y3))]) (bmap2 rfl rfl) (by kernel_rfl)) ?_
      simp only [pS, pN, pA, pC, pZ]
      refine stGives S161 rfl (ex_fn (vs := #[(.slice xa172 t.2.length xc173), (.agg #[(.slice x1 r.key.length y1), (.slice x3 r.value.length y3)])]) (map2 rfl rfl) rfl (ent_8 _ _)) (putFit_spec _ _ _ _ t.2 (r.key, r.value) (S161).sat r174 ⟨_, _, _, _, rfl, h1, h3⟩ (show TreeOk 60 t.2 from ok.tree t (List.mem_of_getElem? ht)) hb1 hb2 hp h60) ?_
      intro v248 w243 F245 S244 le246 R247
      obtain ⟨_, rfl, r251⟩ := R247
      obtain ⟨a249, c250, rfl, h252, h253⟩ := Sl.shape r251
      unfold maxLen at h253
      have h252 : (putT t.2 r.key r.value).length ≤ c250 := h252
      have r251 : Prs _ (.slice a249 (putT t.2 r.key r.value).length c250) (putT t.2 r.key r.value) := r251
      simp only [pS, pN, pA, pC, pZ]
      refine do_ rfl (.tuple #[(.slice a249 (putT t.2 r.key r.value).length c250), (.int .i64 0)]) (ex_move _) ?_
      simp only [pS, pN, pA, pC, pZ]
      refine do_ rfl (.slice a249 (putT t.2 r.key r.value).length c250) (ex_extract rfl rfl) ?_
      simp only [pS, pN, pA, pC, pZ]
      refine do_ rfl (.int .i64 0) (ex_extract rfl rfl) ?_
      simp only [pS, pN, pA, pC, pZ]
      refine do_ rfl (.slice a249 (putT t.2 r.key r.value).length c250) (ex_assign _) ?_
      simp only [pS, pN, pA, pC, pZ]
      refine do_ rfl (.int .i64 0) (ex_assign _) ?_
      simp only [pS, pN, pA, pC, pZ]
      refine wl_nil (hK176 _ _ ?_)
      refine wp_seq_k (fun K254 hK254 => ?_)
      refine wp_block ?_
      refine wp_seq_k (fun K255 hK255 => region_wl ?_)
      refine do_ rfl (.int .i64 0) (ex_move _) ?_
      simp only [pS, pN, pA, pC, pZ]
      refine do_ rfl (.bool false) (ex_neq (b := false) rfl rfl (by decide)) ?_
      simp only [pS, pN, pA, pC, pZ]
      refine do_ rfl (.bool false) (ex_assign _) ?_
      simp only [pS, pN, pA, pC, pZ]
      refine wl_nil (hK255 _ _ ?_)
      refine wp_cond_false rfl ?_
      refine wp_seq_k (fun K256 hK256 => region_wl ?_)
      refine do_ rfl (.bool true) (ex_move _) ?_
      simp only [pS, pN, pA, pC, pZ]
      refine do_ rfl (.bool true) (ex_move _) ?_
      simp only [pS, pN, pA, pC, pZ]
      refine do_ rfl (.slice a249 (putT t.2 r.key r.value).length c250) (ex_move _) ?_
      simp only [pS, pN, pA, pC, pZ]
      refine do_ rfl (.int .i64 (((putT t.2 r.key r.value).length : Nat) : Int)) (ex_len Try.underlying23 rfl) ?_
      simp only [pS, pN, pA, pC, pZ]
      by_cases hc67 : (putT t.2 r.key r.value).length = 0
      ·refine do_ rfl (.bool true) (ex_eql (m := (((putT t.2 r.key r.value).length : Nat) : Int)) (n := (0 : Int)) (b := true) rfl rfl (beq_iff_eq.2 (by omega))) ?_
       simp only [pS, pN, pA, pC, pZ]
       refine do_ rfl (.bool true) (ex_pick (b := true) rfl) ?_
       simp only [pS, pN, pA, pC, pZ]
       refine do_ rfl (.bool true) (ex_assign _) ?_
       simp only [pS, pN, pA, pC, pZ]
       refine wl_nil (hK256 _ _ ?_)
       refine wp_cond_true rfl ?_
       refine wp_seq_k (fun K257 hK257 => region_wl ?_)
       refine do_ rfl (.slice (some ⟨g155, 0, none⟩) l.length c) (ex_move _) ?_
       simp only [pS, pN, pA, pC, pZ]
       refine do_ rfl (.int .i64 (((posT l r.name) : Nat) : Int)) (ex_move _) ?_
       simp only [pS, pN, pA, pC, pZ]
       refine do_ rfl (.int .i64 (((posT l r.name) : Nat) : Int)) (ex_move _) ?_
       simp only [pS, pN, pA, pC, pZ]
       refine do_ rfl (.int .i64 ((((posT l r.name) + 1) : Nat) : Int)) (ex_add (m := (((posT l r.name) : Nat) : Int)) (n := (1 : Int)) (r := ((((posT l r.name) + 1) : Nat) : Int)) rfl rfl (by omega) (by omega) (by omega)) ?_
       simp only [pS, pN, pA, pC, pZ]
       refine stOwn (L := (⟨n2, [(.slice x0 r.name.length y0), (.slice x1 r.key.length y1), (.bool r.gone), (.slice x3 r.value.length y3)], 27⟩ :: L0)) (M := fun v_ => (ownP 2 TnC TnC.mono 80 w0.heap.size v_ (l.take (posT l r.name) ++ l.drop ((posT l r.name) + 1)) :: M0)) rfl (ex_fn (vs := #[(.slice (some ⟨g155, 0, none⟩) l.length c), (.int .i64 (((posT l r.name) : Nat) : Int)), (.int .i64 ((((posT l r.name) + 1) : Nat) : Int))]) (map3 rfl rfl rfl) rfl (ent_53 _ _)) (deleteTenant TnC.one S244 (by omega) hpos) ?_
       intro v258 w259 S260
       simp only [pS, pN, pA, pC, pZ]
       have S260 : St w0 F0 w259 F245 (⟨n2, [(.slice x0 r.name.length y0), (.slice x1 r.key.length y1), (.bool r.gone), (.slice x3 r.value.length y3)], 27⟩ :: L0) (ownP 2 TnC TnC.mono 80 w0.heap.size v258 (l.take (posT l r.name) ++ l.drop ((posT l r.name) + 1)) :: M0) := S260
       refine do_ rfl v258 (ex_assign _) ?_
       simp only [pS, pN, pA, pC, pZ]
       refine do_ rfl (.int .i64 0) (ex_assign _) ?_
       simp only [pS, pN, pA, pC, pZ]
       refine wl_nil (hK257 _ _ ?_)
       refine wp_ret ?_
       (try simp only [Exit.then, Exit.inBlock, ↓reduceIte, Nat.reduceEqDiff])
       refine bodyPost_ret (v := (.tuple #[v258, (.int .i64 0)])) ?_ rfl ?_
       ·exact res_tt rfl rfl rfl
       ·skip
        have hw0 : wrE r = 0 := by unfold wrE; rw [if_neg (by omega), if_neg (by rw [hgone]; simp)]; exact hp
        have hwf := writeF_is hO (next_put hgone)
        rw [if_neg (fun h => h60 h.2)] at hwf
        rw [if_pos (nil_len hc67), delF_has hh] at hwf
        have S261 := St.drop S260 (L' := L0) (.cons _ (List.Sublist.refl _))
        rw [wr_some hw0 hwf]
        exact ⟨_, rfl, _, le246, .inl ⟨rfl, S261⟩⟩
      ·refine do_ rfl (.bool false) (ex_eql (m := (((putT t.2 r.key r.value).length : Nat) : Int)) (n := (0 : Int)) (b := false) rfl rfl (beq_eq_false_iff_ne.2 (by omega))) ?_
       simp only [pS, pN, pA, pC, pZ]
       refine do_ rfl (.bool false) (ex_pick (b := true) rfl) ?_
       simp only [pS, pN, pA, pC, pZ]
       refine do_ rfl (.bool false) (ex_assign _) ?_
       simp only [pS, pN, pA, pC, pZ]
       refine wl_nil (hK256 _ _ ?_)
       refine wp_cond_false rfl ?_
       refine wp_seq_k (fun K263 hK263 => region_wl ?_)
       refine do_ rfl (.bool true) (ex_move _) ?_
       simp only [pS, pN, pA, pC, pZ]
       refine do_ rfl (.bool true) (ex_assign _) ?_
       simp only [pS, pN, pA, pC, pZ]
       refine wl_nil (hK263 _ _ ?_)
       refine wp_cond_true rfl ?_
       refine wp_seq_k (fun K264 hK264 => region_wl ?_)
       refine do_ rfl (.slice (some ⟨g155, 0, none⟩) l.length c) (ex_move _) ?_
       simp only [pS, pN, pA, pC, pZ]
       refine do_ rfl (.int .i64 (((posT l r.name) : Nat) : Int)) (ex_move _) ?_
       simp only [pS, pN, pA, pC, pZ]
       refine do_ rfl (.slice a249 (putT t.2 r.key r.value).length c250) (ex_move _) ?_
       simp only [pS, pN, pA, pC, pZ]
       refine do_ rfl (.pointer (some ⟨g155, 0 + (posT l r.name) * 2, none⟩)) (ex_at (i := (posT l r.name)) (sz := 2) Try.underlying52 (sizeof_80 _) rfl rfl rfl (hpos) rfl) ?_
       simp only [pS, pN, pA, pC, pZ]
       refine do_ rfl (.pointer (some ⟨g155, 0 + (posT l r.name) * 2 + 1, none⟩)) (ex_field (q := ⟨g155, 0 + (posT l r.name) * 2 + 1, none⟩) rfl (fa_80_1 _ _)) ?_
       simp only [pS, pN, pA, pC, pZ]
       refine stSetCell (r := 0) (i := (posT l r.name)) (j := 1) (p := (r.name, (putT t.2 r.key r.value))) (u := (.slice a249 (putT t.2 r.key r.value).length c250)) S244 rfl rfl (by omega) (by decide) rfl rfl (by omega) (size_23) rfl rfl (fun cs q hq hR => ?_) (Nat.le_refl _) (fun w265 S266 => ?_)
       ·obtain ⟨x, y, rfl, hx, hy⟩ := hR
        obtain rfl : q = t := by rw [hq] at ht; exact Option.some.inj ht
        exact ⟨_, _, rfl, by rw [← htn]; exact hx, r251⟩
       simp only [pS, pN, pA, pC, pZ]
       have S266 : St w0 F0 w265 F245 (⟨n2, [(.slice x0 r.name.length y0), (.slice x1 r.key.length y1), (.bool r.gone), (.slice x3 r.value.length y3)], 27⟩ :: L0) (ownP 2 TnC TnC.mono 80 w0.heap.size (.slice (some ⟨g155, 0, none⟩) l.length c) (l.set (posT l r.name) (r.name, (putT t.2 r.key r.value))) :: M0) := S266
       refine wl_nil (hK264 _ _ ?_)
       refine wp_seq_k (fun K267 hK267 => region_wl ?_)
       refine do_ rfl (.slice (some ⟨g155, 0, none⟩) l.length c) (ex_move _) ?_
       simp only [pS, pN, pA, pC, pZ]
       refine do_ rfl (.slice (some ⟨g155, 0, none⟩) l.length c) (ex_assign _) ?_
       simp only [pS, pN, pA, pC, pZ]
       refine do_ rfl (.int .i64 0) (ex_assign _) ?_
       simp only [pS, pN, pA, pC, pZ]
       refine wl_nil (hK267 _ _ ?_)
       refine wp_ret ?_
       (try simp only [Exit.then, Exit.inBlock, ↓reduceIte, Nat.reduceEqDiff])
       refine bodyPost_ret (v := (.tuple #[(.slice (some ⟨g155, 0, none⟩) l.length c), (.int .i64 0)])) ?_ rfl ?_
       ·exact res_tt rfl rfl rfl
       ·skip
        have hw0 : wrE r = 0 := by unfold wrE; rw [if_neg (by omega), if_neg (by rw [hgone]; simp)]; exact hp
        have hwf := writeF_is hO (next_put hgone)
        rw [if_neg (fun h => h60 h.2)] at hwf
        rw [if_neg (not_nil hc67), if_neg (by rw [len_putT, if_pos hh]; omega), putF_set ok.rise hh] at hwf
        have S268 := St.drop S266 (L' := L0) (.cons _ (List.Sublist.refl _))
        rw [wr_some hw0 hwf]
        exact ⟨_, rfl, _, le246, .inl ⟨rfl, S268⟩⟩
    ·refine region_wl ?_
     refine do_ rfl (.slice xa172 t.2.length xc173) (ex_move _) ?_
     simp only [pS, pN, pA, pC, pZ]
     refine do_ rfl (.pointer (some ⟨n2, 1, none⟩)) (ex_field (q := ⟨n2, 1, none⟩) rfl (fa_27_1 _ _)) ?_
     simp only [pS, pN, pA, pC, pZ]
     refine do_ rfl (.slice x1 r.key.length y1) (ex_load rfl (load1 (nagg_25 _) (St.cell S161 (i := 0) rfl rfl))) ?_
     simp only [pS, pN, pA, pC, pZ]
     refine do_ rfl (.pointer (some ⟨n2, 3, none⟩)) (ex_field (q := ⟨n2, 3, none⟩) rfl (fa_27_3 _ _)) ?_
     simp only [pS, pN, pA, pC, pZ]
     refine do_ rfl (.slice x3 r.value.length y3) (ex_load rfl (load1 (nagg_25 _) (St.cell S161 (i := 0) rfl rfl))) ?_
     simp only [pS, pN, pA, pC, pZ]
     refine do_ rfl (.agg #[(.slice x1 r.key.length y1), (.slice x3 r.value.length y3)]) (ex_build (ps := #[(0, (.slice x1 r.key.length y1)), (1, (.slice x3 r.value.length y3))]) (bmap2 rfl rfl) (by kernel_rfl)) ?_
     simp only [pS, pN, pA, pC, pZ]
     refine stGives S161 rfl (ex_fn (vs := #[(.slice xa172 t.2.length xc173), (.agg #[(.slice x1 r.key.length y1), (.slice x3 r.value.length y3)])]) (map2 rfl rfl) rfl (ent_8 _ _)) (putBad_spec _ _ _ _ t.2 (r.key, r.value) (S161).sat r174 ⟨_, _, _, _, rfl, h1, h3⟩ (show TreeOk 60 t.2 from ok.tree t (List.mem_of_getElem? ht)) hb1 hb2 hp) ?_
     intro v275 w270 F272 S271 le273 R274
     obtain ⟨_, rfl, r278⟩ := R274
     obtain ⟨a276, c277, rfl, _⟩ := Sl.shape r278
     simp only [pS, pN, pA, pC, pZ]
     refine do_ rfl (.tuple #[(.slice a276 ([] : List Pr).length c277), (.int .i64 (pairE (r.key, r.value)))]) (ex_move _) ?_
     simp only [pS, pN, pA, pC, pZ]
     refine do_ rfl (.slice a276 ([] : List Pr).length c277) (ex_extract rfl rfl) ?_
     simp only [pS, pN, pA, pC, pZ]
     refine do_ rfl (.int .i64 (pairE (r.key, r.value))) (ex_extract rfl rfl) ?_
     simp only [pS, pN, pA, pC, pZ]
     refine do_ rfl (.slice a276 ([] : List Pr).length c277) (ex_assign _) ?_
     simp only [pS, pN, pA, pC, pZ]
     refine do_ rfl (.int .i64 (pairE (r.key, r.value))) (ex_assign _) ?_
     simp only [pS, pN, pA, pC, pZ]
     refine wl_nil (hK176 _ _ ?_)
     refine wp_seq_k (fun K279 hK279 => ?_)
     refine wp_block ?_
     refine wp_seq_k (fun K280 hK280 => region_wl ?_)
     refine do_ rfl (.int .i64 (pairE (r.key, r.value))) (ex_move _) ?_
     simp only [pS, pN, pA, pC, pZ]
     refine do_ rfl (.bool true) (ex_neq (m := (pairE (r.key, r.value))) (n := (0 : Int)) (b := true) rfl rfl (bne_iff_ne.2 (hp))) ?_
     simp only [pS, pN, pA, pC, pZ]
     refine do_ rfl (.bool true) (ex_assign _) ?_
     simp only [pS, pN, pA, pC, pZ]
     refine wl_nil (hK280 _ _ ?_)
     refine wp_cond_true rfl ?_
     refine wp_seq_k (fun K281 hK281 => region_wl ?_)
     refine do_ rfl (.int .i64 (pairE (r.key, r.value))) (ex_move _) ?_
     simp only [pS, pN, pA, pC, pZ]
     refine do_ rfl (.slice none 0 0) (ex_assign _) ?_
     simp only [pS, pN, pA, pC, pZ]
     refine do_ rfl (.int .i64 (pairE (r.key, r.value))) (ex_assign _) ?_
     simp only [pS, pN, pA, pC, pZ]
     refine wl_nil (hK281 _ _ ?_)
     refine wp_ret ?_
     (try simp only [Exit.then, Exit.inBlock, ↓reduceIte, Nat.reduceEqDiff])
     refine bodyPost_ret (v := (.tuple #[(.slice none 0 0), (.int .i64 (pairE (r.key, r.value)))])) ?_ rfl ?_
     ·exact res_tt rfl rfl rfl
     ·skip
      have hwe : wrE r = pairE (r.key, r.value) := by unfold wrE; rw [if_neg (by omega), if_neg (by rw [hgone]; simp)]
      have hne : wrE r ≠ 0 := by rw [hwe]; exact hp
      have S282 := St.drop S271 (L' := L0) (.cons _ (List.Sublist.refl _))
      rw [wr_bad hne]
      refine ⟨_, by rw [hwe], _, le273, .inr ⟨hne, rfl, St.dropRow S282 (.cons _ (.refl _))⟩⟩
 ·refine do_ rfl (.bool true) (ex_neq (m := (nameN r.name.length)) (n := (0 : Int)) (b := true) rfl rfl (bne_iff_ne.2 (by omega))) ?_
  simp only [pS, pN, pA, pC, pZ]
  refine wl_nil (hK9 _ _ ?_)
  refine wp_cond_true rfl ?_
  refine wp_seq_k (fun K284 hK284 => region_wl ?_)
  refine do_ rfl (.int .i64 (nameN r.name.length)) (ex_move _) ?_
  simp only [pS, pN, pA, pC, pZ]
  refine do_ rfl (.slice none 0 0) (ex_assign _) ?_
  simp only [pS, pN, pA, pC, pZ]
  refine do_ rfl (.int .i64 (nameN r.name.length)) (ex_assign _) ?_
  simp only [pS, pN, pA, pC, pZ]
  refine wl_nil (hK284 _ _ ?_)
  refine wp_ret ?_
  (try simp only [Exit.then, Exit.inBlock, ↓reduceIte, Nat.reduceEqDiff])
  refine bodyPost_ret (v := (.tuple #[(.slice none 0 0), (.int .i64 (nameN r.name.length))])) ?_ rfl ?_
  ·exact res_tt rfl rfl rfl
  ·skip
   have hwe : wrE r = nameN r.name.length := by unfold wrE; rw [if_pos hc16]
   have hne : wrE r ≠ 0 := by rw [hwe]; exact hc16
   have S285 := St.drop S8 (L' := L0) (.cons _ (List.Sublist.refl _))
   rw [wr_bad hne]
   refine ⟨_, by rw [hwe], _, (Le.refl _), .inr ⟨hne, rfl, St.dropRow S285 (.cons _ (.refl _))⟩⟩
end Go.Proofs.Ytlimmmidfhpakaa
