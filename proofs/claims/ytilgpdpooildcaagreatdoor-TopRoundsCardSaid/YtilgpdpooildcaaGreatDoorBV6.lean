/- Rules, plain laws and walks: X1 X2 X3 P13 X4 K7 -/
import Derived.Test.YtilgpdpooildcaaGreatDoorBV5
import Derived.Test.YtilgpdpooildcaaGreatDoorBV2
import Derived.Test.YtilgpdpooildcaaGreatDoorBV1
namespace Go.Proofs.YtilgpdpooildcaaGreatDoor
set_option maxHeartbeats 8000000
open Go.RowKit
set_option maxRecDepth 100000
set_option linter.unusedVariables false
set_option linter.unusedSimpArgs false
theorem bytesEqual_spec (F : Fz) (w : World) (v u : Value) (l m : By) (hs : Sat w F) (hv : Bs F v l) (hu : Bs F u m) :
    Calls Tryz.prog 108 #[v, u] w (Tells w (.bool (l == m))) := by
 obtain ⟨a, c, rfl, _⟩ := hv.shape
 obtain ⟨a2, c2, rfl, _⟩ := hu.shape
 have S := St.start hs
 go_enter Tryz.func108, Tryz.ntmps108
 refine sk fun K1 hK1 => ?_
 refine dy ?_
 refine wn hK1 ?_
 refine sk fun K2 hK2 => ?_
 refine dx ?_
 refine dr (.string ⟨l.toArray⟩) (ex_convert (v := (.slice a l.length c)) rfl (run_string Tryz.underlying25 Tryz.underlying5 Tryz.underlying9 (S).sat hv)) ?_
 refine dx ?_
 simp only [pq]
 refine dr (.string ⟨m.toArray⟩) (ex_convert (v := (.slice a2 m.length c2)) rfl (run_string Tryz.underlying25 Tryz.underlying5 Tryz.underlying9 (S).sat hu)) ?_
 refine dr (.bool (l == m)) (ex_strop (op := .eql) (l := l) (m := m) (b := (l == m)) (by simp) rfl rfl (rfl)) ?_
 refine dy ?_
 simp only [pq]
 refine wn hK2 ?_
 refine wp_ret ?_
 try simp only [xt]
 refine bR (res_t rfl (gD rfl)) ?_
 ·exact ⟨rfl, S.gr.below⟩
theorem samePlace_spec (F : Fz) (w : World) (v u : Value) (p q : Wr) (hs : Sat w F) (hv : WrV F v p) (hu : WrV F u q) :
    Calls Tryz.prog 104 #[v, u] w (Tells w (.bool (samePl p q))) := by
 obtain ⟨x0, x1, x2, x3, x4, x5, rfl, h0, h1, h3⟩ := hv
 obtain ⟨y0, y1, y2, y3, y4, y5, rfl, k0, k1, k3⟩ := hu
 have S := St.start hs
 go_enter Tryz.func104, Tryz.ntmps104
 refine sk fun K1 hK1 => ?_
 refine stNew S (v := fun n => .pointer (aA n 0)) rfl (ex_box (v := (.agg #[(.slice x0 p.name.length x1), (.slice x2 p.key.length x3), (.bool p.gone), (.slice x4 p.value.length x5)])) rfl) (fun n2 w3 S4 => ?_)
 refine stNew S4 (v := fun n => .pointer (aA n 0)) rfl (ex_box (v := (.agg #[(.slice y0 q.name.length y1), (.slice y2 q.key.length y3), (.bool q.gone), (.slice y4 q.value.length y5)])) rfl) (fun n5 w6 S7 => ?_)
 simp only [pq]
 refine dy ?_
 refine wn hK1 ?_
 refine wp_seq_k (fun K8 hK8 => ?_)
 by_cases e1 : p.name = q.name
 refine region_wl ?_
 refine df (fa_39_0 _ _) ?_
 refine dl (nagg_25 _) S7 1 ?_
 refine df (fa_39_0 _ _) ?_
 simp only [pq]
 refine dl (nagg_25 _) S7 0 ?_
 refine stTells (v := bT) S7 rfl (fn2 (ent_108 _ _)) (tells_bool (bytesEqual_spec _ _ _ _ p.name q.name (S7).sat h0 k0) (beq_iff_eq.2 (e1))) (fun w9 S10 => ?_)
 refine dx ?_
 refine df (fa_39_1 _ _) ?_
 refine dl (nagg_25 _) S10 1 ?_
 simp only [pq]
 refine df (fa_39_1 _ _) ?_
 refine dl (nagg_25 _) S10 0 ?_
 refine stTells (v := (.bool (p.key == q.key))) S10 rfl (fn2 (ent_108 _ _)) (bytesEqual_spec _ _ _ _ p.key q.key (S10).sat h1 k1) (fun w11 S12 => ?_)
 refine dp ?_
 refine dy ?_
 simp only [pq]
 refine wl_nil (hK8 _ _ ?_)
 refine wp_ret ?_
 try simp only [xt]
 refine bR (res_t rfl (gD rfl)) ?_
 exact ⟨by unfold samePl; rw [beq_iff_eq.2 e1]; rfl, S12.gr.below⟩
 refine region_wl ?_
 refine df (fa_39_0 _ _) ?_
 refine dl (nagg_25 _) S7 1 ?_
 refine df (fa_39_0 _ _) ?_
 simp only [pq]
 refine dl (nagg_25 _) S7 0 ?_
 refine stTells (v := bF) S7 rfl (fn2 (ent_108 _ _)) (tells_bool (bytesEqual_spec _ _ _ _ p.name q.name (S7).sat h0 k0) (beq_eq_false_iff_ne.2 (e1))) (fun w13 S14 => ?_)
 refine dx ?_
 refine nO ?_
 simp only [pq]
 iterate 3 refine nO ?_
 simp only [pq]
 refine nO ?_
 refine dp ?_
 refine dy ?_
 simp only [pq]
 refine wl_nil (hK8 _ _ ?_)
 refine wp_ret ?_
 try simp only [xt]
 refine bR (res_t rfl (gD rfl)) ?_
 exact ⟨by unfold samePl; rw [beq_eq_false_iff_ne.2 e1]; rfl, S14.gr.below⟩
theorem sameRead_spec (F : Fz) (w : World) (v u : Value) (p q : Rd) (hs : Sat w F) (hv : RdV F v p) (hu : RdV F u q) :
    Calls Tryz.prog 129 #[v, u] w (Tells w (.bool (decide (p = q)))) := by
 obtain ⟨x0, x1, x2, x3, x4, x5, rfl, h0, h1, h3⟩ := hv
 obtain ⟨y0, y1, y2, y3, y4, y5, rfl, k0, k1, k3⟩ := hu
 have S := St.start hs
 go_enter Tryz.func129, Tryz.ntmps129
 refine sk fun K1 hK1 => ?_
 refine stNew S (v := fun n => .pointer (aA n 0)) rfl (ex_box (v := (.agg #[(.slice x0 p.name.length x1), (.slice x2 p.key.length x3), (.bool p.wide), (.slice x4 p.last.length x5)])) rfl) (fun n2 w3 S4 => ?_)
 refine stNew S4 (v := fun n => .pointer (aA n 0)) rfl (ex_box (v := (.agg #[(.slice y0 q.name.length y1), (.slice y2 q.key.length y3), (.bool q.wide), (.slice y4 q.last.length y5)])) rfl) (fun n5 w6 S7 => ?_)
 simp only [pq]
 refine dy ?_
 refine wn hK1 ?_
 refine wp_seq_k (fun K8 hK8 => ?_)
 by_cases e0 : p.wide = q.wide
 by_cases e1 : p.name = q.name
 by_cases e2 : p.key = q.key
 refine region_wl ?_
 refine df (fa_179_2 _ _) ?_
 refine dl (nagg_4 _) S7 1 ?_
 refine df (fa_179_2 _ _) ?_
 simp only [pq]
 refine dl (nagg_4 _) S7 0 ?_
 refine dr bT (ex_eqlB Tryz.underlying4 rfl rfl (beq_iff_eq.2 e0)) ?_
 refine dx ?_
 simp only [pq]
 refine df (fa_179_0 _ _) ?_
 refine dl (nagg_25 _) S7 1 ?_
 refine df (fa_179_0 _ _) ?_
 simp only [pq]
 refine dl (nagg_25 _) S7 0 ?_
 refine stTells (v := bT) S7 rfl (fn2 (ent_108 _ _)) (tells_bool (bytesEqual_spec _ _ _ _ p.name q.name (S7).sat h0 k0) (beq_iff_eq.2 (e1))) (fun w9 S10 => ?_)
 refine dp ?_
 refine dx ?_
 refine df (fa_179_1 _ _) ?_
 simp only [pq]
 refine dl (nagg_25 _) S10 1 ?_
 refine df (fa_179_1 _ _) ?_
 refine dl (nagg_25 _) S10 0 ?_
 simp only [pq]
 refine stTells (v := bT) S10 rfl (fn2 (ent_108 _ _)) (tells_bool (bytesEqual_spec _ _ _ _ p.key q.key (S10).sat h1 k1) (beq_iff_eq.2 (e2))) (fun w11 S12 => ?_)
 refine dp ?_
 refine dx ?_
 refine df (fa_179_3 _ _) ?_
 simp only [pq]
 refine dl (nagg_25 _) S12 1 ?_
 refine df (fa_179_3 _ _) ?_
 refine dl (nagg_25 _) S12 0 ?_
 simp only [pq]
 refine stTells (v := (.bool (p.last == q.last))) S12 rfl (fn2 (ent_108 _ _)) (bytesEqual_spec _ _ _ _ p.last q.last (S12).sat h3 k3) (fun w13 S14 => ?_)
 refine dp ?_
 refine dy ?_
 refine wl_nil (hK8 _ _ ?_)
 refine wp_ret ?_
 try simp only [xt]
 refine bR (res_t rfl (gD rfl)) ?_
 exact ⟨by rw [show decide (p = q) = (p.last == q.last) from by rw [Bool.eq_iff_iff, decide_eq_true_iff, beq_iff_eq]; exact ⟨fun e => by rw [e], fun e => by cases p; cases q; simp_all⟩], S14.gr.below⟩
 refine region_wl ?_
 refine df (fa_179_2 _ _) ?_
 refine dl (nagg_4 _) S7 1 ?_
 refine df (fa_179_2 _ _) ?_
 simp only [pq]
 refine dl (nagg_4 _) S7 0 ?_
 refine dr bT (ex_eqlB Tryz.underlying4 rfl rfl (beq_iff_eq.2 e0)) ?_
 refine dx ?_
 simp only [pq]
 refine df (fa_179_0 _ _) ?_
 refine dl (nagg_25 _) S7 1 ?_
 refine df (fa_179_0 _ _) ?_
 simp only [pq]
 refine dl (nagg_25 _) S7 0 ?_
 refine stTells (v := bT) S7 rfl (fn2 (ent_108 _ _)) (tells_bool (bytesEqual_spec _ _ _ _ p.name q.name (S7).sat h0 k0) (beq_iff_eq.2 (e1))) (fun w15 S16 => ?_)
 refine dp ?_
 refine dx ?_
 refine df (fa_179_1 _ _) ?_
 simp only [pq]
 refine dl (nagg_25 _) S16 1 ?_
 refine df (fa_179_1 _ _) ?_
 refine dl (nagg_25 _) S16 0 ?_
 simp only [pq]
 refine stTells (v := bF) S16 rfl (fn2 (ent_108 _ _)) (tells_bool (bytesEqual_spec _ _ _ _ p.key q.key (S16).sat h1 k1) (beq_eq_false_iff_ne.2 (e2))) (fun w17 S18 => ?_)
 refine dp ?_
 refine dx ?_
 refine nO ?_
 simp only [pq]
 iterate 3 refine nO ?_
 simp only [pq]
 refine nO ?_
 refine dp ?_
 refine dy ?_
 simp only [pq]
 refine wl_nil (hK8 _ _ ?_)
 refine wp_ret ?_
 try simp only [xt]
 refine bR (res_t rfl (gD rfl)) ?_
 exact ⟨by rw [decide_eq_false (fun e => e2 (by rw [e]))], S18.gr.below⟩
 refine region_wl ?_
 refine df (fa_179_2 _ _) ?_
 refine dl (nagg_4 _) S7 1 ?_
 refine df (fa_179_2 _ _) ?_
 simp only [pq]
 refine dl (nagg_4 _) S7 0 ?_
 refine dr bT (ex_eqlB Tryz.underlying4 rfl rfl (beq_iff_eq.2 e0)) ?_
 refine dx ?_
 simp only [pq]
 refine df (fa_179_0 _ _) ?_
 refine dl (nagg_25 _) S7 1 ?_
 refine df (fa_179_0 _ _) ?_
 simp only [pq]
 refine dl (nagg_25 _) S7 0 ?_
 refine stTells (v := bF) S7 rfl (fn2 (ent_108 _ _)) (tells_bool (bytesEqual_spec _ _ _ _ p.name q.name (S7).sat h0 k0) (beq_eq_false_iff_ne.2 (e1))) (fun w19 S20 => ?_)
 refine dp ?_
 refine dx ?_
 simp only [pq]
 iterate 3 refine nO ?_
 simp only [pq]
 iterate 2 refine nO ?_
 refine dp ?_
 refine dx ?_
 simp only [pq]
 iterate 3 refine nO ?_
 simp only [pq]
 iterate 2 refine nO ?_
 refine dp ?_
 refine dy ?_
 simp only [pq]
 refine wl_nil (hK8 _ _ ?_)
 refine wp_ret ?_
 try simp only [xt]
 refine bR (res_t rfl (gD rfl)) ?_
 exact ⟨by rw [decide_eq_false (fun e => e1 (by rw [e]))], S20.gr.below⟩
 refine region_wl ?_
 refine df (fa_179_2 _ _) ?_
 refine dl (nagg_4 _) S7 1 ?_
 refine df (fa_179_2 _ _) ?_
 simp only [pq]
 refine dl (nagg_4 _) S7 0 ?_
 refine dr bF (ex_eqlB Tryz.underlying4 rfl rfl (beq_eq_false_iff_ne.2 e0)) ?_
 refine dx ?_
 simp only [pq]
 iterate 3 refine nO ?_
 simp only [pq]
 iterate 2 refine nO ?_
 refine dp ?_
 refine dx ?_
 simp only [pq]
 iterate 3 refine nO ?_
 simp only [pq]
 iterate 2 refine nO ?_
 refine dp ?_
 refine dx ?_
 simp only [pq]
 iterate 3 refine nO ?_
 simp only [pq]
 iterate 2 refine nO ?_
 refine dp ?_
 refine dy ?_
 simp only [pq]
 refine wl_nil (hK8 _ _ ?_)
 refine wp_ret ?_
 try simp only [xt]
 refine bR (res_t rfl (gD rfl)) ?_
 exact ⟨by rw [decide_eq_false (fun e => e0 (by rw [e]))], S7.gr.below⟩
/-- What is wrong with a read. -/
def rdE (r : Rd) : Int := if nameN r.name.length ≠ 0 then nameN r.name.length else if checkN r.key.length ≠ 0 then checkN r.key.length else if r.wide = true then checkN r.last.length else if 0 < r.last.length then 4 else 0
theorem shape_spec (F : Fz) (w : World) (v : Value) (r : Rd) (hs : Sat w F) (hv : RdV F v r) :
    Calls Tryz.prog 126 #[v] w (Tells w (.int .i64 (rdE r))) := by
 obtain ⟨x0, x1, x2, x3, x4, x5, rfl, h0, h1, h3⟩ := hv
 have S := St.start hs
 go_enter Tryz.func126, Tryz.ntmps126
 refine sk fun K1 hK1 => ?_
 refine stNew S (v := fun n => .pointer (aA n 0)) rfl (ex_box (v := (.agg #[(.slice x0 r.name.length x1), (.slice x2 r.key.length x3), (.bool r.wide), (.slice x4 r.last.length x5)])) rfl) (fun n2 w3 S4 => ?_)
 refine dy ?_
 refine wn hK1 ?_
 refine wp_seq_k (fun K5 hK5 => ?_)
 refine sk fun K6 hK6 => ?_
 refine df (fa_179_0 _ _) ?_
 refine dl (nagg_25 _) S4 0 ?_
 simp only [pq]
 refine stTells (v := (.int .i64 (nameN r.name.length))) S4 rfl (fn1 (ent_42 _ _)) (tells_same (name_len _ _ _ _)) (fun w7 S8 => ?_)
 refine dy ?_
 refine wn hK6 ?_
 refine sk fun K9 hK9 => ?_
 refine dx ?_
 simp only [pq]
 by_cases hc9 : (nameN r.name.length) = (0 : Int)
 refine neqF ?_
 refine wn hK9 ?_
 refine wp_cond_false rfl ?_
 refine wp_skip ?_
 refine hK5 _ _ ?_
 refine wp_seq_k (fun K10 hK10 => ?_)
 refine sk fun K11 hK11 => ?_
 refine df (fa_179_1 _ _) ?_
 refine dl (nagg_25 _) S8 0 ?_
 simp only [pq]
 refine stTells (v := (.int .i64 (checkN r.key.length))) S8 rfl (fn1 (ent_55 _ _)) (tells_same (check_spec _ _ _ r.key h1)) (fun w12 S13 => ?_)
 refine dy ?_
 refine wn hK11 ?_
 refine sk fun K14 hK14 => ?_
 refine dx ?_
 simp only [pq]
 by_cases hc15 : (checkN r.key.length) = (0 : Int)
 refine neqF ?_
 refine wn hK14 ?_
 refine wp_cond_false rfl ?_
 refine wp_skip ?_
 refine hK10 _ _ ?_
 refine wp_seq_k (fun K15 hK15 => ?_)
 refine sk fun K16 hK16 => ?_
 refine df (fa_179_2 _ _) ?_
 refine dl (nagg_4 _) S13 0 ?_
 refine dr (.bool (!r.wide)) (ex_not rfl rfl) ?_
 simp only [pq]
 refine wn hK16 ?_
 refine wp_cond_split rfl (fun hwd => ?_) (fun hwd => ?_)
 refine wp_seq_k (fun K17 hK17 => ?_)
 refine sk fun K18 hK18 => ?_
 refine df (fa_179_3 _ _) ?_
 refine dl (nagg_25 _) S13 0 ?_
 refine dn Tryz.underlying25 ?_
 simp only [pq]
 by_cases hc23 : 0 < r.last.length
 refine gtrT ?_
 refine wn hK18 ?_
 refine wp_cond_true rfl ?_
 refine sk fun K19 hK19 => ?_
 refine dy ?_
 refine wn hK19 ?_
 refine wp_ret ?_
 try simp only [xt]
 refine bR (res_t rfl (gD rfl)) ?_
 exact ⟨by unfold rdE; rw [if_neg (by omega), if_neg (by omega), if_neg (by simpa using hwd), if_pos (by omega)], S13.gr.below⟩
 refine gtrF ?_
 simp only [pq]
 refine wn hK18 ?_
 refine wp_cond_false rfl ?_
 refine wp_skip ?_
 refine hK17 _ _ ?_
 refine sk fun K20 hK20 => ?_
 refine dy ?_
 refine wn hK20 ?_
 refine wp_ret ?_
 try simp only [xt]
 refine bR (res_t rfl (gD rfl)) ?_
 exact ⟨by unfold rdE; rw [if_neg (by omega), if_neg (by omega), if_neg (by simpa using hwd), if_neg (by omega)], S13.gr.below⟩
 refine wp_skip ?_
 refine hK15 _ _ ?_
 refine sk fun K21 hK21 => ?_
 refine df (fa_179_3 _ _) ?_
 refine dl (nagg_25 _) S13 0 ?_
 simp only [pq]
 refine stTells (v := (.int .i64 (checkN r.last.length))) S13 rfl (fn1 (ent_55 _ _)) (tells_same (check_spec _ _ _ r.last h3)) (fun w22 S23 => ?_)
 refine dy ?_
 refine wn hK21 ?_
 refine wp_ret ?_
 try simp only [xt]
 refine bR (res_t rfl (gD rfl)) ?_
 exact ⟨by unfold rdE; rw [if_neg (by omega), if_neg (by omega), if_pos (by simpa using hwd)], S23.gr.below⟩
 refine neqT ?_
 refine wn hK14 ?_
 refine wp_cond_true rfl ?_
 refine sk fun K24 hK24 => ?_
 refine dx ?_
 refine dy ?_
 simp only [pq]
 refine wn hK24 ?_
 refine wp_ret ?_
 try simp only [xt]
 refine bR (res_t rfl (gD rfl)) ?_
 exact ⟨by unfold rdE; rw [if_neg (by omega), if_pos hc15], S13.gr.below⟩
 refine neqT ?_
 refine wn hK9 ?_
 refine wp_cond_true rfl ?_
 refine sk fun K25 hK25 => ?_
 refine dx ?_
 refine dy ?_
 simp only [pq]
 refine wn hK25 ?_
 refine wp_ret ?_
 try simp only [xt]
 refine bR (res_t rfl (gD rfl)) ?_
 exact ⟨by unfold rdE; rw [if_pos hc9], S8.gr.below⟩
theorem read_spec (F : Fz) (w : World) (v : Value) (r : Rd) (hs : Sat w F) (hv : RdV F v r) (hb0 : r.name.length ≤ 100000) (hb1 : r.key.length ≤ 100000) (hb2 : r.last.length ≤ 100000) :
    Calls Tryz.prog 130 #[v] w (Gives w F fun F' u => RdV F' u r) := by
 obtain ⟨x0, x1, x2, x3, x4, x5, rfl, h0, h1, h3⟩ := hv
 have S := St.start hs
 go_enter Tryz.func130, Tryz.ntmps130
 refine sk fun K1 hK1 => ?_
 refine stNew S (v := fun n => .pointer (aA n 0)) rfl (ex_box (v := (.agg #[(.slice x0 r.name.length x1), (.slice x2 r.key.length x3), (.bool r.wide), (.slice x4 r.last.length x5)])) rfl) (fun n2 w3 S4 => ?_)
 refine sA S4 (zero_179 _) fun n5 w6 S7 => ?_
 refine wn hK1 ?_
 refine wp_seq_k (fun K8 hK8 => ?_)
 refine region_gw F 11 [(2, .made (fun F' u => Bs F' u r.name)), (5, .made (fun F' u => Bs F' u r.key)), (10, .made (fun F' u => Bs F' u r.last))] (by kernel_rfl) (by kernel_rfl) ?_
 simp only [List.take_succ_cons, List.take_zero]
 refine gf (fa_179_0 _ _) ?_
 refine gl nagg_25 S7 1 ?_
 simp only [pq]
 refine gw_rel rfl rfl (fun w9 C9 hF => does_call (ex_fn (vs := #[(.slice x0 r.name.length x1)]) (map1 rfl) rfl (ent_45 _ _)) (call_made S7.sat C9 (clone_spec _ _ _ r.name ((St.tells S7 C9)).sat h0 (by omega)))) (fun v10 => ?_)
 refine gf (fa_179_1 _ _) ?_
 refine gl nagg_25 S7 1 ?_
 simp only [pq]
 refine gw_rel rfl rfl (fun w9 C9 hF => does_call (ex_fn (vs := #[(.slice x2 r.key.length x3)]) (map1 rfl) rfl (ent_45 _ _)) (call_made S7.sat C9 (clone_spec _ _ _ r.key ((St.tells S7 C9)).sat h1 (by omega)))) (fun v11 => ?_)
 refine gf (fa_179_2 _ _) ?_
 refine gl nagg_4 S7 1 ?_
 refine gf (fa_179_3 _ _) ?_
 simp only [pq]
 refine gl nagg_25 S7 1 ?_
 simp only [pq]
 refine gw_rel rfl rfl (fun w9 C9 hF => does_call (ex_fn (vs := #[(.slice x4 r.last.length x5)]) (map1 rfl) rfl (ent_45 _ _)) (call_made S7.sat C9 (clone_spec _ _ _ r.last ((St.tells S7 C9)).sat h3 (by omega)))) (fun v12 => ?_)
 refine gw_nil ?_
 intro w13 hC15 hF16
 obtain ⟨F17, g18, R19⟩ := hF16.get 2 rfl rfl
 obtain ⟨F20, g21, R22⟩ := hF16.get 5 rfl rfl
 obtain ⟨F23, g24, R25⟩ := hF16.get 10 rfl rfl
 have S14 := St.gives S7 ((g18.both g21).both g24)
 have le27 : Le _ _ := ((g18.both g21).both g24).le S7.sat
 have R28 := (R19.mono ((both_left F17 F20).trans (both_left (both F17 F20) F23)))
 have R29 := (R22.mono ((both_right g18.sat g21.sat).trans (both_left (both F17 F20) F23)))
 have R30 := (R25.mono (both_right (g18.both g21).sat g24.sat))
 generalize (both (both F17 F20) F23) = F26 at *
 obtain ⟨xa31, xc32, rfl, _⟩ := R28.shape
 obtain ⟨xa33, xc34, rfl, _⟩ := R29.shape
 obtain ⟨xa35, xc36, rfl, _⟩ := R30.shape
 clear hF16
 simp only [List.drop_succ_cons, List.drop_zero]
 refine dr (.agg #[(.slice xa31 r.name.length xc32), (.slice xa33 r.key.length xc34), (.bool r.wide), (.slice xa35 r.last.length xc36)]) (ex_build (bmap4 rfl rfl rfl rfl) (by kernel_rfl)) ?_
 simp only [pq]
 refine sW 0 S14 (size_179) fun w37 S38 => ?_
 refine wl_nil (hK8 _ _ ?_)
 refine wp_ret ?_
 try simp only [xt]
 refine bR (res_c rfl ⟨_, rfl, lR S38 0 Tryz.underlying179 (size_179)⟩) ?_
 exact ⟨_, _, rfl, S38.gr, _, _, _, _, _, _, rfl, R28, R29, R30⟩
theorem txnWritesO_spec (F : Fz) (w : World) (v : Value) (ws : List Wr) (hs : Sat w F) (hv : Wrs F v ws) (hl : ws.length ≤ 100000) (hb : ∀ r ∈ ws, r.name.length ≤ 100000 ∧ r.key.length ≤ 100000 ∧ r.value.length ≤ 100000) :
    Calls Tryz.prog 114 #[v] w (GivesO w F 4 WrC 39 ws) := by
 obtain ⟨a, c, rfl, hc1, hc2⟩ := Sl.shape hv
 unfold maxLen at hc2
 obtain ⟨i39, hi39, hz39, hs39, hb39⟩ := info_parts info_39
 have S := St.start hs
 go_enter Tryz.func114, Tryz.ntmps114
 refine sk fun K1 hK1 => ?_
 refine dy ?_
 refine wn hK1 ?_
 refine sk fun K2 hK2 => ?_
 refine dy ?_
 refine wn hK2 ?_
 refine wp_seq_k (fun K3 hK3 => ?_)
 refine sk fun K4 hK4 => ?_
 refine dx ?_
 refine dn Tryz.underlying40 ?_
 refine dx ?_
 simp only [pq]
 refine wn hK4 ?_
 refine wp_block ?_
 have S5 := St.addNil S 4 WrC WrC.mono 39 w.heap.size
 refine wp_loop_g (fun mm aa w8 => ∃ (k : Nat) (v : Value) (F6 : Fz) (u7 : Nat → Value), mm = ws.length - k ∧ u7 = slots aa ∧ aa = ⟨#[(.slice a ws.length c), undef, Zn, v, undef, (u7 5), (.slice a ws.length c), (nI ws.length), (nI k), (u7 9), (u7 10), (u7 11), (u7 12), (u7 13), (u7 14), (u7 15), (u7 16), (u7 17), (u7 18), (u7 19), (u7 20), (u7 21), (u7 22), (u7 23), (u7 24), (u7 25), (u7 26), (u7 27), undef], []⟩ ∧ St w F w8 F6 [] [ownP 4 WrC WrC.mono 39 w.heap.size v (ws.take k)] ∧ Le F F6 ∧ (k ≤ ws.length)) _ ⟨0, Zn, F, _, rfl, rfl, rfl, S5, Le.refl _, (by omega)⟩ ?_
 rintro m9 a10 w11 ⟨k, v, F6, u7, rfl, -, rfl, S12, le13, hk⟩ K14 hK14
 refine sk fun K15 hK15 => ?_
 by_cases hc9 : k < ws.length
 refine lssT ?_
 refine wn hK15 ?_
 refine wp_seq_k (fun K16 hK16 => ?_)
 refine wp_cond_true rfl ?_
 refine wp_skip ?_
 refine hK16 _ _ ?_
 refine wp_seq_k (fun K17 hK17 => ?_)
 refine wp_block ?_
 refine wp_seq_k (fun K18 hK18 => ?_)
 obtain ⟨p, hp⟩ : ∃ p, ws[k]? = some p := ⟨ws[k], List.getElem?_eq_getElem hc9⟩
 obtain ⟨hb0, hb1, hb2⟩ := hb p (List.mem_of_getElem? hp)
 have htk : (ws.take k).length = k := by rw [List.length_take]; omega
 obtain ⟨b19, o20, ha21, xa23, xc24, xa27, xc28, xa32, xc33, c22, c26, c30, c31, r25, r29, r34⟩ := Wrs.get (hv.mono le13) hp
 refine region_wl ?_
 refine dr (pP b19 (o20 + k * 4)) (ex_at (i := k) (sz := 4) Tryz.underlying40 (sizeof_39 _) rfl ha21 rfl (by omega) rfl) ?_
 refine dr _ (ex_load rfl (loadM Tryz.underlying39 rfl (size_39) (range4 (St.fz S12 c22) (St.fz S12 c26) (St.fz S12 c30) (St.fz S12 c31)))) ?_
 simp only [pq]
 refine sA S12 (zero_39 _) fun n35 w36 S37 => ?_
 refine sW 0 S37 (size_39) fun w38 S39 => ?_
 refine wl_nil (hK18 _ _ ?_)
 refine region_gw F6 14 [(3, .made (fun F' u => Bs F' u p.name)), (6, .made (fun F' u => Bs F' u p.key)), (11, .made (fun F' u => Bs F' u p.value)), (12, .made (fun F' u => WrV F' u (⟨p.name, p.key, p.gone, p.value⟩ : Wr))), (13, .made (fun F' u => Wrs F' u [(⟨p.name, p.key, p.gone, p.value⟩ : Wr)]))] (by kernel_rfl) (by kernel_rfl) ?_
 simp only [List.take_succ_cons, List.take_zero]
 refine gm ?_
 simp only [pq]
 refine gf (fa_39_0 _ _) ?_
 refine gl nagg_25 S39 0 ?_
 simp only [pq]
 refine gw_rel rfl rfl (fun w40 C40 hF => does_call (ex_fn (vs := #[(.slice xa23 p.name.length xc24)]) (map1 rfl) rfl (ent_45 _ _)) (call_made S39.sat C40 (clone_spec _ _ _ p.name ((St.tells S39 C40)).sat r25 (by omega)))) (fun v41 => ?_)
 refine gf (fa_39_1 _ _) ?_
 refine gl nagg_25 S39 0 ?_
 simp only [pq]
 refine gw_rel rfl rfl (fun w40 C40 hF => does_call (ex_fn (vs := #[(.slice xa27 p.key.length xc28)]) (map1 rfl) rfl (ent_45 _ _)) (call_made S39.sat C40 (clone_spec _ _ _ p.key ((St.tells S39 C40)).sat r29 (by omega)))) (fun v42 => ?_)
 refine gf (fa_39_2 _ _) ?_
 refine gl nagg_4 S39 0 ?_
 refine gf (fa_39_3 _ _) ?_
 simp only [pq]
 refine gl nagg_25 S39 0 ?_
 simp only [pq]
 refine gw_rel rfl rfl (fun w40 C40 hF => does_call (ex_fn (vs := #[(.slice xa32 p.value.length xc33)]) (map1 rfl) rfl (ent_45 _ _)) (call_made S39.sat C40 (clone_spec _ _ _ p.value ((St.tells S39 C40)).sat r34 (by omega)))) (fun v43 => ?_)
 simp only [pq]
 refine gw_rel rfl rfl (fun w40 C40 hF_ => ?_) (fun v44 => ?_)
 obtain ⟨F45, g46, R47⟩ := hF_.get 3 (by kernel_rfl) rfl rfl
 obtain ⟨F50, g51, R52⟩ := hF_.get 6 (by kernel_rfl) rfl rfl
 obtain ⟨F55, g56, R57⟩ := hF_.get 11 (by kernel_rfl) rfl rfl
 have hR0 := (R47.mono ((both_left F45 F50).trans (both_left (both F45 F50) F55)))
 obtain ⟨xa60, xc61, rfl, _⟩ := hR0.shape
 have hR1 := (R52.mono ((both_right g46.sat g51.sat).trans (both_left (both F45 F50) F55)))
 obtain ⟨xa62, xc63, rfl, _⟩ := hR1.shape
 have hR3 := (R57.mono (both_right (g46.both g51).sat g56.sat))
 obtain ⟨xa64, xc65, rfl, _⟩ := hR3.shape
 exact does_val (ex_build (bmap4 rfl rfl rfl rfl) (by kernel_rfl)) ⟨(both (both F45 F50) F55), ((g46.both g51).both g56), ⟨_, _, _, _, _, _, rfl, hR0, hR1, hR3⟩⟩ (Below.refl _ _)
 simp only [pq]
 refine gw_rel rfl rfl (fun w40 C40 hF_ => ?_) (fun v78 => ?_)
 obtain ⟨F75, g76, R77⟩ := hF_.get 12 (by kernel_rfl) rfl rfl
 obtain ⟨xa66, xc67, xa69, xc70, xa72, xc73, rfl, r68, r71, r74⟩ := R77
 exact does_lit (k := 4) (R := WrC) (hR := WrC.mono) (p := (⟨p.name, p.key, p.gone, p.value⟩ : Wr)) (cs := [.slice xa66 _ xc67, .slice xa69 _ xc70, _, .slice xa72 _ xc73]) (E := 39) g76 ⟨_, _, _, _, rfl, r68, r71, rfl, r74⟩ rfl (ex_lit (E := 39) (cells := #[.slice xa66 _ xc67, .slice xa69 _ xc70, _, .slice xa72 _ xc73]) (bmap1 rfl) (fun w => by kernel_rfl))
 refine gw_nil ?_
 intro w79 hC81 hF82
 obtain ⟨F83, g84, R85⟩ := hF82.get 13 rfl rfl
 have S80 := St.gives S39 g84
 have le87 : Le _ _ := g84.le S39.sat
 have R88 := R85
 generalize F83 = F86 at *
 obtain ⟨xa89, xc90, rfl, _⟩ := Sl.shape R88
 clear hF82
 simp only [List.drop_succ_cons, List.drop_zero]
 refine stAppendS (r := 0) (u := (.slice xa89 [(⟨p.name, p.key, p.gone, p.value⟩ : Wr)].length xc90)) S80 rfl i39 (.agg #[Zn, Zn, bF, Zn]) 80 Tryz.underlying40 hi39 hz39 hs39 hb39 rfl (by decide) rfl rfl rfl (Sl.toW R88 (S80).sat) (fun F cs p h => WrC.oneCell h) (Nat.le_refl _) S80.gr.below.size (by unfold maxLen; simp only [List.length_take, List.length_cons, List.length_nil]; omega) (by simp only [List.length_take, List.length_cons, List.length_nil]; omega) ?_
 intro v91 w92 S93 hn94
 simp only [pq]
 refine dy ?_
 refine wl_nil (hK17 _ _ ?_)
 refine region_wl ?_
 refine dAdd (k + 1) ?_
 refine dx ?_
 simp only [pq]
 refine wl_nil ?_
 have S93 := St.drop S93 (.cons _ (List.Sublist.refl _))
 have hpe : (⟨p.name, p.key, p.gone, p.value⟩ : Wr) = p := rfl
 rw [hpe, ← take_snoc hp] at S93
 exact hK14 _ _ _ (by omega) ⟨(k + 1), v91, F86, _, rfl, rfl, rfl, S93, (le13.trans le87), (by omega)⟩
 refine lssF ?_
 refine wn hK15 ?_
 refine wp_seq_k (fun K95 hK95 => ?_)
 refine wp_cond_false rfl ?_
 refine wp_exit ?_
 refine hK3 _ _ ?_
 refine sk fun K96 hK96 => ?_
 refine dx ?_
 refine dy ?_
 simp only [pq]
 refine wn hK96 ?_
 refine wp_ret ?_
 (try simp only [Exit.then, Exit.inBlock, ↓reduceIte, Nat.reduceEqDiff])
 refine bR (res_t rfl (gD rfl)) ?_
 have hend : ws.take k = ws := List.take_of_length_le (by omega)
 have ho := S12.own (i := 0) rfl
 rw [hend] at ho
 exact ⟨_, _, rfl, S12.gr, ho⟩
theorem txnWrites_spec (F : Fz) (w : World) (v : Value) (ws : List Wr) (hs : Sat w F) (hv : Wrs F v ws) (hl : ws.length ≤ 100000) (hb : ∀ r ∈ ws, r.name.length ≤ 100000 ∧ r.key.length ≤ 100000 ∧ r.value.length ≤ 100000) :
    Calls Tryz.prog 114 #[v] w (Gives w F fun F' u => Wrs F' u ws) := gives_of_own WrC.mono (txnWritesO_spec F w v ws hs hv hl hb)
/-- A read, a write, that a pointer points to. -/
def RdP (F : Fz) (b : Nat) (p : Rd) : Prop := ∃ x0 y0 x1 y1 x3 y3, cellF F b 0 = some (.slice x0 p.name.length y0) ∧ cellF F b 1 = some (.slice x1 p.key.length y1) ∧ cellF F b 2 = some (.bool p.wide) ∧ cellF F b 3 = some (.slice x3 p.last.length y3) ∧ Bs F (.slice x0 p.name.length y0) p.name ∧ Bs F (.slice x1 p.key.length y1) p.key ∧ Bs F (.slice x3 p.last.length y3) p.last
def WrP (F : Fz) (b : Nat) (p : Wr) : Prop := ∃ x0 y0 x1 y1 x3 y3, cellF F b 0 = some (.slice x0 p.name.length y0) ∧ cellF F b 1 = some (.slice x1 p.key.length y1) ∧ cellF F b 2 = some (.bool p.gone) ∧ cellF F b 3 = some (.slice x3 p.value.length y3) ∧ Bs F (.slice x0 p.name.length y0) p.name ∧ Bs F (.slice x1 p.key.length y1) p.key ∧ Bs F (.slice x3 p.value.length y3) p.value
theorem RdP.mono {F F' : Fz} {b : Nat} {p : Rd} (h : RdP F b p) (hl : Le F F') : RdP F' b p := by
 obtain ⟨x0, y0, x1, y1, x3, y3, c0, c1, c2, c3, h0, h1, h3⟩ := h
 exact ⟨x0, y0, x1, y1, x3, y3, Le.cell hl c0, Le.cell hl c1, Le.cell hl c2, Le.cell hl c3, h0.mono hl, h1.mono hl, h3.mono hl⟩
theorem WrP.mono {F F' : Fz} {b : Nat} {p : Wr} (h : WrP F b p) (hl : Le F F') : WrP F' b p := by
 obtain ⟨x0, y0, x1, y1, x3, y3, c0, c1, c2, c3, h0, h1, h3⟩ := h
 exact ⟨x0, y0, x1, y1, x3, y3, Le.cell hl c0, Le.cell hl c1, Le.cell hl c2, Le.cell hl c3, h0.mono hl, h1.mono hl, h3.mono hl⟩
/-- Where the first one is; -1: there is none. -/
def idxE {α : Type} (l : List α) (g : α → Bool) : Int := match l.findIdx? g with | some i => (i : Int) | none => -1
theorem idxE_hit {α : Type} {l : List α} {g : α → Bool} {k : Nat} {p : α} (hp : l[k]? = some p) (h : g p = true) (hb : ∀ (i : Nat) q, i < k → l[i]? = some q → g q = false) : idxE l g = (k : Int) := by
 have : l.findIdx? g = some k := by
  obtain ⟨hk, rfl⟩ := List.getElem?_eq_some_iff.1 hp
  rw [List.findIdx?_eq_some_iff_getElem]
  exact ⟨hk, h, fun j hj => by rw [hb j _ hj (List.getElem?_eq_getElem (by omega))]; simp⟩
 unfold idxE; rw [this]
theorem idxE_none {α : Type} {l : List α} {g : α → Bool} (hb : ∀ (i : Nat) q, i < l.length → l[i]? = some q → g q = false) : idxE l g = -1 := by
 have : l.findIdx? g = none := by
  rw [List.findIdx?_eq_none_iff]
  intro x hx
  obtain ⟨i, hi, rfl⟩ := List.mem_iff_getElem.1 hx
  exact hb i _ hi (List.getElem?_eq_getElem hi)
 unfold idxE; rw [this]
theorem idxE_any {α : Type} {l : List α} {g : α → Bool} : decide (0 ≤ idxE l g) = l.any g := by
 unfold idxE
 cases h : l.findIdx? g with
 | none =>
  rw [List.findIdx?_eq_none_iff] at h
  have : l.any g = false := by rw [List.any_eq_false]; intro x hx; rw [h x hx]; simp
  rw [this]; rfl
 | some i =>
  rw [List.findIdx?_eq_some_iff_getElem] at h
  obtain ⟨hi, h1, _⟩ := h
  have : l.any g = true := List.any_eq_true.2 ⟨_, List.getElem_mem hi, h1⟩
  rw [this]; simp
theorem check1_clos (F : Fz) (w : World) (v : Value) (b : Nat) (q : Rd) (r : Rd) (hs : Sat w F) (hv : RdV F v q) (hr : RdP F b r) :
    Calls Tryz.prog 135 #[v, .pointer (some ⟨b, 0, none⟩)] w (Tells w (.bool (decide (q = r)))) := by
 obtain ⟨x0, x1, x2, x3, x4, x5, rfl, h0, h1, h3⟩ := hv
 obtain ⟨z0, z1, z2, z3, z4, z5, c0, c1, c2, c3, k0, k1, k3⟩ := hr
 have S := St.start hs
 go_enter Tryz.func135, Tryz.ntmps135
 refine sk fun K1 hK1 => ?_
 refine stNew S (v := fun n => .pointer (aA n 0)) rfl (ex_box (v := (.agg #[(.slice x0 q.name.length x1), (.slice x2 q.key.length x3), (.bool q.wide), (.slice x4 q.last.length x5)])) rfl) (fun n2 w3 S4 => ?_)
 refine dy ?_
 refine wn hK1 ?_
 refine sk fun K5 hK5 => ?_
 refine dR S4 0 Tryz.underlying179 (size_179) ?_
 refine dr _ (ex_load rfl (loadM Tryz.underlying179 rfl (size_179) (range4 (St.fz S4 c0) (St.fz S4 c1) (St.fz S4 c2) (St.fz S4 c3)))) ?_
 simp only [pq]
 refine stTells (v := (.bool (decide (q = r)))) S4 rfl (fn2 (ent_129 _ _)) (sameRead_spec _ _ _ _ _ _ (S4).sat ⟨_, _, _, _, _, _, rfl, h0, h1, h3⟩ ⟨_, _, _, _, _, _, rfl, k0, k1, k3⟩) (fun w6 S7 => ?_)
 refine dy ?_
 refine wn hK5 ?_
 refine wp_ret ?_
 try simp only [xt]
 refine bR (res_t rfl (gD rfl)) ?_
 exact ⟨rfl, S7.gr.below⟩
theorem check1_index (F : Fz) (w : World) (v : Value) (b : Nat) (l : List Rd) (r : Rd) (hs : Sat w F) (hv : Rds F v l) (hr : RdP F b r) (hl : l.length ≤ 1000000) :
    Calls Tryz.prog 146 #[v, .func (.func 135) #[] #[.pointer (some ⟨b, 0, none⟩)]] w (Tells w (.int .i64 (idxE l (fun q : Rd => (decide (q = r)))))) := by
 obtain ⟨a, c, rfl, hc1, hc2⟩ := Sl.shape hv
 unfold maxLen at hc2
 have S := St.start hs
 go_enter Tryz.func146, Tryz.ntmps146
 refine sk fun K1 hK1 => ?_
 refine dy ?_
 refine wn hK1 ?_
 refine wp_seq_k (fun K2 hK2 => ?_)
 refine sk fun K3 hK3 => ?_
 refine dx ?_
 refine dn Tryz.underlying139 ?_
 refine dx ?_
 simp only [pq]
 refine wn hK3 ?_
 refine wp_block ?_
 refine wp_loop_g (fun mm aa w5 => ∃ (k : Nat) (u4 : Nat → Value), mm = l.length - k ∧ u4 = slots aa ∧ aa = ⟨#[(.slice a l.length c), (.func (.func 135) #[] #[(pP b 0)]), undef, undef, (u4 4), (u4 5), (.slice a l.length c), (nI l.length), (nI k), (u4 9), (u4 10), (u4 11), (u4 12), (u4 13), (u4 14), (u4 15), (u4 16), (u4 17), (u4 18)], []⟩ ∧ St w F w5 F [] [] ∧ (k ≤ l.length) ∧ (∀ (i : Nat) q, i < k → l[i]? = some q → (fun q : Rd => (decide (q = r))) q = false)) _ ⟨0, _, rfl, rfl, rfl, S, (by omega), (fun i q hi => absurd hi (by omega))⟩ ?_
 rintro m6 a7 w8 ⟨k, u4, rfl, -, rfl, S9, hk, hbad⟩ K11 hK11
 refine sk fun K12 hK12 => ?_
 by_cases hc9 : k < l.length
 refine lssT ?_
 refine wn hK12 ?_
 refine wp_seq_k (fun K13 hK13 => ?_)
 refine wp_cond_true rfl ?_
 refine wp_skip ?_
 refine hK13 _ _ ?_
 refine wp_seq_k (fun K14 hK14 => ?_)
 refine wp_block ?_
 refine sk fun K15 hK15 => ?_
 refine dx ?_
 refine dy ?_
 simp only [pq]
 refine wn hK15 ?_
 refine wp_seq_k (fun K16 hK16 => ?_)
 obtain ⟨p, hp⟩ : ∃ p, l[k]? = some p := ⟨l[k], List.getElem?_eq_getElem hc9⟩
 obtain ⟨b17, o18, ha19, xa21, xc22, xa25, xc26, xa30, xc31, c20, c24, c28, c29, r23, r27, r32⟩ := Rds.get hv hp
 refine region_wl ?_
 iterate 3 refine dx ?_
 simp only [pq]
 refine dr (pP b17 (o18 + k * 4)) (ex_at (i := k) (sz := 4) Tryz.underlying139 (sizeof_179 _) rfl ha19 rfl (by omega) rfl) ?_
 refine dr _ (ex_load rfl (loadM Tryz.underlying179 rfl (size_179) (range4 (St.fz S9 c20) (St.fz S9 c24) (St.fz S9 c28) (St.fz S9 c29)))) ?_
 refine stTells (v := (.bool ((fun q : Rd => (decide (q = r))) p))) S9 rfl (ex_fv (fs := #[]) (cs := #[(pP b 0)]) (vs := #[(.agg #[(.slice xa21 p.name.length xc22), (.slice xa25 p.key.length xc26), (.bool p.wide), (.slice xa30 p.last.length xc31)]), (pP b 0)]) rfl (vmap (fs := #[]) (cs := #[(pP b 0)]) (xs := #[(.agg #[(.slice xa21 p.name.length xc22), (.slice xa25 p.key.length xc26), (.bool p.wide), (.slice xa30 p.last.length xc31)])]) (map1 rfl) (by simp)) (ent_135 _ _)) (check1_clos _ _ _ b p r (S9).sat ⟨_, _, _, _, _, _, rfl, r23, r27, r32⟩ hr) (fun w33 S34 => ?_)
 refine wl_nil (hK16 _ _ ?_)
 refine wp_cond_split rfl (fun hc35 => ?_) (fun hc35 => ?_)
 refine sk fun K36 hK36 => ?_
 refine dx ?_
 refine dy ?_
 simp only [pq]
 refine wn hK36 ?_
 refine wp_ret ?_
 (try simp only [Exit.then, Exit.inBlock, ↓reduceIte, Nat.reduceEqDiff])
 refine bR (res_t rfl (gD rfl)) ?_
 exact ⟨by rw [idxE_hit hp hc35 hbad], S34.gr.below⟩
 refine wp_skip ?_
 refine hK14 _ _ ?_
 refine region_wl ?_
 refine dAdd (k + 1) ?_
 refine dx ?_
 refine wl_nil ?_
 exact hK11 _ _ _ (by omega) ⟨(k + 1), _, rfl, rfl, rfl, S34, (by omega), (fun i q hi hq => by rcases Nat.lt_succ_iff_lt_or_eq.1 hi with h | rfl; exact hbad i q h hq; (rw [hp] at hq; cases hq; exact hc35))⟩
 refine lssF ?_
 simp only [pq]
 refine wn hK12 ?_
 refine wp_seq_k (fun K37 hK37 => ?_)
 refine wp_cond_false rfl ?_
 refine wp_exit ?_
 refine hK2 _ _ ?_
 refine sk fun K38 hK38 => ?_
 refine dy ?_
 refine wn hK38 ?_
 refine wp_ret ?_
 (try simp only [Exit.then, Exit.inBlock, ↓reduceIte, Nat.reduceEqDiff])
 refine bR (res_t rfl (gD rfl)) ?_
 exact ⟨by rw [idxE_none (fun i q hi hq => hbad i q (by omega) hq)], S9.gr.below⟩
theorem check1_contains (F : Fz) (w : World) (v : Value) (b : Nat) (l : List Rd) (r : Rd) (hs : Sat w F) (hv : Rds F v l) (hr : RdP F b r) (hl : l.length ≤ 1000000) :
    Calls Tryz.prog 127 #[v, .func (.func 135) #[] #[.pointer (some ⟨b, 0, none⟩)]] w (Tells w (.bool (l.any (fun q : Rd => (decide (q = r)))))) := by
 obtain ⟨a, c, rfl, hc1, hc2⟩ := Sl.shape hv
 have S := St.start hs
 go_enter Tryz.func127, Tryz.ntmps127
 refine sk fun K1 hK1 => ?_
 refine dy ?_
 refine wn hK1 ?_
 refine sk fun K2 hK2 => ?_
 iterate 2 refine dx ?_
 simp only [pq]
 refine stTells (v := (.int .i64 (idxE l (fun q : Rd => (decide (q = r)))))) S rfl (fn2 (ent_146 _ _)) (check1_index _ _ _ b l r (S).sat hv hr hl) (fun w3 S4 => ?_)
 refine dr (.bool (l.any (fun q : Rd => (decide (q = r))))) (ex_geq (m := idxE l (fun q : Rd => (decide (q = r)))) (n := 0) (b := l.any (fun q : Rd => (decide (q = r)))) rfl rfl idxE_any) ?_
 refine dy ?_
 refine wn hK2 ?_
 refine wp_ret ?_
 try simp only [xt]
 refine bR (res_t rfl (gD rfl)) ?_
 exact ⟨rfl, S4.gr.below⟩
theorem note1_clos (F : Fz) (w : World) (v : Value) (b : Nat) (q : Rd) (r : Rd) (hs : Sat w F) (hv : RdV F v q) (hr : RdP F b r) :
    Calls Tryz.prog 128 #[v, .pointer (some ⟨b, 0, none⟩)] w (Tells w (.bool (decide (q = r)))) := by
 obtain ⟨x0, x1, x2, x3, x4, x5, rfl, h0, h1, h3⟩ := hv
 obtain ⟨z0, z1, z2, z3, z4, z5, c0, c1, c2, c3, k0, k1, k3⟩ := hr
 have S := St.start hs
 go_enter Tryz.func128, Tryz.ntmps128
 refine sk fun K1 hK1 => ?_
 refine stNew S (v := fun n => .pointer (aA n 0)) rfl (ex_box (v := (.agg #[(.slice x0 q.name.length x1), (.slice x2 q.key.length x3), (.bool q.wide), (.slice x4 q.last.length x5)])) rfl) (fun n2 w3 S4 => ?_)
 refine dy ?_
 refine wn hK1 ?_
 refine sk fun K5 hK5 => ?_
 refine dR S4 0 Tryz.underlying179 (size_179) ?_
 refine dr _ (ex_load rfl (loadM Tryz.underlying179 rfl (size_179) (range4 (St.fz S4 c0) (St.fz S4 c1) (St.fz S4 c2) (St.fz S4 c3)))) ?_
 simp only [pq]
 refine stTells (v := (.bool (decide (q = r)))) S4 rfl (fn2 (ent_129 _ _)) (sameRead_spec _ _ _ _ _ _ (S4).sat ⟨_, _, _, _, _, _, rfl, h0, h1, h3⟩ ⟨_, _, _, _, _, _, rfl, k0, k1, k3⟩) (fun w6 S7 => ?_)
 refine dy ?_
 refine wn hK5 ?_
 refine wp_ret ?_
 try simp only [xt]
 refine bR (res_t rfl (gD rfl)) ?_
 exact ⟨rfl, S7.gr.below⟩
theorem note1_index (F : Fz) (w : World) (v : Value) (b : Nat) (l : List Rd) (r : Rd) (hs : Sat w F) (hv : Rds F v l) (hr : RdP F b r) (hl : l.length ≤ 1000000) :
    Calls Tryz.prog 146 #[v, .func (.func 128) #[] #[.pointer (some ⟨b, 0, none⟩)]] w (Tells w (.int .i64 (idxE l (fun q : Rd => (decide (q = r)))))) := by
 obtain ⟨a, c, rfl, hc1, hc2⟩ := Sl.shape hv
 unfold maxLen at hc2
 have S := St.start hs
 go_enter Tryz.func146, Tryz.ntmps146
 refine sk fun K1 hK1 => ?_
 refine dy ?_
 refine wn hK1 ?_
 refine wp_seq_k (fun K2 hK2 => ?_)
 refine sk fun K3 hK3 => ?_
 refine dx ?_
 refine dn Tryz.underlying139 ?_
 refine dx ?_
 simp only [pq]
 refine wn hK3 ?_
 refine wp_block ?_
 refine wp_loop_g (fun mm aa w5 => ∃ (k : Nat) (u4 : Nat → Value), mm = l.length - k ∧ u4 = slots aa ∧ aa = ⟨#[(.slice a l.length c), (.func (.func 128) #[] #[(pP b 0)]), undef, undef, (u4 4), (u4 5), (.slice a l.length c), (nI l.length), (nI k), (u4 9), (u4 10), (u4 11), (u4 12), (u4 13), (u4 14), (u4 15), (u4 16), (u4 17), (u4 18)], []⟩ ∧ St w F w5 F [] [] ∧ (k ≤ l.length) ∧ (∀ (i : Nat) q, i < k → l[i]? = some q → (fun q : Rd => (decide (q = r))) q = false)) _ ⟨0, _, rfl, rfl, rfl, S, (by omega), (fun i q hi => absurd hi (by omega))⟩ ?_
 rintro m6 a7 w8 ⟨k, u4, rfl, -, rfl, S9, hk, hbad⟩ K11 hK11
 refine sk fun K12 hK12 => ?_
 by_cases hc9 : k < l.length
 refine lssT ?_
 refine wn hK12 ?_
 refine wp_seq_k (fun K13 hK13 => ?_)
 refine wp_cond_true rfl ?_
 refine wp_skip ?_
 refine hK13 _ _ ?_
 refine wp_seq_k (fun K14 hK14 => ?_)
 refine wp_block ?_
 refine sk fun K15 hK15 => ?_
 refine dx ?_
 refine dy ?_
 simp only [pq]
 refine wn hK15 ?_
 refine wp_seq_k (fun K16 hK16 => ?_)
 obtain ⟨p, hp⟩ : ∃ p, l[k]? = some p := ⟨l[k], List.getElem?_eq_getElem hc9⟩
 obtain ⟨b17, o18, ha19, xa21, xc22, xa25, xc26, xa30, xc31, c20, c24, c28, c29, r23, r27, r32⟩ := Rds.get hv hp
 refine region_wl ?_
 iterate 3 refine dx ?_
 simp only [pq]
 refine dr (pP b17 (o18 + k * 4)) (ex_at (i := k) (sz := 4) Tryz.underlying139 (sizeof_179 _) rfl ha19 rfl (by omega) rfl) ?_
 refine dr _ (ex_load rfl (loadM Tryz.underlying179 rfl (size_179) (range4 (St.fz S9 c20) (St.fz S9 c24) (St.fz S9 c28) (St.fz S9 c29)))) ?_
 refine stTells (v := (.bool ((fun q : Rd => (decide (q = r))) p))) S9 rfl (ex_fv (fs := #[]) (cs := #[(pP b 0)]) (vs := #[(.agg #[(.slice xa21 p.name.length xc22), (.slice xa25 p.key.length xc26), (.bool p.wide), (.slice xa30 p.last.length xc31)]), (pP b 0)]) rfl (vmap (fs := #[]) (cs := #[(pP b 0)]) (xs := #[(.agg #[(.slice xa21 p.name.length xc22), (.slice xa25 p.key.length xc26), (.bool p.wide), (.slice xa30 p.last.length xc31)])]) (map1 rfl) (by simp)) (ent_128 _ _)) (note1_clos _ _ _ b p r (S9).sat ⟨_, _, _, _, _, _, rfl, r23, r27, r32⟩ hr) (fun w33 S34 => ?_)
 refine wl_nil (hK16 _ _ ?_)
 refine wp_cond_split rfl (fun hc35 => ?_) (fun hc35 => ?_)
 refine sk fun K36 hK36 => ?_
 refine dx ?_
 refine dy ?_
 simp only [pq]
 refine wn hK36 ?_
 refine wp_ret ?_
 (try simp only [Exit.then, Exit.inBlock, ↓reduceIte, Nat.reduceEqDiff])
 refine bR (res_t rfl (gD rfl)) ?_
 exact ⟨by rw [idxE_hit hp hc35 hbad], S34.gr.below⟩
 refine wp_skip ?_
 refine hK14 _ _ ?_
 refine region_wl ?_
 refine dAdd (k + 1) ?_
 refine dx ?_
 refine wl_nil ?_
 exact hK11 _ _ _ (by omega) ⟨(k + 1), _, rfl, rfl, rfl, S34, (by omega), (fun i q hi hq => by rcases Nat.lt_succ_iff_lt_or_eq.1 hi with h | rfl; exact hbad i q h hq; (rw [hp] at hq; cases hq; exact hc35))⟩
 refine lssF ?_
 simp only [pq]
 refine wn hK12 ?_
 refine wp_seq_k (fun K37 hK37 => ?_)
 refine wp_cond_false rfl ?_
 refine wp_exit ?_
 refine hK2 _ _ ?_
 refine sk fun K38 hK38 => ?_
 refine dy ?_
 refine wn hK38 ?_
 refine wp_ret ?_
 (try simp only [Exit.then, Exit.inBlock, ↓reduceIte, Nat.reduceEqDiff])
 refine bR (res_t rfl (gD rfl)) ?_
 exact ⟨by rw [idxE_none (fun i q hi hq => hbad i q (by omega) hq)], S9.gr.below⟩
theorem note1_contains (F : Fz) (w : World) (v : Value) (b : Nat) (l : List Rd) (r : Rd) (hs : Sat w F) (hv : Rds F v l) (hr : RdP F b r) (hl : l.length ≤ 1000000) :
    Calls Tryz.prog 127 #[v, .func (.func 128) #[] #[.pointer (some ⟨b, 0, none⟩)]] w (Tells w (.bool (l.any (fun q : Rd => (decide (q = r)))))) := by
 obtain ⟨a, c, rfl, hc1, hc2⟩ := Sl.shape hv
 have S := St.start hs
 go_enter Tryz.func127, Tryz.ntmps127
 refine sk fun K1 hK1 => ?_
 refine dy ?_
 refine wn hK1 ?_
 refine sk fun K2 hK2 => ?_
 iterate 2 refine dx ?_
 simp only [pq]
 refine stTells (v := (.int .i64 (idxE l (fun q : Rd => (decide (q = r)))))) S rfl (fn2 (ent_146 _ _)) (note1_index _ _ _ b l r (S).sat hv hr hl) (fun w3 S4 => ?_)
 refine dr (.bool (l.any (fun q : Rd => (decide (q = r))))) (ex_geq (m := idxE l (fun q : Rd => (decide (q = r)))) (n := 0) (b := l.any (fun q : Rd => (decide (q = r)))) rfl rfl idxE_any) ?_
 refine dy ?_
 refine wn hK2 ?_
 refine wp_ret ?_
 try simp only [xt]
 refine bR (res_t rfl (gD rfl)) ?_
 exact ⟨rfl, S4.gr.below⟩
theorem check2_clos (F : Fz) (w : World) (v : Value) (b : Nat) (q : Wr) (r : Wr) (hs : Sat w F) (hv : WrV F v q) (hr : WrP F b r) :
    Calls Tryz.prog 137 #[v, .pointer (some ⟨b, 0, none⟩)] w (Tells w (.bool (samePl q r))) := by
 obtain ⟨x0, x1, x2, x3, x4, x5, rfl, h0, h1, h3⟩ := hv
 obtain ⟨z0, z1, z2, z3, z4, z5, c0, c1, c2, c3, k0, k1, k3⟩ := hr
 have S := St.start hs
 go_enter Tryz.func137, Tryz.ntmps137
 refine sk fun K1 hK1 => ?_
 refine stNew S (v := fun n => .pointer (aA n 0)) rfl (ex_box (v := (.agg #[(.slice x0 q.name.length x1), (.slice x2 q.key.length x3), (.bool q.gone), (.slice x4 q.value.length x5)])) rfl) (fun n2 w3 S4 => ?_)
 refine dy ?_
 refine wn hK1 ?_
 refine sk fun K5 hK5 => ?_
 refine dR S4 0 Tryz.underlying39 (size_39) ?_
 refine dr _ (ex_load rfl (loadM Tryz.underlying39 rfl (size_39) (range4 (St.fz S4 c0) (St.fz S4 c1) (St.fz S4 c2) (St.fz S4 c3)))) ?_
 simp only [pq]
 refine stTells (v := (.bool (samePl q r))) S4 rfl (fn2 (ent_104 _ _)) (samePlace_spec _ _ _ _ _ _ (S4).sat ⟨_, _, _, _, _, _, rfl, h0, h1, h3⟩ ⟨_, _, _, _, _, _, rfl, k0, k1, k3⟩) (fun w6 S7 => ?_)
 refine dy ?_
 refine wn hK5 ?_
 refine wp_ret ?_
 try simp only [xt]
 refine bR (res_t rfl (gD rfl)) ?_
 exact ⟨rfl, S7.gr.below⟩
theorem check2_index (F : Fz) (w : World) (v : Value) (b : Nat) (l : List Wr) (r : Wr) (hs : Sat w F) (hv : Wrs F v l) (hr : WrP F b r) (hl : l.length ≤ 1000000) :
    Calls Tryz.prog 115 #[v, .func (.func 137) #[] #[.pointer (some ⟨b, 0, none⟩)]] w (Tells w (.int .i64 (idxE l (fun q : Wr => (samePl q r))))) := by
 obtain ⟨a, c, rfl, hc1, hc2⟩ := Sl.shape hv
 unfold maxLen at hc2
 have S := St.start hs
 go_enter Tryz.func115, Tryz.ntmps115
 refine sk fun K1 hK1 => ?_
 refine dy ?_
 refine wn hK1 ?_
 refine wp_seq_k (fun K2 hK2 => ?_)
 refine sk fun K3 hK3 => ?_
 refine dx ?_
 refine dn Tryz.underlying40 ?_
 refine dx ?_
 simp only [pq]
 refine wn hK3 ?_
 refine wp_block ?_
 refine wp_loop_g (fun mm aa w5 => ∃ (k : Nat) (u4 : Nat → Value), mm = l.length - k ∧ u4 = slots aa ∧ aa = ⟨#[(.slice a l.length c), (.func (.func 137) #[] #[(pP b 0)]), undef, undef, (u4 4), (u4 5), (.slice a l.length c), (nI l.length), (nI k), (u4 9), (u4 10), (u4 11), (u4 12), (u4 13), (u4 14), (u4 15), (u4 16), (u4 17), (u4 18)], []⟩ ∧ St w F w5 F [] [] ∧ (k ≤ l.length) ∧ (∀ (i : Nat) q, i < k → l[i]? = some q → (fun q : Wr => (samePl q r)) q = false)) _ ⟨0, _, rfl, rfl, rfl, S, (by omega), (fun i q hi => absurd hi (by omega))⟩ ?_
 rintro m6 a7 w8 ⟨k, u4, rfl, -, rfl, S9, hk, hbad⟩ K11 hK11
 refine sk fun K12 hK12 => ?_
 by_cases hc9 : k < l.length
 refine lssT ?_
 refine wn hK12 ?_
 refine wp_seq_k (fun K13 hK13 => ?_)
 refine wp_cond_true rfl ?_
 refine wp_skip ?_
 refine hK13 _ _ ?_
 refine wp_seq_k (fun K14 hK14 => ?_)
 refine wp_block ?_
 refine sk fun K15 hK15 => ?_
 refine dx ?_
 refine dy ?_
 simp only [pq]
 refine wn hK15 ?_
 refine wp_seq_k (fun K16 hK16 => ?_)
 obtain ⟨p, hp⟩ : ∃ p, l[k]? = some p := ⟨l[k], List.getElem?_eq_getElem hc9⟩
 obtain ⟨b17, o18, ha19, xa21, xc22, xa25, xc26, xa30, xc31, c20, c24, c28, c29, r23, r27, r32⟩ := Wrs.get hv hp
 refine region_wl ?_
 iterate 3 refine dx ?_
 simp only [pq]
 refine dr (pP b17 (o18 + k * 4)) (ex_at (i := k) (sz := 4) Tryz.underlying40 (sizeof_39 _) rfl ha19 rfl (by omega) rfl) ?_
 refine dr _ (ex_load rfl (loadM Tryz.underlying39 rfl (size_39) (range4 (St.fz S9 c20) (St.fz S9 c24) (St.fz S9 c28) (St.fz S9 c29)))) ?_
 refine stTells (v := (.bool ((fun q : Wr => (samePl q r)) p))) S9 rfl (ex_fv (fs := #[]) (cs := #[(pP b 0)]) (vs := #[(.agg #[(.slice xa21 p.name.length xc22), (.slice xa25 p.key.length xc26), (.bool p.gone), (.slice xa30 p.value.length xc31)]), (pP b 0)]) rfl (vmap (fs := #[]) (cs := #[(pP b 0)]) (xs := #[(.agg #[(.slice xa21 p.name.length xc22), (.slice xa25 p.key.length xc26), (.bool p.gone), (.slice xa30 p.value.length xc31)])]) (map1 rfl) (by simp)) (ent_137 _ _)) (check2_clos _ _ _ b p r (S9).sat ⟨_, _, _, _, _, _, rfl, r23, r27, r32⟩ hr) (fun w33 S34 => ?_)
 refine wl_nil (hK16 _ _ ?_)
 refine wp_cond_split rfl (fun hc35 => ?_) (fun hc35 => ?_)
 refine sk fun K36 hK36 => ?_
 refine dx ?_
 refine dy ?_
 simp only [pq]
 refine wn hK36 ?_
 refine wp_ret ?_
 (try simp only [Exit.then, Exit.inBlock, ↓reduceIte, Nat.reduceEqDiff])
 refine bR (res_t rfl (gD rfl)) ?_
 exact ⟨by rw [idxE_hit hp hc35 hbad], S34.gr.below⟩
 refine wp_skip ?_
 refine hK14 _ _ ?_
 refine region_wl ?_
 refine dAdd (k + 1) ?_
 refine dx ?_
 refine wl_nil ?_
 exact hK11 _ _ _ (by omega) ⟨(k + 1), _, rfl, rfl, rfl, S34, (by omega), (fun i q hi hq => by rcases Nat.lt_succ_iff_lt_or_eq.1 hi with h | rfl; exact hbad i q h hq; (rw [hp] at hq; cases hq; exact hc35))⟩
 refine lssF ?_
 simp only [pq]
 refine wn hK12 ?_
 refine wp_seq_k (fun K37 hK37 => ?_)
 refine wp_cond_false rfl ?_
 refine wp_exit ?_
 refine hK2 _ _ ?_
 refine sk fun K38 hK38 => ?_
 refine dy ?_
 refine wn hK38 ?_
 refine wp_ret ?_
 (try simp only [Exit.then, Exit.inBlock, ↓reduceIte, Nat.reduceEqDiff])
 refine bR (res_t rfl (gD rfl)) ?_
 exact ⟨by rw [idxE_none (fun i q hi hq => hbad i q (by omega) hq)], S9.gr.below⟩
theorem check2_contains (F : Fz) (w : World) (v : Value) (b : Nat) (l : List Wr) (r : Wr) (hs : Sat w F) (hv : Wrs F v l) (hr : WrP F b r) (hl : l.length ≤ 1000000) :
    Calls Tryz.prog 136 #[v, .func (.func 137) #[] #[.pointer (some ⟨b, 0, none⟩)]] w (Tells w (.bool (l.any (fun q : Wr => (samePl q r))))) := by
 obtain ⟨a, c, rfl, hc1, hc2⟩ := Sl.shape hv
 have S := St.start hs
 go_enter Tryz.func136, Tryz.ntmps136
 refine sk fun K1 hK1 => ?_
 refine dy ?_
 refine wn hK1 ?_
 refine sk fun K2 hK2 => ?_
 iterate 2 refine dx ?_
 simp only [pq]
 refine stTells (v := (.int .i64 (idxE l (fun q : Wr => (samePl q r))))) S rfl (fn2 (ent_115 _ _)) (check2_index _ _ _ b l r (S).sat hv hr hl) (fun w3 S4 => ?_)
 refine dr (.bool (l.any (fun q : Wr => (samePl q r)))) (ex_geq (m := idxE l (fun q : Wr => (samePl q r))) (n := 0) (b := l.any (fun q : Wr => (samePl q r))) rfl rfl idxE_any) ?_
 refine dy ?_
 refine wn hK2 ?_
 refine wp_ret ?_
 try simp only [xt]
 refine bR (res_t rfl (gD rfl)) ?_
 exact ⟨rfl, S4.gr.below⟩
theorem write1_clos (F : Fz) (w : World) (v : Value) (b : Nat) (q : Wr) (r : Wr) (hs : Sat w F) (hv : WrV F v q) (hr : WrP F b r) :
    Calls Tryz.prog 116 #[v, .pointer (some ⟨b, 0, none⟩)] w (Tells w (.bool (samePl q r))) := by
 obtain ⟨x0, x1, x2, x3, x4, x5, rfl, h0, h1, h3⟩ := hv
 obtain ⟨z0, z1, z2, z3, z4, z5, c0, c1, c2, c3, k0, k1, k3⟩ := hr
 have S := St.start hs
 go_enter Tryz.func116, Tryz.ntmps116
 refine sk fun K1 hK1 => ?_
 refine stNew S (v := fun n => .pointer (aA n 0)) rfl (ex_box (v := (.agg #[(.slice x0 q.name.length x1), (.slice x2 q.key.length x3), (.bool q.gone), (.slice x4 q.value.length x5)])) rfl) (fun n2 w3 S4 => ?_)
 refine dy ?_
 refine wn hK1 ?_
 refine sk fun K5 hK5 => ?_
 refine dR S4 0 Tryz.underlying39 (size_39) ?_
 refine dr _ (ex_load rfl (loadM Tryz.underlying39 rfl (size_39) (range4 (St.fz S4 c0) (St.fz S4 c1) (St.fz S4 c2) (St.fz S4 c3)))) ?_
 simp only [pq]
 refine stTells (v := (.bool (samePl q r))) S4 rfl (fn2 (ent_104 _ _)) (samePlace_spec _ _ _ _ _ _ (S4).sat ⟨_, _, _, _, _, _, rfl, h0, h1, h3⟩ ⟨_, _, _, _, _, _, rfl, k0, k1, k3⟩) (fun w6 S7 => ?_)
 refine dy ?_
 refine wn hK5 ?_
 refine wp_ret ?_
 try simp only [xt]
 refine bR (res_t rfl (gD rfl)) ?_
 exact ⟨rfl, S7.gr.below⟩
theorem write1_index (F : Fz) (w : World) (v : Value) (b : Nat) (l : List Wr) (r : Wr) (hs : Sat w F) (hv : Wrs F v l) (hr : WrP F b r) (hl : l.length ≤ 1000000) :
    Calls Tryz.prog 115 #[v, .func (.func 116) #[] #[.pointer (some ⟨b, 0, none⟩)]] w (Tells w (.int .i64 (idxE l (fun q : Wr => (samePl q r))))) := by
 obtain ⟨a, c, rfl, hc1, hc2⟩ := Sl.shape hv
 unfold maxLen at hc2
 have S := St.start hs
 go_enter Tryz.func115, Tryz.ntmps115
 refine sk fun K1 hK1 => ?_
 refine dy ?_
 refine wn hK1 ?_
 refine wp_seq_k (fun K2 hK2 => ?_)
 refine sk fun K3 hK3 => ?_
 refine dx ?_
 refine dn Tryz.underlying40 ?_
 refine dx ?_
 simp only [pq]
 refine wn hK3 ?_
 refine wp_block ?_
 refine wp_loop_g (fun mm aa w5 => ∃ (k : Nat) (u4 : Nat → Value), mm = l.length - k ∧ u4 = slots aa ∧ aa = ⟨#[(.slice a l.length c), (.func (.func 116) #[] #[(pP b 0)]), undef, undef, (u4 4), (u4 5), (.slice a l.length c), (nI l.length), (nI k), (u4 9), (u4 10), (u4 11), (u4 12), (u4 13), (u4 14), (u4 15), (u4 16), (u4 17), (u4 18)], []⟩ ∧ St w F w5 F [] [] ∧ (k ≤ l.length) ∧ (∀ (i : Nat) q, i < k → l[i]? = some q → (fun q : Wr => (samePl q r)) q = false)) _ ⟨0, _, rfl, rfl, rfl, S, (by omega), (fun i q hi => absurd hi (by omega))⟩ ?_
 rintro m6 a7 w8 ⟨k, u4, rfl, -, rfl, S9, hk, hbad⟩ K11 hK11
 refine sk fun K12 hK12 => ?_
 by_cases hc9 : k < l.length
 refine lssT ?_
 refine wn hK12 ?_
 refine wp_seq_k (fun K13 hK13 => ?_)
 refine wp_cond_true rfl ?_
 refine wp_skip ?_
 refine hK13 _ _ ?_
 refine wp_seq_k (fun K14 hK14 => ?_)
 refine wp_block ?_
 refine sk fun K15 hK15 => ?_
 refine dx ?_
 refine dy ?_
 simp only [pq]
 refine wn hK15 ?_
 refine wp_seq_k (fun K16 hK16 => ?_)
 obtain ⟨p, hp⟩ : ∃ p, l[k]? = some p := ⟨l[k], List.getElem?_eq_getElem hc9⟩
 obtain ⟨b17, o18, ha19, xa21, xc22, xa25, xc26, xa30, xc31, c20, c24, c28, c29, r23, r27, r32⟩ := Wrs.get hv hp
 refine region_wl ?_
 iterate 3 refine dx ?_
 simp only [pq]
 refine dr (pP b17 (o18 + k * 4)) (ex_at (i := k) (sz := 4) Tryz.underlying40 (sizeof_39 _) rfl ha19 rfl (by omega) rfl) ?_
 refine dr _ (ex_load rfl (loadM Tryz.underlying39 rfl (size_39) (range4 (St.fz S9 c20) (St.fz S9 c24) (St.fz S9 c28) (St.fz S9 c29)))) ?_
 refine stTells (v := (.bool ((fun q : Wr => (samePl q r)) p))) S9 rfl (ex_fv (fs := #[]) (cs := #[(pP b 0)]) (vs := #[(.agg #[(.slice xa21 p.name.length xc22), (.slice xa25 p.key.length xc26), (.bool p.gone), (.slice xa30 p.value.length xc31)]), (pP b 0)]) rfl (vmap (fs := #[]) (cs := #[(pP b 0)]) (xs := #[(.agg #[(.slice xa21 p.name.length xc22), (.slice xa25 p.key.length xc26), (.bool p.gone), (.slice xa30 p.value.length xc31)])]) (map1 rfl) (by simp)) (ent_116 _ _)) (write1_clos _ _ _ b p r (S9).sat ⟨_, _, _, _, _, _, rfl, r23, r27, r32⟩ hr) (fun w33 S34 => ?_)
 refine wl_nil (hK16 _ _ ?_)
 refine wp_cond_split rfl (fun hc35 => ?_) (fun hc35 => ?_)
 refine sk fun K36 hK36 => ?_
 refine dx ?_
 refine dy ?_
 simp only [pq]
 refine wn hK36 ?_
 refine wp_ret ?_
 (try simp only [Exit.then, Exit.inBlock, ↓reduceIte, Nat.reduceEqDiff])
 refine bR (res_t rfl (gD rfl)) ?_
 exact ⟨by rw [idxE_hit hp hc35 hbad], S34.gr.below⟩
 refine wp_skip ?_
 refine hK14 _ _ ?_
 refine region_wl ?_
 refine dAdd (k + 1) ?_
 refine dx ?_
 refine wl_nil ?_
 exact hK11 _ _ _ (by omega) ⟨(k + 1), _, rfl, rfl, rfl, S34, (by omega), (fun i q hi hq => by rcases Nat.lt_succ_iff_lt_or_eq.1 hi with h | rfl; exact hbad i q h hq; (rw [hp] at hq; cases hq; exact hc35))⟩
 refine lssF ?_
 simp only [pq]
 refine wn hK12 ?_
 refine wp_seq_k (fun K37 hK37 => ?_)
 refine wp_cond_false rfl ?_
 refine wp_exit ?_
 refine hK2 _ _ ?_
 refine sk fun K38 hK38 => ?_
 refine dy ?_
 refine wn hK38 ?_
 refine wp_ret ?_
 (try simp only [Exit.then, Exit.inBlock, ↓reduceIte, Nat.reduceEqDiff])
 refine bR (res_t rfl (gD rfl)) ?_
 exact ⟨by rw [idxE_none (fun i q hi hq => hbad i q (by omega) hq)], S9.gr.below⟩
theorem ex_makeFunc {P : Program} {ρ : Operand → Value} {w : World} {d : Option Tmp} {t : TypeId} {pos : String} {after : Array Edge} {guard : Option (Nat × Bool)} {k : FuncId} {x : Operand} {v : Value} (hx : ρ x = v) : (execOp ρ ⟨d, .makeFunc (.func k) #[] #[x], t, pos, after, guard⟩).run P w = .ok (.value (.func (.func k) #[] #[v])) w := by
 subst hx
 simp [execOp, Instr.makeFunc]
theorem applyE_nil (r : Wr) : (applyE [] [r]).1 = wrE r := by
 unfold applyE
 rw [if_neg (by simp)]
 by_cases h : wrE r = 0
 ·unfold applyR
  rw [if_neg (by simp [h])]
  cases hw : writeF [] r with
  | none =>
   have := (writeF_none (m := 0) (ForestOk.nil 0) (wrE_ok.1 h) (by omega) hw).1
   simp at this
  | some g => exact h.symm
 ·rw [wr_bad h]
/-- A transaction by value. -/
def TxV (F : Fz) (u : Value) (t : Tx) : Prop := ∃ x0 y0 x1 y1, u = .agg #[.int .i64 t.start, .slice x0 t.reads.length y0, .slice x1 t.writes.length y1] ∧ Rds F (.slice x0 t.reads.length y0) t.reads ∧ Wrs F (.slice x1 t.writes.length y1) t.writes
theorem TxV.mono {F F' : Fz} {u : Value} {t : Tx} (h : TxV F u t) (hl : Le F F') : TxV F' u t := by
 obtain ⟨x0, y0, x1, y1, rfl, h0, h1⟩ := h
 exact ⟨x0, y0, x1, y1, rfl, h0.mono hl, h1.mono hl⟩
def rdsAt (l : List Rd) : Nat → Nat → Int
  | 0, _ => 0
  | n + 1, k => match l[k]? with
    | none => 0
    | some r => if rdE r ≠ 0 then rdE r else if (l.take k).any (fun q => decide (q = r)) = true then 3 else rdsAt l n (k + 1)
def wrsAt (l : List Wr) : Nat → Nat → Int
  | 0, _ => 0
  | n + 1, k => match l[k]? with
    | none => 0
    | some r => if wrE r ≠ 0 then wrE r else if (l.take k).any (fun q => samePl q r) = true then 3 else wrsAt l n (k + 1)
def txE (t : Tx) : Int := if t.start < 0 ∨ 1048576 < t.start then 2 else if 20 < t.reads.length ∨ 10 < t.writes.length then 1 else if rdsAt t.reads t.reads.length 0 ≠ 0 then rdsAt t.reads t.reads.length 0 else wrsAt t.writes t.writes.length 0
theorem rdsAt_at {l : List Rd} {k : Nat} {r : Rd} (hp : l[k]? = some r) : rdsAt l (l.length - k) k = if rdE r ≠ 0 then rdE r else if (l.take k).any (fun q => decide (q = r)) = true then 3 else rdsAt l (l.length - (k + 1)) (k + 1) := by
 obtain ⟨hk, _⟩ := List.getElem?_eq_some_iff.1 hp
 rw [show l.length - k = (l.length - (k + 1)) + 1 from by omega]
 simp only [rdsAt, hp]
theorem rdsAt_end {l : List Rd} {k : Nat} (hk : l.length ≤ k) : rdsAt l (l.length - k) k = 0 := by rw [show l.length - k = 0 from by omega]; rfl
theorem wrsAt_at {l : List Wr} {k : Nat} {r : Wr} (hp : l[k]? = some r) : wrsAt l (l.length - k) k = if wrE r ≠ 0 then wrE r else if (l.take k).any (fun q => samePl q r) = true then 3 else wrsAt l (l.length - (k + 1)) (k + 1) := by
 obtain ⟨hk, _⟩ := List.getElem?_eq_some_iff.1 hp
 rw [show l.length - k = (l.length - (k + 1)) + 1 from by omega]
 simp only [wrsAt, hp]
theorem wrsAt_end {l : List Wr} {k : Nat} (hk : l.length ≤ k) : wrsAt l (l.length - k) k = 0 := by rw [show l.length - k = 0 from by omega]; rfl
theorem txnWrite_spec (F : Fz) (w : World) (v : Value) (r : Wr) (hs : Sat w F) (hv : WrV F v r) (hb : r.name.length ≤ 100000 ∧ r.key.length ≤ 100000 ∧ r.value.length ≤ 100000) :
    Calls Tryz.prog 112 #[v] w (Tells w (.int .i64 (wrE r))) := by
 obtain ⟨x0, x1, x2, x3, x4, x5, rfl, h0, h1, h3⟩ := hv
 have S := St.start hs
 go_enter Tryz.func112, Tryz.ntmps112
 refine sk fun K1 hK1 => ?_
 refine stNew S (v := fun n => .pointer (aA n 0)) rfl (ex_box (v := (.agg #[(.slice x0 r.name.length x1), (.slice x2 r.key.length x3), (.bool r.gone), (.slice x4 r.value.length x5)])) rfl) (fun n2 w3 S4 => ?_)
 refine dy ?_
 refine wn hK1 ?_
 refine sk fun K5 hK5 => ?_
 refine dR S4 0 Tryz.underlying39 (size_39) ?_
 refine stNew S4 (v := fun n => .slice (aA n 0) 1 1) rfl (ex_lit (ps := #[(0, (.agg #[(.slice x0 r.name.length x1), (.slice x2 r.key.length x3), (.bool r.gone), (.slice x4 r.value.length x5)]))]) (cells := #[(.slice x0 r.name.length x1), (.slice x2 r.key.length x3), (.bool r.gone), (.slice x4 r.value.length x5)]) (E := 39) (bmap1 rfl) (fun w => by kernel_rfl)) (fun n6 w7 S8 => ?_)
 simp only [pq]
 obtain ⟨S9, le10, hc11⟩ := St.freezeBlk S8 (i := 0) rfl
 have r13 : Wrs _ (.slice (some ⟨n6, 0, none⟩) 1 1) [r] := sl_of_block (R := WrC) (l := [r]) (el := [[(.slice x0 r.name.length x1), (.slice x2 r.key.length x3), (.bool r.gone), (.slice x4 r.value.length x5)]]) hc11 rfl ⟨⟨_, _, _, _, rfl, (h0.mono le10), (h1.mono le10), rfl, (h3.mono le10)⟩, trivial⟩ (by simp) (by unfold maxLen; simp)
 generalize addF F w7 n6 = F12 at *
 refine stGives S9 rfl (fn2 (ent_22 _ _)) (apply_spec _ _ _ _ [] [r] (S9).sat (Sl.nil _ _ _) r13 (ForestOk.nil 60) (fun q hq => by rw [List.mem_singleton.1 hq]; exact hb)) ?_
 intro v19 w14 F16 S15 le17 R18
 obtain ⟨_, rfl, r22⟩ := R18
 obtain ⟨a20, c21, rfl, _⟩ := Sl.shape r22
 refine dx ?_
 iterate 2 refine de ?_
 simp only [pq]
 iterate 2 refine dy ?_
 refine wn hK5 ?_
 refine sk fun K23 hK23 => ?_
 refine dx ?_
 refine dy ?_
 simp only [pq]
 refine wn hK23 ?_
 refine wp_ret ?_
 try simp only [xt]
 refine bodyPost_ret (v := (.int .i64 (applyE [] [r]).1)) ?_ rfl ?_
 exact res_t rfl rfl
 exact ⟨by rw [applyE_nil], S15.gr.below⟩
theorem txnCheck_spec (F : Fz) (w : World) (v : Value) (t : Tx) (hs : Sat w F) (hv : TxV F v t) (hbw : ∀ r ∈ t.writes, r.name.length ≤ 100000 ∧ r.key.length ≤ 100000 ∧ r.value.length ≤ 100000) :
    Calls Tryz.prog 111 #[v] w (Tells w (.int .i64 (txE t))) := by
 obtain ⟨x0, y0, x1, y1, rfl, h0, h1⟩ := hv
 obtain ⟨_, _, e0, q0, q1⟩ := Sl.shape h0
 obtain ⟨_, _, e1, q2, q3⟩ := Sl.shape h1
 injection e0 with _ _ e0
 injection e1 with _ _ e1
 subst e0 e1
 unfold maxLen at q1 q3
 have S := St.start hs
 go_enter Tryz.func111, Tryz.ntmps111
 refine sk fun K1 hK1 => ?_
 refine stNew S (v := fun n => .pointer (aA n 0)) rfl (ex_box (v := (.agg #[(.int .i64 t.start), (.slice x0 t.reads.length y0), (.slice x1 t.writes.length y1)])) rfl) (fun n2 w3 S4 => ?_)
 refine dy ?_
 refine wn hK1 ?_
 refine wp_seq_k (fun K5 hK5 => ?_)
 refine sk fun K6 hK6 => ?_
 refine df (fa_141_0 _ _) ?_
 refine dl (nagg_3 _) S4 0 ?_
 simp only [pq]
 by_cases hc11 : t.start < (0 : Int)
 refine lssT ?_
 refine dx ?_
 refine nO ?_
 simp only [pq]
 iterate 2 refine nO ?_
 refine dp ?_
 simp only [pq]
 refine wn hK6 ?_
 refine wp_cond_true rfl ?_
 refine sk fun K7 hK7 => ?_
 refine dy ?_
 refine wn hK7 ?_
 refine wp_ret ?_
 (try simp only [Exit.then, Exit.inBlock, ↓reduceIte, Nat.reduceEqDiff])
 refine bR (res_t rfl (gD rfl)) ?_
 exact ⟨by unfold txE; rw [if_pos (by omega)], S4.gr.below⟩
 refine lssF ?_
 refine dx ?_
 refine df (fa_141_0 _ _) ?_
 simp only [pq]
 refine dl (nagg_3 _) S4 0 ?_
 simp only [pq]
 by_cases hc15 : (1048576 : Int) < t.start
 refine gtrT ?_
 refine dp ?_
 refine wn hK6 ?_
 refine wp_cond_true rfl ?_
 refine sk fun K8 hK8 => ?_
 refine dy ?_
 simp only [pq]
 refine wn hK8 ?_
 refine wp_ret ?_
 (try simp only [Exit.then, Exit.inBlock, ↓reduceIte, Nat.reduceEqDiff])
 refine bR (res_t rfl (gD rfl)) ?_
 exact ⟨by unfold txE; rw [if_pos (by omega)], S4.gr.below⟩
 refine gtrF ?_
 refine dp ?_
 refine wn hK6 ?_
 refine wp_cond_false rfl ?_
 refine wp_skip ?_
 refine hK5 _ _ ?_
 refine wp_seq_k (fun K9 hK9 => ?_)
 refine sk fun K10 hK10 => ?_
 refine df (fa_141_1 _ _) ?_
 refine dl (nagg_139 _) S4 0 ?_
 refine dn Tryz.underlying139 ?_
 simp only [pq]
 by_cases hc20 : 20 < t.reads.length
 refine gtrT ?_
 refine dx ?_
 refine nO ?_
 simp only [pq]
 iterate 3 refine nO ?_
 simp only [pq]
 refine dp ?_
 refine wn hK10 ?_
 refine wp_cond_true rfl ?_
 refine sk fun K11 hK11 => ?_
 refine dy ?_
 refine wn hK11 ?_
 refine wp_ret ?_
 (try simp only [Exit.then, Exit.inBlock, ↓reduceIte, Nat.reduceEqDiff])
 refine bR (res_t rfl (gD rfl)) ?_
 exact ⟨by unfold txE; rw [if_neg (by omega), if_pos (by omega)], S4.gr.below⟩
 refine gtrF ?_
 refine dx ?_
 refine df (fa_141_2 _ _) ?_
 simp only [pq]
 refine dl (nagg_40 _) S4 0 ?_
 refine dn Tryz.underlying40 ?_
 simp only [pq]
 by_cases hc25 : 10 < t.writes.length
 refine gtrT ?_
 refine dp ?_
 refine wn hK10 ?_
 refine wp_cond_true rfl ?_
 refine sk fun K12 hK12 => ?_
 refine dy ?_
 simp only [pq]
 refine wn hK12 ?_
 refine wp_ret ?_
 (try simp only [Exit.then, Exit.inBlock, ↓reduceIte, Nat.reduceEqDiff])
 refine bR (res_t rfl (gD rfl)) ?_
 exact ⟨by unfold txE; rw [if_neg (by omega), if_pos (by omega)], S4.gr.below⟩
 refine gtrF ?_
 refine dp ?_
 refine wn hK10 ?_
 refine wp_cond_false rfl ?_
 refine wp_skip ?_
 refine hK9 _ _ ?_
 refine wp_seq_k (fun K13 hK13 => ?_)
 refine sk fun K14 hK14 => ?_
 refine df (fa_141_1 _ _) ?_
 refine dl (nagg_139 _) S4 0 ?_
 refine dn Tryz.underlying139 ?_
 simp only [pq]
 refine dx ?_
 refine wn hK14 ?_
 refine wp_block ?_
 refine wp_loop_g (fun mm aa w17 => ∃ (k : Nat) (F15 : Fz) (u16 : Nat → Value), mm = t.reads.length - k ∧ u16 = slots aa ∧ aa = ⟨#[(.agg #[(.int .i64 t.start), (.slice x0 t.reads.length y0), (.slice x1 t.writes.length y1)]), (pP n2 0), (u16 2), (u16 3), (u16 4), (u16 5), undef, undef, undef, (pP n2 0), (.int .i64 t.start), bF, bF, (pP n2 0), (.int .i64 t.start), bF, bF, (pP n2 1), (.slice x0 t.reads.length y0), (nI t.reads.length), bF, bF, (pP n2 2), (.slice x1 t.writes.length y1), (nI t.writes.length), bF, bF, (pP n2 1), (.slice x0 t.reads.length y0), (nI t.reads.length), (nI k), (u16 31), (u16 32), (u16 33), (u16 34), (u16 35), (u16 36), (u16 37), (u16 38), (u16 39), (u16 40), (u16 41), (u16 42), (u16 43), (u16 44), (u16 45), (u16 46), undef, undef, undef, undef, undef, undef, undef, undef, undef, undef, undef, undef, undef, undef, undef, undef, undef, undef, undef, undef], []⟩ ∧ St w F w17 F15 [⟨n2, [(.int .i64 t.start), (.slice x0 t.reads.length y0), (.slice x1 t.writes.length y1)], 141⟩] [] ∧ Le F F15 ∧ (k ≤ t.reads.length) ∧ (rdsAt t.reads t.reads.length 0 = rdsAt t.reads (t.reads.length - k) k)) _ ⟨0, F, _, rfl, rfl, rfl, S4, Le.refl _, (by omega), rfl⟩ ?_
 rintro m18 a19 w20 ⟨k, F15, u16, rfl, -, rfl, S21, le22, hk, hTr⟩ K23 hK23
 refine sk fun K24 hK24 => ?_
 by_cases hc31 : k < t.reads.length
 refine lssT ?_
 refine wn hK24 ?_
 refine wp_seq_k (fun K25 hK25 => ?_)
 refine wp_cond_true rfl ?_
 refine wp_skip ?_
 refine hK25 _ _ ?_
 refine wp_seq_k (fun K26 hK26 => ?_)
 refine wp_block ?_
 refine wp_seq_k (fun K27 hK27 => ?_)
 obtain ⟨p, hp⟩ : ∃ p, t.reads[k]? = some p := ⟨t.reads[k], List.getElem?_eq_getElem hc31⟩
 obtain ⟨b28, o29, ha30, xa32, xc33, xa36, xc37, xa41, xc42, c31, c35, c39, c40, r34, r38, r43⟩ := Rds.get (h0.mono le22) hp
 refine region_wl ?_
 refine dx ?_
 refine dr (pP b28 (o29 + k * 4)) (ex_at (i := k) (sz := 4) Tryz.underlying139 (sizeof_179 _) rfl ha30 rfl (by omega) rfl) ?_
 refine dr _ (ex_load rfl (loadM Tryz.underlying179 rfl (size_179) (range4 (St.fz S21 c31) (St.fz S21 c35) (St.fz S21 c39) (St.fz S21 c40)))) ?_
 simp only [pq]
 refine sA S21 (zero_179 _) fun n44 w45 S46 => ?_
 refine dy ?_
 refine sW 0 S46 (size_179) fun w47 S48 => ?_
 simp only [pq]
 refine wl_nil (hK27 _ _ ?_)
 refine wp_seq_k (fun K49 hK49 => ?_)
 refine sk fun K50 hK50 => ?_
 refine dR S48 0 Tryz.underlying179 (size_179) ?_
 refine stTells (v := (.int .i64 (rdE p))) S48 rfl (fn1 (ent_126 _ _)) (shape_spec _ _ _ p (S48).sat ⟨_, _, _, _, _, _, rfl, r34, r38, r43⟩) (fun w51 S52 => ?_)
 refine dy ?_
 refine wn hK50 ?_
 refine sk fun K53 hK53 => ?_
 refine dx ?_
 simp only [pq]
 by_cases hc38 : (rdE p) = (0 : Int)
 refine neqF ?_
 refine wn hK53 ?_
 refine wp_cond_false rfl ?_
 refine wp_skip ?_
 refine hK49 _ _ ?_
 refine wp_seq_k (fun K54 hK54 => ?_)
 obtain ⟨S55, le56, hc57⟩ := St.freezeBlk S52 (i := 0) rfl
 have r59 : RdP _ n44 p := ⟨_, _, _, _, _, _, hc57 0 _ rfl, hc57 1 _ rfl, hc57 2 _ rfl, hc57 3 _ rfl, (r34.mono le56), (r38.mono le56), (r43.mono le56)⟩
 generalize addF F15 w51 n44 = F58 at *
 refine region_wl ?_
 refine df (fa_141_1 _ _) ?_
 refine dl (nagg_139 _) S55 0 ?_
 refine dx ?_
 simp only [pq]
 have r60 := Sl.takeN (m := k) (h0.mono (le22.trans le56)) (by omega)
 have r60 : Rds _ (.slice x0 k y0) (t.reads.take k) := r60
 refine dr (.slice x0 k y0) (ex_slice (l := 0) (h := k) (sz := 4) Tryz.underlying139 rfl (sizeof_179 _) (.inl ⟨rfl, rfl⟩) (.inr ⟨_, rfl, rfl⟩) (by omega) (by omega) (slice_zero)) ?_
 refine dr (.func (.func 135) #[] #[(pP n44 0)]) (ex_makeFunc rfl) ?_
 refine stTells (v := (.bool ((t.reads.take k).any (fun q => decide (q = p))))) S55 rfl (fn2 (ent_127 _ _)) (check1_contains _ _ _ n44 (t.reads.take k) p (S55).sat r60 r59 (by rw [List.length_take]; omega)) (fun w61 S62 => ?_)
 refine wl_nil (hK54 _ _ ?_)
 refine wp_cond_split rfl (fun hc63 => ?_) (fun hc63 => ?_)
 refine sk fun K64 hK64 => ?_
 refine dy ?_
 simp only [pq]
 refine wn hK64 ?_
 refine wp_ret ?_
 (try simp only [Exit.then, Exit.inBlock, ↓reduceIte, Nat.reduceEqDiff])
 refine bR (res_t rfl (gD rfl)) ?_
 have hr : rdsAt t.reads t.reads.length 0 = 3 := by rw [hTr, rdsAt_at hp, if_neg (by omega), if_pos hc63]
 exact ⟨by unfold txE; rw [if_neg (by omega), if_neg (by omega), if_pos (by omega), hr], S62.gr.below⟩
 refine wp_skip ?_
 refine hK26 _ _ ?_
 refine region_wl ?_
 refine dAdd (k + 1) ?_
 refine dx ?_
 refine wl_nil ?_
 exact hK23 _ _ _ (by omega) ⟨(k + 1), F58, _, rfl, rfl, rfl, S62, (le22.trans le56), (by omega), (by rw [hTr, rdsAt_at hp, if_neg (by omega), if_neg (by rw [hc63]; simp)])⟩
 refine neqT ?_
 simp only [pq]
 refine wn hK53 ?_
 refine wp_cond_true rfl ?_
 refine sk fun K65 hK65 => ?_
 refine dx ?_
 refine dy ?_
 refine wn hK65 ?_
 refine wp_ret ?_
 (try simp only [Exit.then, Exit.inBlock, ↓reduceIte, Nat.reduceEqDiff])
 refine bR (res_t rfl (gD rfl)) ?_
 have hr : rdsAt t.reads t.reads.length 0 = rdE p := by rw [hTr, rdsAt_at hp, if_pos hc38]
 exact ⟨by unfold txE; rw [if_neg (by omega), if_neg (by omega), if_pos (by omega), hr], S52.gr.below⟩
 refine lssF ?_
 simp only [pq]
 refine wn hK24 ?_
 refine wp_seq_k (fun K66 hK66 => ?_)
 refine wp_cond_false rfl ?_
 refine wp_exit ?_
 refine hK13 _ _ ?_
 refine wp_seq_k (fun K67 hK67 => ?_)
 refine wp_seq_k (fun K68 hK68 => ?_)
 have hr0 : rdsAt t.reads t.reads.length 0 = 0 := by rw [hTr, rdsAt_end (by omega)]
 refine region_wl ?_
 refine df (fa_141_2 _ _) ?_
 refine dl (nagg_40 _) S21 0 ?_
 refine dn Tryz.underlying40 ?_
 simp only [pq]
 refine dx ?_
 refine wl_nil (hK68 _ _ ?_)
 refine wp_block ?_
 refine wp_loop_g (fun mm aa w71 => ∃ (j : Nat) (F69 : Fz) (u70 : Nat → Value), mm = t.writes.length - j ∧ u70 = slots aa ∧ aa = ⟨#[(.agg #[(.int .i64 t.start), (.slice x0 t.reads.length y0), (.slice x1 t.writes.length y1)]), (pP n2 0), (u70 2), (u16 3), (u16 4), (u16 5), (u70 6), (u70 7), (u70 8), (pP n2 0), (.int .i64 t.start), bF, bF, (pP n2 0), (.int .i64 t.start), bF, bF, (pP n2 1), (.slice x0 t.reads.length y0), (nI t.reads.length), bF, bF, (pP n2 2), (.slice x1 t.writes.length y1), (nI t.writes.length), bF, bF, (pP n2 1), (.slice x0 t.reads.length y0), (nI t.reads.length), (nI k), bF, (u16 32), (u16 33), (u16 34), (u16 35), (u16 36), (u16 37), (u16 38), (u16 39), (u16 40), (u16 41), (u16 42), (u16 43), (u16 44), (u16 45), (u16 46), (pP n2 2), (.slice x1 t.writes.length y1), (nI t.writes.length), (nI j), (u70 51), (u70 52), (u70 53), (u70 54), (u70 55), (u70 56), (u70 57), (u70 58), (u70 59), (u70 60), (u70 61), (u70 62), (u70 63), (u70 64), (u70 65), (u70 66)], []⟩ ∧ St w F w71 F69 [⟨n2, [(.int .i64 t.start), (.slice x0 t.reads.length y0), (.slice x1 t.writes.length y1)], 141⟩] [] ∧ Le F15 F69 ∧ (j ≤ t.writes.length) ∧ (wrsAt t.writes t.writes.length 0 = wrsAt t.writes (t.writes.length - j) j)) _ ⟨0, F15, _, rfl, rfl, rfl, S21, Le.refl _, (by omega), rfl⟩ ?_
 rintro m72 a73 w74 ⟨j, F69, u70, rfl, -, rfl, S75, le76, hj, hTw⟩ K77 hK77
 refine sk fun K78 hK78 => ?_
 by_cases hc51 : j < t.writes.length
 refine lssT ?_
 refine wn hK78 ?_
 refine wp_seq_k (fun K79 hK79 => ?_)
 refine wp_cond_true rfl ?_
 refine wp_skip ?_
 refine hK79 _ _ ?_
 refine wp_seq_k (fun K80 hK80 => ?_)
 refine wp_block ?_
 refine wp_seq_k (fun K81 hK81 => ?_)
 obtain ⟨p, hp⟩ : ∃ p, t.writes[j]? = some p := ⟨t.writes[j], List.getElem?_eq_getElem hc51⟩
 obtain ⟨b82, o83, ha84, xa86, xc87, xa90, xc91, xa95, xc96, c85, c89, c93, c94, r88, r92, r97⟩ := Wrs.get (h1.mono (le22.trans le76)) hp
 refine region_wl ?_
 refine dx ?_
 refine dr (pP b82 (o83 + j * 4)) (ex_at (i := j) (sz := 4) Tryz.underlying40 (sizeof_39 _) rfl ha84 rfl (by omega) rfl) ?_
 refine dr _ (ex_load rfl (loadM Tryz.underlying39 rfl (size_39) (range4 (St.fz S75 c85) (St.fz S75 c89) (St.fz S75 c93) (St.fz S75 c94)))) ?_
 simp only [pq]
 refine sA S75 (zero_39 _) fun n98 w99 S100 => ?_
 refine dy ?_
 refine sW 0 S100 (size_39) fun w101 S102 => ?_
 simp only [pq]
 refine wl_nil (hK81 _ _ ?_)
 refine wp_seq_k (fun K103 hK103 => ?_)
 refine sk fun K104 hK104 => ?_
 refine dR S102 0 Tryz.underlying39 (size_39) ?_
 refine stTells (v := (.int .i64 (wrE p))) S102 rfl (fn1 (ent_112 _ _)) (txnWrite_spec _ _ _ p (S102).sat ⟨_, _, _, _, _, _, rfl, r88, r92, r97⟩ (hbw p (List.mem_of_getElem? hp))) (fun w105 S106 => ?_)
 refine dy ?_
 refine wn hK104 ?_
 refine sk fun K107 hK107 => ?_
 refine dx ?_
 simp only [pq]
 by_cases hc58 : (wrE p) = (0 : Int)
 refine neqF ?_
 refine wn hK107 ?_
 refine wp_cond_false rfl ?_
 refine wp_skip ?_
 refine hK103 _ _ ?_
 refine wp_seq_k (fun K108 hK108 => ?_)
 obtain ⟨S109, le110, hc111⟩ := St.freezeBlk S106 (i := 0) rfl
 have r113 : WrP _ n98 p := ⟨_, _, _, _, _, _, hc111 0 _ rfl, hc111 1 _ rfl, hc111 2 _ rfl, hc111 3 _ rfl, (r88.mono le110), (r92.mono le110), (r97.mono le110)⟩
 generalize addF F69 w105 n98 = F112 at *
 refine region_wl ?_
 refine df (fa_141_2 _ _) ?_
 refine dl (nagg_40 _) S109 0 ?_
 refine dx ?_
 simp only [pq]
 have r114 := Sl.takeN (m := j) (h1.mono ((le22.trans le76).trans le110)) (by omega)
 have r114 : Wrs _ (.slice x1 j y1) (t.writes.take j) := r114
 refine dr (.slice x1 j y1) (ex_slice (l := 0) (h := j) (sz := 4) Tryz.underlying40 rfl (sizeof_39 _) (.inl ⟨rfl, rfl⟩) (.inr ⟨_, rfl, rfl⟩) (by omega) (by omega) (slice_zero)) ?_
 refine dr (.func (.func 137) #[] #[(pP n98 0)]) (ex_makeFunc rfl) ?_
 refine stTells (v := (.bool ((t.writes.take j).any (fun q => samePl q p)))) S109 rfl (fn2 (ent_136 _ _)) (check2_contains _ _ _ n98 (t.writes.take j) p (S109).sat r114 r113 (by rw [List.length_take]; omega)) (fun w115 S116 => ?_)
 refine wl_nil (hK108 _ _ ?_)
 refine wp_cond_split rfl (fun hc117 => ?_) (fun hc117 => ?_)
 refine sk fun K118 hK118 => ?_
 refine dy ?_
 simp only [pq]
 refine wn hK118 ?_
 refine wp_ret ?_
 (try simp only [Exit.then, Exit.inBlock, ↓reduceIte, Nat.reduceEqDiff])
 refine bR (res_t rfl (gD rfl)) ?_
 exact ⟨by unfold txE; rw [if_neg (by omega), if_neg (by omega), if_neg (by omega), hTw, wrsAt_at hp, if_neg (by omega), if_pos hc117], S116.gr.below⟩
 refine wp_skip ?_
 refine hK80 _ _ ?_
 refine region_wl ?_
 refine dAdd (j + 1) ?_
 refine dx ?_
 refine wl_nil ?_
 exact hK77 _ _ _ (by omega) ⟨(j + 1), F112, _, rfl, rfl, rfl, S116, (le76.trans le110), (by omega), (by rw [hTw, wrsAt_at hp, if_neg (by omega), if_neg (by rw [hc117]; simp)])⟩
 refine neqT ?_
 simp only [pq]
 refine wn hK107 ?_
 refine wp_cond_true rfl ?_
 refine sk fun K119 hK119 => ?_
 refine dx ?_
 refine dy ?_
 refine wn hK119 ?_
 refine wp_ret ?_
 (try simp only [Exit.then, Exit.inBlock, ↓reduceIte, Nat.reduceEqDiff])
 refine bR (res_t rfl (gD rfl)) ?_
 exact ⟨by unfold txE; rw [if_neg (by omega), if_neg (by omega), if_neg (by omega), hTw, wrsAt_at hp, if_pos hc58], S106.gr.below⟩
 refine lssF ?_
 simp only [pq]
 refine wn hK78 ?_
 refine wp_seq_k (fun K120 hK120 => ?_)
 refine wp_cond_false rfl ?_
 refine wp_exit ?_
 refine hK67 _ _ ?_
 refine sk fun K121 hK121 => ?_
 refine dy ?_
 refine wn hK121 ?_
 refine wp_ret ?_
 (try simp only [Exit.then, Exit.inBlock, ↓reduceIte, Nat.reduceEqDiff])
 refine bR (res_t rfl (gD rfl)) ?_
 exact ⟨by unfold txE; rw [if_neg (by omega), if_neg (by omega), if_neg (by omega), hTw, wrsAt_end (by omega)], S75.gr.below⟩
theorem rdE_ok {r : Rd} : rdE r = 0 ↔ RdOk r := by
 unfold rdE
 by_cases h1 : nameN r.name.length = 0
 rw [if_neg (by simp [h1])]
 have hn := nameN_zero.1 h1
 by_cases h2 : checkN r.key.length = 0
 rw [if_neg (by simp [h2])]
 have hk := checkN_zero.1 h2
 cases hg : r.wide with
 | true =>
  simp only [if_true]
  exact ⟨fun h => ⟨hn, hk, by rw [hg]; simpa using checkN_zero.1 h⟩, fun h => checkN_zero.2 (by have := h.last; rw [hg] at this; simpa using this)⟩
 | false =>
  simp only [Bool.false_eq_true, if_false]
  by_cases h3 : 0 < r.last.length
  rw [if_pos h3]
  refine ⟨fun h => by omega, fun h => ?_⟩
  have := h.last
  rw [hg] at this
  simp at this
  rw [this] at h3; simp at h3
  rw [if_neg h3]
  exact ⟨fun _ => ⟨hn, hk, by rw [hg]; simpa using List.eq_nil_of_length_eq_zero (by omega)⟩, fun _ => rfl⟩
 rw [if_pos h2]
 exact ⟨fun h => absurd h h2, fun h => absurd (checkN_zero.2 h.key) h2⟩
 rw [if_pos h1]
 exact ⟨fun h => absurd h h1, fun h => absurd (nameN_zero.2 h.name) h1⟩
theorem rdsAt_ok {l : List Rd} : ∀ n k, n + k = l.length → (rdsAt l n k = 0 ↔ ∀ (i : Nat) r, k ≤ i → l[i]? = some r → rdE r = 0 ∧ (l.take i).any (fun q => decide (q = r)) = false)
  | 0, k, h => ⟨fun _ i r hi hr => by have := (List.getElem?_eq_some_iff.1 hr).1; omega, fun _ => rfl⟩
  | n + 1, k, h => by
    have hk : k < l.length := by omega
    obtain ⟨x, hp⟩ : ∃ x, l[k]? = some x := ⟨_, List.getElem?_eq_getElem hk⟩
    simp only [rdsAt, hp]
    by_cases h1 : rdE x = 0
    · rw [if_neg (by simpa using h1)]
      by_cases h2 : (l.take k).any (fun q => decide (q = x)) = true
      · rw [if_pos h2]
        refine ⟨fun h => by omega, fun h => ?_⟩
        have := (h k _ (Nat.le_refl _) hp).2
        rw [h2] at this
        cases this
      · rw [if_neg h2, rdsAt_ok n (k + 1) (by omega)]
        refine ⟨fun h i r hi hr => ?_, fun h i r hi hr => h i r (by omega) hr⟩
        rcases Nat.lt_or_eq_of_le hi with hi | rfl
        · exact h i r hi hr
        · rw [hp] at hr; cases hr; exact ⟨h1, Bool.eq_false_iff.2 h2⟩
    · rw [if_pos h1]
      exact ⟨fun h => absurd h h1, fun h => absurd (h k _ (Nat.le_refl _) hp).1 h1⟩
theorem wrsAt_ok {l : List Wr} : ∀ n k, n + k = l.length → (wrsAt l n k = 0 ↔ ∀ (i : Nat) r, k ≤ i → l[i]? = some r → wrE r = 0 ∧ (l.take i).any (fun q => samePl q r) = false)
  | 0, k, h => ⟨fun _ i r hi hr => by have := (List.getElem?_eq_some_iff.1 hr).1; omega, fun _ => rfl⟩
  | n + 1, k, h => by
    have hk : k < l.length := by omega
    obtain ⟨x, hp⟩ : ∃ x, l[k]? = some x := ⟨_, List.getElem?_eq_getElem hk⟩
    simp only [wrsAt, hp]
    by_cases h1 : wrE x = 0
    · rw [if_neg (by simpa using h1)]
      by_cases h2 : (l.take k).any (fun q => samePl q x) = true
      · rw [if_pos h2]
        refine ⟨fun h => by omega, fun h => ?_⟩
        have := (h k _ (Nat.le_refl _) hp).2
        rw [h2] at this
        cases this
      · rw [if_neg h2, wrsAt_ok n (k + 1) (by omega)]
        refine ⟨fun h i r hi hr => ?_, fun h i r hi hr => h i r (by omega) hr⟩
        rcases Nat.lt_or_eq_of_le hi with hi | rfl
        · exact h i r hi hr
        · rw [hp] at hr; cases hr; exact ⟨h1, Bool.eq_false_iff.2 h2⟩
    · rw [if_pos h1]
      exact ⟨fun h => absurd h h1, fun h => absurd (h k _ (Nat.le_refl _) hp).1 h1⟩
theorem any_take {α : Type} {l : List α} {g : α → Bool} {i : Nat} : (l.take i).any g = false ↔ ∀ (j : Nat) q, j < i → l[j]? = some q → g q = false := by
 rw [List.any_eq_false]
 constructor
 ·intro h j q hj hq
  have := h q (List.mem_of_getElem? (show (l.take i)[j]? = some q by rw [List.getElem?_take, if_pos hj]; exact hq))
  simpa using this
 ·intro h x hx
  obtain ⟨j, hj, rfl⟩ := List.mem_iff_getElem.1 hx
  rw [List.length_take] at hj
  rw [List.getElem_take]
  simpa using h j l[j] (by omega) (List.getElem?_eq_getElem (by omega))
theorem txE_ok {t : Tx} : txE t = 0 ↔ TxOk t := by
 unfold txE
 by_cases h1 : t.start < 0 ∨ 1048576 < t.start
 rw [if_pos h1]
 exact ⟨fun h => by omega, fun h => by have := h.start; omega⟩
 rw [if_neg h1]
 by_cases h2 : 20 < t.reads.length ∨ 10 < t.writes.length
 rw [if_pos h2]
 exact ⟨fun h => by omega, fun h => by have := h.nr; have := h.nw; omega⟩
 rw [if_neg h2]
 have kr := rdsAt_ok (l := t.reads) t.reads.length 0 (by omega)
 have kw := wrsAt_ok (l := t.writes) t.writes.length 0 (by omega)
 have er : rdsAt t.reads t.reads.length 0 = 0 ↔ (∀ r ∈ t.reads, RdOk r) ∧ t.reads.Pairwise (· ≠ ·) := by
  rw [kr]
  constructor
  intro h
  refine ⟨fun r hr => ?_, List.pairwise_iff_getElem.2 fun i j hi hj hij e => ?_⟩
  obtain ⟨i, hi, rfl⟩ := List.mem_iff_getElem.1 hr
  exact rdE_ok.1 (h i _ (Nat.zero_le _) (List.getElem?_eq_getElem hi)).1
  have := any_take.1 (h j _ (Nat.zero_le _) (List.getElem?_eq_getElem hj)).2 i _ hij (List.getElem?_eq_getElem hi)
  simp [e] at this
  rintro ⟨h, hp⟩ i r _ hr
  refine ⟨rdE_ok.2 (h r (List.mem_of_getElem? hr)), any_take.2 fun j q hj hq => decide_eq_false fun e => ?_⟩
  obtain ⟨hi, rfl⟩ := List.getElem?_eq_some_iff.1 hr
  obtain ⟨hj', rfl⟩ := List.getElem?_eq_some_iff.1 hq
  exact List.pairwise_iff_getElem.1 hp j i hj' hi hj e
 have ew : wrsAt t.writes t.writes.length 0 = 0 ↔ (∀ r ∈ t.writes, WrOk r) ∧ t.writes.Pairwise fun a b => samePl a b = false := by
  rw [kw]
  constructor
  intro h
  refine ⟨fun r hr => ?_, List.pairwise_iff_getElem.2 fun i j hi hj hij => ?_⟩
  obtain ⟨i, hi, rfl⟩ := List.mem_iff_getElem.1 hr
  exact wrE_ok.1 (h i _ (Nat.zero_le _) (List.getElem?_eq_getElem hi)).1
  exact any_take.1 (h j _ (Nat.zero_le _) (List.getElem?_eq_getElem hj)).2 i _ hij (List.getElem?_eq_getElem hi)
  rintro ⟨h, hp⟩ i r _ hr
  refine ⟨wrE_ok.2 (h r (List.mem_of_getElem? hr)), any_take.2 fun j q hj hq => ?_⟩
  obtain ⟨hi, rfl⟩ := List.getElem?_eq_some_iff.1 hr
  obtain ⟨hj', rfl⟩ := List.getElem?_eq_some_iff.1 hq
  exact List.pairwise_iff_getElem.1 hp j i hj' hi hj
 by_cases h3 : rdsAt t.reads t.reads.length 0 = 0
 rw [if_neg (by simpa using h3), ew]
 have := er.1 h3
 exact ⟨fun h => ⟨by omega, by omega, by omega, this.1, this.2, h.1, h.2⟩, fun h => ⟨h.writes, h.wdiff⟩⟩
 rw [if_pos h3]
 exact ⟨fun h => absurd h h3, fun h => absurd (er.2 ⟨h.reads, h.rdiff⟩) h3⟩
theorem RdOk.small {r : Rd} (h : RdOk r) : r.name.length ≤ 100000 ∧ r.key.length ≤ 100000 ∧ r.last.length ≤ 100000 := by
 have h1 := h.name.2; have h2 := h.key.2; have h3 := h.last
 refine ⟨by omega, by omega, ?_⟩
 split at h3
 omega
 rw [h3]; simp
theorem WrOk.small {r : Wr} (h : WrOk r) : r.name.length ≤ 100000 ∧ r.key.length ≤ 100000 ∧ r.value.length ≤ 100000 := by
 have h1 := h.name.2; have h2 := h.key2; have h3 := h.value; omega
def nilX : Tx := ⟨0, [], []⟩
def noteE (t : Tx) (r : Rd) : Int := if txE t ≠ 0 then txE t else if rdE r ≠ 0 then rdE r else if r ∈ t.reads then 0 else if t.reads.length = 20 then 11 else 0
def noteT (t : Tx) (r : Rd) : Tx := if noteE t r ≠ 0 then nilX else (noteX t r).getD t
def writeE (t : Tx) (r : Wr) : Int := if txE t ≠ 0 then txE t else if wrE r ≠ 0 then wrE r else if 0 ≤ idxE t.writes (fun q => samePl q r) then 0 else if t.writes.length = 10 then 11 else 0
def writeT (t : Tx) (r : Wr) : Tx := if writeE t r ≠ 0 then nilX else (writeX t r).getD t
theorem noteE_ok {t u : Tx} {r : Rd} (h : TxOk t) (hr : RdOk r) (e : noteX t r = some u) : noteE t r = 0 ∧ noteT t r = u := by
 have h1 : noteE t r = 0 := by
  unfold noteE; rw [if_neg (by simpa using txE_ok.2 h), if_neg (by simpa using rdE_ok.2 hr)]
  unfold noteX at e
  split at e
  ·rename_i hm; rw [if_pos hm]
  ·rename_i hm
   split at e
   ·cases e
   ·rename_i hl; rw [if_neg hm, if_neg hl]
 exact ⟨h1, by unfold noteT; rw [if_neg (by simpa using h1), e]; rfl⟩
theorem noteE_full {t : Tx} {r : Rd} (h : TxOk t) (hr : RdOk r) (e : noteX t r = none) : noteE t r = 11 ∧ noteT t r = nilX := by
 have h1 : noteE t r = 11 := by
  unfold noteE; rw [if_neg (by simpa using txE_ok.2 h), if_neg (by simpa using rdE_ok.2 hr)]
  unfold noteX at e
  split at e
  ·cases e
  ·rename_i hm
   split at e
   ·rename_i hl; rw [if_neg hm, if_pos hl]
   ·cases e
 exact ⟨h1, by unfold noteT; rw [if_pos (by rw [h1]; decide)]⟩
theorem idxE_idxW {ws : List Wr} {r : Wr} : idxE ws (fun q => samePl q r) = match idxW ws r with | some i => (i : Int) | none => -1 := rfl
theorem writeE_ok {t u : Tx} {r : Wr} (h : TxOk t) (hr : WrOk r) (e : writeX t r = some u) : writeE t r = 0 ∧ writeT t r = u := by
 have h1 : writeE t r = 0 := by
  unfold writeE; rw [if_neg (by simpa using txE_ok.2 h), if_neg (by simpa using wrE_ok.2 hr), idxE_idxW]
  unfold writeX at e
  cases hi : idxW t.writes r with
  | some i => rw [if_pos (by simp only; omega)]
  | none =>
   rw [hi] at e
   simp only at e
   split at e
   ·cases e
   ·rename_i hl; rw [if_neg (by simp only; omega), if_neg hl]
 exact ⟨h1, by unfold writeT; rw [if_neg (by simpa using h1), e]; rfl⟩
theorem writeE_full {t : Tx} {r : Wr} (h : TxOk t) (hr : WrOk r) (e : writeX t r = none) : writeE t r = 11 ∧ writeT t r = nilX := by
 have h1 : writeE t r = 11 := by
  unfold writeE; rw [if_neg (by simpa using txE_ok.2 h), if_neg (by simpa using wrE_ok.2 hr), idxE_idxW]
  unfold writeX at e
  cases hi : idxW t.writes r with
  | some i => rw [hi] at e; cases e
  | none =>
   rw [hi] at e
   simp only at e
   split at e
   ·rename_i hl; rw [if_neg (by simp only; omega), if_pos hl]
   ·cases e
 exact ⟨h1, by unfold writeT; rw [if_pos (by rw [h1]; decide)]⟩
theorem nilX_ok : TxOk nilX := ⟨by decide, by decide, by decide, by simp [nilX], by simp [nilX], by simp [nilX], by simp [nilX]⟩
/-- A transaction and what was wrong. -/
def TxE (F : Fz) (u : Value) (t : Tx) (e : Int) : Prop := ∃ v, u = .tuple #[v, .int .i64 e] ∧ TxV F v t
theorem TxV.nil (F : Fz) : TxV F (.agg #[.int .i64 0, .slice none 0 0, .slice none 0 0]) nilX := ⟨none, 0, none, 0, rfl, Sl.nil _ _ _, Sl.nil _ _ _⟩
theorem idxE_some {α : Type} {l : List α} {g : α → Bool} (h : 0 ≤ idxE l g) : ∃ i : Nat, idxE l g = (i : Int) ∧ i < l.length ∧ l.findIdx? g = some i := by
 unfold idxE at *
 cases hf : l.findIdx? g with
 | none => rw [hf] at h; simp only at h; omega
 | some i =>
  refine ⟨i, rfl, ?_, rfl⟩
  exact (List.findIdx?_eq_some_iff_getElem.1 hf).1
theorem idxE_neg {α : Type} {l : List α} {g : α → Bool} (h : ¬ 0 ≤ idxE l g) : l.findIdx? g = none := by
 unfold idxE at h
 cases hf : l.findIdx? g with
 | none => rfl
 | some i => rw [hf] at h; simp only at h; omega
theorem txnOwn_spec (F : Fz) (w : World) (v : Value) (t : Tx) (hs : Sat w F) (hv : TxV F v t) (ht : TxOk t) :
    Calls Tryz.prog 113 #[v] w (GivesTx w F 179 39 t) := by
 obtain ⟨x0, y0, x1, y1, rfl, h0, h1⟩ := hv
 obtain ⟨_, _, e0, q0, q1⟩ := Sl.shape h0
 obtain ⟨_, _, e1, q2, q3⟩ := Sl.shape h1
 injection e0 with _ _ e0
 injection e1 with _ _ e1
 subst e0 e1
 unfold maxLen at q1 q3
 obtain ⟨i179, hi179, hz179, hs179, hb179⟩ := info_parts info_179
 have hnr := ht.nr
 have hwl : t.writes.length ≤ 100000 := Nat.le_trans ht.nw (by decide)
 have hws := fun r hr => (ht.writes r hr).small
 have S := St.start hs
 go_enter Tryz.func113, Tryz.ntmps113
 refine sk fun K1 hK1 => ?_
 refine stNew S (v := fun n => .pointer (aA n 0)) rfl (ex_box (v := (.agg #[(.int .i64 t.start), (.slice x0 t.reads.length y0), (.slice x1 t.writes.length y1)])) rfl) (fun n2 w3 S4 => ?_)
 refine sA S4 (zero_141 _) fun n5 w6 S7 => ?_
 refine wn hK1 ?_
 refine wp_seq_k (fun K8 hK8 => ?_)
 refine region_gw F 7 [(4, .rel (MadeO w6 F 4 WrC 39 t.writes) (MadeO.stable WrC.mono _ _ _ _ _)), (5, .rel (fun u w => ∃ xa11 xc12, u = (.agg #[(.int .i64 t.start), Zn, (.slice xa11 t.writes.length xc12)]) ∧ MadeO w6 F 4 WrC 39 t.writes (.slice xa11 t.writes.length xc12) w) (fun u w w1 h hb => by obtain ⟨a, c, e, h⟩ := h; exact ⟨a, c, e, MadeO.stable WrC.mono _ _ _ _ _ _ _ _ h hb⟩)), (6, .rel (NewAt w6 [(iI 0), Zn, Zn] 141) (NewAt.stable _ _ _))] (by kernel_rfl) (by kernel_rfl) ?_
 simp only [List.take_succ_cons, List.take_zero]
 refine gf (fa_141_0 _ _) ?_
 refine gl nagg_3 S7 1 ?_
 simp only [pq]
 refine gf (fa_141_2 _ _) ?_
 refine gl nagg_40 S7 1 ?_
 simp only [pq]
 refine gw_rel rfl rfl (fun w9 C9 hF => does_call (ex_fn (vs := #[(.slice x1 t.writes.length y1)]) (map1 rfl) rfl (ent_114 _ _)) (call_madeO S7.sat C9 (txnWritesO_spec _ _ _ t.writes ((St.tells S7 C9)).sat h1 hwl hws))) (fun v10 => ?_)
 simp only [pq]
 refine gw_rel rfl rfl (fun w9 C9 hF_ => ?_) (fun v13 => ?_)
 obtain ⟨Fo, go, ho⟩ := hF_.getR 4 (by kernel_rfl) rfl rfl
 obtain ⟨xa11, xc12, rfl, _, _⟩ := ho.shape
 exact does_val (ex_build (bmap2 rfl rfl) (by kernel_rfl)) ⟨xa11, xc12, rfl, Fo, go, ho⟩ (Below.refl _ _)
 simp only [pq]
 refine gw_rel rfl rfl (fun w9 C9 _ => does_alloc (cs := [(iI 0), Zn, Zn]) (zero_141 _) rfl C9) (fun v14 => ?_)
 refine gw_nil ?_
 intro w15 hC17 hF18
 obtain ⟨n19, rfl, hn20, hb21⟩ := hF18.getR 6 rfl rfl
 have hnbn19 : ∀ u ∈ [(.int .i64 0), (.slice none 0 0), (.slice none 0 0)], ∀ x, u ≠ bv x := by intro u hu x; simp only [List.mem_cons, List.not_mem_nil, or_false] at hu; rcases hu with rfl | rfl | rfl <;> (unfold bv; simp)
 obtain ⟨xa11, xc12, rfl, F22, g23, ho24⟩ := hF18.getR 5 rfl rfl
 have S25 := St.addBlkRow (hR := WrC.mono) (cs := [(.int .i64 0), (.slice none 0 0), (.slice none 0 0)]) S7 g23 ho24 hn20 hb21 (by decide) (WrC.dropF g23.sat hb21 hnbn19)
 have le26 : Le _ _ := (g23.dropF S7.sat hn20).le S7.sat
 generalize dropF F22 n19 = F27 at *
 clear hF18
 simp only [List.drop_succ_cons, List.drop_zero]
 refine sW 0 S25 (size_141) fun w28 S29 => ?_
 simp only [pq]
 refine wl_nil (hK8 _ _ ?_)
 refine wp_seq_k (fun K30 hK30 => ?_)
 refine sk fun K31 hK31 => ?_
 refine df (fa_141_1 _ _) ?_
 refine dl (nagg_139 _) S29 2 ?_
 refine dn Tryz.underlying139 ?_
 simp only [pq]
 refine dx ?_
 refine wn hK31 ?_
 refine wp_block ?_
 have S32 := St.addNil S29 4 RdC RdC.mono 179 w.heap.size
 refine wp_loop_g (fun mm aa w35 => ∃ (k : Nat) (v : Value) (F33 : Fz) (u34 : Nat → Value), mm = t.reads.length - k ∧ u34 = slots aa ∧ aa = ⟨#[(.agg #[(.int .i64 t.start), (.slice x0 t.reads.length y0), (.slice x1 t.writes.length y1)]), (pP n2 0), (pP n5 0), (pP n19 0), undef, (u34 5), (pP n2 0), (.int .i64 t.start), (pP n2 2), (.slice x1 t.writes.length y1), v10, (.agg #[(.int .i64 t.start), Zn, (.slice xa11 t.writes.length xc12)]), (pP n2 1), (.slice x0 t.reads.length y0), (nI t.reads.length), (nI k), (u34 16), (u34 17), (u34 18), (u34 19), (u34 20), (u34 21), (u34 22), (u34 23), (u34 24), (u34 25), (u34 26), undef], []⟩ ∧ St w F w35 F33 [⟨n19, [(.int .i64 t.start), v, (.slice xa11 t.writes.length xc12)], 141⟩, ⟨n5, [(iI 0), Zn, Zn], 141⟩, ⟨n2, [(.int .i64 t.start), (.slice x0 t.reads.length y0), (.slice x1 t.writes.length y1)], 141⟩] [ownP 4 RdC RdC.mono 179 w.heap.size v (t.reads.take k), ownP 4 WrC WrC.mono 39 w.heap.size (.slice xa11 t.writes.length xc12) t.writes] ∧ Le F27 F33 ∧ (k ≤ t.reads.length)) _ ⟨0, Zn, F27, _, rfl, rfl, rfl, S32, Le.refl _, (by omega)⟩ ?_
 rintro m36 a37 w38 ⟨k, v, F33, u34, rfl, -, rfl, S39, le40, hk⟩ K41 hK41
 refine sk fun K42 hK42 => ?_
 by_cases hc16 : k < t.reads.length
 refine lssT ?_
 refine wn hK42 ?_
 refine wp_seq_k (fun K43 hK43 => ?_)
 refine wp_cond_true rfl ?_
 refine wp_skip ?_
 refine hK43 _ _ ?_
 refine wp_seq_k (fun K44 hK44 => ?_)
 refine wp_block ?_
 refine wp_seq_k (fun K45 hK45 => ?_)
 obtain ⟨p, hp⟩ : ∃ p, t.reads[k]? = some p := ⟨t.reads[k], List.getElem?_eq_getElem hc16⟩
 obtain ⟨hb0, hb1, hb2⟩ := (ht.reads p (List.mem_of_getElem? hp)).small
 have htk : (t.reads.take k).length = k := by rw [List.length_take]; omega
 obtain ⟨b46, o47, ha48, xa50, xc51, xa54, xc55, xa59, xc60, c49, c53, c57, c58, r52, r56, r61⟩ := Rds.get (h0.mono (le26.trans le40)) hp
 refine region_wl ?_
 refine dr (pP b46 (o47 + k * 4)) (ex_at (i := k) (sz := 4) Tryz.underlying139 (sizeof_179 _) rfl ha48 rfl (by omega) rfl) ?_
 refine dr _ (ex_load rfl (loadM Tryz.underlying179 rfl (size_179) (range4 (St.fz S39 c49) (St.fz S39 c53) (St.fz S39 c57) (St.fz S39 c58)))) ?_
 simp only [pq]
 refine sA S39 (zero_179 _) fun n62 w63 S64 => ?_
 refine sW 0 S64 (size_179) fun w65 S66 => ?_
 refine wl_nil (hK45 _ _ ?_)
 refine region_gw F33 5 [(3, .made (fun F' u => RdV F' u p)), (4, .made (fun F' u => Rds F' u [p]))] (by kernel_rfl) (by kernel_rfl) ?_
 simp only [List.take_succ_cons, List.take_zero]
 refine gf (fa_141_1 _ _) ?_
 simp only [pq]
 refine gl nagg_139 S66 1 ?_
 refine gv _ (fun _ C67 => ex_load rfl (loadM Tryz.underlying179 rfl (size_179) (St.range (St.tells S66 C67) (i := 0) rfl 0 [(.slice xa50 p.name.length xc51), (.slice xa54 p.key.length xc55), (.bool p.wide), (.slice xa59 p.last.length xc60)] (sub_range 0 rfl)))) ?_
 simp only [pq]
 refine gw_rel rfl rfl (fun w67 C67 hF => does_call (ex_fn (vs := #[(.agg #[(.slice xa50 p.name.length xc51), (.slice xa54 p.key.length xc55), (.bool p.wide), (.slice xa59 p.last.length xc60)])]) (map1 rfl) rfl (ent_130 _ _)) (call_made S66.sat C67 (read_spec _ _ _ p ((St.tells S66 C67)).sat ⟨_, _, _, _, _, _, rfl, r52, r56, r61⟩ hb0 hb1 hb2))) (fun v68 => ?_)
 simp only [pq]
 refine gw_rel rfl rfl (fun w67 C67 hF_ => ?_) (fun v81 => ?_)
 obtain ⟨F78, g79, R80⟩ := hF_.get 3 (by kernel_rfl) rfl rfl
 obtain ⟨xa69, xc70, xa72, xc73, xa75, xc76, rfl, r71, r74, r77⟩ := R80
 exact does_lit (k := 4) (R := RdC) (hR := RdC.mono) (p := p) (cs := [.slice xa69 _ xc70, .slice xa72 _ xc73, _, .slice xa75 _ xc76]) (E := 179) g79 ⟨_, _, _, _, rfl, r71, r74, rfl, r77⟩ rfl (ex_lit (E := 179) (cells := #[.slice xa69 _ xc70, .slice xa72 _ xc73, _, .slice xa75 _ xc76]) (bmap1 rfl) (fun w => by kernel_rfl))
 refine gw_nil ?_
 intro w82 hC84 hF85
 obtain ⟨F86, g87, R88⟩ := hF85.get 4 rfl rfl
 have S83 := St.gives S66 g87
 have le90 : Le _ _ := g87.le S66.sat
 have R91 := R88
 generalize F86 = F89 at *
 obtain ⟨xa92, xc93, rfl, _⟩ := Sl.shape R91
 clear hF85
 simp only [List.drop_succ_cons, List.drop_zero]
 refine stAppendS (r := 0) (u := (.slice xa92 [p].length xc93)) S83 rfl i179 (.agg #[Zn, Zn, bF, Zn]) 80 Tryz.underlying139 hi179 hz179 hs179 hb179 rfl (by decide) rfl rfl rfl (Sl.toW R91 (S83).sat) (fun F cs p h => RdC.oneCell h) (Nat.le_refl _) S83.gr.below.size (by unfold maxLen; simp only [List.length_take, List.length_cons, List.length_nil]; omega) (by simp only [List.length_take, List.length_cons, List.length_nil]; omega) ?_
 intro v94 w95 S96 hn97
 simp only [pq]
 have S96 : St w F w95 F89 [⟨n62, [(.slice xa50 p.name.length xc51), (.slice xa54 p.key.length xc55), (.bool p.wide), (.slice xa59 p.last.length xc60)], 179⟩, ⟨n19, [(.int .i64 t.start), v, (.slice xa11 t.writes.length xc12)], 141⟩, ⟨n5, [(iI 0), Zn, Zn], 141⟩, ⟨n2, [(.int .i64 t.start), (.slice x0 t.reads.length y0), (.slice x1 t.writes.length y1)], 141⟩] [ownP 4 RdC RdC.mono 179 w.heap.size v94 ((t.reads.take k) ++ [p]), ownP 4 WrC WrC.mono 39 w.heap.size (.slice xa11 t.writes.length xc12) t.writes] := S96
 have hpe : (⟨p.name, p.key, p.wide, p.last⟩ : Rd) = p := rfl
 rw [← take_snoc hp] at S96
 obtain ⟨a98, cap99, rfl, h100, h101⟩ := (S96.own (i := 0) rfl).shape
 unfold maxLen at h101
 refine df (fa_141_1 _ _) ?_
 refine sW 1 S96 (size_139) fun w102 S103 => ?_
 refine wl_nil (hK44 _ _ ?_)
 refine region_wl ?_
 refine dAdd (k + 1) ?_
 refine dx ?_
 simp only [pq]
 refine wl_nil ?_
 have S103 := St.drop S103 (.cons _ (List.Sublist.refl _))
 exact hK41 _ _ _ (by omega) ⟨(k + 1), (.slice a98 (t.reads.take (k + 1)).length cap99), F89, _, rfl, rfl, rfl, S103, (le40.trans le90), (by omega)⟩
 refine lssF ?_
 refine wn hK42 ?_
 refine wp_seq_k (fun K104 hK104 => ?_)
 refine wp_cond_false rfl ?_
 refine wp_exit ?_
 refine hK30 _ _ ?_
 refine wp_seq_k (fun K105 hK105 => ?_)
 have hend : t.reads.take k = t.reads := List.take_of_length_le (by omega)
 rw [hend] at S39
 obtain ⟨a106, cap107, rfl, h108, h109⟩ := (S39.own (i := 0) rfl).shape
 unfold maxLen at h109
 refine region_wl ?_
 refine dR S39 0 Tryz.underlying141 (size_141) ?_
 refine sW 1 S39 (size_141) fun w110 S111 => ?_
 simp only [pq]
 refine wl_nil (hK105 _ _ ?_)
 refine wp_ret ?_
 (try simp only [Exit.then, Exit.inBlock, ↓reduceIte, Nat.reduceEqDiff])
 refine bR (res_c rfl ⟨_, rfl, lR S111 1 Tryz.underlying141 (size_141)⟩) ?_
 exact ⟨_, _, _, rfl, S111.gr, S111.own (i := 0) rfl, S111.own (i := 1) rfl⟩
theorem txnNote_spec (F : Fz) (w : World) (v u : Value) (t : Tx) (r : Rd) (hs : Sat w F) (hv : TxV F v t) (hu : RdV F u r) (hbw : ∀ r ∈ t.writes, r.name.length ≤ 100000 ∧ r.key.length ≤ 100000 ∧ r.value.length ≤ 100000) :
    Calls Tryz.prog 106 #[v, u] w (Gives w F fun F' u => TxE F' u (noteT t r) (noteE t r)) := by
 obtain ⟨x0, y0, x1, y1, rfl, h0, h1⟩ := hv
 obtain ⟨_, _, e0, q0, q1⟩ := Sl.shape h0
 obtain ⟨_, _, e1, q2, q3⟩ := Sl.shape h1
 injection e0 with _ _ e0
 injection e1 with _ _ e1
 subst e0 e1
 unfold maxLen at q1 q3
 obtain ⟨z0, z1, z2, z3, z4, z5, rfl, k0, k1, k3⟩ := hu
 obtain ⟨i179, hi179, hz179, hs179, hb179⟩ := info_parts info_179
 have S := St.start hs
 go_enter Tryz.func106, Tryz.ntmps106
 refine sk fun K1 hK1 => ?_
 refine stNew S (v := fun n => .pointer (aA n 0)) rfl (ex_box (v := (.agg #[(.int .i64 t.start), (.slice x0 t.reads.length y0), (.slice x1 t.writes.length y1)])) rfl) (fun n2 w3 S4 => ?_)
 refine stNew S4 (v := fun n => .pointer (aA n 0)) rfl (ex_box (v := (.agg #[(.slice z0 r.name.length z1), (.slice z2 r.key.length z3), (.bool r.wide), (.slice z4 r.last.length z5)])) rfl) (fun n5 w6 S7 => ?_)
 simp only [pq]
 refine sA S7 (zero_141 _) fun n8 w9 S10 => ?_
 refine dy ?_
 refine wn hK1 ?_
 refine wp_seq_k (fun K11 hK11 => ?_)
 refine sk fun K12 hK12 => ?_
 refine dR S10 2 Tryz.underlying141 (size_141) ?_
 simp only [pq]
 refine stTells (v := (.int .i64 (txE t))) S10 rfl (fn1 (ent_111 _ _)) (txnCheck_spec _ _ _ t (S10).sat ⟨_, _, _, _, rfl, h0, h1⟩ hbw) (fun w13 S14 => ?_)
 refine dy ?_
 refine wn hK12 ?_
 refine sk fun K15 hK15 => ?_
 refine dx ?_
 simp only [pq]
 by_cases hc12 : (txE t) = (0 : Int)
 refine neqF ?_
 refine wn hK15 ?_
 refine wp_cond_false rfl ?_
 refine wp_skip ?_
 refine hK11 _ _ ?_
 refine wp_seq_k (fun K16 hK16 => ?_)
 refine wp_seq_k (fun K17 hK17 => ?_)
 have ht : TxOk t := txE_ok.1 (by omega)
 have hnr := ht.nr
 refine region_wl ?_
 refine dR S14 1 Tryz.underlying179 (size_179) ?_
 refine stTells (v := (.int .i64 (rdE r))) S14 rfl (fn1 (ent_126 _ _)) (shape_spec _ _ _ r (S14).sat ⟨_, _, _, _, _, _, rfl, k0, k1, k3⟩) (fun w18 S19 => ?_)
 refine dy ?_
 simp only [pq]
 refine wl_nil (hK17 _ _ ?_)
 refine sk fun K20 hK20 => ?_
 refine dx ?_
 simp only [pq]
 by_cases hc18 : (rdE r) = (0 : Int)
 refine neqF ?_
 refine wn hK20 ?_
 refine wp_cond_false rfl ?_
 refine wp_skip ?_
 refine hK16 _ _ ?_
 refine wp_seq_k (fun K21 hK21 => ?_)
 have hr : RdOk r := rdE_ok.1 (by omega)
 obtain ⟨hb0, hb1, hb2⟩ := hr.small
 refine region_wl ?_
 refine dR S19 2 Tryz.underlying141 (size_141) ?_
 refine stGivesTx S19 rfl (fn1 (ent_113 _ _)) (txnOwn_spec _ _ _ t (S19).sat ⟨_, _, _, _, rfl, h0, h1⟩ ht) (by decide) ?_
 intro a22 c23 a24 c25 w26 F27 S28 le29 hc30 hc31
 unfold maxLen at hc30 hc31
 refine sA S28 (zero_141 _) fun n32 w33 S34 => ?_
 simp only [pq]
 refine sW 0 S34 (size_141) fun w35 S36 => ?_
 refine wl_nil (hK21 _ _ ?_)
 refine wp_seq_k (fun K37 hK37 => ?_)
 refine wp_block ?_
 refine wp_seq_k (fun K38 hK38 => ?_)
 obtain ⟨S39, le40, hc41⟩ := St.freezeBlk S36 (i := 2) rfl
 have r43 : RdP _ n5 r := ⟨_, _, _, _, _, _, hc41 0 _ rfl, hc41 1 _ rfl, hc41 2 _ rfl, hc41 3 _ rfl, ((k0.mono le29).mono le40), ((k1.mono le29).mono le40), ((k3.mono le29).mono le40)⟩
 generalize addF F27 w35 n5 = F42 at *
 refine region_wl ?_
 refine df (fa_141_1 _ _) ?_
 refine dl (nagg_139 _) S39 2 ?_
 refine dr (.func (.func 128) #[] #[(pP n5 0)]) (ex_makeFunc rfl) ?_
 simp only [pq]
 refine stTells (v := (.bool (t.reads.any (fun q => decide (q = r))))) S39 rfl (fn2 (ent_127 _ _)) (note1_contains _ _ _ n5 t.reads r (S39).sat (h0.mono (le29.trans le40)) r43 (by omega)) (fun w57 S58 => ?_)
 refine dy ?_
 refine wl_nil (hK38 _ _ ?_)
 refine wp_cond_split rfl (fun hc59 => ?_) (fun hc59 => ?_)
 refine wp_skip ?_
 refine hK37 _ _ ?_
 refine wp_seq_k (fun K60 hK60 => ?_)
 obtain ⟨F61, S62, le63, hv64⟩ := St.freeze S58 (i := 0) rfl (Nat.le_refl _)
 have hv64 : Rds _ (.slice a22 t.reads.length c23) t.reads := hv64
 obtain ⟨F65, S66, le67, hv68⟩ := St.freeze S62 (i := 0) rfl (Nat.le_refl _)
 have hv68 : Wrs _ (.slice a24 t.writes.length c25) t.writes := hv68
 refine region_wl ?_
 refine dR S66 0 Tryz.underlying141 (size_141) ?_
 refine sW 1 S66 (size_141) fun w69 S70 => ?_
 simp only [pq]
 refine dy ?_
 refine wl_nil (hK60 _ _ ?_)
 refine wp_ret ?_
 (try simp only [Exit.then, Exit.inBlock, ↓reduceIte, Nat.reduceEqDiff])
 refine bR (res_ct rfl ⟨_, rfl, lR S70 1 Tryz.underlying141 (size_141)⟩ (gD rfl)) ?_
 have hm : r ∈ t.reads := by obtain ⟨x, hx, e⟩ := List.any_eq_true.1 hc59; have := of_decide_eq_true e; subst this; exact hx
 obtain ⟨he, hT⟩ := noteE_ok ht hr (show noteX t r = some t by unfold noteX; rw [if_pos hm])
 rw [he, hT]
 exact ⟨_, _, rfl, S70.gr, _, rfl, _, _, _, _, rfl, (hv64.mono le67), hv68⟩
 refine sk fun K71 hK71 => ?_
 refine df (fa_141_1 _ _) ?_
 refine dl (nagg_139 _) S58 2 ?_
 refine dn Tryz.underlying139 ?_
 simp only [pq]
 by_cases hc39 : t.reads.length = 20
 refine eqlT ?_
 refine dy ?_
 refine wn hK71 ?_
 refine wp_cond_true rfl ?_
 refine sk fun K72 hK72 => ?_
 refine dr (.agg #[(iI 0), Zn, Zn]) (ex_build (bmap0) (by kernel_rfl)) ?_
 simp only [pq]
 refine sW 1 S58 (size_141) fun w73 S74 => ?_
 refine dy ?_
 refine wn hK72 ?_
 refine wp_ret ?_
 (try simp only [Exit.then, Exit.inBlock, ↓reduceIte, Nat.reduceEqDiff])
 refine bR (res_ct rfl ⟨_, rfl, lR S74 1 Tryz.underlying141 (size_141)⟩ (gD rfl)) ?_
 have hm : r ∉ t.reads := by intro hm; have : t.reads.any (fun q => decide (q = r)) = true := List.any_eq_true.2 ⟨r, hm, decide_eq_true rfl⟩; rw [this] at hc59; simp at hc59
 have he : noteE t r = 11 := by unfold noteE; rw [if_neg (by omega), if_neg (by omega), if_neg hm, if_pos (by omega)]
 have hT : noteT t r = nilX := by unfold noteT; rw [if_pos (by rw [he]; decide)]
 rw [he, hT]
 exact ⟨_, _, rfl, S74.gr, _, rfl, _, _, _, _, rfl, (Sl.nil _ _ _), (Sl.nil _ _ _)⟩
 refine eqlF ?_
 refine dy ?_
 simp only [pq]
 refine wn hK71 ?_
 refine wp_cond_false rfl ?_
 refine region_gw F42 5 [(3, .made (fun F' u => RdV F' u r)), (4, .made (fun F' u => Rds F' u [r]))] (by kernel_rfl) (by kernel_rfl) ?_
 simp only [List.take_succ_cons, List.take_zero]
 refine gf (fa_141_1 _ _) ?_
 refine gl nagg_139 S58 0 ?_
 refine gv _ (fun _ C75 => ex_load rfl (loadM Tryz.underlying179 rfl (size_179) (range4 (St.fz (St.tells S58 C75) (hc41 0 _ rfl)) (St.fz (St.tells S58 C75) (hc41 1 _ rfl)) (St.fz (St.tells S58 C75) (hc41 2 _ rfl)) (St.fz (St.tells S58 C75) (hc41 3 _ rfl))))) ?_
 simp only [pq]
 refine gw_rel rfl rfl (fun w75 C75 hF => does_call (ex_fn (vs := #[(.agg #[(.slice z0 r.name.length z1), (.slice z2 r.key.length z3), (.bool r.wide), (.slice z4 r.last.length z5)])]) (map1 rfl) rfl (ent_130 _ _)) (call_made S58.sat C75 (read_spec _ _ _ r ((St.tells S58 C75)).sat ⟨_, _, _, _, _, _, rfl, (k0.mono (le29.trans le40)), (k1.mono (le29.trans le40)), (k3.mono (le29.trans le40))⟩ hb0 hb1 hb2))) (fun v76 => ?_)
 simp only [pq]
 refine gw_rel rfl rfl (fun w75 C75 hF_ => ?_) (fun v89 => ?_)
 obtain ⟨F86, g87, R88⟩ := hF_.get 3 (by kernel_rfl) rfl rfl
 obtain ⟨xa77, xc78, xa80, xc81, xa83, xc84, rfl, r79, r82, r85⟩ := R88
 exact does_lit (k := 4) (R := RdC) (hR := RdC.mono) (p := r) (cs := [.slice xa77 _ xc78, .slice xa80 _ xc81, _, .slice xa83 _ xc84]) (E := 179) g87 ⟨_, _, _, _, rfl, r79, r82, rfl, r85⟩ rfl (ex_lit (E := 179) (cells := #[.slice xa77 _ xc78, .slice xa80 _ xc81, _, .slice xa83 _ xc84]) (bmap1 rfl) (fun w => by kernel_rfl))
 refine gw_nil ?_
 intro w90 hC92 hF93
 obtain ⟨F94, g95, R96⟩ := hF93.get 4 rfl rfl
 have S91 := St.gives S58 g95
 have le98 : Le _ _ := g95.le S58.sat
 have R99 := R96
 generalize F94 = F97 at *
 obtain ⟨xa100, xc101, rfl, _⟩ := Sl.shape R99
 clear hF93
 simp only [List.drop_succ_cons, List.drop_zero]
 refine stAppendS (r := 0) (u := (.slice xa100 [r].length xc101)) S91 rfl i179 (.agg #[Zn, Zn, bF, Zn]) 80 Tryz.underlying139 hi179 hz179 hs179 hb179 rfl (by decide) rfl rfl rfl (Sl.toW R99 (S91).sat) (fun F cs p h => RdC.oneCell h) (Nat.le_refl _) S91.gr.below.size (by unfold maxLen; simp only [List.length_cons, List.length_nil]; omega) (by simp only [List.length_cons, List.length_nil]; omega) ?_
 intro v102 w103 S104 hn105
 simp only [pq]
 have hpe : (⟨r.name, r.key, r.wide, r.last⟩ : Rd) = r := rfl
 obtain ⟨a106, cap107, rfl, h108, h109⟩ := (S104.own (i := 0) rfl).shape
 unfold maxLen at h109
 refine df (fa_141_1 _ _) ?_
 refine sW 0 S104 (size_139) fun w110 S111 => ?_
 refine wl_nil (hK37 _ _ ?_)
 refine wp_seq_k (fun K112 hK112 => ?_)
 obtain ⟨F113, S114, le115, hv116⟩ := St.freeze S111 (i := 0) rfl (Nat.le_refl _)
 have hv116 : Rds _ (.slice a106 (t.reads ++ [r]).length cap107) (t.reads ++ [r]) := hv116
 obtain ⟨F117, S118, le119, hv120⟩ := St.freeze S114 (i := 0) rfl (Nat.le_refl _)
 have hv120 : Wrs _ (.slice a24 t.writes.length c25) t.writes := hv120
 refine region_wl ?_
 refine dR S118 0 Tryz.underlying141 (size_141) ?_
 simp only [pq]
 refine sW 1 S118 (size_141) fun w121 S122 => ?_
 refine dy ?_
 refine wl_nil (hK112 _ _ ?_)
 refine wp_ret ?_
 (try simp only [Exit.then, Exit.inBlock, ↓reduceIte, Nat.reduceEqDiff])
 refine bR (res_ct rfl ⟨_, rfl, lR S122 1 Tryz.underlying141 (size_141)⟩ (gD rfl)) ?_
 have hm : r ∉ t.reads := by intro hm; have : t.reads.any (fun q => decide (q = r)) = true := List.any_eq_true.2 ⟨r, hm, decide_eq_true rfl⟩; rw [this] at hc59; simp at hc59
 obtain ⟨he, hT⟩ := noteE_ok ht hr (show noteX t r = some ⟨t.start, t.reads ++ [r], t.writes⟩ by unfold noteX; rw [if_neg hm, if_neg (by omega)])
 rw [he, hT]
 exact ⟨_, _, rfl, S122.gr, _, rfl, _, _, _, _, rfl, (hv116.mono le119), hv120⟩
 refine neqT ?_
 simp only [pq]
 refine wn hK20 ?_
 refine wp_cond_true rfl ?_
 refine sk fun K123 hK123 => ?_
 refine dr (.agg #[(iI 0), Zn, Zn]) (ex_build (bmap0) (by kernel_rfl)) ?_
 refine dx ?_
 refine sW 0 S19 (size_141) fun w124 S125 => ?_
 simp only [pq]
 refine dy ?_
 refine wn hK123 ?_
 refine wp_ret ?_
 (try simp only [Exit.then, Exit.inBlock, ↓reduceIte, Nat.reduceEqDiff])
 refine bR (res_ct rfl ⟨_, rfl, lR S125 0 Tryz.underlying141 (size_141)⟩ (gD rfl)) ?_
 have he : noteE t r = rdE r := by unfold noteE; rw [if_neg (by omega), if_pos hc18]
 have hT : noteT t r = nilX := by unfold noteT; rw [if_pos (by rw [he]; exact hc18)]
 rw [he, hT]
 exact ⟨_, _, rfl, S125.gr, _, rfl, _, _, _, _, rfl, (Sl.nil _ _ _), (Sl.nil _ _ _)⟩
 refine neqT ?_
 refine wn hK15 ?_
 refine wp_cond_true rfl ?_
 refine sk fun K126 hK126 => ?_
 refine dr (.agg #[(iI 0), Zn, Zn]) (ex_build (bmap0) (by kernel_rfl)) ?_
 refine dx ?_
 simp only [pq]
 refine sW 0 S14 (size_141) fun w127 S128 => ?_
 refine dy ?_
 refine wn hK126 ?_
 refine wp_ret ?_
 (try simp only [Exit.then, Exit.inBlock, ↓reduceIte, Nat.reduceEqDiff])
 refine bR (res_ct rfl ⟨_, rfl, lR S128 0 Tryz.underlying141 (size_141)⟩ (gD rfl)) ?_
 have he : noteE t r = txE t := by unfold noteE; rw [if_pos hc12]
 have hT : noteT t r = nilX := by unfold noteT; rw [if_pos (by rw [he]; exact hc12)]
 rw [he, hT]
 exact ⟨_, _, rfl, S128.gr, _, rfl, _, _, _, _, rfl, (Sl.nil _ _ _), (Sl.nil _ _ _)⟩
theorem txnWriteT_spec (F : Fz) (w : World) (v u : Value) (t : Tx) (r : Wr) (hs : Sat w F) (hv : TxV F v t) (hu : WrV F u r) (hbw : ∀ r ∈ t.writes, r.name.length ≤ 100000 ∧ r.key.length ≤ 100000 ∧ r.value.length ≤ 100000) (hbr : r.name.length ≤ 100000 ∧ r.key.length ≤ 100000 ∧ r.value.length ≤ 100000) :
    Calls Tryz.prog 94 #[v, u] w (Gives w F fun F' u => TxE F' u (writeT t r) (writeE t r)) := by
 obtain ⟨x0, y0, x1, y1, rfl, h0, h1⟩ := hv
 obtain ⟨_, _, e0, q0, q1⟩ := Sl.shape h0
 obtain ⟨_, _, e1, q2, q3⟩ := Sl.shape h1
 injection e0 with _ _ e0
 injection e1 with _ _ e1
 subst e0 e1
 unfold maxLen at q1 q3
 obtain ⟨z0, z1, z2, z3, z4, z5, rfl, k0, k1, k3⟩ := hu
 obtain ⟨i39, hi39, hz39, hs39, hb39⟩ := info_parts info_39
 have S := St.start hs
 go_enter Tryz.func94, Tryz.ntmps94
 refine sk fun K1 hK1 => ?_
 refine stNew S (v := fun n => .pointer (aA n 0)) rfl (ex_box (v := (.agg #[(.int .i64 t.start), (.slice x0 t.reads.length y0), (.slice x1 t.writes.length y1)])) rfl) (fun n2 w3 S4 => ?_)
 refine stNew S4 (v := fun n => .pointer (aA n 0)) rfl (ex_box (v := (.agg #[(.slice z0 r.name.length z1), (.slice z2 r.key.length z3), (.bool r.gone), (.slice z4 r.value.length z5)])) rfl) (fun n5 w6 S7 => ?_)
 simp only [pq]
 refine sA S7 (zero_141 _) fun n8 w9 S10 => ?_
 refine dy ?_
 refine wn hK1 ?_
 refine wp_seq_k (fun K11 hK11 => ?_)
 refine sk fun K12 hK12 => ?_
 refine dR S10 2 Tryz.underlying141 (size_141) ?_
 simp only [pq]
 refine stTells (v := (.int .i64 (txE t))) S10 rfl (fn1 (ent_111 _ _)) (txnCheck_spec _ _ _ t (S10).sat ⟨_, _, _, _, rfl, h0, h1⟩ hbw) (fun w13 S14 => ?_)
 refine dy ?_
 refine wn hK12 ?_
 refine sk fun K15 hK15 => ?_
 refine dx ?_
 simp only [pq]
 by_cases hc13 : (txE t) = (0 : Int)
 refine neqF ?_
 refine wn hK15 ?_
 refine wp_cond_false rfl ?_
 refine wp_skip ?_
 refine hK11 _ _ ?_
 refine wp_seq_k (fun K16 hK16 => ?_)
 refine wp_seq_k (fun K17 hK17 => ?_)
 have ht : TxOk t := txE_ok.1 (by omega)
 have hnr := ht.nr
 have hnw := ht.nw
 refine region_wl ?_
 refine dR S14 1 Tryz.underlying39 (size_39) ?_
 refine stTells (v := (.int .i64 (wrE r))) S14 rfl (fn1 (ent_112 _ _)) (txnWrite_spec _ _ _ r (S14).sat ⟨_, _, _, _, _, _, rfl, k0, k1, k3⟩ hbr) (fun w18 S19 => ?_)
 refine dy ?_
 simp only [pq]
 refine wl_nil (hK17 _ _ ?_)
 refine sk fun K20 hK20 => ?_
 refine dx ?_
 simp only [pq]
 by_cases hc19 : (wrE r) = (0 : Int)
 refine neqF ?_
 refine wn hK20 ?_
 refine wp_cond_false rfl ?_
 refine wp_skip ?_
 refine hK16 _ _ ?_
 refine wp_seq_k (fun K21 hK21 => ?_)
 have hr : WrOk r := wrE_ok.1 (by omega)
 refine region_wl ?_
 refine dR S19 2 Tryz.underlying141 (size_141) ?_
 refine stGivesTx S19 rfl (fn1 (ent_113 _ _)) (txnOwn_spec _ _ _ t (S19).sat ⟨_, _, _, _, rfl, h0, h1⟩ ht) (by decide) ?_
 intro a22 c23 a24 c25 w26 F27 S28 le29 hc30 hc31
 unfold maxLen at hc30 hc31
 refine sA S28 (zero_141 _) fun n32 w33 S34 => ?_
 simp only [pq]
 refine sW 0 S34 (size_141) fun w35 S36 => ?_
 refine wl_nil (hK21 _ _ ?_)
 refine sk fun K37 hK37 => ?_
 refine dR S36 2 Tryz.underlying39 (size_39) ?_
 refine stNew S36 (v := fun n => .slice (aA n 0) 1 1) rfl (ex_lit (ps := #[(0, (.agg #[(.slice z0 r.name.length z1), (.slice z2 r.key.length z3), (.bool r.gone), (.slice z4 r.value.length z5)]))]) (cells := #[(.slice z0 r.name.length z1), (.slice z2 r.key.length z3), (.bool r.gone), (.slice z4 r.value.length z5)]) (E := 39) (bmap1 rfl) (fun w => by kernel_rfl)) (fun n38 w39 S40 => ?_)
 simp only [pq]
 obtain ⟨S41, le42, hc43⟩ := St.freezeBlk S40 (i := 0) rfl
 have r45 : Wrs _ (.slice (some ⟨n38, 0, none⟩) 1 1) [r] := sl_of_block (R := WrC) (l := [r]) (el := [[(.slice z0 r.name.length z1), (.slice z2 r.key.length z3), (.bool r.gone), (.slice z4 r.value.length z5)]]) hc43 rfl ⟨⟨_, _, _, _, rfl, ((k0.mono le29).mono le42), ((k1.mono le29).mono le42), rfl, ((k3.mono le29).mono le42)⟩, trivial⟩ (by simp) (by unfold maxLen; simp)
 generalize addF F27 w39 n38 = F44 at *
 refine stGives S41 rfl (fn1 (ent_114 _ _)) (txnWrites_spec _ _ _ [r] (S41).sat r45 (by simp) (by intro x hx; rw [List.mem_singleton.1 hx]; exact hbr)) ?_
 intro v51 w46 F48 S47 le49 R50
 obtain ⟨a52, c53, rfl, h54, h55⟩ := Sl.shape R50
 simp only [pq]
 obtain ⟨b56, o57, ha58, xa60, xc61, xa64, xc65, xa69, xc70, c59, c63, c67, c68, r62, r66, r71⟩ := Wrs.get R50 (show [r][0]? = some r from rfl)
 refine dr (pP b56 (o57 + 0 * 4)) (ex_at (i := 0) (sz := 4) Tryz.underlying40 (sizeof_39 _) rfl ha58 rfl (by simp) rfl) ?_
 refine dr _ (ex_load rfl (loadM Tryz.underlying39 rfl (size_39) (range4 (St.fz S47 c59) (St.fz S47 c63) (St.fz S47 c67) (St.fz S47 c68)))) ?_
 refine sW 2 S47 (size_39) fun w72 S73 => ?_
 simp only [pq]
 refine wn hK37 ?_
 refine wp_seq_k (fun K74 hK74 => ?_)
 obtain ⟨S75, le76, hc77⟩ := St.freezeBlk S73 (i := 2) rfl
 have r79 : WrP _ n5 r := ⟨_, _, _, _, _, _, hc77 0 _ rfl, hc77 1 _ rfl, hc77 2 _ rfl, hc77 3 _ rfl, (r62.mono le76), (r66.mono le76), (r71.mono le76)⟩
 generalize addF F48 w72 n5 = F78 at *
 refine region_wl ?_
 refine df (fa_141_2 _ _) ?_
 refine dl (nagg_40 _) S75 0 ?_
 refine dr (.func (.func 116) #[] #[(pP n5 0)]) (ex_makeFunc rfl) ?_
 simp only [pq]
 obtain ⟨F93, hs94, le95, hsl96⟩ := own_peek S75 (i := 1) rfl
 refine stTells (v := (.int .i64 (idxE t.writes (fun q => samePl q r)))) S75 rfl (fn2 (ent_115 _ _)) (write1_index _ _ _ n5 t.writes r hs94 hsl96 (r79.mono le95) (by omega)) (fun w97 S98 => ?_)
 refine dy ?_
 refine wl_nil (hK74 _ _ ?_)
 refine wp_seq_k (fun K99 hK99 => ?_)
 refine wp_block ?_
 refine sk fun K100 hK100 => ?_
 refine dx ?_
 simp only [pq]
 by_cases hc41 : (0 : Int) ≤ (idxE t.writes (fun q => samePl q r))
 refine geqT ?_
 refine dy ?_
 refine wn hK100 ?_
 refine wp_cond_true rfl ?_
 obtain ⟨i, hi, hil, hif⟩ := idxE_some hc41
 rw [hi]
 obtain ⟨g101, rfl⟩ := Own.addr0 (S98.own (i := 1) rfl) (by omega)
 refine region_wl ?_
 refine df (fa_141_2 _ _) ?_
 refine dl (nagg_40 _) S98 0 ?_
 refine dx ?_
 simp only [pq]
 refine dr _ (ex_load rfl (loadM Tryz.underlying39 rfl (size_39) (range4 (St.fz S98 (hc77 0 _ rfl)) (St.fz S98 (hc77 1 _ rfl)) (St.fz S98 (hc77 2 _ rfl)) (St.fz S98 (hc77 3 _ rfl))))) ?_
 refine dr (pP g101 (0 + i * 4)) (ex_at (i := i) (sz := 4) Tryz.underlying40 (sizeof_39 _) rfl rfl rfl (by omega) rfl) ?_
 refine stSetRow (r := 1) (i := i) (p := r) (u := (.agg #[(.slice xa60 r.name.length xc61), (.slice xa64 r.key.length xc65), (.bool r.gone), (.slice xa69 r.value.length xc70)])) S98 rfl rfl (by omega) rfl rfl (by omega) (size_39) (allc4 rfl rfl rfl rfl) rfl ⟨_, _, _, _, rfl, (r62.mono le76), (r66.mono le76), rfl, (r71.mono le76)⟩ (Nat.le_refl _) (fun w102 S103 => ?_)
 refine wl_nil (hK99 _ _ ?_)
 refine wp_seq_k (fun K104 hK104 => ?_)
 obtain ⟨F105, S106, le107, hv108⟩ := St.freeze S103 (i := 0) rfl (Nat.le_refl _)
 have hv108 : Rds _ (.slice a22 t.reads.length c23) t.reads := hv108
 obtain ⟨F109, S110, le111, hv112⟩ := St.freeze S106 (i := 0) rfl (Nat.le_refl _)
 have hv112 : Wrs _ (.slice (some ⟨g101, 0, none⟩) t.writes.length c25) (t.writes.set i r) := hv112
 refine region_wl ?_
 refine dR S110 0 Tryz.underlying141 (size_141) ?_
 simp only [pq]
 refine sW 1 S110 (size_141) fun w113 S114 => ?_
 refine dy ?_
 refine wl_nil (hK104 _ _ ?_)
 refine wp_ret ?_
 (try simp only [Exit.then, Exit.inBlock, ↓reduceIte, Nat.reduceEqDiff])
 refine bodyPost_ret (v := (.tuple #[(.agg #[(.int .i64 t.start), (.slice a22 t.reads.length c23), (.slice (some ⟨g101, 0, none⟩) t.writes.length c25)]), (.int .i64 0)])) ?_ rfl ?_
 exact res_ct rfl ⟨_, rfl, loadN (cs := [(.int .i64 t.start), (.slice a22 t.reads.length c23), (.slice (some ⟨g101, 0, none⟩) t.writes.length c25)]) Tryz.underlying141 rfl (size_141) (St.range S114 (i := 1) rfl 0 [(.int .i64 t.start), (.slice a22 t.reads.length c23), (.slice (some ⟨g101, 0, none⟩) t.writes.length c25)] (sub_range 0 rfl))⟩ rfl
 obtain ⟨he, hT⟩ := writeE_ok ht hr (show writeX t r = some ⟨t.start, t.reads, t.writes.set i r⟩ by unfold writeX idxW; rw [hif])
 rw [he, hT]
 exact ⟨_, _, rfl, S114.gr, _, rfl, _, _, _, _, (show _ = Value.agg #[.int .i64 t.start, (.slice a22 t.reads.length c23), (.slice (some ⟨g101, 0, none⟩) (t.writes.set i r).length c25)] from by rw [List.length_set]), (hv108.mono le111), (show Wrs _ (.slice (some ⟨g101, 0, none⟩) (t.writes.set i r).length c25) (t.writes.set i r) from by rw [List.length_set]; exact hv112)⟩
 refine geqF ?_
 refine dy ?_
 simp only [pq]
 refine wn hK100 ?_
 refine wp_cond_false rfl ?_
 refine sk fun K115 hK115 => ?_
 refine df (fa_141_2 _ _) ?_
 refine dl (nagg_40 _) S98 0 ?_
 refine dn Tryz.underlying40 ?_
 simp only [pq]
 by_cases hc51 : t.writes.length = 10
 refine eqlT ?_
 refine dy ?_
 refine wn hK115 ?_
 refine wp_cond_true rfl ?_
 refine sk fun K116 hK116 => ?_
 refine dr (.agg #[(iI 0), Zn, Zn]) (ex_build (bmap0) (by kernel_rfl)) ?_
 simp only [pq]
 refine sW 1 S98 (size_141) fun w117 S118 => ?_
 refine dy ?_
 refine wn hK116 ?_
 refine wp_ret ?_
 (try simp only [Exit.then, Exit.inBlock, ↓reduceIte, Nat.reduceEqDiff])
 refine bR (res_ct rfl ⟨_, rfl, lR S118 1 Tryz.underlying141 (size_141)⟩ (gD rfl)) ?_
 obtain ⟨he, hT⟩ := writeE_full ht hr (show writeX t r = none by unfold writeX idxW; rw [idxE_neg hc41]; simp only; rw [if_pos (by omega)])
 rw [he, hT]
 exact ⟨_, _, rfl, S118.gr, _, rfl, _, _, _, _, rfl, (Sl.nil _ _ _), (Sl.nil _ _ _)⟩
 refine eqlF ?_
 refine dy ?_
 simp only [pq]
 refine wn hK115 ?_
 refine wp_cond_false rfl ?_
 refine region_wl ?_
 refine df (fa_141_2 _ _) ?_
 refine dl (nagg_40 _) S98 0 ?_
 refine dr _ (ex_load rfl (loadM Tryz.underlying39 rfl (size_39) (range4 (St.fz S98 (hc77 0 _ rfl)) (St.fz S98 (hc77 1 _ rfl)) (St.fz S98 (hc77 2 _ rfl)) (St.fz S98 (hc77 3 _ rfl))))) ?_
 simp only [pq]
 refine stNew S98 (v := fun n => .slice (aA n 0) 1 1) rfl (ex_lit (ps := #[(0, (.agg #[(.slice xa60 r.name.length xc61), (.slice xa64 r.key.length xc65), (.bool r.gone), (.slice xa69 r.value.length xc70)]))]) (cells := #[(.slice xa60 r.name.length xc61), (.slice xa64 r.key.length xc65), (.bool r.gone), (.slice xa69 r.value.length xc70)]) (E := 39) (bmap1 rfl) (fun w => by kernel_rfl)) (fun n119 w120 S121 => ?_)
 refine stPush (i := 0) (r := 1) (p := r) (cs := [(.slice xa60 r.name.length xc61), (.slice xa64 r.key.length xc65), (.bool r.gone), (.slice xa69 r.value.length xc70)]) S121 rfl i39 (.agg #[Zn, Zn, bF, Zn]) 80 Tryz.underlying40 hi39 hz39 hs39 hb39 rfl (by decide) rfl rfl rfl rfl rfl (WrC.oneCell (p := r) ⟨_, _, _, _, rfl, (r62.mono le76), (r66.mono le76), rfl, (r71.mono le76)⟩) (⟨_, _, _, _, rfl, (r62.mono le76), (r66.mono le76), rfl, (r71.mono le76)⟩) (Nat.le_refl _) S121.gr.below.size (by unfold maxLen; omega) (by omega) ?_
 intro v122 w123 S124 hn125
 simp only [pq]
 have S124 := St.drop S124 (.cons _ (List.Sublist.refl _))
 obtain ⟨a126, cap127, rfl, h128, h129⟩ := (S124.own (i := 1) rfl).shape
 unfold maxLen at h129
 refine df (fa_141_2 _ _) ?_
 refine sW 0 S124 (size_40) fun w130 S131 => ?_
 refine wl_nil (hK99 _ _ ?_)
 refine wp_seq_k (fun K132 hK132 => ?_)
 obtain ⟨F133, S134, le135, hv136⟩ := St.freeze S131 (i := 0) rfl (Nat.le_refl _)
 have hv136 : Rds _ (.slice a22 t.reads.length c23) t.reads := hv136
 obtain ⟨F137, S138, le139, hv140⟩ := St.freeze S134 (i := 0) rfl (Nat.le_refl _)
 have hv140 : Wrs _ (.slice a126 (t.writes ++ [r]).length cap127) (t.writes ++ [r]) := hv140
 refine region_wl ?_
 refine dR S138 0 Tryz.underlying141 (size_141) ?_
 simp only [pq]
 refine sW 1 S138 (size_141) fun w141 S142 => ?_
 refine dy ?_
 refine wl_nil (hK132 _ _ ?_)
 refine wp_ret ?_
 (try simp only [Exit.then, Exit.inBlock, ↓reduceIte, Nat.reduceEqDiff])
 refine bR (res_ct rfl ⟨_, rfl, lR S142 1 Tryz.underlying141 (size_141)⟩ (gD rfl)) ?_
 obtain ⟨he, hT⟩ := writeE_ok ht hr (show writeX t r = some ⟨t.start, t.reads, t.writes ++ [r]⟩ by unfold writeX idxW; rw [idxE_neg hc41]; simp only; rw [if_neg (by omega)])
 rw [he, hT]
 exact ⟨_, _, rfl, S142.gr, _, rfl, _, _, _, _, rfl, (hv136.mono le139), hv140⟩
 refine neqT ?_
 simp only [pq]
 refine wn hK20 ?_
 refine wp_cond_true rfl ?_
 refine sk fun K143 hK143 => ?_
 refine dr (.agg #[(iI 0), Zn, Zn]) (ex_build (bmap0) (by kernel_rfl)) ?_
 refine dx ?_
 refine sW 0 S19 (size_141) fun w144 S145 => ?_
 simp only [pq]
 refine dy ?_
 refine wn hK143 ?_
 refine wp_ret ?_
 (try simp only [Exit.then, Exit.inBlock, ↓reduceIte, Nat.reduceEqDiff])
 refine bR (res_ct rfl ⟨_, rfl, lR S145 0 Tryz.underlying141 (size_141)⟩ (gD rfl)) ?_
 have he : writeE t r = wrE r := by unfold writeE; rw [if_neg (by omega), if_pos hc19]
 have hT : writeT t r = nilX := by unfold writeT; rw [if_pos (by rw [he]; exact hc19)]
 rw [he, hT]
 exact ⟨_, _, rfl, S145.gr, _, rfl, _, _, _, _, rfl, (Sl.nil _ _ _), (Sl.nil _ _ _)⟩
 refine neqT ?_
 refine wn hK15 ?_
 refine wp_cond_true rfl ?_
 refine sk fun K146 hK146 => ?_
 refine dr (.agg #[(iI 0), Zn, Zn]) (ex_build (bmap0) (by kernel_rfl)) ?_
 refine dx ?_
 simp only [pq]
 refine sW 0 S14 (size_141) fun w147 S148 => ?_
 refine dy ?_
 refine wn hK146 ?_
 refine wp_ret ?_
 (try simp only [Exit.then, Exit.inBlock, ↓reduceIte, Nat.reduceEqDiff])
 refine bR (res_ct rfl ⟨_, rfl, lR S148 0 Tryz.underlying141 (size_141)⟩ (gD rfl)) ?_
 have he : writeE t r = txE t := by unfold writeE; rw [if_pos hc13]
 have hT : writeT t r = nilX := by unfold writeT; rw [if_pos (by rw [he]; exact hc13)]
 rw [he, hT]
 exact ⟨_, _, rfl, S148.gr, _, rfl, _, _, _, _, rfl, (Sl.nil _ _ _), (Sl.nil _ _ _)⟩
theorem TxV.dropT {w : World} {F : Fz} {n : Nat} {T : TypeId} (hs : Sat w F) (hb : w.heap[n]? = some (.cells [Value.int .i64 0, Value.slice none 0 0, Value.slice none 0 0].toArray T (0, 0))) (hc : ∀ u ∈ [Value.int .i64 0, Value.slice none 0 0, Value.slice none 0 0], ∀ x, u ≠ bv x) {u : Value} {t : Tx} (h : TxV F u t) : TxV (dropF F n) u t := by
 obtain ⟨x0, y0, x1, y1, rfl, h0, h1⟩ := h
 exact ⟨x0, y0, x1, y1, rfl, Rds.dropF hs hb hc (by simp) h0, Wrs.dropF hs hb hc (by simp) h1⟩
theorem txnWriteIs_spec (F : Fz) (w : World) (v u : Value) (t : Tx) (r : Wr) (t' : Tx) (hs : Sat w F) (hv : TxV F v t) (hu : WrV F u r) (ht : TxOk t) (hr : WrOk r) (e : writeX t r = some t') :
    Calls Tryz.prog 94 #[v, u] w (Gives w F fun F' u => TxE F' u t' 0) := by
 have := txnWriteT_spec F w v u t r hs hv hu (fun x hx => (ht.writes x hx).small) hr.small
 obtain ⟨h1, h2⟩ := writeE_ok ht hr e
 rwa [h1, h2] at this
theorem txnNoteIs_spec (F : Fz) (w : World) (v u : Value) (t : Tx) (r : Rd) (t' : Tx) (hs : Sat w F) (hv : TxV F v t) (hu : RdV F u r) (ht : TxOk t) (hr : RdOk r) (e : noteX t r = some t') :
    Calls Tryz.prog 106 #[v, u] w (Gives w F fun F' u => TxE F' u t' 0) := by
 have := txnNote_spec F w v u t r hs hv hu (fun x hx => (ht.writes x hx).small)
 obtain ⟨h1, h2⟩ := noteE_ok ht hr e
 rwa [h1, h2] at this
end Go.Proofs.YtilgpdpooildcaaGreatDoor
