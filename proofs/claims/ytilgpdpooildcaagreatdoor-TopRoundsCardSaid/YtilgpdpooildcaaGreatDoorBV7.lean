/- Rules, plain laws and walks: X5 X6 H1 TP1 TP2 TP3 TP4 T0 D1 DG1 -/
import Derived.Test.YtilgpdpooildcaaGreatDoorBV2
import Derived.Test.YtilgpdpooildcaaGreatDoorBV6
import Derived.Test.YtilgpdpooildcaaGreatDoorBV5
import Derived.Test.YtilgpdpooildcaaGreatDoorBV1
import Derived.Test.YtilgpdpooildcaaGreatDoorCards
import Derived.Test.YtilgpdpooildcaaGreatDoorTie
import Derived.WalkKit
import Derived.ProofKit
import Derived.OpenShut
import Derived.Deep.DeepHandedRow
import Derived.Lib.LaidTab
import Derived.Lib.SmallJoins
import Derived.Deep.QuietTactic
import Derived.BigQuiet
import Derived.Test.YtilgpdpooildcaaGreatDoorBV3
import Derived.StillTailTactics
import Derived.Deep.MidRow
namespace Go.Proofs.YtilgpdpooildcaaGreatDoor
set_option maxHeartbeats 8000000
open Go.RowKit
set_option maxRecDepth 100000
set_option linter.unusedVariables false
set_option linter.unusedSimpArgs false
theorem geq_cmp (a b : By) : (!Op.bytesLess a b) = decide (0 ≤ cmpL a b) := by
 rw [Bool.eq_iff_iff, decide_eq_true_iff, Bool.not_eq_true', ← Bool.not_eq_true, show (Op.bytesLess a b = true) ↔ cmpL a b < 0 from cmpL_lt.symm]
 omega
theorem leq_cmp (a b : By) : (!Op.bytesLess b a) = decide (cmpL a b ≤ 0) := by
 rw [Bool.eq_iff_iff, decide_eq_true_iff, Bool.not_eq_true', ← Bool.not_eq_true, show (Op.bytesLess b a = true) ↔ 0 < cmpL a b from cmpL_gt.symm]
 omega
theorem touches_spec (F : Fz) (w : World) (v u : Value) (r : Rd) (p : Wr) (hs : Sat w F) (hv : RdV F v r) (hu : WrV F u p) :
    Calls Tryz.prog 133 #[v, u] w (Tells w (.bool (touchesX r p))) := by
 obtain ⟨x0, x1, x2, x3, x4, x5, rfl, h0, h1, h3⟩ := hv
 obtain ⟨y0, y1, y2, y3, y4, y5, rfl, k0, k1, k3⟩ := hu
 have S := St.start hs
 go_enter Tryz.func133, Tryz.ntmps133
 refine sk fun K1 hK1 => ?_
 refine stNew S (v := fun n => .pointer (aA n 0)) rfl (ex_box (v := (.agg #[(.slice x0 r.name.length x1), (.slice x2 r.key.length x3), (.bool r.wide), (.slice x4 r.last.length x5)])) rfl) (fun n2 w3 S4 => ?_)
 refine stNew S4 (v := fun n => .pointer (aA n 0)) rfl (ex_box (v := (.agg #[(.slice y0 p.name.length y1), (.slice y2 p.key.length y3), (.bool p.gone), (.slice y4 p.value.length y5)])) rfl) (fun n5 w6 S7 => ?_)
 simp only [pq]
 refine dy ?_
 refine wn hK1 ?_
 refine wp_seq_k (fun K8 hK8 => ?_)
 refine wp_seq_k (fun K9 hK9 => ?_)
 by_cases e1 : r.name = p.name
 refine region_wl ?_
 refine df (fa_179_0 _ _) ?_
 refine dl (nagg_25 _) S7 1 ?_
 refine df (fa_39_0 _ _) ?_
 simp only [pq]
 refine dl (nagg_25 _) S7 0 ?_
 refine stTells (v := bT) S7 rfl (fn2 (ent_108 _ _)) (tells_bool (bytesEqual_spec _ _ _ _ r.name p.name (S7).sat h0 k0) (beq_iff_eq.2 (e1))) (fun w10 S11 => ?_)
 refine dt ?_
 refine wl_nil (hK9 _ _ ?_)
 refine wp_cond_false rfl ?_
 refine wp_skip ?_
 refine hK8 _ _ ?_
 refine wp_seq_k (fun K12 hK12 => ?_)
 refine wp_seq_k (fun K13 hK13 => ?_)
 cases hwd : r.wide with
 | false =>
  rw [hwd] at S11
  refine region_wl ?_
  refine df (fa_179_2 _ _) ?_
  refine dl (nagg_4 _) S11 1 ?_
  refine dt ?_
  simp only [pq]
  refine wl_nil (hK13 _ _ ?_)
  refine wp_cond_true rfl ?_
  refine sk fun K14 hK14 => ?_
  refine df (fa_179_1 _ _) ?_
  refine dl (nagg_25 _) S11 1 ?_
  refine df (fa_39_1 _ _) ?_
  simp only [pq]
  refine dl (nagg_25 _) S11 0 ?_
  refine stTells (v := (.bool (r.key == p.key))) S11 rfl (fn2 (ent_108 _ _)) (bytesEqual_spec _ _ _ _ r.key p.key (S11).sat h1 k1) (fun w15 S16 => ?_)
  refine dy ?_
  refine wn hK14 ?_
  refine wp_ret ?_
  try simp only [xt]
  refine bR (res_t rfl (gD rfl)) ?_
  exact ⟨by unfold touchesX; rw [beq_iff_eq.2 e1, hwd]; rfl, S16.gr.below⟩
 | true =>
  rw [hwd] at S11
  refine region_wl ?_
  refine df (fa_179_2 _ _) ?_
  refine dl (nagg_4 _) S11 1 ?_
  refine dt ?_
  simp only [pq]
  refine wl_nil (hK13 _ _ ?_)
  refine wp_cond_false rfl ?_
  refine wp_skip ?_
  refine hK12 _ _ ?_
  refine sk fun K17 hK17 => ?_
  refine df (fa_39_1 _ _) ?_
  refine dl (nagg_25 _) S11 0 ?_
  refine df (fa_179_1 _ _) ?_
  simp only [pq]
  refine dl (nagg_25 _) S11 1 ?_
  refine stTells (v := (.int .i64 (cmpL p.key r.key))) S11 rfl (fn2 (ent_44 _ _)) (bytesCompare_spec _ _ _ _ p.key r.key (S11).sat k1 h1) (fun w18 S19 => ?_)
  simp only [pq]
  by_cases hc24 : (0 : Int) ≤ (cmpL p.key r.key)
  refine geqT ?_
  refine dx ?_
  refine df (fa_39_1 _ _) ?_
  simp only [pq]
  refine dl (nagg_25 _) S19 0 ?_
  refine df (fa_179_3 _ _) ?_
  refine dl (nagg_25 _) S19 1 ?_
  simp only [pq]
  refine stTells (v := (.int .i64 (cmpL p.key r.last))) S19 rfl (fn2 (ent_44 _ _)) (bytesCompare_spec _ _ _ _ p.key r.last (S19).sat k1 h3) (fun w20 S21 => ?_)
  simp only [pq]
  by_cases hc31 : (cmpL p.key r.last) ≤ (0 : Int)
  refine leqT ?_
  refine dp ?_
  refine dy ?_
  simp only [pq]
  refine wn hK17 ?_
  refine wp_ret ?_
  try simp only [xt]
  refine bR (res_t rfl (gD rfl)) ?_
  exact ⟨by unfold touchesX; rw [beq_iff_eq.2 e1, hwd]; simp only [if_true, Bool.true_and]; rw [geq_cmp, leq_cmp]; first | rw [decide_eq_true (by omega), decide_eq_true (by omega)]; rfl | rw [decide_eq_true (by omega), decide_eq_false (by omega)]; rfl | rw [decide_eq_false (by omega)]; rfl, S21.gr.below⟩
  refine leqF ?_
  refine dp ?_
  refine dy ?_
  simp only [pq]
  refine wn hK17 ?_
  refine wp_ret ?_
  try simp only [xt]
  refine bR (res_t rfl (gD rfl)) ?_
  exact ⟨by unfold touchesX; rw [beq_iff_eq.2 e1, hwd]; simp only [if_true, Bool.true_and]; rw [geq_cmp, leq_cmp]; first | rw [decide_eq_true (by omega), decide_eq_true (by omega)]; rfl | rw [decide_eq_true (by omega), decide_eq_false (by omega)]; rfl | rw [decide_eq_false (by omega)]; rfl, S21.gr.below⟩
  refine geqF ?_
  refine dx ?_
  refine nO ?_
  simp only [pq]
  iterate 3 refine nO ?_
  simp only [pq]
  iterate 2 refine nO ?_
  refine dp ?_
  refine dy ?_
  simp only [pq]
  refine wn hK17 ?_
  refine wp_ret ?_
  try simp only [xt]
  refine bR (res_t rfl (gD rfl)) ?_
  exact ⟨by unfold touchesX; rw [beq_iff_eq.2 e1, hwd]; simp only [if_true, Bool.true_and]; rw [geq_cmp, leq_cmp]; first | rw [decide_eq_true (by omega), decide_eq_true (by omega)]; rfl | rw [decide_eq_true (by omega), decide_eq_false (by omega)]; rfl | rw [decide_eq_false (by omega)]; rfl, S19.gr.below⟩
 refine region_wl ?_
 refine df (fa_179_0 _ _) ?_
 refine dl (nagg_25 _) S7 1 ?_
 refine df (fa_39_0 _ _) ?_
 simp only [pq]
 refine dl (nagg_25 _) S7 0 ?_
 refine stTells (v := bF) S7 rfl (fn2 (ent_108 _ _)) (tells_bool (bytesEqual_spec _ _ _ _ r.name p.name (S7).sat h0 k0) (beq_eq_false_iff_ne.2 (e1))) (fun w22 S23 => ?_)
 refine dt ?_
 refine wl_nil (hK9 _ _ ?_)
 refine wp_cond_true rfl ?_
 refine sk fun K24 hK24 => ?_
 refine dy ?_
 simp only [pq]
 refine wn hK24 ?_
 refine wp_ret ?_
 try simp only [xt]
 refine bR (res_t rfl (gD rfl)) ?_
 exact ⟨by unfold touchesX; rw [beq_eq_false_iff_ne.2 e1]; rfl, S23.gr.below⟩
theorem clash1_clos (F : Fz) (w : World) (v : Value) (b : Nat) (q : Rd) (r : Wr) (hs : Sat w F) (hv : RdV F v q) (hr : WrP F b r) :
    Calls Tryz.prog 132 #[v, .pointer (some ⟨b, 0, none⟩)] w (Tells w (.bool (touchesX q r))) := by
 obtain ⟨x0, x1, x2, x3, x4, x5, rfl, h0, h1, h3⟩ := hv
 obtain ⟨z0, z1, z2, z3, z4, z5, c0, c1, c2, c3, k0, k1, k3⟩ := hr
 have S := St.start hs
 go_enter Tryz.func132, Tryz.ntmps132
 refine sk fun K1 hK1 => ?_
 refine stNew S (v := fun n => .pointer (aA n 0)) rfl (ex_box (v := (.agg #[(.slice x0 q.name.length x1), (.slice x2 q.key.length x3), (.bool q.wide), (.slice x4 q.last.length x5)])) rfl) (fun n2 w3 S4 => ?_)
 refine dy ?_
 refine wn hK1 ?_
 refine sk fun K5 hK5 => ?_
 refine dR S4 0 Tryz.underlying179 (size_179) ?_
 refine dr _ (ex_load rfl (loadM Tryz.underlying39 rfl (size_39) (range4 (St.fz S4 c0) (St.fz S4 c1) (St.fz S4 c2) (St.fz S4 c3)))) ?_
 simp only [pq]
 refine stTells (v := (.bool (touchesX q r))) S4 rfl (fn2 (ent_133 _ _)) (touches_spec _ _ _ _ _ _ (S4).sat ⟨_, _, _, _, _, _, rfl, h0, h1, h3⟩ ⟨_, _, _, _, _, _, rfl, k0, k1, k3⟩) (fun w6 S7 => ?_)
 refine dy ?_
 refine wn hK5 ?_
 refine wp_ret ?_
 try simp only [xt]
 refine bR (res_t rfl (gD rfl)) ?_
 exact ⟨rfl, S7.gr.below⟩
theorem clash1_index (F : Fz) (w : World) (v : Value) (b : Nat) (l : List Rd) (r : Wr) (hs : Sat w F) (hv : Rds F v l) (hr : WrP F b r) (hl : l.length ≤ 1000000) :
    Calls Tryz.prog 146 #[v, .func (.func 132) #[] #[.pointer (some ⟨b, 0, none⟩)]] w (Tells w (.int .i64 (idxE l (fun q : Rd => (touchesX q r))))) := by
 obtain ⟨a, c, rfl, hc1, hc2⟩ := Sl.shape hv
 unfold maxLen at hc2
 have S := St.start hs
 go_enter Tryz.func146, Tryz.ntmps146
 refine sk fun K1 hK1 => ?_
 refine dy ?_
 refine wn hK1 ?_
 refine wp_seq_k (fun K2 hK2 => ?_)
 refine sk fun K3 hK3 => ?_
 refine dx ?_
 refine dn Tryz.underlying139 ?_
 refine dx ?_
 simp only [pq]
 refine wn hK3 ?_
 refine wp_block ?_
 refine wp_loop_g (fun mm aa w5 => ∃ (k : Nat) (u4 : Nat → Value), mm = l.length - k ∧ u4 = slots aa ∧ aa = ⟨#[(.slice a l.length c), (.func (.func 132) #[] #[(pP b 0)]), undef, undef, (u4 4), (u4 5), (.slice a l.length c), (nI l.length), (nI k), (u4 9), (u4 10), (u4 11), (u4 12), (u4 13), (u4 14), (u4 15), (u4 16), (u4 17), (u4 18)], []⟩ ∧ St w F w5 F [] [] ∧ (k ≤ l.length) ∧ (∀ (i : Nat) q, i < k → l[i]? = some q → (fun q : Rd => (touchesX q r)) q = false)) _ ⟨0, _, rfl, rfl, rfl, S, (by omega), (fun i q hi => absurd hi (by omega))⟩ ?_
 rintro m6 a7 w8 ⟨k, u4, rfl, -, rfl, S9, hk, hbad⟩ K11 hK11
 refine sk fun K12 hK12 => ?_
 by_cases hc9 : k < l.length
 refine lssT ?_
 refine wn hK12 ?_
 refine wp_seq_k (fun K13 hK13 => ?_)
 refine wp_cond_true rfl ?_
 refine wp_skip ?_
 refine hK13 _ _ ?_
 refine wp_seq_k (fun K14 hK14 => ?_)
 refine wp_block ?_
 refine sk fun K15 hK15 => ?_
 refine dx ?_
 refine dy ?_
 simp only [pq]
 refine wn hK15 ?_
 refine wp_seq_k (fun K16 hK16 => ?_)
 obtain ⟨p, hp⟩ : ∃ p, l[k]? = some p := ⟨l[k], List.getElem?_eq_getElem hc9⟩
 obtain ⟨b17, o18, ha19, xa21, xc22, xa25, xc26, xa30, xc31, c20, c24, c28, c29, r23, r27, r32⟩ := Rds.get hv hp
 refine region_wl ?_
 iterate 3 refine dx ?_
 simp only [pq]
 refine dr (pP b17 (o18 + k * 4)) (ex_at (i := k) (sz := 4) Tryz.underlying139 (sizeof_179 _) rfl ha19 rfl (by omega) rfl) ?_
 refine dr _ (ex_load rfl (loadM Tryz.underlying179 rfl (size_179) (range4 (St.fz S9 c20) (St.fz S9 c24) (St.fz S9 c28) (St.fz S9 c29)))) ?_
 refine stTells (v := (.bool ((fun q : Rd => (touchesX q r)) p))) S9 rfl (ex_fv (fs := #[]) (cs := #[(pP b 0)]) (vs := #[(.agg #[(.slice xa21 p.name.length xc22), (.slice xa25 p.key.length xc26), (.bool p.wide), (.slice xa30 p.last.length xc31)]), (pP b 0)]) rfl (vmap (fs := #[]) (cs := #[(pP b 0)]) (xs := #[(.agg #[(.slice xa21 p.name.length xc22), (.slice xa25 p.key.length xc26), (.bool p.wide), (.slice xa30 p.last.length xc31)])]) (map1 rfl) (by simp)) (ent_132 _ _)) (clash1_clos _ _ _ b p r (S9).sat ⟨_, _, _, _, _, _, rfl, r23, r27, r32⟩ hr) (fun w33 S34 => ?_)
 refine wl_nil (hK16 _ _ ?_)
 refine wp_cond_split rfl (fun hc35 => ?_) (fun hc35 => ?_)
 refine sk fun K36 hK36 => ?_
 refine dx ?_
 refine dy ?_
 simp only [pq]
 refine wn hK36 ?_
 refine wp_ret ?_
 (try simp only [Exit.then, Exit.inBlock, ↓reduceIte, Nat.reduceEqDiff])
 refine bR (res_t rfl (gD rfl)) ?_
 exact ⟨by rw [idxE_hit hp hc35 hbad], S34.gr.below⟩
 refine wp_skip ?_
 refine hK14 _ _ ?_
 refine region_wl ?_
 refine dAdd (k + 1) ?_
 refine dx ?_
 refine wl_nil ?_
 exact hK11 _ _ _ (by omega) ⟨(k + 1), _, rfl, rfl, rfl, S34, (by omega), (fun i q hi hq => by rcases Nat.lt_succ_iff_lt_or_eq.1 hi with h | rfl; exact hbad i q h hq; (rw [hp] at hq; cases hq; exact hc35))⟩
 refine lssF ?_
 simp only [pq]
 refine wn hK12 ?_
 refine wp_seq_k (fun K37 hK37 => ?_)
 refine wp_cond_false rfl ?_
 refine wp_exit ?_
 refine hK2 _ _ ?_
 refine sk fun K38 hK38 => ?_
 refine dy ?_
 refine wn hK38 ?_
 refine wp_ret ?_
 (try simp only [Exit.then, Exit.inBlock, ↓reduceIte, Nat.reduceEqDiff])
 refine bR (res_t rfl (gD rfl)) ?_
 exact ⟨by rw [idxE_none (fun i q hi hq => hbad i q (by omega) hq)], S9.gr.below⟩
theorem clash1_contains (F : Fz) (w : World) (v : Value) (b : Nat) (l : List Rd) (r : Wr) (hs : Sat w F) (hv : Rds F v l) (hr : WrP F b r) (hl : l.length ≤ 1000000) :
    Calls Tryz.prog 127 #[v, .func (.func 132) #[] #[.pointer (some ⟨b, 0, none⟩)]] w (Tells w (.bool (l.any (fun q : Rd => (touchesX q r))))) := by
 obtain ⟨a, c, rfl, hc1, hc2⟩ := Sl.shape hv
 have S := St.start hs
 go_enter Tryz.func127, Tryz.ntmps127
 refine sk fun K1 hK1 => ?_
 refine dy ?_
 refine wn hK1 ?_
 refine sk fun K2 hK2 => ?_
 iterate 2 refine dx ?_
 simp only [pq]
 refine stTells (v := (.int .i64 (idxE l (fun q : Rd => (touchesX q r))))) S rfl (fn2 (ent_146 _ _)) (clash1_index _ _ _ b l r (S).sat hv hr hl) (fun w3 S4 => ?_)
 refine dr (.bool (l.any (fun q : Rd => (touchesX q r)))) (ex_geq (m := idxE l (fun q : Rd => (touchesX q r))) (n := 0) (b := l.any (fun q : Rd => (touchesX q r))) rfl rfl idxE_any) ?_
 refine dy ?_
 refine wn hK2 ?_
 refine wp_ret ?_
 try simp only [xt]
 refine bR (res_t rfl (gD rfl)) ?_
 exact ⟨rfl, S4.gr.below⟩
def bothE (l : Forest) (t : Tx) : Int := if forestE l ≠ 0 then forestE l else txE t
theorem bothE_ok {l : Forest} {t : Tx} : bothE l t = 0 ↔ ForestOk 60 l ∧ TxOk t := by
 unfold bothE
 by_cases h : forestE l = 0
 ·rw [if_neg (by simpa using h), txE_ok, ← forestE_ok]; exact ⟨fun k => ⟨h, k⟩, fun k => k.2⟩
 ·rw [if_pos h]; exact ⟨fun k => absurd k h, fun k => absurd (forestE_ok.2 k.1) h⟩
theorem both_spec (F : Fz) (w : World) (u v : Value) (l : Forest) (t : Tx) (hs : Sat w F) (hl : Tns F u l) (hv : TxV F v t) (hbw : ∀ r ∈ t.writes, r.name.length ≤ 100000 ∧ r.key.length ≤ 100000 ∧ r.value.length ≤ 100000) :
    Calls Tryz.prog 103 #[u, v] w (Tells w (.int .i64 (bothE l t))) := by
 obtain ⟨a, c, rfl, hc1, hc2⟩ := Sl.shape hl
 obtain ⟨x0, y0, x1, y1, rfl, h0, h1⟩ := hv
 obtain ⟨_, _, e0, q0, q1⟩ := Sl.shape h0
 obtain ⟨_, _, e1, q2, q3⟩ := Sl.shape h1
 injection e0 with _ _ e0
 injection e1 with _ _ e1
 subst e0 e1
 unfold maxLen at q1 q3
 have S := St.start hs
 go_enter Tryz.func103, Tryz.ntmps103
 refine sk fun K1 hK1 => ?_
 refine stNew S (v := fun n => .pointer (aA n 0)) rfl (ex_box (v := (.agg #[(.int .i64 t.start), (.slice x0 t.reads.length y0), (.slice x1 t.writes.length y1)])) rfl) (fun n2 w3 S4 => ?_)
 refine dy ?_
 refine wn hK1 ?_
 refine wp_seq_k (fun K5 hK5 => ?_)
 refine sk fun K6 hK6 => ?_
 refine dx ?_
 refine stTells (v := (.int .i64 (forestE l))) S4 rfl (fn1 (ent_32 _ _)) (forestCheck_spec _ _ _ l (S4).sat hl) (fun w7 S8 => ?_)
 simp only [pq]
 refine dy ?_
 refine wn hK6 ?_
 refine sk fun K9 hK9 => ?_
 refine dx ?_
 simp only [pq]
 by_cases hc9 : (forestE l) = (0 : Int)
 refine neqF ?_
 refine wn hK9 ?_
 refine wp_cond_false rfl ?_
 refine wp_skip ?_
 refine hK5 _ _ ?_
 refine sk fun K10 hK10 => ?_
 refine dR S8 0 Tryz.underlying141 (size_141) ?_
 refine stTells (v := (.int .i64 (txE t))) S8 rfl (fn1 (ent_111 _ _)) (txnCheck_spec _ _ _ t (S8).sat ⟨_, _, _, _, rfl, h0, h1⟩ hbw) (fun w11 S12 => ?_)
 refine dy ?_
 simp only [pq]
 refine wn hK10 ?_
 refine wp_ret ?_
 try simp only [xt]
 refine bR (res_t rfl (gD rfl)) ?_
 exact ⟨by unfold bothE; rw [if_neg (by omega)], S12.gr.below⟩
 refine neqT ?_
 refine wn hK9 ?_
 refine wp_cond_true rfl ?_
 refine sk fun K13 hK13 => ?_
 refine dx ?_
 refine dy ?_
 simp only [pq]
 refine wn hK13 ?_
 refine wp_ret ?_
 try simp only [xt]
 refine bR (res_t rfl (gD rfl)) ?_
 exact ⟨by unfold bothE; rw [if_pos hc9], S8.gr.below⟩
theorem any_next {α : Type} {l : List α} {g : α → Bool} {k : Nat} {p : α} (hp : l[k]? = some p) (h : (l.take k).any g = false) (hg : g p = false) : (l.take (k + 1)).any g = false := by
 obtain ⟨hk, rfl⟩ := List.getElem?_eq_some_iff.1 hp
 rw [List.take_succ_eq_append_getElem hk, List.any_append, h]
 simp [hg]
theorem any_all {α : Type} {l : List α} {g : α → Bool} {k : Nat} (hk : l.length ≤ k) (h : (l.take k).any g = false) : l.any g = false := by rwa [List.take_of_length_le hk] at h
theorem any_hit {α : Type} {l : List α} {g : α → Bool} {k : Nat} {p : α} (hp : l[k]? = some p) (hg : g p = true) : l.any g = true := List.any_eq_true.2 ⟨p, List.mem_of_getElem? hp, hg⟩
theorem cm_no {t : Tx} {p : Cm} (h : (p.turn : Int) ≤ t.start) : (fun c : Cm => decide (t.start < c.turn) && c.writes.any (fun w : Wr => t.reads.any fun r => touchesX r w)) p = false := by (try simp only); rw [decide_eq_false (by omega)]; rfl
def clashE (t : Tx) (cs : List Cm) : Bool := if txE t ≠ 0 then false else clashX t.start t.reads cs
theorem clash_spec (F : Fz) (w : World) (v u : Value) (t : Tx) (cs : List Cm) (hs : Sat w F) (hv : TxV F v t) (hl : Cms F u cs) (hcs : ∀ c ∈ cs, c.writes.length ≤ 100000) (hbw : ∀ r ∈ t.writes, r.name.length ≤ 100000 ∧ r.key.length ≤ 100000 ∧ r.value.length ≤ 100000) :
    Calls Tryz.prog 109 #[v, u] w (Tells w (.tuple #[.bool (clashE t cs), .int .i64 (txE t)])) := by
 obtain ⟨a, c, rfl, hc1, hc2⟩ := Sl.shape hl
 unfold maxLen at hc2
 obtain ⟨x0, y0, x1, y1, rfl, h0, h1⟩ := hv
 obtain ⟨_, _, e0, q0, q1⟩ := Sl.shape h0
 obtain ⟨_, _, e1, q2, q3⟩ := Sl.shape h1
 injection e0 with _ _ e0
 injection e1 with _ _ e1
 subst e0 e1
 unfold maxLen at q1 q3
 have S := St.start hs
 go_enter Tryz.func109, Tryz.ntmps109
 refine sk fun K1 hK1 => ?_
 refine stNew S (v := fun n => .pointer (aA n 0)) rfl (ex_box (v := (.agg #[(.int .i64 t.start), (.slice x0 t.reads.length y0), (.slice x1 t.writes.length y1)])) rfl) (fun n2 w3 S4 => ?_)
 iterate 2 refine dy ?_
 refine wn hK1 ?_
 refine wp_seq_k (fun K5 hK5 => ?_)
 refine sk fun K6 hK6 => ?_
 refine dR S4 0 Tryz.underlying141 (size_141) ?_
 simp only [pq]
 refine stTells (v := (.int .i64 (txE t))) S4 rfl (fn1 (ent_111 _ _)) (txnCheck_spec _ _ _ t (S4).sat ⟨_, _, _, _, rfl, h0, h1⟩ hbw) (fun w7 S8 => ?_)
 refine dy ?_
 refine wn hK6 ?_
 refine sk fun K9 hK9 => ?_
 refine dx ?_
 simp only [pq]
 by_cases hc14 : (txE t) = (0 : Int)
 refine neqF ?_
 refine wn hK9 ?_
 refine wp_cond_false rfl ?_
 refine wp_skip ?_
 refine hK5 _ _ ?_
 refine wp_seq_k (fun K10 hK10 => ?_)
 refine wp_seq_k (fun K11 hK11 => ?_)
 have ht : TxOk t := txE_ok.1 (by omega)
 have hnr := ht.nr
 refine region_wl ?_
 refine dx ?_
 refine dn Tryz.underlying109 ?_
 refine dx ?_
 simp only [pq]
 refine wl_nil (hK11 _ _ ?_)
 refine wp_block ?_
 refine wp_loop_g (fun mm aa w14 => ∃ (k : Nat) (F12 : Fz) (u13 : Nat → Value), mm = cs.length - k ∧ u13 = slots aa ∧ aa = ⟨#[(.agg #[(.int .i64 t.start), (.slice x0 t.reads.length y0), (.slice x1 t.writes.length y1)]), (.slice a cs.length c), (pP n2 0), undef, (u13 4), (u13 5), (.int .i64 (txE t)), undef, (u13 8), undef, (u13 10), (.agg #[(.int .i64 t.start), (.slice x0 t.reads.length y0), (.slice x1 t.writes.length y1)]), (.int .i64 (txE t)), (.int .i64 (txE t)), bF, undef, (.slice a cs.length c), (nI cs.length), (nI k), (u13 19), (u13 20), (u13 21), (u13 22), (u13 23), (u13 24), (u13 25), (u13 26), (u13 27), (u13 28), (u13 29), (u13 30), (u13 31), (u13 32), (u13 33), (u13 34), (u13 35), (u13 36), (u13 37), (u13 38), (u13 39)], []⟩ ∧ St w F w14 F12 [⟨n2, [(.int .i64 t.start), (.slice x0 t.reads.length y0), (.slice x1 t.writes.length y1)], 141⟩] [] ∧ Le F F12 ∧ (k ≤ cs.length) ∧ ((cs.take k).any (fun c : Cm => decide (t.start < c.turn) && c.writes.any (fun w : Wr => t.reads.any fun r => touchesX r w)) = false)) _ ⟨0, F, _, rfl, rfl, rfl, S8, Le.refl _, (by omega), rfl⟩ ?_
 rintro m15 a16 w17 ⟨k, F12, u13, rfl, -, rfl, S18, le19, hk, hno⟩ K20 hK20
 refine sk fun K21 hK21 => ?_
 by_cases hc19 : k < cs.length
 refine lssT ?_
 refine wn hK21 ?_
 refine wp_seq_k (fun K22 hK22 => ?_)
 refine wp_cond_true rfl ?_
 refine wp_skip ?_
 refine hK22 _ _ ?_
 refine wp_seq_k (fun K23 hK23 => ?_)
 refine wp_block ?_
 refine wp_seq_k (fun K24 hK24 => ?_)
 obtain ⟨p, hp⟩ : ∃ p, cs[k]? = some p := ⟨cs[k], List.getElem?_eq_getElem hc19⟩
 obtain ⟨b25, o26, ha27, xa30, xc31, c28, c29, r32⟩ := Cms.get (hl.mono le19) hp
 refine region_wl ?_
 refine dr (pP b25 (o26 + k * 2)) (ex_at (i := k) (sz := 2) Tryz.underlying109 (sizeof_168 _) rfl ha27 rfl (by omega) rfl) ?_
 refine dr _ (ex_load rfl (loadM Tryz.underlying168 rfl (size_168) (range2 (St.fz S18 c28) (St.fz S18 c29)))) ?_
 simp only [pq]
 refine sA S18 (zero_168 _) fun n33 w34 S35 => ?_
 refine sW 0 S35 (size_168) fun w36 S37 => ?_
 refine wl_nil (hK24 _ _ ?_)
 refine wp_seq_k (fun K38 hK38 => ?_)
 refine sk fun K39 hK39 => ?_
 refine df (fa_168_0 _ _) ?_
 refine dl (nagg_3 _) S37 0 ?_
 refine df (fa_141_0 _ _) ?_
 simp only [pq]
 refine dl (nagg_3 _) S37 1 ?_
 simp only [pq]
 by_cases hc26 : ((p.turn : Nat) : Int) ≤ t.start
 refine leqT ?_
 refine wn hK39 ?_
 refine wp_cond_true rfl ?_
 refine wp_exit ?_
 refine hK23 _ _ ?_
 refine region_wl ?_
 refine dAdd (k + 1) ?_
 refine dx ?_
 simp only [pq]
 refine wl_nil ?_
 have S37 := St.drop S37 (.cons _ (List.Sublist.refl _))
 exact hK20 _ _ _ (by omega) ⟨(k + 1), F12, _, rfl, rfl, rfl, S37, le19, (by omega), (any_next hp hno (cm_no (by omega)))⟩
 refine leqF ?_
 refine wn hK39 ?_
 refine wp_cond_false rfl ?_
 refine wp_skip ?_
 refine hK38 _ _ ?_
 refine wp_seq_k (fun K40 hK40 => ?_)
 have hpw := hcs p (List.mem_of_getElem? hp)
 refine region_wl ?_
 refine df (fa_168_1 _ _) ?_
 refine dl (nagg_40 _) S37 0 ?_
 refine dn Tryz.underlying40 ?_
 simp only [pq]
 refine dx ?_
 refine wl_nil (hK40 _ _ ?_)
 refine wp_block ?_
 refine wp_loop_g (fun mm aa w43 => ∃ (j : Nat) (F41 : Fz) (u42 : Nat → Value), mm = p.writes.length - j ∧ u42 = slots aa ∧ aa = ⟨#[(.agg #[(.int .i64 t.start), (.slice x0 t.reads.length y0), (.slice x1 t.writes.length y1)]), (.slice a cs.length c), (pP n2 0), undef, (u42 4), (u42 5), (.int .i64 (txE t)), undef, (pP n33 0), undef, (u42 10), (.agg #[(.int .i64 t.start), (.slice x0 t.reads.length y0), (.slice x1 t.writes.length y1)]), (.int .i64 (txE t)), (.int .i64 (txE t)), bF, undef, (.slice a cs.length c), (nI cs.length), (nI k), bT, (pP b25 (o26 + k * 2)), (.agg #[(nI p.turn), (.slice xa30 p.writes.length xc31)]), (pP n33 0), (nI p.turn), (pP n2 0), (.int .i64 t.start), bF, (pP n33 1), (.slice xa30 p.writes.length xc31), (nI p.writes.length), (nI j), (u42 31), (u42 32), (u42 33), (u42 34), (u42 35), (u42 36), (u42 37), (u42 38), (u13 39)], []⟩ ∧ St w F w43 F41 [⟨n33, [(nI p.turn), (.slice xa30 p.writes.length xc31)], 168⟩, ⟨n2, [(.int .i64 t.start), (.slice x0 t.reads.length y0), (.slice x1 t.writes.length y1)], 141⟩] [] ∧ Le F12 F41 ∧ (j ≤ p.writes.length) ∧ ((p.writes.take j).any (fun w : Wr => t.reads.any fun r => touchesX r w) = false)) _ ⟨0, F12, _, rfl, rfl, rfl, S37, Le.refl _, (by omega), rfl⟩ ?_
 rintro m44 a45 w46 ⟨j, F41, u42, rfl, -, rfl, S47, le48, hj, hnw⟩ K49 hK49
 refine sk fun K50 hK50 => ?_
 by_cases hc31 : j < p.writes.length
 refine lssT ?_
 refine wn hK50 ?_
 refine wp_seq_k (fun K51 hK51 => ?_)
 refine wp_cond_true rfl ?_
 refine wp_skip ?_
 refine hK51 _ _ ?_
 refine wp_seq_k (fun K52 hK52 => ?_)
 refine wp_block ?_
 refine wp_seq_k (fun K53 hK53 => ?_)
 obtain ⟨qq, hq⟩ : ∃ qq, p.writes[j]? = some qq := ⟨p.writes[j], List.getElem?_eq_getElem hc31⟩
 obtain ⟨b54, o55, ha56, xa58, xc59, xa62, xc63, xa67, xc68, c57, c61, c65, c66, r60, r64, r69⟩ := Wrs.get (r32.mono le48) hq
 refine region_wl ?_
 refine dr (pP b54 (o55 + j * 4)) (ex_at (i := j) (sz := 4) Tryz.underlying40 (sizeof_39 _) rfl ha56 rfl (by omega) rfl) ?_
 refine dr _ (ex_load rfl (loadM Tryz.underlying39 rfl (size_39) (range4 (St.fz S47 c57) (St.fz S47 c61) (St.fz S47 c65) (St.fz S47 c66)))) ?_
 simp only [pq]
 refine sA S47 (zero_39 _) fun n70 w71 S72 => ?_
 refine sW 0 S72 (size_39) fun w73 S74 => ?_
 refine wl_nil (hK53 _ _ ?_)
 refine wp_seq_k (fun K75 hK75 => ?_)
 obtain ⟨S76, le77, hc78⟩ := St.freezeBlk S74 (i := 0) rfl
 have r80 : WrP _ n70 qq := ⟨_, _, _, _, _, _, hc78 0 _ rfl, hc78 1 _ rfl, hc78 2 _ rfl, hc78 3 _ rfl, (r60.mono le77), (r64.mono le77), (r69.mono le77)⟩
 generalize addF F41 w73 n70 = F79 at *
 refine region_wl ?_
 refine df (fa_141_1 _ _) ?_
 refine dl (nagg_139 _) S76 1 ?_
 refine dr (.func (.func 132) #[] #[(pP n70 0)]) (ex_makeFunc rfl) ?_
 simp only [pq]
 refine stTells (v := (.bool (t.reads.any (fun q => touchesX q qq)))) S76 rfl (fn2 (ent_127 _ _)) (clash1_contains _ _ _ n70 t.reads qq (S76).sat (h0.mono ((le19.trans le48).trans le77)) r80 (by omega)) (fun w81 S82 => ?_)
 refine wl_nil (hK75 _ _ ?_)
 refine wp_cond_split rfl (fun hc83 => ?_) (fun hc83 => ?_)
 refine sk fun K84 hK84 => ?_
 iterate 2 refine dy ?_
 refine wn hK84 ?_
 refine wp_ret ?_
 (try simp only [Exit.then, Exit.inBlock, ↓reduceIte, Nat.reduceEqDiff])
 refine bR (res_tt rfl (gD rfl) (gD rfl)) ?_
 exact ⟨by unfold clashE clashX; rw [if_neg (by omega), any_hit hp (by (try simp only); rw [decide_eq_true (by omega), any_hit hq hc83]; rfl), txE_ok.2 ht], S82.gr.below⟩
 refine wp_skip ?_
 refine hK52 _ _ ?_
 refine region_wl ?_
 refine dAdd (j + 1) ?_
 refine dx ?_
 simp only [pq]
 refine wl_nil ?_
 exact hK49 _ _ _ (by omega) ⟨(j + 1), F79, _, rfl, rfl, rfl, S82, (le48.trans le77), (by omega), (any_next hq hnw (by simpa using hc83))⟩
 refine lssF ?_
 refine wn hK50 ?_
 refine wp_seq_k (fun K85 hK85 => ?_)
 refine wp_cond_false rfl ?_
 refine wp_exit ?_
 refine hK23 _ _ ?_
 refine region_wl ?_
 refine dAdd (k + 1) ?_
 refine dx ?_
 simp only [pq]
 refine wl_nil ?_
 have S47 := St.drop S47 (.cons _ (List.Sublist.refl _))
 exact hK20 _ _ _ (by omega) ⟨(k + 1), F41, _, rfl, rfl, rfl, S47, (le19.trans le48), (by omega), (any_next hp hno (by (try simp only); rw [any_all (by omega) hnw, Bool.and_false]))⟩
 refine lssF ?_
 refine wn hK21 ?_
 refine wp_seq_k (fun K86 hK86 => ?_)
 refine wp_cond_false rfl ?_
 refine wp_exit ?_
 refine hK10 _ _ ?_
 refine sk fun K87 hK87 => ?_
 iterate 2 refine dy ?_
 simp only [pq]
 refine wn hK87 ?_
 refine wp_ret ?_
 (try simp only [Exit.then, Exit.inBlock, ↓reduceIte, Nat.reduceEqDiff])
 refine bR (res_tt rfl (gD rfl) (gD rfl)) ?_
 exact ⟨by unfold clashE clashX; rw [if_neg (by omega), any_all (by omega) hno, txE_ok.2 ht], S18.gr.below⟩
 refine neqT ?_
 refine wn hK9 ?_
 refine wp_cond_true rfl ?_
 refine sk fun K88 hK88 => ?_
 refine dx ?_
 iterate 2 refine dy ?_
 simp only [pq]
 refine wn hK88 ?_
 refine wp_ret ?_
 (try simp only [Exit.then, Exit.inBlock, ↓reduceIte, Nat.reduceEqDiff])
 refine bR (res_tt rfl (gD rfl) (gD rfl)) ?_
 exact ⟨by unfold clashE; rw [if_pos hc14], S8.gr.below⟩
def LookR (o : Option By) (b : Bool) (e : Int) (F : Fz) (u : Value) : Prop := ∃ x, u = .tuple #[x, .bool b, .int .i64 e] ∧ FndV F x o
def FdV (F : Fz) (u : Value) (b : Bool) (l : By) : Prop := ∃ a c, u = .agg #[.bool b, .slice a l.length c] ∧ Bs F (.slice a l.length c) l
theorem FdV.dropF {w : World} {F : Fz} {n : Nat} {cs : List Value} {T : TypeId} (hs : Sat w F) (hb : w.heap[n]? = some (.cells cs.toArray T (0, 0))) (hc : ∀ u ∈ cs, ∀ x, u ≠ bv x) {v : Value} {b : Bool} {l : By} (h : FdV F v b l) : FdV (Proofs.YtilgpdpooildcaaGreatDoor.dropF F n) v b l := by
 obtain ⟨a, c, rfl, h1⟩ := h
 exact ⟨a, c, rfl, h1.dropF hs hb hc⟩
theorem FdV.fnd {F : Fz} {u : Value} {p : Wr} (h : FdV F u (!p.gone) p.value) (hp : WrOk p) : FndV F u (if p.gone then none else some p.value) := by
 obtain ⟨a, c, rfl, h1⟩ := h
 cases hg : p.gone with
 | true =>
  have := hp.gone hg
  rw [this] at h1
  refine ⟨a, c, by rw [this]; rfl, h1⟩
 | false => exact ⟨a, c, rfl, h1⟩
theorem find_hit {α : Type} {l : List α} {g : α → Bool} {k : Nat} {p : α} (hp : l[k]? = some p) (h : (l.take k).any g = false) (hg : g p = true) : l.find? g = some p := by
 obtain ⟨hk, rfl⟩ := List.getElem?_eq_some_iff.1 hp
 rw [List.find?_eq_some_iff_getElem]
 exact ⟨hg, k, hk, rfl, fun j hj => by rw [any_take.1 h j _ hj (List.getElem?_eq_getElem (by omega))]; rfl⟩
theorem find_no {α : Type} {l : List α} {g : α → Bool} (h : l.any g = false) : l.find? g = none := by
 rw [List.find?_eq_none]
 intro x hx
 have := List.any_eq_false.1 h x hx
 simpa using this
theorem look_spec (F : Fz) (w : World) (u v y z : Value) (l : Forest) (t : Tx) (n k : By) (hs : Sat w F) (hl : Tns F u l) (hv : TxV F v t) (hn : Bs F y n) (hk : Bs F z k) (hf : ForestOk 60 l) (ht : TxOk t) (hnn : 1 ≤ n.length ∧ n.length ≤ 8) (hkk : 1 ≤ k.length ∧ k.length ≤ 16) :
    Calls Tryz.prog 89 #[u, v, y, z] w (Gives w F (LookR (lookX l t n k).1 (lookX l t n k).2 0)) := by
 obtain ⟨a, c, rfl, hc1, hc2⟩ := Sl.shape hl
 unfold maxLen at hc2
 obtain ⟨x0, y0, x1, y1, rfl, h0, h1⟩ := hv
 obtain ⟨_, _, e0, q0, q1⟩ := Sl.shape h0
 obtain ⟨_, _, e1, q2, q3⟩ := Sl.shape h1
 injection e0 with _ _ e0
 injection e1 with _ _ e1
 subst e0 e1
 unfold maxLen at q1 q3
 obtain ⟨a2, c2, rfl, _⟩ := hn.shape
 obtain ⟨a3, c3, rfl, _⟩ := hk.shape
 have hb0 := bothE_ok.2 ⟨hf, ht⟩
 have hbw := fun r hr => (ht.writes r hr).small
 have S := St.start hs
 go_enter Tryz.func89, Tryz.ntmps89
 refine sk fun K1 hK1 => ?_
 refine stNew S (v := fun n => .pointer (aA n 0)) rfl (ex_box (v := (.agg #[(.int .i64 t.start), (.slice x0 t.reads.length y0), (.slice x1 t.writes.length y1)])) rfl) (fun n2 w3 S4 => ?_)
 refine sA S4 (zero_72 _) fun n5 w6 S7 => ?_
 iterate 2 refine dy ?_
 simp only [pq]
 refine wn hK1 ?_
 refine wp_seq_k (fun K8 hK8 => ?_)
 refine sk fun K9 hK9 => ?_
 refine dx ?_
 refine dR S7 1 Tryz.underlying141 (size_141) ?_
 refine stTells (v := (.int .i64 (bothE l t))) S7 rfl (fn2 (ent_103 _ _)) (both_spec _ _ _ _ l t (S7).sat hl ⟨_, _, _, _, rfl, h0, h1⟩ hbw) (fun w10 S11 => ?_)
 refine dy ?_
 simp only [pq]
 refine wn hK9 ?_
 refine sk fun K12 hK12 => ?_
 refine dx ?_
 refine dr bF (ex_neq (m := (bothE l t)) (n := (0 : Int)) (b := false) rfl rfl (bne_eq_false_iff_eq.2 (hb0))) ?_
 refine wn hK12 ?_
 refine wp_cond_false rfl ?_
 refine wp_skip ?_
 refine hK8 _ _ ?_
 refine sk fun K13 hK13 => ?_
 iterate 3 refine dx ?_
 simp only [pq]
 refine stGives S11 rfl (fn3 (ent_29 _ _)) (getF_spec _ _ _ _ _ l n k (S11).sat hl hn hk hf hnn hkk) ?_
 intro v19 w14 F16 S15 le17 R18
 obtain ⟨_, rfl, a20, c21, rfl, r22⟩ := R18
 have r22 : Bs _ (.slice a20 ((getF l n k).getD []).length c21) ((getF l n k).getD []) := r22
 refine dx ?_
 iterate 2 refine de ?_
 simp only [pq]
 refine sA S15 (zero_72 _) fun n23 w24 S25 => ?_
 refine sW 0 S25 (size_72) fun w26 S27 => ?_
 refine dy ?_
 simp only [pq]
 refine wn hK13 ?_
 refine wp_seq_k (fun K28 hK28 => ?_)
 refine sk fun K29 hK29 => ?_
 refine dx ?_
 refine dr bF (ex_neq (b := false) rfl rfl (by decide)) ?_
 refine wn hK29 ?_
 refine wp_cond_false rfl ?_
 refine wp_skip ?_
 refine hK28 _ _ ?_
 refine wp_seq_k (fun K30 hK30 => ?_)
 refine sk fun K31 hK31 => ?_
 refine df (fa_141_2 _ _) ?_
 refine dl (nagg_40 _) S27 2 ?_
 refine dn Tryz.underlying40 ?_
 simp only [pq]
 refine dx ?_
 refine wn hK31 ?_
 refine wp_block ?_
 refine wp_loop_g (fun mm aa w34 => ∃ (i : Nat) (F32 : Fz) (u33 : Nat → Value), mm = t.writes.length - i ∧ u33 = slots aa ∧ aa = ⟨#[(.slice a l.length c), (.agg #[(.int .i64 t.start), (.slice x0 t.reads.length y0), (.slice x1 t.writes.length y1)]), (.slice a2 n.length c2), (.slice a3 k.length c3), undef, (pP n2 0), undef, undef, (pP n5 0), (u33 9), (u33 10), (.int .i64 (bothE l t)), (pP n23 0), (iI 0), undef, (u33 15), (.slice a l.length c), (.agg #[(.int .i64 t.start), (.slice x0 t.reads.length y0), (.slice x1 t.writes.length y1)]), (.int .i64 (bothE l t)), (.int .i64 (bothE l t)), bF, undef, undef, (.tuple #[(.agg #[(.bool (getF l n k).isSome), (.slice a20 ((getF l n k).getD []).length c21)]), (iI 0)]), (.slice a l.length c), (.slice a2 n.length c2), (.slice a3 k.length c3), (.tuple #[(.agg #[(.bool (getF l n k).isSome), (.slice a20 ((getF l n k).getD []).length c21)]), (iI 0)]), (.agg #[(.bool (getF l n k).isSome), (.slice a20 ((getF l n k).getD []).length c21)]), (iI 0), (iI 0), bF, undef, undef, (pP n2 2), (.slice x1 t.writes.length y1), (nI t.writes.length), (nI i), (u33 38), (u33 39), (u33 40), (u33 41), (u33 42), (u33 43), (u33 44), (u33 45), (u33 46), (u33 47), (u33 48), (u33 49), (u33 50), (u33 51), (u33 52), (u33 53), undef], []⟩ ∧ St w F w34 F32 [⟨n23, [(.bool (getF l n k).isSome), (.slice a20 ((getF l n k).getD []).length c21)], 72⟩, ⟨n5, [bF, Zn], 72⟩, ⟨n2, [(.int .i64 t.start), (.slice x0 t.reads.length y0), (.slice x1 t.writes.length y1)], 141⟩] [] ∧ Le F16 F32 ∧ (i ≤ t.writes.length) ∧ ((t.writes.take i).any (fun w : Wr => samePl w (⟨n, k, false, ([] : By)⟩ : Wr)) = false)) _ ⟨0, F16, _, rfl, rfl, rfl, S27, Le.refl _, (by omega), rfl⟩ ?_
 rintro m35 a36 w37 ⟨i, F32, u33, rfl, -, rfl, S38, le39, hi, hno⟩ K40 hK40
 refine sk fun K41 hK41 => ?_
 by_cases hc38 : i < t.writes.length
 refine lssT ?_
 refine wn hK41 ?_
 refine wp_seq_k (fun K42 hK42 => ?_)
 refine wp_cond_true rfl ?_
 refine wp_skip ?_
 refine hK42 _ _ ?_
 refine wp_seq_k (fun K43 hK43 => ?_)
 refine wp_block ?_
 refine wp_seq_k (fun K44 hK44 => ?_)
 obtain ⟨p, hp⟩ : ∃ p, t.writes[i]? = some p := ⟨t.writes[i], List.getElem?_eq_getElem hc38⟩
 have hpo := ht.writes p (List.mem_of_getElem? hp)
 have hps := hpo.small
 obtain ⟨b45, o46, ha47, xa49, xc50, xa53, xc54, xa58, xc59, c48, c52, c56, c57, r51, r55, r60⟩ := Wrs.get (h1.mono (le17.trans le39)) hp
 refine region_wl ?_
 refine dr (pP b45 (o46 + i * 4)) (ex_at (i := i) (sz := 4) Tryz.underlying40 (sizeof_39 _) rfl ha47 rfl (by omega) rfl) ?_
 refine dr _ (ex_load rfl (loadM Tryz.underlying39 rfl (size_39) (range4 (St.fz S38 c48) (St.fz S38 c52) (St.fz S38 c56) (St.fz S38 c57)))) ?_
 simp only [pq]
 refine sA S38 (zero_39 _) fun n61 w62 S63 => ?_
 refine sW 0 S63 (size_39) fun w64 S65 => ?_
 refine wl_nil (hK44 _ _ ?_)
 refine sk fun K66 hK66 => ?_
 refine dR S65 0 Tryz.underlying39 (size_39) ?_
 iterate 2 refine dx ?_
 simp only [pq]
 refine dr (.agg #[(.slice a2 n.length c2), (.slice a3 k.length c3), bF, Zn]) (ex_build (bmap2 rfl rfl) (by kernel_rfl)) ?_
 refine stTells (v := (.bool (samePl p (⟨n, k, false, ([] : By)⟩ : Wr)))) S65 rfl (fn2 (ent_104 _ _)) (samePlace_spec _ _ _ _ p (⟨n, k, false, ([] : By)⟩ : Wr) (S65).sat ⟨_, _, _, _, _, _, rfl, r51, r55, r60⟩ ⟨_, _, _, _, _, _, rfl, (hn.mono (le17.trans le39)), (hk.mono (le17.trans le39)), (Bs.nil _)⟩) (fun w67 S68 => ?_)
 refine wn hK66 ?_
 refine wp_cond_split rfl (fun hc69 => ?_) (fun hc69 => ?_)
 refine wp_seq_k (fun K70 hK70 => ?_)
 refine region_gw F32 6 [(5, .made (fun F' u => Bs F' u p.value))] (by kernel_rfl) (by kernel_rfl) ?_
 simp only [List.take_succ_cons, List.take_zero]
 refine gf (fa_39_2 _ _) ?_
 refine gl nagg_4 S68 0 ?_
 simp only [pq]
 refine gv (.bool (!p.gone)) (fun _ _ => ex_not rfl rfl) ?_
 refine gf (fa_39_3 _ _) ?_
 refine gl nagg_25 S68 0 ?_
 simp only [pq]
 refine gw_rel rfl rfl (fun w71 C71 hF => does_call (ex_fn (vs := #[(.slice xa58 p.value.length xc59)]) (map1 rfl) rfl (ent_45 _ _)) (call_made S68.sat C71 (clone_spec _ _ _ p.value ((St.tells S68 C71)).sat r60 (by omega)))) (fun v72 => ?_)
 refine gw_nil ?_
 intro w73 hC75 hF76
 obtain ⟨F77, g78, R79⟩ := hF76.get 5 rfl rfl
 have S74 := St.gives S68 g78
 have le81 : Le _ _ := g78.le S68.sat
 have R82 := R79
 generalize F77 = F80 at *
 obtain ⟨xa83, xc84, rfl, _⟩ := R82.shape
 clear hF76
 simp only [List.drop_succ_cons, List.drop_zero]
 refine dr (.agg #[(.bool (!p.gone)), (.slice xa83 p.value.length xc84)]) (ex_build (bmap2 rfl rfl) (by kernel_rfl)) ?_
 simp only [pq]
 refine sW 2 S74 (size_72) fun w85 S86 => ?_
 iterate 2 refine dy ?_
 simp only [pq]
 refine wl_nil (hK70 _ _ ?_)
 refine wp_ret ?_
 (try simp only [Exit.then, Exit.inBlock, ↓reduceIte, Nat.reduceEqDiff])
 refine bR (res_ctt rfl ⟨_, rfl, lR S86 2 Tryz.underlying72 (size_72)⟩ (gD rfl) (gD rfl)) ?_
 have ho : ownW t.writes n k = some p := find_hit hp hno hc69
 have hx : lookX l t n k = (if p.gone then none else some p.value, true) := by unfold lookX; rw [ho]
 rw [hx]
 exact ⟨_, _, rfl, S86.gr, _, rfl, FdV.fnd ⟨_, _, rfl, R82⟩ hpo⟩
 refine wp_skip ?_
 refine hK43 _ _ ?_
 refine region_wl ?_
 refine dAdd (i + 1) ?_
 refine dx ?_
 refine wl_nil ?_
 have S68 := St.drop S68 (.cons _ (List.Sublist.refl _))
 exact hK40 _ _ _ (by omega) ⟨(i + 1), F32, _, rfl, rfl, rfl, S68, le39, (by omega), (any_next hp hno (by simpa using hc69))⟩
 refine lssF ?_
 simp only [pq]
 refine wn hK41 ?_
 refine wp_seq_k (fun K87 hK87 => ?_)
 refine wp_cond_false rfl ?_
 refine wp_exit ?_
 refine hK30 _ _ ?_
 refine sk fun K88 hK88 => ?_
 refine dR S38 0 Tryz.underlying72 (size_72) ?_
 refine sW 1 S38 (size_72) fun w89 S90 => ?_
 iterate 2 refine dy ?_
 simp only [pq]
 refine wn hK88 ?_
 refine wp_ret ?_
 (try simp only [Exit.then, Exit.inBlock, ↓reduceIte, Nat.reduceEqDiff])
 refine bR (res_ctt rfl ⟨_, rfl, lR S90 1 Tryz.underlying72 (size_72)⟩ (gD rfl) (gD rfl)) ?_
 have ho : ownW t.writes n k = none := find_no (any_all (by omega) hno)
 have hx : lookX l t n k = (getF l n k, false) := by unfold lookX; rw [ho]
 rw [hx]
 exact ⟨_, _, rfl, S90.gr, _, rfl, _, _, rfl, (r22.mono le39)⟩
theorem scan_at {ws : List Wr} {i : Nat} {p : Wr} (hp : ws[i]? = some p) (n a b : By) (m : List Pr) : scanFrom n a b m (ws.drop i) = match scanStep n a b m p with | some x => scanFrom n a b x (ws.drop (i + 1)) | none => none := by
 obtain ⟨hi, rfl⟩ := List.getElem?_eq_some_iff.1 hp
 rw [List.drop_eq_getElem_cons hi]
 rfl
theorem scan_skip {ws : List Wr} {i : Nat} {p : Wr} {n a b : By} {m : List Pr} {o : Option (List Pr)} (hp : ws[i]? = some p) (hr : inR n a b p = false) (h : scanFrom n a b m (ws.drop i) = o) : scanFrom n a b m (ws.drop (i + 1)) = o := by
 rw [scan_at hp] at h
 unfold scanStep at h
 rw [if_neg (by simp [hr])] at h
 exact h
theorem scan_del {ws : List Wr} {i : Nat} {p : Wr} {n a b : By} {m : List Pr} {o : Option (List Pr)} (hp : ws[i]? = some p) (hr : inR n a b p = true) (hg : p.gone = true) (h : scanFrom n a b m (ws.drop i) = o) : scanFrom n a b (delT m p.key) (ws.drop (i + 1)) = o := by
 rw [scan_at hp] at h
 unfold scanStep at h
 rw [if_pos hr, if_neg (by simp [hg]), next_gone hg] at h
 exact h
theorem scan_put {ws : List Wr} {i : Nat} {p : Wr} {n a b : By} {m : List Pr} {o : Option (List Pr)} (hp : ws[i]? = some p) (hr : inR n a b p = true) (hg : p.gone = false) (hl : ¬ 60 < (putT m p.key p.value).length) (h : scanFrom n a b m (ws.drop i) = o) : scanFrom n a b (putT m p.key p.value) (ws.drop (i + 1)) = o := by
 rw [scan_at hp] at h
 unfold scanStep at h
 rw [if_pos hr, next_put hg, if_neg (fun k => hl k.2)] at h
 exact h
theorem scan_full {ws : List Wr} {i : Nat} {p : Wr} {n a b : By} {m : List Pr} {o : Option (List Pr)} (hp : ws[i]? = some p) (hr : inR n a b p = true) (hg : p.gone = false) (hl : 60 < (putT m p.key p.value).length) (h : scanFrom n a b m (ws.drop i) = o) : none = o := by
 rw [scan_at hp] at h
 unfold scanStep at h
 rw [if_pos hr, next_put hg, if_pos ⟨hg, hl⟩] at h
 exact h
def ScanR (o : Option (List Pr)) (F : Fz) (u : Value) : Prop := match o with
  | some R => PrsE R 0 F u
  | none => PrsE [] 11 F u
theorem scanA_spec (F : Fz) (w : World) (u v y z x : Value) (l : Forest) (t : Tx) (n k j : By) (hs : Sat w F) (hl : Tns F u l) (hv : TxV F v t) (hn : Bs F y n) (hk : Bs F z k) (hj : Bs F x j) (hf : ForestOk 60 l) (ht : TxOk t) (hnn : 1 ≤ n.length ∧ n.length ≤ 8) (hkk : 1 ≤ k.length ∧ k.length ≤ 16) (hjj : 1 ≤ j.length ∧ j.length ≤ 16) :
    Calls Tryz.prog 91 #[u, v, y, z, x] w (Gives w F (ScanR (scanX l t n k j))) := by
 obtain ⟨a, c, rfl, hc1, hc2⟩ := Sl.shape hl
 unfold maxLen at hc2
 obtain ⟨x0, y0, x1, y1, rfl, h0, h1⟩ := hv
 obtain ⟨_, _, e0, q0, q1⟩ := Sl.shape h0
 obtain ⟨_, _, e1, q2, q3⟩ := Sl.shape h1
 injection e0 with _ _ e0
 injection e1 with _ _ e1
 subst e0 e1
 unfold maxLen at q1 q3
 obtain ⟨a2, c2, rfl, _⟩ := hn.shape
 obtain ⟨a3, c3, rfl, _⟩ := hk.shape
 obtain ⟨a4, c4, rfl, _⟩ := hj.shape
 have hb0 := bothE_ok.2 ⟨hf, ht⟩
 have hbw := fun r hr => (ht.writes r hr).small
 have hnw := ht.nw
 obtain ⟨o, ho⟩ : ∃ o, scanX l t n k j = o := ⟨_, rfl⟩
 rw [ho]
 have hsc : scanFrom n k j (rangeT (treeF l n) k j) (t.writes.drop 0) = o := ho
 have S := St.start hs
 go_enter Tryz.func91, Tryz.ntmps91
 refine sk fun K1 hK1 => ?_
 refine stNew S (v := fun n => .pointer (aA n 0)) rfl (ex_box (v := (.agg #[(.int .i64 t.start), (.slice x0 t.reads.length y0), (.slice x1 t.writes.length y1)])) rfl) (fun n2 w3 S4 => ?_)
 iterate 2 refine dy ?_
 refine wn hK1 ?_
 refine wp_seq_k (fun K5 hK5 => ?_)
 refine sk fun K6 hK6 => ?_
 refine dx ?_
 refine dR S4 0 Tryz.underlying141 (size_141) ?_
 simp only [pq]
 refine stTells (v := (.int .i64 (bothE l t))) S4 rfl (fn2 (ent_103 _ _)) (both_spec _ _ _ _ l t (S4).sat hl ⟨_, _, _, _, rfl, h0, h1⟩ hbw) (fun w7 S8 => ?_)
 refine dy ?_
 refine wn hK6 ?_
 refine sk fun K9 hK9 => ?_
 refine dx ?_
 refine dr bF (ex_neq (m := (bothE l t)) (n := (0 : Int)) (b := false) rfl rfl (bne_eq_false_iff_eq.2 (hb0))) ?_
 simp only [pq]
 refine wn hK9 ?_
 refine wp_cond_false rfl ?_
 refine wp_skip ?_
 refine hK5 _ _ ?_
 refine sk fun K10 hK10 => ?_
 iterate 3 refine dx ?_
 simp only [pq]
 refine dx ?_
 refine stGives S8 rfl (fn4 (ent_107 _ _)) (rangeF_spec _ _ _ _ _ _ l n k j (S8).sat hl hn hk hj hf hnn hkk hjj) ?_
 intro v16 w11 F13 S12 le14 R15
 obtain ⟨_, rfl, r19⟩ := R15
 obtain ⟨a17, c18, rfl, h20, h21⟩ := Sl.shape r19
 unfold maxLen at h21
 have h20 : (rangeT (treeF l n) k j).length ≤ c18 := h20
 have r19 : Prs _ (.slice a17 (rangeT (treeF l n) k j).length c18) (rangeT (treeF l n) k j) := r19
 refine dx ?_
 iterate 2 refine de ?_
 simp only [pq]
 iterate 2 refine dy ?_
 refine wn hK10 ?_
 refine wp_seq_k (fun K22 hK22 => ?_)
 refine sk fun K23 hK23 => ?_
 refine dx ?_
 refine dr bF (ex_neq (b := false) rfl rfl (by decide)) ?_
 simp only [pq]
 refine wn hK23 ?_
 refine wp_cond_false rfl ?_
 refine wp_skip ?_
 refine hK22 _ _ ?_
 refine wp_seq_k (fun K24 hK24 => ?_)
 refine sk fun K25 hK25 => ?_
 refine df (fa_141_2 _ _) ?_
 refine dl (nagg_40 _) S12 0 ?_
 refine dn Tryz.underlying40 ?_
 simp only [pq]
 refine dx ?_
 refine wn hK25 ?_
 refine wp_block ?_
 refine wp_loop_g (fun mm aa w28 => ∃ (i : Nat) (m : List Pr) (v : Value) (F26 : Fz) (u27 : Nat → Value), mm = t.writes.length - i ∧ u27 = slots aa ∧ aa = ⟨#[(.slice a l.length c), (.agg #[(.int .i64 t.start), (.slice x0 t.reads.length y0), (.slice x1 t.writes.length y1)]), (.slice a2 n.length c2), (.slice a3 k.length c3), (.slice a4 j.length c4), undef, (pP n2 0), undef, undef, undef, (u27 10), (u27 11), (.int .i64 (bothE l t)), v, (u27 14), undef, (u27 16), (u27 17), (.slice a l.length c), (.agg #[(.int .i64 t.start), (.slice x0 t.reads.length y0), (.slice x1 t.writes.length y1)]), (.int .i64 (bothE l t)), (.int .i64 (bothE l t)), bF, undef, (.tuple #[(.slice a17 (rangeT (treeF l n) k j).length c18), (iI 0)]), (.slice a l.length c), (.slice a2 n.length c2), (.slice a3 k.length c3), (.slice a4 j.length c4), (.tuple #[(.slice a17 (rangeT (treeF l n) k j).length c18), (iI 0)]), (.slice a17 (rangeT (treeF l n) k j).length c18), (iI 0), (iI 0), bF, undef, (pP n2 2), (.slice x1 t.writes.length y1), (nI t.writes.length), (nI i), (u27 39), (u27 40), (u27 41), (u27 42), (u27 43), (u27 44), (u27 45), (u27 46), (u27 47), (u27 48), (u27 49), (u27 50), (u27 51), (u27 52), (u27 53), (u27 54), (u27 55), (u27 56), (u27 57), (u27 58), (u27 59), (u27 60), (u27 61), (u27 62), (u27 63), (u27 64), (u27 65), (u27 66), (u27 67), (u27 68), (u27 69), (u27 70), (u27 71), (u27 72), (u27 73), (u27 74), (u27 75), (u27 76), (u27 77), (u27 78), (u27 79), (u27 80), (u27 81), (u27 82), (u27 83), (u27 84), undef], []⟩ ∧ St w F w28 F26 [⟨n2, [(.int .i64 t.start), (.slice x0 t.reads.length y0), (.slice x1 t.writes.length y1)], 141⟩] [] ∧ Le F13 F26 ∧ (i ≤ t.writes.length) ∧ (Prs F26 v m) ∧ (TreeOk 60 m) ∧ (scanFrom n k j m (t.writes.drop i) = o)) _ ⟨0, (rangeT (treeF l n) k j), (.slice a17 (rangeT (treeF l n) k j).length c18), F13, _, rfl, rfl, rfl, S12, Le.refl _, (by omega), r19, ((treeF_ok hf n).range k j), hsc⟩ ?_
 rintro m29 a30 w31 ⟨i, m, v, F26, u27, rfl, -, rfl, S32, le33, hi, hvm, okm, hsm⟩ K34 hK34
 refine sk fun K35 hK35 => ?_
 by_cases hc39 : i < t.writes.length
 refine lssT ?_
 refine wn hK35 ?_
 refine wp_seq_k (fun K36 hK36 => ?_)
 refine wp_cond_true rfl ?_
 refine wp_skip ?_
 refine hK36 _ _ ?_
 refine wp_seq_k (fun K37 hK37 => ?_)
 refine wp_block ?_
 refine wp_seq_k (fun K38 hK38 => ?_)
 obtain ⟨p, hp⟩ : ∃ p, t.writes[i]? = some p := ⟨t.writes[i], List.getElem?_eq_getElem hc39⟩
 have hpo := ht.writes p (List.mem_of_getElem? hp)
 have hps := hpo.small
 obtain ⟨b39, o40, ha41, xa43, xc44, xa47, xc48, xa52, xc53, c42, c46, c50, c51, r45, r49, r54⟩ := Wrs.get (h1.mono (le14.trans le33)) hp
 refine region_wl ?_
 refine dr (pP b39 (o40 + i * 4)) (ex_at (i := i) (sz := 4) Tryz.underlying40 (sizeof_39 _) rfl ha41 rfl (by omega) rfl) ?_
 refine dr _ (ex_load rfl (loadM Tryz.underlying39 rfl (size_39) (range4 (St.fz S32 c42) (St.fz S32 c46) (St.fz S32 c50) (St.fz S32 c51)))) ?_
 simp only [pq]
 refine sA S32 (zero_39 _) fun n55 w56 S57 => ?_
 refine sW 0 S57 (size_39) fun w58 S59 => ?_
 refine wl_nil (hK38 _ _ ?_)
 refine wp_seq_k (fun K60 hK60 => ?_)
 refine wp_seq_k (fun K61 hK61 => ?_)
 by_cases e1 : p.name = n
 refine region_wl ?_
 refine df (fa_39_0 _ _) ?_
 refine dl (nagg_25 _) S59 0 ?_
 refine dx ?_
 simp only [pq]
 refine stTells (v := bT) S59 rfl (fn2 (ent_108 _ _)) (tells_bool (bytesEqual_spec _ _ _ _ p.name n (S59).sat r45 (hn.mono (le14.trans le33))) (beq_iff_eq.2 (e1))) (fun w62 S63 => ?_)
 refine dt ?_
 refine dx ?_
 refine df (fa_39_1 _ _) ?_
 simp only [pq]
 refine dl (nagg_25 _) S63 0 ?_
 refine dx ?_
 refine stTells (v := (.int .i64 (cmpL p.key k))) S63 rfl (fn2 (ent_44 _ _)) (bytesCompare_spec _ _ _ _ p.key k (S63).sat r49 (hk.mono (le14.trans le33))) (fun w64 S65 => ?_)
 simp only [pq]
 by_cases hc52 : (cmpL p.key k) < (0 : Int)
 refine lssT ?_
 refine dp ?_
 refine dx ?_
 simp only [pq]
 iterate 3 refine nO ?_
 simp only [pq]
 iterate 2 refine nO ?_
 refine dp ?_
 simp only [pq]
 refine wl_nil (hK61 _ _ ?_)
 refine wp_cond_true rfl ?_
 refine wp_exit ?_
 refine hK37 _ _ ?_
 refine region_wl ?_
 refine dAdd (i + 1) ?_
 refine dx ?_
 refine wl_nil ?_
 have S65 := St.drop S65 (.cons _ (List.Sublist.refl _))
 exact hK34 _ _ _ (by omega) ⟨(i + 1), m, v, F26, _, rfl, rfl, rfl, S65, le33, (by omega), hvm, okm, (scan_skip hp (by unfold inR; rw [beq_iff_eq.2 e1, geq_cmp, leq_cmp]; first | rw [decide_eq_false (by omega)]; rfl | rw [decide_eq_true (by omega), decide_eq_false (by omega)]; rfl) hsm)⟩
 refine lssF ?_
 refine dp ?_
 refine dx ?_
 simp only [pq]
 refine df (fa_39_1 _ _) ?_
 refine dl (nagg_25 _) S65 0 ?_
 refine dx ?_
 simp only [pq]
 refine stTells (v := (.int .i64 (cmpL p.key j))) S65 rfl (fn2 (ent_44 _ _)) (bytesCompare_spec _ _ _ _ p.key j (S65).sat r49 (hj.mono (le14.trans le33))) (fun w66 S67 => ?_)
 simp only [pq]
 by_cases hc59 : (0 : Int) < (cmpL p.key j)
 refine gtrT ?_
 refine dp ?_
 refine wl_nil (hK61 _ _ ?_)
 refine wp_cond_true rfl ?_
 refine wp_exit ?_
 refine hK37 _ _ ?_
 refine region_wl ?_
 refine dAdd (i + 1) ?_
 refine dx ?_
 simp only [pq]
 refine wl_nil ?_
 have S67 := St.drop S67 (.cons _ (List.Sublist.refl _))
 exact hK34 _ _ _ (by omega) ⟨(i + 1), m, v, F26, _, rfl, rfl, rfl, S67, le33, (by omega), hvm, okm, (scan_skip hp (by unfold inR; rw [beq_iff_eq.2 e1, geq_cmp, leq_cmp]; first | rw [decide_eq_false (by omega)]; rfl | rw [decide_eq_true (by omega), decide_eq_false (by omega)]; rfl) hsm)⟩
 refine gtrF ?_
 refine dp ?_
 refine wl_nil (hK61 _ _ ?_)
 refine wp_cond_false rfl ?_
 refine wp_skip ?_
 refine hK60 _ _ ?_
 refine sk fun K68 hK68 => ?_
 refine dy ?_
 simp only [pq]
 refine wn hK68 ?_
 refine wp_seq_k (fun K69 hK69 => ?_)
 refine wp_seq_k (fun K70 hK70 => ?_)
 have hin : inR n k j p = true := by unfold inR; rw [beq_iff_eq.2 e1, geq_cmp, leq_cmp, decide_eq_true (by omega), decide_eq_true (by omega)]; rfl
 cases hg : p.gone with
 | true =>
  rw [hg] at S67
  refine region_wl ?_
  refine df (fa_39_2 _ _) ?_
  refine dl (nagg_4 _) S67 0 ?_
  refine wl_nil (hK70 _ _ ?_)
  refine wp_cond_true rfl ?_
  refine region_wl ?_
  refine dx ?_
  refine df (fa_39_1 _ _) ?_
  refine dl (nagg_25 _) S67 0 ?_
  simp only [pq]
  refine stGives S67 rfl (fn2 (ent_47 _ _)) (delOk_spec _ _ _ _ m p.key (S67).sat hvm r49 okm ⟨hpo.key1, hpo.key2⟩) ?_
  intro v76 w71 F73 S72 le74 R75
  obtain ⟨_, rfl, r79⟩ := R75
  obtain ⟨a77, c78, rfl, h80, h81⟩ := Sl.shape r79
  unfold maxLen at h81
  have h80 : (delT m p.key).length ≤ c78 := h80
  have r79 : Prs _ (.slice a77 (delT m p.key).length c78) (delT m p.key) := r79
  refine dx ?_
  iterate 2 refine de ?_
  simp only [pq]
  iterate 2 refine dy ?_
  refine wl_nil (hK69 _ _ ?_)
  refine wp_seq_k (fun K82 hK82 => ?_)
  refine sk fun K83 hK83 => ?_
  refine dx ?_
  refine dr bF (ex_neq (b := false) rfl rfl (by decide)) ?_
  simp only [pq]
  refine wn hK83 ?_
  refine wp_cond_false rfl ?_
  refine wp_skip ?_
  refine hK82 _ _ ?_
  refine region_wl ?_
  refine dx ?_
  refine dy ?_
  refine wl_nil (hK37 _ _ ?_)
  refine region_wl ?_
  refine dAdd (i + 1) ?_
  refine dx ?_
  simp only [pq]
  refine wl_nil ?_
  have S72 := St.drop S72 (.cons _ (List.Sublist.refl _))
  exact hK34 _ _ _ (by omega) ⟨(i + 1), (delT m p.key), (.slice a77 (delT m p.key).length c78), F73, _, rfl, rfl, rfl, S72, (le33.trans le74), (by omega), r79, okm.del, (scan_del hp hin hg hsm)⟩
 | false =>
  rw [hg] at S67
  by_cases hfit : 60 < (putT m p.key p.value).length
  refine region_wl ?_
  refine df (fa_39_2 _ _) ?_
  refine dl (nagg_4 _) S67 0 ?_
  refine wl_nil (hK70 _ _ ?_)
  refine wp_cond_false rfl ?_
  refine region_wl ?_
  refine dx ?_
  refine df (fa_39_1 _ _) ?_
  refine dl (nagg_25 _) S67 0 ?_
  simp only [pq]
  refine df (fa_39_3 _ _) ?_
  refine dl (nagg_25 _) S67 0 ?_
  refine dr (.agg #[(.slice xa47 p.key.length xc48), (.slice xa52 p.value.length xc53)]) (ex_build (bmap2 rfl rfl) (by kernel_rfl)) ?_
  simp only [pq]
  refine stGives S67 rfl (fn2 (ent_48 _ _)) (putFull_spec _ _ _ _ m (p.key, p.value) (S67).sat hvm ⟨_, _, _, _, rfl, r49, r54⟩ okm hps.2.1 hps.2.2 (pairE_ok.2 ⟨hpo.key1, hpo.key2, hpo.value⟩) hfit) ?_
  intro v89 w84 F86 S85 le87 R88
  obtain ⟨_, rfl, r92⟩ := R88
  obtain ⟨a90, c91, rfl, h93, h94⟩ := Sl.shape r92
  unfold maxLen at h94
  refine dx ?_
  iterate 2 refine de ?_
  simp only [pq]
  iterate 2 refine dy ?_
  refine wl_nil (hK69 _ _ ?_)
  refine wp_seq_k (fun K95 hK95 => ?_)
  refine sk fun K96 hK96 => ?_
  refine dx ?_
  refine dr bT (ex_neq (b := true) rfl rfl (by decide)) ?_
  simp only [pq]
  refine wn hK96 ?_
  refine wp_cond_true rfl ?_
  refine sk fun K97 hK97 => ?_
  refine dx ?_
  iterate 2 refine dy ?_
  simp only [pq]
  refine wn hK97 ?_
  refine wp_ret ?_
  (try simp only [Exit.then, Exit.inBlock, ↓reduceIte, Nat.reduceEqDiff])
  refine bR (res_tt rfl (gD rfl) (gD rfl)) ?_
  rw [← scan_full hp hin hg hfit hsm]
  exact ⟨_, _, rfl, S85.gr, _, rfl, Sl.nil _ _ _⟩
  refine region_wl ?_
  refine df (fa_39_2 _ _) ?_
  refine dl (nagg_4 _) S67 0 ?_
  refine wl_nil (hK70 _ _ ?_)
  refine wp_cond_false rfl ?_
  refine region_wl ?_
  refine dx ?_
  refine df (fa_39_1 _ _) ?_
  refine dl (nagg_25 _) S67 0 ?_
  simp only [pq]
  refine df (fa_39_3 _ _) ?_
  refine dl (nagg_25 _) S67 0 ?_
  refine dr (.agg #[(.slice xa47 p.key.length xc48), (.slice xa52 p.value.length xc53)]) (ex_build (bmap2 rfl rfl) (by kernel_rfl)) ?_
  simp only [pq]
  refine stGives S67 rfl (fn2 (ent_48 _ _)) (putFit_spec _ _ _ _ m (p.key, p.value) (S67).sat hvm ⟨_, _, _, _, rfl, r49, r54⟩ okm hps.2.1 hps.2.2 (pairE_ok.2 ⟨hpo.key1, hpo.key2, hpo.value⟩) hfit) ?_
  intro v103 w98 F100 S99 le101 R102
  obtain ⟨_, rfl, r106⟩ := R102
  obtain ⟨a104, c105, rfl, h107, h108⟩ := Sl.shape r106
  unfold maxLen at h108
  have h107 : (putT m p.key p.value).length ≤ c105 := h107
  have r106 : Prs _ (.slice a104 (putT m p.key p.value).length c105) (putT m p.key p.value) := r106
  refine dx ?_
  iterate 2 refine de ?_
  simp only [pq]
  iterate 2 refine dy ?_
  refine wl_nil (hK69 _ _ ?_)
  refine wp_seq_k (fun K109 hK109 => ?_)
  refine sk fun K110 hK110 => ?_
  refine dx ?_
  refine dr bF (ex_neq (b := false) rfl rfl (by decide)) ?_
  simp only [pq]
  refine wn hK110 ?_
  refine wp_cond_false rfl ?_
  refine wp_skip ?_
  refine hK109 _ _ ?_
  refine region_wl ?_
  refine dx ?_
  refine dy ?_
  refine wl_nil (hK37 _ _ ?_)
  refine region_wl ?_
  refine dAdd (i + 1) ?_
  refine dx ?_
  simp only [pq]
  refine wl_nil ?_
  have S99 := St.drop S99 (.cons _ (List.Sublist.refl _))
  exact hK34 _ _ _ (by omega) ⟨(i + 1), (putT m p.key p.value), (.slice a104 (putT m p.key p.value).length c105), F100, _, rfl, rfl, rfl, S99, (le33.trans le101), (by omega), r106, (okm.put ⟨hpo.key1, hpo.key2, hpo.value⟩ (by omega)), (scan_put hp hin hg hfit hsm)⟩
 refine region_wl ?_
 refine df (fa_39_0 _ _) ?_
 refine dl (nagg_25 _) S59 0 ?_
 refine dx ?_
 simp only [pq]
 refine stTells (v := bF) S59 rfl (fn2 (ent_108 _ _)) (tells_bool (bytesEqual_spec _ _ _ _ p.name n (S59).sat r45 (hn.mono (le14.trans le33))) (beq_eq_false_iff_ne.2 (e1))) (fun w111 S112 => ?_)
 refine dt ?_
 refine dx ?_
 refine nO ?_
 simp only [pq]
 iterate 3 refine nO ?_
 simp only [pq]
 refine nO ?_
 refine dp ?_
 refine dx ?_
 simp only [pq]
 iterate 3 refine nO ?_
 simp only [pq]
 iterate 2 refine nO ?_
 refine dp ?_
 simp only [pq]
 refine wl_nil (hK61 _ _ ?_)
 refine wp_cond_true rfl ?_
 refine wp_exit ?_
 refine hK37 _ _ ?_
 refine region_wl ?_
 refine dAdd (i + 1) ?_
 refine dx ?_
 refine wl_nil ?_
 have S112 := St.drop S112 (.cons _ (List.Sublist.refl _))
 exact hK34 _ _ _ (by omega) ⟨(i + 1), m, v, F26, _, rfl, rfl, rfl, S112, le33, (by omega), hvm, okm, (scan_skip hp (by unfold inR; rw [beq_eq_false_iff_ne.2 e1]; rfl) hsm)⟩
 refine lssF ?_
 simp only [pq]
 refine wn hK35 ?_
 refine wp_seq_k (fun K113 hK113 => ?_)
 refine wp_cond_false rfl ?_
 refine wp_exit ?_
 refine hK24 _ _ ?_
 refine sk fun K114 hK114 => ?_
 refine dx ?_
 iterate 2 refine dy ?_
 simp only [pq]
 refine wn hK114 ?_
 refine wp_ret ?_
 (try simp only [Exit.then, Exit.inBlock, ↓reduceIte, Nat.reduceEqDiff])
 refine bR (res_tt rfl (gD rfl) (gD rfl)) ?_
 rw [← show some m = o from by rw [List.drop_of_length_le (by omega)] at hsm; exact hsm]
 exact ⟨_, _, rfl, S32.gr, _, rfl, hvm⟩
theorem applyNil {r : Wr} (h : WrOk r) : ∃ g, applyE [] [r] = (0, g) := by
 rw [applyE_one h]
 cases hw : writeF [] r with
 | some g => exact ⟨g, rfl⟩
 | none =>
  have := (writeF_none (m := 0) (ForestOk.nil 0) h (by omega) hw).1
  simp at this
theorem Sl.cap {α : Type} {k : Nat} {R : Fz → List Value → α → Prop} {F : Fz} {a : Option Addr} {n c c' : Nat} {l : List α} (h : Sl k R F (.slice a n c) l) (h1 : n ≤ c') (h2 : c' ≤ c) : Sl k R F (.slice a n c') l := by
 have hn := Sl.len h
 obtain ⟨xs, ⟨a', c0, e1, q1, q2, q3, q4⟩, hr, hk⟩ := h
 injection e1 with e1 e2 e3
 subst e1 e3
 exact ⟨xs, ⟨a, c', by rw [hn], by omega, by omega, fun h => by have := q3 h; omega, q4⟩, hr, hk⟩
theorem tapeCheckOk_spec (F : Fz) (w : World) (v : Value) (m : Cm) (hs : Sat w F) (hv : CmV F v m) (hm : CmOk m) :
    Calls Tryz.prog 120 #[v] w (Tells w (.int .i64 0)) := by
 obtain ⟨x1, y1, rfl, h1⟩ := hv
 obtain ⟨_, _, e1, q2, q3⟩ := Sl.shape h1
 injection e1 with _ _ e1
 subst e1
 unfold maxLen at q3
 have hmt := hm.turn
 have hms := hm.some
 have S := St.start hs
 go_enter Tryz.func120, Tryz.ntmps120
 refine sk fun K1 hK1 => ?_
 refine stNew S (v := fun n => .pointer (aA n 0)) rfl (ex_box (v := (.agg #[(nI m.turn), (.slice x1 m.writes.length y1)])) rfl) (fun n2 w3 S4 => ?_)
 refine dy ?_
 refine wn hK1 ?_
 refine wp_seq_k (fun K5 hK5 => ?_)
 refine sk fun K6 hK6 => ?_
 refine df (fa_168_0 _ _) ?_
 refine dl (nagg_3 _) S4 0 ?_
 refine lssF ?_
 simp only [pq]
 refine dx ?_
 refine df (fa_168_0 _ _) ?_
 refine dl (nagg_3 _) S4 0 ?_
 simp only [pq]
 refine gtrF ?_
 refine dp ?_
 refine wn hK6 ?_
 refine wp_cond_false rfl ?_
 refine wp_skip ?_
 refine hK5 _ _ ?_
 refine wp_seq_k (fun K7 hK7 => ?_)
 refine sk fun K8 hK8 => ?_
 refine df (fa_168_1 _ _) ?_
 refine dl (nagg_40 _) S4 0 ?_
 refine dn Tryz.underlying40 ?_
 simp only [pq]
 refine lssF ?_
 refine wn hK8 ?_
 refine wp_cond_false rfl ?_
 refine wp_skip ?_
 refine hK7 _ _ ?_
 refine wp_seq_k (fun K9 hK9 => ?_)
 refine sk fun K10 hK10 => ?_
 refine df (fa_168_1 _ _) ?_
 refine dl (nagg_40 _) S4 0 ?_
 refine dn Tryz.underlying40 ?_
 simp only [pq]
 refine dx ?_
 refine wn hK10 ?_
 refine wp_block ?_
 refine wp_loop_g (fun mm aa w13 => ∃ (k : Nat) (F11 : Fz) (u12 : Nat → Value), mm = m.writes.length - k ∧ u12 = slots aa ∧ aa = ⟨#[(.agg #[(nI m.turn), (.slice x1 m.writes.length y1)]), (pP n2 0), (u12 2), (u12 3), (u12 4), (u12 5), (u12 6), (pP n2 0), (nI m.turn), bF, bF, (pP n2 0), (nI m.turn), bF, bF, (pP n2 1), (.slice x1 m.writes.length y1), (nI m.writes.length), bF, (pP n2 1), (.slice x1 m.writes.length y1), (nI m.writes.length), (nI k), (u12 23), (u12 24), (u12 25), (u12 26), (u12 27), (u12 28), (u12 29), (u12 30), (u12 31), (u12 32), (u12 33), (u12 34), (u12 35), (u12 36), (u12 37), (u12 38)], []⟩ ∧ St w F w13 F11 [⟨n2, [(nI m.turn), (.slice x1 m.writes.length y1)], 168⟩] [] ∧ Le F F11 ∧ (k ≤ m.writes.length)) _ ⟨0, F, _, rfl, rfl, rfl, S4, Le.refl _, (by omega)⟩ ?_
 rintro m14 a15 w16 ⟨k, F11, u12, rfl, -, rfl, S17, le18, hk⟩ K19 hK19
 refine sk fun K20 hK20 => ?_
 by_cases hc23 : k < m.writes.length
 refine lssT ?_
 refine wn hK20 ?_
 refine wp_seq_k (fun K21 hK21 => ?_)
 refine wp_cond_true rfl ?_
 refine wp_skip ?_
 refine hK21 _ _ ?_
 refine wp_seq_k (fun K22 hK22 => ?_)
 refine wp_block ?_
 refine wp_seq_k (fun K23 hK23 => ?_)
 obtain ⟨p, hp⟩ : ∃ p, m.writes[k]? = some p := ⟨m.writes[k], List.getElem?_eq_getElem hc23⟩
 have hpo := hm.ok p (List.mem_of_getElem? hp)
 obtain ⟨gx, hae⟩ := applyNil hpo
 obtain ⟨b24, o25, ha26, xa28, xc29, xa32, xc33, xa37, xc38, c27, c31, c35, c36, r30, r34, r39⟩ := Wrs.get (h1.mono le18) hp
 refine region_wl ?_
 refine dx ?_
 refine dr (pP b24 (o25 + k * 4)) (ex_at (i := k) (sz := 4) Tryz.underlying40 (sizeof_39 _) rfl ha26 rfl (by omega) rfl) ?_
 refine dr _ (ex_load rfl (loadM Tryz.underlying39 rfl (size_39) (range4 (St.fz S17 c27) (St.fz S17 c31) (St.fz S17 c35) (St.fz S17 c36)))) ?_
 simp only [pq]
 refine sA S17 (zero_39 _) fun n40 w41 S42 => ?_
 refine dy ?_
 refine sW 0 S42 (size_39) fun w43 S44 => ?_
 simp only [pq]
 refine wl_nil (hK23 _ _ ?_)
 refine wp_seq_k (fun K45 hK45 => ?_)
 refine sk fun K46 hK46 => ?_
 refine dx ?_
 refine eqlF ?_
 refine wn hK46 ?_
 refine wp_cond_false rfl ?_
 refine wp_skip ?_
 refine hK45 _ _ ?_
 refine sk fun K47 hK47 => ?_
 refine dR S44 0 Tryz.underlying39 (size_39) ?_
 simp only [pq]
 refine stNew S44 (v := fun n => .slice (aA n 0) 1 1) rfl (ex_lit (ps := #[(0, (.agg #[(.slice xa28 p.name.length xc29), (.slice xa32 p.key.length xc33), (.bool p.gone), (.slice xa37 p.value.length xc38)]))]) (cells := #[(.slice xa28 p.name.length xc29), (.slice xa32 p.key.length xc33), (.bool p.gone), (.slice xa37 p.value.length xc38)]) (E := 39) (bmap1 rfl) (fun w => by kernel_rfl)) (fun n48 w49 S50 => ?_)
 simp only [pq]
 obtain ⟨S51, le52, hc53⟩ := St.freezeBlk S50 (i := 0) rfl
 have r55 : Wrs _ (.slice (some ⟨n48, 0, none⟩) 1 1) [p] := sl_of_block (R := WrC) (l := [p]) (el := [[(.slice xa28 p.name.length xc29), (.slice xa32 p.key.length xc33), (.bool p.gone), (.slice xa37 p.value.length xc38)]]) hc53 rfl ⟨⟨_, _, _, _, rfl, (r30.mono le52), (r34.mono le52), rfl, (r39.mono le52)⟩, trivial⟩ (by simp) (by unfold maxLen; simp)
 generalize addF F11 w49 n48 = F54 at *
 refine stGives S51 rfl (fn2 (ent_22 _ _)) (apply_is (S51).sat (Sl.nil _ _ _) r55 (ForestOk.nil 60) (by simpa using hpo) hae) ?_
 intro v61 w56 F58 S57 le59 R60
 obtain ⟨_, rfl, r64⟩ := R60
 obtain ⟨a62, c63, rfl, h65, h66⟩ := Sl.shape r64
 unfold maxLen at h66
 have h65 : gx.length ≤ c63 := h65
 have r64 : Tns _ (.slice a62 gx.length c63) gx := r64
 refine dx ?_
 iterate 2 refine de ?_
 simp only [pq]
 iterate 2 refine dy ?_
 refine wn hK47 ?_
 refine sk fun K67 hK67 => ?_
 refine dx ?_
 refine dr bF (ex_neq (b := false) rfl rfl (by decide)) ?_
 simp only [pq]
 refine wn hK67 ?_
 refine wp_cond_false rfl ?_
 refine wp_skip ?_
 refine hK22 _ _ ?_
 refine region_wl ?_
 refine dAdd (k + 1) ?_
 refine dx ?_
 refine wl_nil ?_
 have S57 := St.drop S57 (.cons _ (List.Sublist.refl _))
 exact hK19 _ _ _ (by omega) ⟨(k + 1), F58, _, rfl, rfl, rfl, S57, ((le18.trans le52).trans le59), (by omega)⟩
 refine lssF ?_
 simp only [pq]
 refine wn hK20 ?_
 refine wp_seq_k (fun K68 hK68 => ?_)
 refine wp_cond_false rfl ?_
 refine wp_exit ?_
 refine hK9 _ _ ?_
 refine sk fun K69 hK69 => ?_
 refine dy ?_
 refine wn hK69 ?_
 refine wp_ret ?_
 (try simp only [Exit.then, Exit.inBlock, ↓reduceIte, Nat.reduceEqDiff])
 refine bR (res_t rfl (gD rfl)) ?_
 exact ⟨rfl, S17.gr.below⟩
theorem tpart_spec {w0 w : World} {F0 F : Fz} {L0 : List Blk} {M0 : List RowP} {v u : Value} {l p : By}
    (S : St w0 F0 w F L0 (ownP 1 ByC ByC.mono 5 w0.heap.size v l :: M0)) (hu : Bs F u p) (hl : l.length ≤ 100000) (hp : p.length ≤ 1000) :
    Calls Tryz.prog 147 #[v, u] w fun e w' => ∃ v', e = .returned v' ∧ St w0 F0 w' F L0 (ownP 1 ByC ByC.mono 5 w0.heap.size v' (l ++ encPart p) :: M0) := by
 obtain ⟨a, c, rfl, hc1, hc2⟩ := (S.own (i := 0) rfl).shape
 obtain ⟨x, y, rfl, _⟩ := hu.shape
 unfold maxLen at hc2
 obtain ⟨i5, hi5, hz5, hs5, hb5⟩ := info_parts infoU8
 go_enter Tryz.func147, Tryz.ntmps147
 refine sk fun K1 hK1 => ?_
 refine dy ?_
 refine wn hK1 ?_
 refine sk fun K2 hK2 => ?_
 iterate 2 refine dx ?_
 refine dn Tryz.underlying25 ?_
 simp only [pq]
 refine dr (bv (b8 p.length)) (ex_convert (v := (nI p.length)) rfl (conv_b8 p.length _)) ?_
 refine stNew S (v := fun n => .slice (aA n 0) 1 1) rfl (ex_lit (ps := #[(0, (bv (b8 p.length)))]) (cells := #[(bv (b8 p.length))]) (E := 5) (bmap1 rfl) (fun w => by kernel_rfl)) (fun n3 w4 S5 => ?_)
 refine stPush (i := 0) (r := 0) (p := (b8 p.length)) (cs := [(bv (b8 p.length))]) S5 rfl i5 (.int .u8 0) 1 Tryz.underlying25 hi5 hz5 hs5 hb5 rfl (by decide) rfl rfl rfl rfl rfl (bv_one (b8 p.length)) (rfl) (Nat.le_refl _) S5.gr.below.size (by unfold maxLen; omega) (by omega) ?_
 intro v6 w7 S8 hn9
 simp only [pq]
 have S8 := St.drop S8 (.cons _ (List.Sublist.refl _))
 refine dx ?_
 refine stAppendS (r := 0) (u := (.slice x p.length y)) S8 rfl i5 (.int .u8 0) 1 Tryz.underlying25 hi5 hz5 hs5 hb5 rfl (by decide) rfl rfl rfl (Sl.toW (Bs.sl hu) (S8).sat) ByC.one (Nat.le_refl _) S8.gr.below.size (by unfold maxLen; simp only [List.length_append, List.length_cons, List.length_nil]; omega) (by simp only [List.length_append, List.length_cons, List.length_nil]; omega) ?_
 intro v10 w11 S12 hn13
 simp only [pq]
 have S12 : St w0 F0 w11 F (L0) (ownP 1 ByC ByC.mono 5 w0.heap.size v10 ((l ++ [(b8 p.length)]) ++ p) :: M0) := S12
 refine dy ?_
 refine wn hK2 ?_
 refine wp_ret ?_
 try simp only [xt]
 refine bR (res_t rfl (gD rfl)) ?_
 ·have he : (l ++ [b8 p.length]) ++ p = l ++ encPart p := by unfold encPart; simp
  rw [he] at S12
  exact ⟨_, rfl, S12⟩
def encHead (t n : Nat) : By := [b8 (t / 65536), b8 (t / 256), b8 t, b8 n]
theorem encCm_head (t : Nat) (ws : List Wr) : encCm t ws = encHead t ws.length ++ ws.flatMap encWr := rfl
theorem encPart_len (p : By) : (encPart p).length = 1 + p.length := by simp [encPart]; omega
theorem enc_len {ws : List Wr} (h : ∀ w ∈ ws, WrOk w) : (ws.flatMap encWr).length ≤ 59 * ws.length := by
 induction ws with
 | nil => simp
 | cons w ws ih =>
  have hw := h w (by simp)
  have h1 := hw.name.2; have h2 := hw.key2; have h3 := hw.value
  have := encWr_len hw.gone
  have := ih (fun x hx => h x (by simp [hx]))
  rw [List.flatMap_cons, List.length_append, List.length_cons]
  omega
theorem enc_gone {H : By} {ws : List Wr} {k : Nat} {p : Wr} (hp : ws[k]? = some p) (hg : p.gone = true) : (((H ++ (ws.take k).flatMap encWr) ++ encPart p.name) ++ encPart p.key) ++ [(255 : UInt8)] = H ++ (ws.take (k + 1)).flatMap encWr := by
 rw [take_snoc hp, List.flatMap_append]
 simp [encWr, hg]
theorem enc_val {H : By} {ws : List Wr} {k : Nat} {p : Wr} (hp : ws[k]? = some p) (hg : p.gone = false) : (((H ++ (ws.take k).flatMap encWr) ++ encPart p.name) ++ encPart p.key) ++ encPart p.value = H ++ (ws.take (k + 1)).flatMap encWr := by
 rw [take_snoc hp, List.flatMap_append]
 simp [encWr, hg]
def EncR (b : By) (e : Int) (F : Fz) (u : Value) : Prop := ∃ x, u = .tuple #[x, .int .i64 e] ∧ Bs F x b
theorem encode_spec (F : Fz) (w : World) (v : Value) (m : Cm) (hs : Sat w F) (hv : CmV F v m) (hm : CmOk m) :
    Calls Tryz.prog 134 #[v] w (Gives w F (EncR (encCm m.turn m.writes) 0)) := by
 obtain ⟨x1, y1, rfl, h1⟩ := hv
 obtain ⟨_, _, e1, q2, q3⟩ := Sl.shape h1
 injection e1 with _ _ e1
 subst e1
 unfold maxLen at q3
 have hms := hm.some
 obtain ⟨i5, hi5, hz5, hs5, hb5⟩ := info_parts infoU8
 have S := St.start hs
 go_enter Tryz.func134, Tryz.ntmps134
 refine sk fun K1 hK1 => ?_
 refine stNew S (v := fun n => .pointer (aA n 0)) rfl (ex_box (v := (.agg #[(nI m.turn), (.slice x1 m.writes.length y1)])) rfl) (fun n2 w3 S4 => ?_)
 iterate 2 refine dy ?_
 refine wn hK1 ?_
 refine wp_seq_k (fun K5 hK5 => ?_)
 refine sk fun K6 hK6 => ?_
 refine dR S4 0 Tryz.underlying168 (size_168) ?_
 simp only [pq]
 refine stTells (v := (iI 0)) S4 rfl (fn1 (ent_120 _ _)) (tapeCheckOk_spec _ _ _ m (S4).sat ⟨_, _, rfl, h1⟩ hm) (fun w7 S8 => ?_)
 refine dy ?_
 refine wn hK6 ?_
 refine sk fun K9 hK9 => ?_
 refine dx ?_
 refine dr bF (ex_neq (b := false) rfl rfl (by decide)) ?_
 simp only [pq]
 refine wn hK9 ?_
 refine wp_cond_false rfl ?_
 refine wp_skip ?_
 refine hK5 _ _ ?_
 refine sk fun K10 hK10 => ?_
 refine df (fa_168_0 _ _) ?_
 refine dl (nagg_3 _) S8 0 ?_
 refine dr (nI (m.turn / 65536)) (ex_shrN (m := m.turn) (n := 16) rfl rfl (by decide)) ?_
 simp only [pq]
 refine dr (bv (b8 (m.turn / 65536))) (ex_convert (v := (nI (m.turn / 65536))) rfl (conv_b8 (m.turn / 65536) _)) ?_
 refine df (fa_168_0 _ _) ?_
 refine dl (nagg_3 _) S8 0 ?_
 simp only [pq]
 refine dr (nI (m.turn / 256)) (ex_shrN (m := m.turn) (n := 8) rfl rfl (by decide)) ?_
 refine dr (bv (b8 (m.turn / 256))) (ex_convert (v := (nI (m.turn / 256))) rfl (conv_b8 (m.turn / 256) _)) ?_
 refine df (fa_168_0 _ _) ?_
 simp only [pq]
 refine dl (nagg_3 _) S8 0 ?_
 refine dr (bv (b8 m.turn)) (ex_convert (v := (nI m.turn)) rfl (conv_b8 m.turn _)) ?_
 refine df (fa_168_1 _ _) ?_
 simp only [pq]
 refine dl (nagg_40 _) S8 0 ?_
 refine dn Tryz.underlying40 ?_
 refine dr (bv (b8 m.writes.length)) (ex_convert (v := (nI m.writes.length)) rfl (conv_b8 m.writes.length _)) ?_
 simp only [pq]
 refine stNew S8 (v := fun n => .slice (aA n 0) 4 4) rfl (ex_lit (ps := #[(0, (bv (b8 (m.turn / 65536)))), (1, (bv (b8 (m.turn / 256)))), (2, (bv (b8 m.turn))), (3, (bv (b8 m.writes.length)))]) (cells := #[(bv (b8 (m.turn / 65536))), (bv (b8 (m.turn / 256))), (bv (b8 m.turn)), (bv (b8 m.writes.length))]) (E := 5) (bmap4 rfl rfl rfl rfl) (fun w => by kernel_rfl)) (fun n11 w12 S13 => ?_)
 refine dy ?_
 refine wn hK10 ?_
 refine wp_seq_k (fun K14 hK14 => ?_)
 refine sk fun K15 hK15 => ?_
 refine df (fa_168_1 _ _) ?_
 refine dl (nagg_40 _) S13 1 ?_
 refine dn Tryz.underlying40 ?_
 simp only [pq]
 refine dx ?_
 refine wn hK15 ?_
 refine wp_block ?_
 have S16 : St w F w12 F [⟨n2, [(nI m.turn), (.slice x1 m.writes.length y1)], 168⟩] [ownP 1 ByC ByC.mono 5 w.heap.size (.slice (aA n11 0) 4 4) (encHead m.turn m.writes.length)] := St.blkRow (k := 1) (l := (encHead m.turn m.writes.length)) (el := [[(bv (b8 (m.turn / 65536)))], [(bv (b8 (m.turn / 256)))], [(bv (b8 m.turn))], [(bv (b8 m.writes.length))]]) (hR := ByC.mono) S13 rfl ⟨rfl, rfl, rfl, rfl, trivial⟩ (by simp) rfl (by simp [encHead]) (by unfold maxLen; decide) (S13.blk _ (List.mem_cons_self ..)).2.2
 refine wp_loop_g (fun mm aa w19 => ∃ (k : Nat) (v : Value) (F17 : Fz) (u18 : Nat → Value), mm = m.writes.length - k ∧ u18 = slots aa ∧ aa = ⟨#[(.agg #[(nI m.turn), (.slice x1 m.writes.length y1)]), (pP n2 0), Zn, (iI 0), (iI 0), v, undef, (u18 7), (.agg #[(nI m.turn), (.slice x1 m.writes.length y1)]), (iI 0), (iI 0), bF, undef, (pP n2 0), (nI m.turn), (nI (m.turn / 65536)), (bv (b8 (m.turn / 65536))), (pP n2 0), (nI m.turn), (nI (m.turn / 256)), (bv (b8 (m.turn / 256))), (pP n2 0), (nI m.turn), (bv (b8 m.turn)), (pP n2 1), (.slice x1 m.writes.length y1), (nI m.writes.length), (bv (b8 m.writes.length)), (.slice (aA n11 0) 4 4), (pP n2 1), (.slice x1 m.writes.length y1), (nI m.writes.length), (nI k), (u18 33), (u18 34), (u18 35), (u18 36), (u18 37), (u18 38), (u18 39), (u18 40), (u18 41), (u18 42), (u18 43), (u18 44), (u18 45), (u18 46), (u18 47), (u18 48), (u18 49), (u18 50), (u18 51), (u18 52), undef], []⟩ ∧ St w F w19 F17 [⟨n2, [(nI m.turn), (.slice x1 m.writes.length y1)], 168⟩] [ownP 1 ByC ByC.mono 5 w.heap.size v ((encHead m.turn m.writes.length) ++ (m.writes.take k).flatMap encWr)] ∧ Le F F17 ∧ (k ≤ m.writes.length)) _ ⟨0, (.slice (aA n11 0) 4 4), F, _, rfl, rfl, rfl, S16, Le.refl _, (by omega)⟩ ?_
 rintro m20 a21 w22 ⟨k, v, F17, u18, rfl, -, rfl, S23, le24, hk⟩ K25 hK25
 refine sk fun K26 hK26 => ?_
 by_cases hc33 : k < m.writes.length
 ·refine lssT ?_
  refine wn hK26 ?_
  refine wp_seq_k (fun K27 hK27 => ?_)
  refine wp_cond_true rfl ?_
  refine wp_skip ?_
  refine hK27 _ _ ?_
  refine wp_seq_k (fun K28 hK28 => ?_)
  refine wp_block ?_
  refine wp_seq_k (fun K29 hK29 => ?_)
  obtain ⟨p, hp⟩ : ∃ p, m.writes[k]? = some p := ⟨m.writes[k], List.getElem?_eq_getElem hc33⟩
  have hpo := hm.ok p (List.mem_of_getElem? hp)
  have hp1 := hpo.name.2
  have hp2 := hpo.key2
  have hp3 := hpo.value
  have hfl := enc_len (ws := m.writes.take k) (fun x hx => hm.ok x (List.mem_of_mem_take hx))
  rw [List.length_take] at hfl
  obtain ⟨b30, o31, ha32, xa34, xc35, xa38, xc39, xa43, xc44, c33, c37, c41, c42, r36, r40, r45⟩ := Wrs.get (h1.mono le24) hp
  refine region_wl ?_
  refine dr (pP b30 (o31 + k * 4)) (ex_at (i := k) (sz := 4) Tryz.underlying40 (sizeof_39 _) rfl ha32 rfl (by omega) rfl) ?_
  refine dr _ (ex_load rfl (loadM Tryz.underlying39 rfl (size_39) (range4 (St.fz S23 c33) (St.fz S23 c37) (St.fz S23 c41) (St.fz S23 c42)))) ?_
  simp only [pq]
  refine sA S23 (zero_39 _) fun n46 w47 S48 => ?_
  refine sW 0 S48 (size_39) fun w49 S50 => ?_
  refine wl_nil (hK29 _ _ ?_)
  refine wp_seq_k (fun K51 hK51 => ?_)
  obtain ⟨S52, le53, hc54⟩ := St.freezeBlk S50 (i := 0) rfl
  generalize addF F17 w49 n46 = F55 at *
  refine region_hl S52 (by kernel_rfl) (fun w57 S56 => ?_)
  refine hl_take 0 rfl (by kernel_rfl) (v := v) (fun _ _ _ h => h) S56.sat rfl (fun w58 hs59 => ex_move _) ?_
  simp only [pq]
  refine hl_take 1 rfl (by kernel_rfl) (v := (pP n46 0)) (fun _ _ _ h => h) S56.sat rfl (fun w60 hs61 => ef (fa_39_0 _ _)) ?_
  simp only [pq]
  refine hl_take 2 rfl (by kernel_rfl) (v := (.slice xa34 p.name.length xc35)) (fun _ _ _ h => h) S56.sat rfl (fun w62 hs63 => ex_load rfl (load1 (nagg_25 _) (St.fz (St.start hs63) (hc54 0 _ rfl)))) ?_
  simp only [pq]
  refine hl_take 4 rfl (by kernel_rfl) (v := (pP n46 1)) (fun _ _ _ h => h) S56.sat rfl (fun w64 hs65 => ef (fa_39_1 _ _)) ?_
  simp only [pq]
  refine hl_take 5 rfl (by kernel_rfl) (v := (.slice xa38 p.key.length xc39)) (fun _ _ _ h => h) S56.sat rfl (fun w66 hs67 => ex_load rfl (load1 (nagg_25 _) (St.fz (St.start hs67) (hc54 1 _ rfl)))) ?_
  simp only [pq]
  refine hl_next 3 (by kernel_rfl) rfl ?_
  refine stOwn (L := [⟨n2, [(nI m.turn), (.slice x1 m.writes.length y1)], 168⟩]) (M := fun v_ => [ownP 1 ByC ByC.mono 5 w.heap.size v_ (((encHead m.turn m.writes.length) ++ (m.writes.take k).flatMap encWr) ++ encPart p.name)]) rfl (ex_fn (vs := #[v, (.slice xa34 p.name.length xc35)]) (map2 rfl rfl) rfl (ent_147 _ _)) (tpart_spec S56 (r36.mono le53) (by simp only [List.length_append, encPart_len, encHead, List.length_cons, List.length_nil]; omega) (by omega)) ?_
  intro v68 w69 S70
  refine wl_nil (hl_back S70.sat ?_)
  refine hl_next 6 (by kernel_rfl) rfl ?_
  refine stOwn (L := [⟨n2, [(nI m.turn), (.slice x1 m.writes.length y1)], 168⟩]) (M := fun v_ => [ownP 1 ByC ByC.mono 5 w.heap.size v_ ((((encHead m.turn m.writes.length) ++ (m.writes.take k).flatMap encWr) ++ encPart p.name) ++ encPart p.key)]) rfl (ex_fn (vs := #[v68, (.slice xa38 p.key.length xc39)]) (map2 rfl rfl) rfl (ent_147 _ _)) (tpart_spec S70 (r40.mono le53) (by simp only [List.length_append, encPart_len, encHead, List.length_cons, List.length_nil]; omega) (by omega)) ?_
  intro v71 w72 S73
  simp only [pq]
  refine wl_nil (hl_back S73.sat ?_)
  refine hl_take 7 rfl (by kernel_rfl) (v := v71) (fun _ _ _ h => h) S73.sat rfl (fun w74 hs75 => ex_assign _) ?_
  simp only [pq]
  refine hl_done (by kernel_rfl) ?_
  refine hK51 _ _ ?_
  refine wp_seq_k (fun K76 hK76 => ?_)
  refine sk fun K77 hK77 => ?_
  refine df (fa_39_2 _ _) ?_
  refine dr _ (ex_load rfl (load1 (nagg_4 _) (St.fz S73 (hc54 2 _ rfl)))) ?_
  refine wn hK77 ?_
  refine wp_cond_split rfl (fun hc78 => ?_) (fun hc78 => ?_)
  ·refine sk fun K79 hK79 => ?_
   refine dx ?_
   simp only [pq]
   refine stNew S73 (v := fun n => .slice (aA n 0) 1 1) rfl (ex_lit (ps := #[(0, (.int .u8 255))]) (cells := #[(.int .u8 255)]) (E := 5) (bmap1 rfl) (fun w => by kernel_rfl)) (fun n80 w81 S82 => ?_)
   refine stPush (i := 0) (r := 0) (p := (255 : UInt8)) (cs := [(.int .u8 255)]) S82 rfl i5 (.int .u8 0) 1 Tryz.underlying25 hi5 hz5 hs5 hb5 rfl (by decide) rfl rfl rfl rfl rfl (bv_one 255) (rfl) (Nat.le_refl _) S82.gr.below.size (by unfold maxLen; simp only [List.length_append, encPart_len, encHead, List.length_cons, List.length_nil]; omega) (by simp only [List.length_append, encPart_len, encHead, List.length_cons, List.length_nil]; omega) ?_
   intro v83 w84 S85 hn86
   simp only [pq]
   have S85 := St.drop S85 (.cons _ (List.Sublist.refl _))
   have S85 : St w F w84 F55 [⟨n2, [(nI m.turn), (.slice x1 m.writes.length y1)], 168⟩] [ownP 1 ByC ByC.mono 5 w.heap.size v83 (((((encHead m.turn m.writes.length) ++ (m.writes.take k).flatMap encWr) ++ encPart p.name) ++ encPart p.key) ++ [(255 : UInt8)])] := S85
   refine dy ?_
   refine wn hK79 ?_
   refine wp_exit ?_
   refine hK28 _ _ ?_
   refine region_wl ?_
   refine dAdd (k + 1) ?_
   refine dx ?_
   simp only [pq]
   refine wl_nil ?_
   rw [enc_gone hp (by simpa using hc78)] at S85
   exact hK25 _ _ _ (by omega) ⟨(k + 1), v83, F55, _, rfl, rfl, rfl, S85, (le24.trans le53), (by omega)⟩
  ·refine wp_skip ?_
   refine hK76 _ _ ?_
   refine region_wl ?_
   refine dx ?_
   refine df (fa_39_3 _ _) ?_
   refine dr _ (ex_load rfl (load1 (nagg_25 _) (St.fz S73 (hc54 3 _ rfl)))) ?_
   simp only [pq]
   refine stOwn (L := [⟨n2, [(nI m.turn), (.slice x1 m.writes.length y1)], 168⟩]) (M := fun v_ => [ownP 1 ByC ByC.mono 5 w.heap.size v_ (((((encHead m.turn m.writes.length) ++ (m.writes.take k).flatMap encWr) ++ encPart p.name) ++ encPart p.key) ++ encPart p.value)]) rfl (ex_fn (vs := #[v71, (.slice xa43 p.value.length xc44)]) (map2 rfl rfl) rfl (ent_147 _ _)) (tpart_spec S73 (r45.mono le53) (by simp only [List.length_append, encPart_len, encHead, List.length_cons, List.length_nil]; omega) (by omega)) ?_
   intro v87 w88 S89
   refine dy ?_
   refine wl_nil (hK28 _ _ ?_)
   refine region_wl ?_
   refine dAdd (k + 1) ?_
   refine dx ?_
   simp only [pq]
   refine wl_nil ?_
   rw [enc_val hp (by simpa using hc78)] at S89
   exact hK25 _ _ _ (by omega) ⟨(k + 1), v87, F55, _, rfl, rfl, rfl, S89, (le24.trans le53), (by omega)⟩
 ·refine lssF ?_
  refine wn hK26 ?_
  refine wp_seq_k (fun K90 hK90 => ?_)
  refine wp_cond_false rfl ?_
  refine wp_exit ?_
  refine hK14 _ _ ?_
  refine sk fun K91 hK91 => ?_
  refine dx ?_
  iterate 2 refine dy ?_
  simp only [pq]
  refine wn hK91 ?_
  refine wp_ret ?_
  (try simp only [Exit.then, Exit.inBlock, ↓reduceIte, Nat.reduceEqDiff])
  refine bR (res_tt rfl (gD rfl) (gD rfl)) ?_
  ·have hend : m.writes.take k = m.writes := List.take_of_length_le (by omega)
   rw [hend] at S23
   obtain ⟨F92, S93, le94, hv95⟩ := St.freeze S23 (i := 0) rfl (Nat.le_refl _)
   have hv95 : Bys _ v ((encHead m.turn m.writes.length) ++ m.writes.flatMap encWr) := hv95
   exact ⟨_, _, rfl, S93.gr, _, rfl, bs_of_sl hv95⟩
theorem Bs.cut {F : Fz} {a : Option Addr} {m c n : Nat} {l : By} (h : Bs F (.slice a m c) l) (hn : n ≤ m) : Bs F (.slice a n n) (l.take n) := by
 have hm := h.len
 obtain ⟨a', c0, e, q1, _⟩ := h.shape
 injection e with _ _ e
 have := bs_of_sl (Sl.cap (c' := n) (Sl.takeN (m := n) h.sl hn) (Nat.le_refl _) (by omega))
 exact this
theorem Bs.rest {F : Fz} {a : Option Addr} {m c n : Nat} {l : By} (h : Bs F (.slice a m c) l) (hn : n ≤ m) : Bs F (.slice (if c = n then a else a.map (·.add (n * 1))) (m - n) (c - n)) (l.drop n) := bs_of_sl (Sl.dropAny (by decide) h.sl hn)
def chkAt (l : List Wr) : Nat → Nat → Int
  | 0, _ => 0
  | n + 1, k => match l[k]? with
    | none => 0
    | some r => if k = 10 then 1 else if wrE r ≠ 0 then wrE r else chkAt l n (k + 1)
theorem chkAt_ok {l : List Wr} : ∀ n k, n + k = l.length → (chkAt l n k = 0 ↔ ∀ (i : Nat) r, k ≤ i → l[i]? = some r → i ≠ 10 ∧ wrE r = 0)
  | 0, k, h => ⟨fun _ i r hi hr => by have := (List.getElem?_eq_some_iff.1 hr).1; omega, fun _ => rfl⟩
  | n + 1, k, h => by
    have hk : k < l.length := by omega
    obtain ⟨x, hp⟩ : ∃ x, l[k]? = some x := ⟨_, List.getElem?_eq_getElem hk⟩
    simp only [chkAt, hp]
    by_cases h1 : k = 10
    · rw [if_pos h1]
      exact ⟨fun h => by omega, fun h => absurd h1 (h k _ (Nat.le_refl _) hp).1⟩
    · rw [if_neg h1]
      by_cases h2 : wrE x = 0
      · rw [if_neg (by simpa using h2), chkAt_ok n (k + 1) (by omega)]
        refine ⟨fun h i r hi hr => ?_, fun h i r hi hr => h i r (by omega) hr⟩
        rcases Nat.lt_or_eq_of_le hi with hi | rfl
        · exact h i r hi hr
        · rw [hp] at hr; cases hr; exact ⟨h1, h2⟩
      · rw [if_pos h2]
        exact ⟨fun h => absurd h h2, fun h => absurd (h k _ (Nat.le_refl _) hp).2 h2⟩
def tapeE (m : Cm) : Int := if m.turn < 1 ∨ 1048576 < m.turn then 2 else if m.writes.length < 1 then 1 else chkAt m.writes m.writes.length 0
theorem tapeE_ok {m : Cm} : tapeE m = 0 ↔ CmOk m := by
 unfold tapeE
 by_cases h1 : m.turn < 1 ∨ 1048576 < m.turn
 rw [if_pos h1]; exact ⟨fun h => by omega, fun h => by have := h.turn; omega⟩
 rw [if_neg h1]
 by_cases h2 : m.writes.length < 1
 rw [if_pos h2]; exact ⟨fun h => by omega, fun h => by have := h.some; omega⟩
 rw [if_neg h2, chkAt_ok _ _ (by omega)]
 constructor
 intro h
 refine ⟨by omega, ⟨by omega, ?_⟩, fun w hw => ?_⟩
 rcases Nat.lt_or_ge 10 m.writes.length with h3 | h3
 exact absurd rfl (h 10 _ (Nat.zero_le _) (List.getElem?_eq_getElem h3)).1
 exact h3
 obtain ⟨i, hi, rfl⟩ := List.mem_iff_getElem.1 hw
 exact wrE_ok.1 (h i _ (Nat.zero_le _) (List.getElem?_eq_getElem hi)).2
 intro h i r _ hr
 have hi := (List.getElem?_eq_some_iff.1 hr).1
 have := h.some.2
 exact ⟨by omega, wrE_ok.2 (h.ok r (List.mem_of_getElem? hr))⟩
def decE (b : By) : Int := if (cmR ⟨b, false⟩).2.short = true then 14 else if 0 < (cmR ⟨b, false⟩).2.rest.length then 4 else tapeE ⟨(cmR ⟨b, false⟩).1.1, (cmR ⟨b, false⟩).1.2⟩
def decC (b : By) : Cm := if decE b = 0 then ⟨(cmR ⟨b, false⟩).1.1, (cmR ⟨b, false⟩).1.2⟩ else ⟨0, []⟩
theorem encCm_len {m : Cm} (hm : CmOk m) : (encCm m.turn m.writes).length ≤ 594 ∧ 4 ≤ (encCm m.turn m.writes).length := by
 have := enc_len hm.ok
 have := hm.some.2
 rw [encCm_head, List.length_append, show (encHead m.turn m.writes.length).length = 4 from rfl]
 omega
theorem dec_back {m : Cm} (hm : CmOk m) : decE (encCm m.turn m.writes) = 0 ∧ decC (encCm m.turn m.writes) = m := by
 have ht := hm.turn
 have hs := hm.some
 have h := cmR_enc m.turn m.writes [] hm.ok (by omega) (by omega)
 rw [List.append_nil] at h
 have he : decE (encCm m.turn m.writes) = 0 := by
  unfold decE
  rw [h, if_neg (by simp), if_neg (by simp)]
  exact tapeE_ok.2 hm
 exact ⟨he, by unfold decC; rw [if_pos he, h]⟩
open Go.ChangeShapes Go.WideShapes Go.ChangeAt Go.RowKit Go.Deep
theorem laidVars_at {P : Program} {W : World} : ∀ {l : List (String × DataW Unit)} {ps : List MemPlace}, DataW.LaidVars P W l ps → ∀ (i : Nat) (n : String) (d : DataW Unit), l[i]? = some (n, d) →
    ∃ g t cs fuel p, P.globalNamed n = some g ∧ (P.globals[g]?).map (·.type) = some t ∧ W.var? P n = some cs ∧ DataW.trod (fun _ => ()) P W 0 (fun _ => true) false fuel t cs.toList = some (d, p)
  | [], _, _, i, n, d, hi => by simp at hi
  | (n', d') :: r, ps, h, i, n, d, hi => by
    obtain ⟨g, t, cs, fuel, p, q, h1, h2, h3, h4, h5, h6⟩ := h
    cases i with
    | zero =>
      simp only [List.getElem?_cons_zero, Option.some.injEq, Prod.mk.injEq] at hi
      obtain ⟨rfl, rfl⟩ := hi
      exact ⟨g, t, cs, fuel, p, h1, h2, h3, h4⟩
    | succ i => exact laidVars_at h5 i n d (by simpa using hi)
theorem tabIs_at {P : Program} {W : World} {l : List (String × DataW Unit)} (h : laidMet P l W) (i : Nat) (name : String) (k : IntKind) (zs : List Int) {g : Nat} {t e : TypeId} {n : Nat}
    (hi : l[i]? = some (name, Lib.tabData k zs))
    (hg : P.globalNamed name = some g) (hty : (P.globals[g]?).map (·.type) = some t) (ht : P.underlying t = some (.array n e)) (he : P.underlying e = some (.int k)) (hce : P.cellsOf e = 1) (hct : P.cellsOf t = n) : Lib.TabIs P W name k zs := by
 obtain ⟨ps, hv, _, _⟩ := h
 obtain ⟨g', t', cs, fuel, p, hg', ht', hvar, hd⟩ := laidVars_at hv i name _ hi
 obtain rfl := Option.some.inj (hg.symm.trans hg')
 obtain rfl := Option.some.inj (hty.symm.trans ht')
 unfold Lib.TabIs
 rw [hvar, ← Lib.cells_of_tab ht he hce hct hd]
/-- A lane as the number that a cell holds. -/
def lane (a : BitVec 64) : Int := (a.toNat : Int)
theorem lane_ofInt (a : BitVec 64) : BitVec.ofInt IntKind.u64.bits (lane a) = a := by
 show BitVec.ofInt 64 (a.toNat : Int) = a
 simp
theorem lane_wrap (a : BitVec 64) : IntKind.u64.wrap ((BitVec.toNat a : Nat) : Int) = lane a := by
 have := a.isLt
 unfold lane IntKind.wrap
 simp only [IntKind.signed, Bool.false_and, Bool.false_eq_true, if_false, IntKind.bits]
 omega
theorem lane_xor (a b : BitVec 64) : bits .xor .u64 (lane a) (lane b) = lane (a ^^^ b) := by
 unfold bits
 simp only [lane_ofInt]
 exact lane_wrap (a ^^^ b)
theorem lane_or (a b : BitVec 64) : bits .or .u64 (lane a) (lane b) = lane (a ||| b) := by
 unfold bits
 simp only [lane_ofInt]
 exact lane_wrap (a ||| b)
theorem lane_and (a b : BitVec 64) : bits .and .u64 (lane a) (lane b) = lane (a &&& b) := by
 unfold bits
 simp only [lane_ofInt]
 exact lane_wrap (a &&& b)
theorem wrap_u64 (z : Int) : IntKind.u64.wrap z = z % 18446744073709551616 := by
 unfold IntKind.wrap
 simp only [IntKind.signed, Bool.false_and, Bool.false_eq_true, if_false]
 rfl
theorem lane_shl (a : BitVec 64) (n : Nat) : IntKind.u64.wrap (lane a * 2 ^ n) = lane (a <<< n) := by
 rw [wrap_u64]
 unfold lane
 rw [BitVec.toNat_shiftLeft, Nat.shiftLeft_eq, Int.natCast_emod, Int.natCast_mul, Int.natCast_pow]
 rfl
theorem lane_shr (a : BitVec 64) (n : Nat) : lane a / 2 ^ n = lane (a >>> n) := by
 unfold lane
 simp only [BitVec.toNat_ushiftRight, Nat.shiftRight_eq_div_pow]
 push_cast
 rfl
theorem turn_spec (w : World) (x : BitVec 64) (n : Nat) (h1 : 1 ≤ n) (h2 : n ≤ 63) :
    Calls Tryz.prog 148 #[.int .u64 (lane x), .int .i64 n] w (Tells w (.int .u64 (lane (turnL x n)))) := by
 go_enter Tryz.func148, Tryz.ntmps148
 go_wp2_with fail
 go_quiet (fail)
 go_wp2_with fail
 go_ret
 rw [lane_shl, lane_shr, lane_or]
 exact ⟨rfl, ⟨rfl, rfl, rfl, Nat.le_refl _, fun _ _ => rfl⟩⟩
theorem nagg_215 (w : World) : (isAgg 215).run Tryz.prog w = .ok false w := by kernel_rfl
theorem size_215 : (Tryz.prog.info? 215).map (·.size) = some 1 := by kernel_rfl
theorem sizeof_215 (w : World) : (sizeOf 215).run Tryz.prog w = .ok 1 w := by kernel_rfl
theorem size_233 : (Tryz.prog.info? 233).map (·.size) = some 5 := by kernel_rfl
theorem zero_233 (w : World) : (zeroValue 233).run Tryz.prog w = .ok (.agg #[.int .u64 0, .int .u64 0, .int .u64 0, .int .u64 0, .int .u64 0]) w := by kernel_rfl
abbrev laneV (a : BitVec 64) : Value := .int .u64 (lane a)
theorem at0_mapL (n : Nat) (f : Nat → BitVec 64) (i : Nat) (h : i < n) : at0 (mapL n f) i = f i := by simp [at0, mapL, List.getD, h]
theorem mapL_ext {n : Nat} {f g : Nat → BitVec 64} (h : ∀ i, i < n → f i = g i) : mapL n f = mapL n g := List.map_congr_left (fun i hi => h i (List.mem_range.1 hi))
theorem mapL_at0 (S : List (BitVec 64)) : mapL S.length (at0 S) = S := by
 apply List.ext_getElem (by simp [mapL])
 intro i h1 h2
 simp [mapL, at0, List.getD, h2]
theorem mapL_set (n : Nat) (f : Nat → BitVec 64) (k : Nat) (v : BitVec 64) : (mapL n f).set k v = mapL n fun i => if i = k then v else f i := by
 apply List.ext_getElem (by simp [mapL])
 intro i h1 h2
 simp only [mapL, List.getElem_set, List.getElem_map, List.getElem_range]
 by_cases h : k = i
 ·subst h; simp
 ·rw [if_neg h, if_neg (fun e => h e.symm)]
theorem goesN_bd : ∀ i, i < 24 → goesN i < 25 := by decide
theorem turnsN_bd : ∀ i, i < 24 → 1 ≤ turnsN i ∧ turnsN i ≤ 63 := by decide
def Tabs (w : World) : Prop := (∀ i, i < 24 → w.cell? ⟨2, i, none⟩ = some (.int .i64 (goesN i))) ∧ (∀ i, i < 24 → w.cell? ⟨3, i, none⟩ = some (.int .i64 (turnsN i))) ∧ ∀ i, i < 24 → w.cell? ⟨4, i, none⟩ = some (.int .u64 (lane (roundB i)))
theorem Tabs.lt {w : World} (h : Tabs w) : 2 < w.heap.size ∧ 3 < w.heap.size ∧ 4 < w.heap.size :=
  ⟨World.block_lt_of_cell? w ⟨2, 0, none⟩ (h.1 0 (by decide)), World.block_lt_of_cell? w ⟨3, 0, none⟩ (h.2.1 0 (by decide)), World.block_lt_of_cell? w ⟨4, 0, none⟩ (h.2.2 0 (by decide))⟩
theorem Tabs.below {w w' : World} {N : Nat} (h : Tabs w) (hb : Below N w w') (h1 : 2 < N) (h2 : 3 < N) (h3 : 4 < N) : Tabs w' :=
  ⟨fun i hi => by rw [hb.cell (p := ⟨2, i, none⟩) h1]; exact h.1 i hi, fun i hi => by rw [hb.cell (p := ⟨3, i, none⟩) h2]; exact h.2.1 i hi, fun i hi => by rw [hb.cell (p := ⟨4, i, none⟩) h3]; exact h.2.2 i hi⟩
def goesV : Array Value := (goesT.map fun i : Nat => Value.int .i64 (i : Int)).toArray
theorem goes_load {w : World} (h : Tabs w) : (Instr.loadAt 235 (.pointer (some ⟨2, 0, none⟩))).run Tryz.prog w = .ok (.agg goesV) w := by
 unfold goesV
 refine run_loadAt_mid (P := Tryz.prog) w 2 0 235 (goesT.map fun i : Nat => Value.int .i64 (i : Int)) (.array 24 3) (fun j v hj => ?_) (by kernel_rfl) rfl (by kernel_rfl)
 have hj' : j < 24 := by
  have := (List.getElem?_eq_some_iff.1 hj).1
  simpa [goesT] using this
 rw [Nat.zero_add, h.1 j hj', ← hj]
 unfold goesN
 rw [List.getElem?_map, List.getD_eq_getElem?_getD]
 have : goesT[j]? = some (goesT[j]'(by simpa [goesT] using hj')) := List.getElem?_eq_getElem _
 rw [this]
 rfl
theorem Tabs.at {w w' : World} (h : Tabs w) (hb : Below w.heap.size w w') : Tabs w' := h.below hb h.lt.1 h.lt.2.1 h.lt.2.2
theorem goes_at {k : Nat} (h : k < 24) : goesV[k]? = some (.int .i64 ((goesN k : Nat) : Int)) := by
 unfold goesV goesN
 have hk : k < goesT.length := by simpa [goesT] using h
 simp [List.getElem?_map, List.getElem?_eq_getElem hk, List.getD_eq_getElem?_getD]
theorem lanes_at {X : List (BitVec 64)} {i : Nat} (h : i < X.length) : (X.map laneV)[i]? = some (laneV (at0 X i)) := by
 simp [at0, List.getElem?_map, List.getElem?_eq_getElem h, List.getD_eq_getElem?_getD]
theorem lanes_set {X : List (BitVec 64)} {j : Nat} {x : BitVec 64} (h : j < X.length) : splice (X.map laneV) j [laneV x] = (X.set j x).map laneV := by
 unfold splice
 rw [List.map_set, List.set_eq_take_append_cons_drop, if_pos (by simpa using h)]
 simp
def cL (S : List (BitVec 64)) (k : Nat) : List (BitVec 64) := mapL 5 fun x => if x < k then colL S x else 0
theorem cL_len (S : List (BitVec 64)) (k : Nat) : (cL S k).length = 5 := mapL_len _ _
theorem cL_step (S : List (BitVec 64)) {k : Nat} (h : k < 5) : (cL S k).set k (colL S k) = cL S (k + 1) := by
 unfold cL
 rw [mapL_set]
 refine mapL_ext fun i hi => ?_
 by_cases e : i = k
 subst e; rw [if_pos rfl, if_pos (by omega)]
 rw [if_neg e]
 by_cases e2 : i < k
 rw [if_pos e2, if_pos (by omega)]
 rw [if_neg e2, if_neg (by omega)]
theorem cL_zero (S : List (BitVec 64)) : cL S 0 = List.replicate 5 0 := by
 unfold cL mapL; rfl
theorem cL_all (S : List (BitVec 64)) : cL S 5 = (List.range 5).map (colL S) := by
 unfold cL
 exact mapL_ext fun i hi => if_pos hi
theorem thL_len (S C : List (BitVec 64)) (k : Nat) : (thL S C k).length = 25 := mapL_len _ _
theorem thL_zero {S C : List (BitVec 64)} (h : S.length = 25) : thL S C 0 = S := by
 unfold thL
 rw [mapL_ext (g := at0 S) (fun i hi => if_neg (by omega))]
 have := mapL_at0 S
 rwa [h] at this
theorem thL_at {S C : List (BitVec 64)} {i : Nat} (h : i < 25) : at0 (thL S C i) i = at0 S i := by
 unfold thL
 rw [at0_mapL _ _ _ h, if_neg (by omega)]
theorem thL_step (S C : List (BitVec 64)) {i : Nat} (h : i < 25) : (thL S C i).set i (thAt S C i) = thL S C (i + 1) := by
 unfold thL
 rw [mapL_set]
 refine mapL_ext fun j hj => ?_
 by_cases e : j = i
 subst e; rw [if_pos rfl, if_pos (by omega)]
 rw [if_neg e]
 by_cases e2 : j < i
 rw [if_pos e2, if_pos (by omega)]
 rw [if_neg e2, if_neg (by omega)]
theorem rhoL_len {A : List (BitVec 64)} (h : A.length = 25) : ∀ k, (rhoL A k).1.length = 25
  | 0 => h
  | k + 1 => by simp [rhoL, rhoL_len h k]
def chiK (B : List (BitVec 64)) (k : Nat) : List (BitVec 64) := mapL 25 fun i => if i < k then chiAt B i else at0 B i
theorem chiK_len (B : List (BitVec 64)) (k : Nat) : (chiK B k).length = 25 := mapL_len _ _
theorem chiK_zero {B : List (BitVec 64)} (h : B.length = 25) : chiK B 0 = B := by
 unfold chiK
 rw [mapL_ext (g := at0 B) (fun i hi => if_neg (by omega))]
 have := mapL_at0 B
 rwa [h] at this
theorem chiK_at {B : List (BitVec 64)} {k i : Nat} (h : k ≤ i) (hi : i < 25) : at0 (chiK B k) i = at0 B i := by
 unfold chiK
 rw [at0_mapL _ _ _ hi, if_neg (by omega)]
theorem chiK_step (B : List (BitVec 64)) {i : Nat} (h : i < 25) : (chiK B i).set i (chiAt B i) = chiK B (i + 1) := by
 unfold chiK
 rw [mapL_set]
 refine mapL_ext fun j hj => ?_
 by_cases e : j = i
 subst e; rw [if_pos rfl, if_pos (by omega)]
 rw [if_neg e]
 by_cases e2 : j < i
 rw [if_pos e2, if_pos (by omega)]
 rw [if_neg e2, if_neg (by omega)]
theorem chiK_all (B : List (BitVec 64)) : chiK B 25 = chiL B := by
 unfold chiK chiL
 exact mapL_ext fun i hi => if_pos hi
section
variable {P : Program} {ρ : Operand → Value} {w : World} {d : Option Tmp} {t X Y E : TypeId} {n : Nat} {pos : String} {after : Array Edge} {guard : Option (Nat × Bool)} {x y : Operand}
theorem ex_ixA {cs : Array Value} {i : Nat} {v : Value} (hX : P.underlying X = some (.array n E)) (hs : (sizeOf E).run P w = .ok 1 w) (hx : ρ x = .agg cs) (hy : ρ y = .int .i64 i) (hi : i < n) (hb : (isAgg E).run P w = .ok false w) (hv : cs[i]? = some v) :
    (execOp ρ ⟨d, .index X x y, t, pos, after, guard⟩).run P w = .ok (.value v) w := by
 have h1 : (0 : Int) ≤ (i : Int) ∧ (i : Int) < (n : Int) := by omega
 simp [execOp, hx, hy, Instr.index, part, Sem.run_bind, run_underlying hX w, asIntOf, hs, h1, hb, hv, hi]
theorem ex_atA {b i : Nat} (hX : P.underlying X = some (.array n E)) (hs : (sizeOf E).run P w = .ok 1 w) (hx : ρ x = .pointer (some ⟨b, 0, none⟩)) (hy : ρ y = .int .i64 i) (hi : i < n) :
    (execOp ρ ⟨d, .indexAddr X x y, t, pos, after, guard⟩).run P w = .ok (.value (.pointer (some ⟨b, i, none⟩))) w := by
 have hadd : (⟨b, 0, none⟩ : Addr).add (i * 1) = ⟨b, i, none⟩ := by rw [Addr.add_mid]; simp
 have hlt : (0 : Int) ≤ (i : Int) ∧ (i : Int) < (n : Int) := by omega
 simp only [Nat.mul_one] at hadd
 simp [execOp, hx, hy, Instr.indexAt, Instr.sureAddr, asIntOf, Sem.run_bind, Sem.run_pure, Result.andThen_ok, run_underlying hX w, hs, hadd, hlt, hi]
theorem ex_xorL {a b : BitVec 64} (hx : ρ x = laneV a) (hy : ρ y = laneV b) : (execOp ρ ⟨d, .binOp .xor X x y Y, t, pos, after, guard⟩).run P w = .ok (.value (laneV (a ^^^ b))) w := by
 refine ex_bin hx hy ?_
 rw [run_binInt _ (by simp)]
 show Result.ok (Value.int .u64 (bits .xor .u64 (lane a) (lane b))) w = _
 rw [lane_xor]
theorem ex_andL {a b : BitVec 64} (hx : ρ x = laneV a) (hy : ρ y = laneV b) : (execOp ρ ⟨d, .binOp .and X x y Y, t, pos, after, guard⟩).run P w = .ok (.value (laneV (a &&& b))) w := by
 refine ex_bin hx hy ?_
 rw [run_binInt _ (by simp)]
 show Result.ok (Value.int .u64 (bits .and .u64 (lane a) (lane b))) w = _
 rw [lane_and]
theorem ex_notL {a : BitVec 64} (hx : ρ x = laneV a) : (execOp ρ ⟨d, .unOp .xor X x, t, pos, after, guard⟩).run P w = .ok (.value (laneV (~~~ a))) w := by
 have e : (18446744073709551615 : Int) = lane (BitVec.allOnes 64) := by decide
 have h : bits .xor .u64 (18446744073709551615 : Int) (lane a) = lane (~~~ a) := by rw [e, lane_xor, BitVec.allOnes_xor]
 simp only [execOp, hx]
 show Result.ok (Next.value (.int .u64 (bits .xor .u64 (18446744073709551615 : Int) (lane a)))) w = _
 rw [h]
theorem ex_remA {m n : Nat} (hx : ρ x = .int .i64 (m : Int)) (hy : ρ y = .int .i64 (n : Int)) (hn : 0 < n) (hm : m ≤ 9223372036854775807) : (execOp ρ ⟨d, .binOp .rem X x y Y, t, pos, after, guard⟩).run P w = .ok (.value (.int .i64 ((m % n : Nat) : Int))) w := by
 refine ex_bin hx hy ?_
 rw [run_binInt _ (by simp)]
 show (Op.intDiv .rem .i64 m n).run P w = _
 unfold Op.intDiv
 rw [if_neg (by omega)]
 show Result.ok (Value.int .i64 (Int.tmod (m : Int) (n : Int))) w = _
 rw [Int.tmod_eq_emod_of_nonneg (by omega)]
 rfl
end
end Go.Proofs.YtilgpdpooildcaaGreatDoor
