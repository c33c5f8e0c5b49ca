/- Rules, plain laws and walks: X5 X6 H1 TP1 TP2 TP3 TP4 T0 D1 DG1 DG2 -/
import Derived.Test.YtilgpdpooildcaaGreatDoorDA2
import Derived.Test.YtilgpdpooildcaaGreatDoorDA3
import Derived.Test.YtilgpdpooildcaaGreatDoorDA6
import Derived.Test.YtilgpdpooildcaaGreatDoorDA5
import Derived.Test.YtilgpdpooildcaaGreatDoorCards
import Derived.Test.YtilgpdpooildcaaGreatDoorTie
import Derived.WalkKit
import Derived.ProofKit
import Derived.OpenShut
import Derived.Deep.DeepHandedRow
import Derived.Lib.LaidTab
import Derived.Lib.SmallJoins
import Derived.Test.YtilgpdpooildcaaGreatDoorDA1
import Derived.Deep.QuietTactic
import Derived.BigQuiet
import Derived.StillTailTactics
import Derived.Deep.MidRow
namespace Go.Proofs.YtilgpdpooildcaaGreatDoor
set_option maxHeartbeats 8000000
open Go.RowKit
set_option maxRecDepth 100000
set_option linter.unusedVariables false
set_option linter.unusedSimpArgs false
theorem uY (a b : By) : (!Op.bytesLess a b) = decide (0 ≤ eY a b) := by
 rw [Bool.eq_iff_iff, decide_eq_true_iff, Bool.not_eq_true', ← Bool.not_eq_true, show (Op.bytesLess a b = true) ↔ eY a b < 0 from rL.symm]
 omega
theorem uZ (a b : By) : (!Op.bytesLess b a) = decide (eY a b ≤ 0) := by
 rw [Bool.eq_iff_iff, decide_eq_true_iff, Bool.not_eq_true', ← Bool.not_eq_true, show (Op.bytesLess b a = true) ↔ 0 < eY a b from Dq.symm]
 omega
theorem LI (F : Fz) (w : World) (v u : Value) (r : Rd) (p : Wr) (hs : Sat w F) (hv : RdV F v r) (hu : WrV F u p) :
    Calls Tryz.prog 133 #[v, u] w (cU w (.bool (eL r p))) := by
 obtain ⟨x0, x1, x2, x3, x4, x5, rfl, h0, h1, h3⟩ := hv
 obtain ⟨y0, y1, y2, y3, y4, y5, rfl, k0, k1, k3⟩ := hu
 have S := St.start hs
 go_enter Tryz.func133, Tryz.ntmps133
 refine sk fun K1 hK1 => ?_
 refine bD S (v := fun n => .pointer (aA n 0)) rfl (cB (v := (.agg #[(.slice x0 r.name.length x1), (.slice x2 r.key.length x3), (.bool r.wide), (.slice x4 r.last.length x5)])) rfl) (fun n2 w3 S4 => ?_)
 refine bD S4 (v := fun n => .pointer (aA n 0)) rfl (cB (v := (.agg #[(.slice y0 p.name.length y1), (.slice y2 p.key.length y3), (.bool p.gone), (.slice y4 p.value.length y5)])) rfl) (fun n5 w6 S7 => ?_)
 simp only [pq]
 refine dy ?_
 refine wn hK1 ?_
 refine aE fun K8 hK8 => ?_
 refine aE fun K9 hK9 => ?_
 by_cases e1 : r.name = p.name
 refine aB ?_
 refine aC ?_
 refine aI (v := bT) S7 rfl (fn2 (jM _ _)) (gJ (cT _ _ _ _ r.name p.name (S7).sat h0 k0) (beq_iff_eq.2 (e1))) (fun b2 a1 => ?_)
 refine dt ?_
 refine wlK hK9 ?_
 refine aF ?_
 refine aH ?_
 refine hK8 _ _ ?_
 refine aE fun b3 a3 => ?_
 refine aE fun b4 a2 => ?_
 cases hwd : r.wide with
 | false =>
  rw [hwd] at a1
  refine aB ?_
  refine aC ?_
  refine wlK a2 ?_
  refine aJ ?_
  refine sk fun b5 a4 => ?_
  refine aC ?_
  refine aI (v := (.bool (r.key == p.key))) a1 rfl (fn2 (jM _ _)) (cT _ _ _ _ r.key p.key (a1).sat h1 k1) (fun b6 a8 => ?_)
  refine dy ?_
  refine wn a4 ?_
  refine aP ?_
  try simp only [xt]
  refine bR (bK rfl (gD rfl)) ?_
  exact ⟨by unfold eL; rw [beq_iff_eq.2 e1, hwd]; rfl, a8.gr.below⟩
 | true =>
  rw [hwd] at a1
  refine aB ?_
  refine aC ?_
  refine wlK a2 ?_
  refine aF ?_
  refine aH ?_
  refine a3 _ _ ?_
  refine sk fun b7 a0 => ?_
  refine aC ?_
  refine aI (v := (.int .i64 (eY p.key r.key))) a1 rfl (fn2 (vX _ _)) (fA _ _ _ _ p.key r.key (a1).sat k1 h1) (fun b9 a5 => ?_)
  simp only [pq]
  by_cases a9 : (0 : Int) ≤ (eY p.key r.key)
  refine ZA ?_
  refine aC ?_
  refine aI (v := (.int .i64 (eY p.key r.last))) a5 rfl (fn2 (vX _ _)) (fA _ _ _ _ p.key r.last (a5).sat k1 h3) (fun c0 a7 => ?_)
  simp only [pq]
  by_cases b0 : (eY p.key r.last) ≤ (0 : Int)
  refine Jr ?_
  refine aC ?_
  refine wn a0 ?_
  refine aP ?_
  try simp only [xt]
  refine bR (bK rfl (gD rfl)) ?_
  exact ⟨by unfold eL; rw [beq_iff_eq.2 e1, hwd]; simp only [if_true, Bool.true_and]; rw [uY, uZ]; first | rw [decide_eq_true (by omega), decide_eq_true (by omega)]; rfl | rw [decide_eq_true (by omega), decide_eq_false (by omega)]; rfl | rw [decide_eq_false (by omega)]; rfl, a7.gr.below⟩
  refine Js ?_
  refine aC ?_
  refine wn a0 ?_
  refine aP ?_
  try simp only [xt]
  refine bR (bK rfl (gD rfl)) ?_
  exact ⟨by unfold eL; rw [beq_iff_eq.2 e1, hwd]; simp only [if_true, Bool.true_and]; rw [uY, uZ]; first | rw [decide_eq_true (by omega), decide_eq_true (by omega)]; rfl | rw [decide_eq_true (by omega), decide_eq_false (by omega)]; rfl | rw [decide_eq_false (by omega)]; rfl, a7.gr.below⟩
  refine ZB ?_
  refine aC ?_
  refine wn a0 ?_
  refine aP ?_
  try simp only [xt]
  refine bR (bK rfl (gD rfl)) ?_
  exact ⟨by unfold eL; rw [beq_iff_eq.2 e1, hwd]; simp only [if_true, Bool.true_and]; rw [uY, uZ]; first | rw [decide_eq_true (by omega), decide_eq_true (by omega)]; rfl | rw [decide_eq_true (by omega), decide_eq_false (by omega)]; rfl | rw [decide_eq_false (by omega)]; rfl, a5.gr.below⟩
 refine aB ?_
 refine aC ?_
 refine aI (v := bF) S7 rfl (fn2 (jM _ _)) (gJ (cT _ _ _ _ r.name p.name (S7).sat h0 k0) (beq_eq_false_iff_ne.2 (e1))) (fun c1 b1 => ?_)
 refine dt ?_
 refine wlK hK9 ?_
 refine aJ ?_
 refine sk fun c2 a6 => ?_
 refine dy ?_
 simp only [pq]
 refine wn a6 ?_
 refine aP ?_
 try simp only [xt]
 refine bR (bK rfl (gD rfl)) ?_
 exact ⟨by unfold eL; rw [beq_eq_false_iff_ne.2 e1]; rfl, b1.gr.below⟩
theorem OW (F : Fz) (w : World) (v : Value) (b : Nat) (q : Rd) (r : Wr) (hs : Sat w F) (hv : RdV F v q) (hr : WrP F b r) :
    Calls Tryz.prog 132 #[v, .pointer (some ⟨b, 0, none⟩)] w (cU w (.bool (eL q r))) := by
 obtain ⟨x0, x1, x2, x3, x4, x5, rfl, h0, h1, h3⟩ := hv
 obtain ⟨z0, z1, z2, z3, z4, z5, c0, c1, c2, c3, k0, k1, k3⟩ := hr
 have S := St.start hs
 go_enter Tryz.func132, Tryz.ntmps132
 refine sk fun K1 hK1 => ?_
 refine bD S (v := fun n => .pointer (aA n 0)) rfl (cB (v := (.agg #[(.slice x0 q.name.length x1), (.slice x2 q.key.length x3), (.bool q.wide), (.slice x4 q.last.length x5)])) rfl) (fun n2 w3 S4 => ?_)
 refine dy ?_
 refine wn hK1 ?_
 refine sk fun K5 hK5 => ?_
 refine dR S4 0 Tryz.underlying179 (dI) ?_
 refine dr _ (aD rfl (cN Tryz.underlying39 rfl (cD) (eW (St.fz S4 c0) (St.fz S4 c1) (St.fz S4 c2) (St.fz S4 c3)))) ?_
 simp only [pq]
 refine aI (v := (.bool (eL q r))) S4 rfl (fn2 (Fl _ _)) (LI _ _ _ _ _ _ (S4).sat ⟨_, _, _, _, _, _, rfl, h0, h1, h3⟩ ⟨_, _, _, _, _, _, rfl, k0, k1, k3⟩) (fun w6 S7 => ?_)
 refine dy ?_
 refine wn hK5 ?_
 refine aP ?_
 try simp only [xt]
 refine bR (bK rfl (gD rfl)) ?_
 exact ⟨rfl, S7.gr.below⟩
theorem LJ (F : Fz) (w : World) (v : Value) (b : Nat) (l : List Rd) (r : Wr) (hs : Sat w F) (hv : Rds F v l) (hr : WrP F b r) (hl : l.length ≤ 1000000) :
    Calls Tryz.prog 146 #[v, .func (.func 132) #[] #[.pointer (some ⟨b, 0, none⟩)]] w (cU w (.int .i64 (lO l (fun q : Rd => (eL q r))))) := by
 obtain ⟨a, c, rfl, hc1, hc2⟩ := Sl.shape hv
 unfold maxLen at hc2
 have S := St.start hs
 go_enter Tryz.func146, Tryz.ntmps146
 refine sk fun K1 hK1 => ?_
 refine dy ?_
 refine wn hK1 ?_
 refine aE fun K2 hK2 => ?_
 refine sk fun K3 hK3 => ?_
 refine aC ?_
 refine wn hK3 ?_
 refine aM ?_
 refine bA (fun mm aa w5 => ∃ (k : Nat) (u4 : Nat → Value), mm = l.length - k ∧ u4 = dV aa ∧ aa = ⟨([(.slice a l.length c), (.func (.func 132) #[] #[(pP b 0)]), undef, undef, (u4 4), (u4 5), (.slice a l.length c), (nI l.length), (nI k)] ++ (usF u4 9 10 [])).toArray, []⟩ ∧ St w F w5 F [] [] ∧ (k ≤ l.length) ∧ (∀ (i : Nat) q, i < k → l[i]? = some q → (fun q : Rd => (eL q r)) q = false)) _ ⟨0, _, rfl, rfl, rfl, S, (by omega), (fun i q hi => absurd hi (by omega))⟩ ?_
 rintro m6 a7 w8 ⟨k, u4, rfl, -, hfr, S9, hk, hbad⟩ c9 a9
 simp only [uzF, Nat.reduceAdd] at hfr; subst hfr
 refine sk fun d0 a1 => ?_
 by_cases hc9 : k < l.length
 refine eZ ?_
 refine wn a1 ?_
 refine aE fun d1 b0 => ?_
 refine aJ ?_
 refine aH ?_
 refine b0 _ _ ?_
 refine aE fun d2 b1 => ?_
 refine aM ?_
 refine sk fun d3 b2 => ?_
 refine aC ?_
 refine wn b2 ?_
 refine aE fun d4 b3 => ?_
 obtain ⟨p, hp⟩ : ∃ p, l[k]? = some p := ⟨l[k], List.getElem?_eq_getElem hc9⟩
 obtain ⟨b9, c0, b4, a2, a3, a4, a5, a6, a8, c1, c2, c3, c4, c5, c6, c7⟩ := Rds.get hv hp
 refine aB ?_
 refine aC ?_
 refine dr (pP b9 (c0 + k * 4)) (bP (i := k) (sz := 4) Tryz.underlying139 (jP _) rfl b4 rfl (by omega) rfl) ?_
 refine dr _ (aD rfl (cN Tryz.underlying179 rfl (dI) (eW (St.fz S9 c1) (St.fz S9 c2) (St.fz S9 c3) (St.fz S9 c4)))) ?_
 refine aI (v := (.bool ((fun q : Rd => (eL q r)) p))) S9 rfl (qQ (fs := #[]) (cs := #[(pP b 0)]) (vs := #[(.agg #[(.slice a2 p.name.length a3), (.slice a4 p.key.length a5), (.bool p.wide), (.slice a6 p.last.length a8)]), (pP b 0)]) rfl (yX (fs := #[]) (cs := #[(pP b 0)]) (xs := #[(.agg #[(.slice a2 p.name.length a3), (.slice a4 p.key.length a5), (.bool p.wide), (.slice a6 p.last.length a8)])]) (lG rfl) (by simp)) (Fk _ _)) (OW _ _ _ b p r (S9).sat ⟨_, _, _, _, _, _, rfl, c5, c6, c7⟩ hr) (fun d5 b7 => ?_)
 refine wlK b3 ?_
 refine wp_cond_split rfl (fun a0 => ?_) (fun a0 => ?_)
 refine sk fun d6 b5 => ?_
 refine aC ?_
 refine wn b5 ?_
 refine aP ?_
 try simp only [xt]
 refine bR (bK rfl (gD rfl)) ?_
 exact ⟨by rw [tY hp a0 hbad], b7.gr.below⟩
 refine aH ?_
 refine b1 _ _ ?_
 refine aB ?_
 refine cO (k + 1) ?_
 refine dx ?_
 refine aG ?_
 exact a9 _ _ _ (by omega) ⟨(k + 1), _, rfl, rfl, rfl, b7, (by omega), (fun i q hi hq => by rcases Nat.lt_succ_iff_lt_or_eq.1 hi with h | rfl; exact hbad i q h hq; (rw [hp] at hq; cases hq; exact a0))⟩
 refine eT ?_
 simp only [pq]
 refine wn a1 ?_
 refine aE fun d7 c8 => ?_
 refine aF ?_
 refine cV ?_
 refine hK2 _ _ ?_
 refine sk fun d8 b6 => ?_
 refine dy ?_
 refine wn b6 ?_
 refine aP ?_
 try simp only [xt]
 refine bR (bK rfl (gD rfl)) ?_
 exact ⟨by rw [rB (fun i q hi hq => hbad i q (by omega) hq)], S9.gr.below⟩
theorem AR (F : Fz) (w : World) (v : Value) (b : Nat) (l : List Rd) (r : Wr) (hs : Sat w F) (hv : Rds F v l) (hr : WrP F b r) (hl : l.length ≤ 1000000) :
    Calls Tryz.prog 127 #[v, .func (.func 132) #[] #[.pointer (some ⟨b, 0, none⟩)]] w (cU w (.bool (l.any (fun q : Rd => (eL q r))))) := by
 obtain ⟨a, c, rfl, hc1, hc2⟩ := Sl.shape hv
 have S := St.start hs
 go_enter Tryz.func127, Tryz.ntmps127
 refine sk fun K1 hK1 => ?_
 refine dy ?_
 refine wn hK1 ?_
 refine sk fun K2 hK2 => ?_
 refine aC ?_
 refine aI (v := (.int .i64 (lO l (fun q : Rd => (eL q r))))) S rfl (fn2 (KM _ _)) (LJ _ _ _ b l r (S).sat hv hr hl) (fun w3 S4 => ?_)
 refine dr (.bool (l.any (fun q : Rd => (eL q r)))) (yW (m := lO l (fun q : Rd => (eL q r))) (n := 0) (b := l.any (fun q : Rd => (eL q r))) rfl rfl xS) ?_
 refine dy ?_
 refine wn hK2 ?_
 refine aP ?_
 try simp only [xt]
 refine bR (bK rfl (gD rfl)) ?_
 exact ⟨rfl, S4.gr.below⟩
def oU (l : aO) (t : Tx) : Int := if fM l ≠ 0 then fM l else txE t
theorem OX {l : aO} {t : Tx} : oU l t = 0 ↔ ForestOk 60 l ∧ TxOk t := by
 unfold oU
 by_cases h : fM l = 0
 ·rw [if_neg (by simpa using h), nD, ← oQ]; exact ⟨fun k => ⟨h, k⟩, fun k => k.2⟩
 ·rw [if_pos h]; exact ⟨fun k => absurd k h, fun k => absurd (oQ.2 k.1) h⟩
theorem IP (F : Fz) (w : World) (u v : Value) (l : aO) (t : Tx) (hs : Sat w F) (hl : Tns F u l) (hv : TxV F v t) (hbw : ∀ r ∈ t.writes, r.name.length ≤ 100000 ∧ r.key.length ≤ 100000 ∧ r.value.length ≤ 100000) :
    Calls Tryz.prog 103 #[u, v] w (cU w (.int .i64 (oU l t))) := by
 obtain ⟨a, c, rfl, hc1, hc2⟩ := Sl.shape hl
 obtain ⟨x0, y0, x1, y1, rfl, h0, h1⟩ := hv
 obtain ⟨_, _, e0, q0, q1⟩ := Sl.shape h0
 obtain ⟨_, _, e1, q2, q3⟩ := Sl.shape h1
 injection e0 with _ _ e0
 injection e1 with _ _ e1
 subst e0 e1
 unfold maxLen at q1 q3
 have S := St.start hs
 go_enter Tryz.func103, Tryz.ntmps103
 refine sk fun K1 hK1 => ?_
 refine bD S (v := fun n => .pointer (aA n 0)) rfl (cB (v := (.agg #[(.int .i64 t.start), (.slice x0 t.reads.length y0), (.slice x1 t.writes.length y1)])) rfl) (fun n2 w3 S4 => ?_)
 refine dy ?_
 refine wn hK1 ?_
 refine aE fun K5 hK5 => ?_
 refine sk fun K6 hK6 => ?_
 refine dx ?_
 refine aI (v := (.int .i64 (fM l))) S4 rfl (fn1 (KO _ _)) (jX _ _ _ l (S4).sat hl) (fun w7 S8 => ?_)
 simp only [pq]
 refine dy ?_
 refine wn hK6 ?_
 refine sk fun K9 hK9 => ?_
 refine dx ?_
 simp only [pq]
 by_cases hc9 : (fM l) = (0 : Int)
 refine nB ?_
 refine wn hK9 ?_
 refine aF ?_
 refine aH ?_
 refine hK5 _ _ ?_
 refine sk fun a3 a0 => ?_
 refine dR S8 0 Tryz.underlying141 (aZ) ?_
 refine aI (v := (.int .i64 (txE t))) S8 rfl (fn1 (BI _ _)) (mK _ _ _ t (S8).sat ⟨_, _, _, _, rfl, h0, h1⟩ hbw) (fun a4 a2 => ?_)
 refine dy ?_
 simp only [pq]
 refine wn a0 ?_
 refine aP ?_
 try simp only [xt]
 refine bR (bK rfl (gD rfl)) ?_
 exact ⟨by unfold oU; rw [if_neg (by omega)], a2.gr.below⟩
 refine qS ?_
 refine wn hK9 ?_
 refine aJ ?_
 refine sk fun a5 a1 => ?_
 refine aC ?_
 refine wn a1 ?_
 refine aP ?_
 try simp only [xt]
 refine bR (bK rfl (gD rfl)) ?_
 exact ⟨by unfold oU; rw [if_pos hc9], S8.gr.below⟩
theorem xU {α : Type} {l : List α} {g : α → Bool} {k : Nat} {p : α} (hp : l[k]? = some p) (h : (l.take k).any g = false) (hg : g p = false) : (l.take (k + 1)).any g = false := by
 obtain ⟨hk, rfl⟩ := List.getElem?_eq_some_iff.1 hp
 rw [List.take_succ_eq_append_getElem hk, List.any_append, h]
 simp [hg]
theorem LK {α : Type} {l : List α} {g : α → Bool} {k : Nat} (hk : l.length ≤ k) (h : (l.take k).any g = false) : l.any g = false := by rwa [List.take_of_length_le hk] at h
theorem UU {α : Type} {l : List α} {g : α → Bool} {k : Nat} {p : α} (hp : l[k]? = some p) (hg : g p = true) : l.any g = true := List.any_eq_true.2 ⟨p, List.mem_of_getElem? hp, hg⟩
theorem Ju {t : Tx} {p : Cm} (h : (p.turn : Int) ≤ t.start) : (fun c : Cm => decide (t.start < c.turn) && c.writes.any (fun w : Wr => t.reads.any fun r => eL r w)) p = false := by (try simp only); rw [decide_eq_false (by omega)]; rfl
def EC (t : Tx) (cs : List Cm) : Bool := if txE t ≠ 0 then false else oH t.start t.reads cs
theorem SB (F : Fz) (w : World) (v u : Value) (t : Tx) (cs : List Cm) (hs : Sat w F) (hv : TxV F v t) (hl : Cms F u cs) (hcs : ∀ c ∈ cs, c.writes.length ≤ 100000) (hbw : ∀ r ∈ t.writes, r.name.length ≤ 100000 ∧ r.key.length ≤ 100000 ∧ r.value.length ≤ 100000) :
    Calls Tryz.prog 109 #[v, u] w (cU w (.tuple #[.bool (EC t cs), .int .i64 (txE t)])) := by
 obtain ⟨a, c, rfl, hc1, hc2⟩ := Sl.shape hl
 unfold maxLen at hc2
 obtain ⟨x0, y0, x1, y1, rfl, h0, h1⟩ := hv
 obtain ⟨_, _, e0, q0, q1⟩ := Sl.shape h0
 obtain ⟨_, _, e1, q2, q3⟩ := Sl.shape h1
 injection e0 with _ _ e0
 injection e1 with _ _ e1
 subst e0 e1
 unfold maxLen at q1 q3
 have S := St.start hs
 go_enter Tryz.func109, Tryz.ntmps109
 refine sk fun K1 hK1 => ?_
 refine bD S (v := fun n => .pointer (aA n 0)) rfl (cB (v := (.agg #[(.int .i64 t.start), (.slice x0 t.reads.length y0), (.slice x1 t.writes.length y1)])) rfl) (fun n2 w3 S4 => ?_)
 iterate 2 refine dy ?_
 refine wn hK1 ?_
 refine aE fun K5 hK5 => ?_
 refine sk fun K6 hK6 => ?_
 refine dR S4 0 Tryz.underlying141 (aZ) ?_
 simp only [pq]
 refine aI (v := (.int .i64 (txE t))) S4 rfl (fn1 (BI _ _)) (mK _ _ _ t (S4).sat ⟨_, _, _, _, rfl, h0, h1⟩ hbw) (fun w7 S8 => ?_)
 refine dy ?_
 refine wn hK6 ?_
 refine sk fun K9 hK9 => ?_
 refine dx ?_
 simp only [pq]
 by_cases c2 : (txE t) = (0 : Int)
 refine nB ?_
 refine wn hK9 ?_
 refine aF ?_
 refine aH ?_
 refine hK5 _ _ ?_
 refine aE fun h8 c3 => ?_
 refine aE fun h9 c4 => ?_
 have ht : TxOk t := nD.1 (by omega)
 have hnr := ht.nr
 refine aB ?_
 refine aC ?_
 refine wlK c4 ?_
 refine aM ?_
 refine bA (fun mm aa e7 => ∃ (k : Nat) (a9 : Fz) (a4 : Nat → Value), mm = cs.length - k ∧ a4 = dV aa ∧ aa = ⟨([(.agg #[(.int .i64 t.start), (.slice x0 t.reads.length y0), (.slice x1 t.writes.length y1)]), (.slice a cs.length c), (pP n2 0), undef, (a4 4), (a4 5), (.int .i64 (txE t)), undef, (a4 8), undef, (a4 10), (.agg #[(.int .i64 t.start), (.slice x0 t.reads.length y0), (.slice x1 t.writes.length y1)]), (.int .i64 (txE t)), (.int .i64 (txE t)), bF, undef, (.slice a cs.length c), (nI cs.length), (nI k)] ++ (usF a4 19 21 [])).toArray, []⟩ ∧ St w F e7 a9 [⟨n2, [(.int .i64 t.start), (.slice x0 t.reads.length y0), (.slice x1 t.writes.length y1)], 141⟩] [] ∧ Le F a9 ∧ (k ≤ cs.length) ∧ ((cs.take k).any (fun c : Cm => decide (t.start < c.turn) && c.writes.any (fun w : Wr => t.reads.any fun r => eL r w)) = false)) _ ⟨0, F, _, rfl, rfl, rfl, S8, Le.refl _, (by omega), rfl⟩ ?_
 rintro i0 i1 i2 ⟨k, a9, a4, rfl, -, hfr, b7, a1, hk, hno⟩ i3 b1
 simp only [uzF, Nat.reduceAdd] at hfr; subst hfr
 refine sk fun i4 b2 => ?_
 by_cases c5 : k < cs.length
 refine eZ ?_
 refine wn b2 ?_
 refine aE fun i5 c6 => ?_
 refine aJ ?_
 refine aH ?_
 refine c6 _ _ ?_
 refine aE fun i6 b3 => ?_
 refine aM ?_
 refine aE fun i7 c7 => ?_
 obtain ⟨p, hp⟩ : ∃ p, cs[k]? = some p := ⟨cs[k], List.getElem?_eq_getElem c5⟩
 obtain ⟨e3, e4, c8, a6, a7, e8, e9, f0⟩ := Cms.get (hl.mono a1) hp
 refine aB ?_
 refine dr (pP e3 (e4 + k * 2)) (bP (i := k) (sz := 2) Tryz.underlying109 (RE _) rfl c8 rfl (by omega) rfl) ?_
 refine dr _ (aD rfl (cN Tryz.underlying168 rfl (oM) (kC (St.fz b7 e8) (St.fz b7 e9)))) ?_
 simp only [pq]
 refine sA b7 (OB _) fun b9 i8 f1 => ?_
 refine sW 0 f1 (oM) fun i9 c0 => ?_
 refine wlK c7 ?_
 refine aE fun j0 c9 => ?_
 refine sk fun j1 b4 => ?_
 refine aC ?_
 by_cases f2 : ((p.turn : Nat) : Int) ≤ t.start
 refine Jr ?_
 refine wn b4 ?_
 refine aJ ?_
 refine cV ?_
 refine b3 _ _ ?_
 refine aB ?_
 refine cO (k + 1) ?_
 refine dx ?_
 simp only [pq]
 refine aG ?_
 have c0 := St.drop c0 (.cons _ (List.Sublist.refl _))
 exact b1 _ _ _ (by omega) ⟨(k + 1), a9, _, rfl, rfl, rfl, c0, a1, (by omega), (xU hp hno (Ju (by omega)))⟩
 refine Js ?_
 refine wn b4 ?_
 refine aF ?_
 refine aH ?_
 refine c9 _ _ ?_
 refine aE fun j2 d0 => ?_
 have hpw := hcs p (List.mem_of_getElem? hp)
 refine aB ?_
 refine aC ?_
 refine wlK d0 ?_
 refine aM ?_
 refine bA (fun mm aa f3 => ∃ (j : Nat) (b5 : Fz) (b0 : Nat → Value), mm = p.writes.length - j ∧ b0 = dV aa ∧ aa = ⟨([(.agg #[(.int .i64 t.start), (.slice x0 t.reads.length y0), (.slice x1 t.writes.length y1)]), (.slice a cs.length c), (pP n2 0), undef, (b0 4), (b0 5), (.int .i64 (txE t)), undef, (pP b9 0), undef, (b0 10), (.agg #[(.int .i64 t.start), (.slice x0 t.reads.length y0), (.slice x1 t.writes.length y1)]), (.int .i64 (txE t)), (.int .i64 (txE t)), bF, undef, (.slice a cs.length c), (nI cs.length), (nI k), bT, (pP e3 (e4 + k * 2)), (.agg #[(nI p.turn), (.slice a6 p.writes.length a7)]), (pP b9 0), (nI p.turn), (pP n2 0), (.int .i64 t.start), bF, (pP b9 1), (.slice a6 p.writes.length a7), (nI p.writes.length), (nI j)] ++ (usF b0 31 8 [(a4 39)])).toArray, []⟩ ∧ St w F f3 b5 [⟨b9, [(nI p.turn), (.slice a6 p.writes.length a7)], 168⟩, ⟨n2, [(.int .i64 t.start), (.slice x0 t.reads.length y0), (.slice x1 t.writes.length y1)], 141⟩] [] ∧ Le a9 b5 ∧ (j ≤ p.writes.length) ∧ ((p.writes.take j).any (fun w : Wr => t.reads.any fun r => eL r w) = false)) _ ⟨0, a9, _, rfl, rfl, rfl, c0, Le.refl _, (by omega), rfl⟩ ?_
 rintro j3 j4 j5 ⟨j, b5, b0, rfl, -, hfr, a5, a2, hj, hnw⟩ j6 d1
 simp only [uzF, Nat.reduceAdd] at hfr; subst hfr
 refine sk fun j7 b6 => ?_
 by_cases d2 : j < p.writes.length
 refine eZ ?_
 refine wn b6 ?_
 refine aE fun j8 d3 => ?_
 refine aJ ?_
 refine aH ?_
 refine d3 _ _ ?_
 refine aE fun j9 d4 => ?_
 refine aM ?_
 refine aE fun k0 d5 => ?_
 obtain ⟨qq, hq⟩ : ∃ qq, p.writes[j]? = some qq := ⟨p.writes[j], List.getElem?_eq_getElem d2⟩
 obtain ⟨f4, f5, d6, f6, f7, f8, f9, g0, g1, g2, g3, g4, g5, g6, g7, g8⟩ := Wrs.get (f0.mono a2) hq
 refine aB ?_
 refine dr (pP f4 (f5 + j * 4)) (bP (i := j) (sz := 4) Tryz.underlying40 (fJ _) rfl d6 rfl (by omega) rfl) ?_
 refine dr _ (aD rfl (cN Tryz.underlying39 rfl (cD) (eW (St.fz a5 g2) (St.fz a5 g3) (St.fz a5 g4) (St.fz a5 g5)))) ?_
 simp only [pq]
 refine sA a5 (mI _) fun c1 k1 g9 => ?_
 refine sW 0 g9 (cD) fun h2 h3 => ?_
 refine wlK d5 ?_
 refine aE fun k2 d7 => ?_
 obtain ⟨e5, a0, a3⟩ := St.freezeBlk h3 (i := 0) rfl
 have h4 : WrP _ c1 qq := ⟨_, _, _, _, _, _, a3 0 _ rfl, a3 1 _ rfl, a3 2 _ rfl, a3 3 _ rfl, (g6.mono a0), (g7.mono a0), (g8.mono a0)⟩
 generalize addF b5 h2 c1 = h5 at *
 refine aB ?_
 refine aC ?_
 refine dr (.func (.func 132) #[] #[(pP c1 0)]) (mR rfl) ?_
 simp only [pq]
 refine aI (v := (.bool (t.reads.any (fun q => eL q qq)))) e5 rfl (fn2 (KL _ _)) (AR _ _ _ c1 t.reads qq (e5).sat (h0.mono ((a1.trans a2).trans a0)) h4 (by omega)) (fun k3 e6 => ?_)
 refine wlK d7 ?_
 refine wp_cond_split rfl (fun a8 => ?_) (fun a8 => ?_)
 refine sk fun k4 d8 => ?_
 iterate 2 refine dy ?_
 refine wn d8 ?_
 refine aP ?_
 try simp only [xt]
 refine bR (cC rfl (gD rfl) (gD rfl)) ?_
 exact ⟨by unfold EC oH; rw [if_neg (by omega), UU hp (by (try simp only); rw [decide_eq_true (by omega), UU hq a8]; rfl), nD.2 ht], e6.gr.below⟩
 refine aH ?_
 refine d4 _ _ ?_
 refine aB ?_
 refine cO (j + 1) ?_
 refine dx ?_
 simp only [pq]
 refine aG ?_
 exact d1 _ _ _ (by omega) ⟨(j + 1), h5, _, rfl, rfl, rfl, e6, (a2.trans a0), (by omega), (xU hq hnw (by simpa using a8))⟩
 refine eT ?_
 refine wn b6 ?_
 refine aE fun k5 h6 => ?_
 refine aF ?_
 refine cV ?_
 refine b3 _ _ ?_
 refine aB ?_
 refine cO (k + 1) ?_
 refine dx ?_
 simp only [pq]
 refine aG ?_
 have a5 := St.drop a5 (.cons _ (List.Sublist.refl _))
 exact b1 _ _ _ (by omega) ⟨(k + 1), b5, _, rfl, rfl, rfl, a5, (a1.trans a2), (by omega), (xU hp hno (by (try simp only); rw [LK (by omega) hnw, Bool.and_false]))⟩
 refine eT ?_
 refine wn b2 ?_
 refine aE fun k6 h7 => ?_
 refine aF ?_
 refine cV ?_
 refine c3 _ _ ?_
 refine sk fun k7 d9 => ?_
 refine aC ?_
 refine wn d9 ?_
 refine aP ?_
 try simp only [xt]
 refine bR (cC rfl (gD rfl) (gD rfl)) ?_
 exact ⟨by unfold EC oH; rw [if_neg (by omega), LK (by omega) hno, nD.2 ht], b7.gr.below⟩
 refine qS ?_
 refine wn hK9 ?_
 refine aJ ?_
 refine sk fun k8 e2 => ?_
 refine aC ?_
 refine wn e2 ?_
 refine aP ?_
 try simp only [xt]
 refine bR (cC rfl (gD rfl) (gD rfl)) ?_
 exact ⟨by unfold EC; rw [if_pos c2], S8.gr.below⟩
def Hm (o : Option By) (b : Bool) (e : Int) (F : Fz) (u : Value) : Prop := ∃ x, u = .tuple #[x, .bool b, .int .i64 e] ∧ FndV F x o
def FdV (F : Fz) (u : Value) (b : Bool) (l : By) : Prop := ∃ a c, u = .agg #[.bool b, .slice a l.length c] ∧ Bs F (.slice a l.length c) l
theorem FdV.dropF {w : World} {F : Fz} {n : Nat} {cs : List Value} {T : TypeId} (hs : Sat w F) (hb : w.heap[n]? = some (.cells cs.toArray T (0, 0))) (hc : ∀ u ∈ cs, ∀ x, u ≠ bv x) {v : Value} {b : Bool} {l : By} (h : FdV F v b l) : FdV (Proofs.YtilgpdpooildcaaGreatDoor.dropF F n) v b l := by
 obtain ⟨a, c, rfl, h1⟩ := h
 exact ⟨a, c, rfl, h1.dropF hs hb hc⟩
theorem FdV.fnd {F : Fz} {u : Value} {p : Wr} (h : FdV F u (!p.gone) p.value) (hp : WrOk p) : FndV F u (if p.gone then none else some p.value) := by
 obtain ⟨a, c, rfl, h1⟩ := h
 cases hg : p.gone with
 | true =>
  have := hp.gone hg
  rw [this] at h1
  refine ⟨a, c, by rw [this]; rfl, h1⟩
 | false => exact ⟨a, c, rfl, h1⟩
theorem Al {α : Type} {l : List α} {g : α → Bool} {k : Nat} {p : α} (hp : l[k]? = some p) (h : (l.take k).any g = false) (hg : g p = true) : l.find? g = some p := by
 obtain ⟨hk, rfl⟩ := List.getElem?_eq_some_iff.1 hp
 rw [List.find?_eq_some_iff_getElem]
 exact ⟨hg, k, hk, rfl, fun j hj => by rw [uA.1 h j _ hj (List.getElem?_eq_getElem (by omega))]; rfl⟩
theorem Ga {α : Type} {l : List α} {g : α → Bool} (h : l.any g = false) : l.find? g = none := by
 rw [List.find?_eq_none]
 intro x hx
 have := List.any_eq_false.1 h x hx
 simpa using this
theorem WN (F : Fz) (w : World) (u v y z : Value) (l : aO) (t : Tx) (n k : By) (hs : Sat w F) (hl : Tns F u l) (hv : TxV F v t) (hn : Bs F y n) (hk : Bs F z k) (hf : ForestOk 60 l) (ht : TxOk t) (hnn : 1 ≤ n.length ∧ n.length ≤ 8) (hkk : 1 ≤ k.length ∧ k.length ≤ 16) :
    Calls Tryz.prog 89 #[u, v, y, z] w (dB w F (Hm (cM l t n k).1 (cM l t n k).2 0)) := by
 obtain ⟨a, c, rfl, hc1, hc2⟩ := Sl.shape hl
 unfold maxLen at hc2
 obtain ⟨x0, y0, x1, y1, rfl, h0, h1⟩ := hv
 obtain ⟨_, _, e0, q0, q1⟩ := Sl.shape h0
 obtain ⟨_, _, e1, q2, q3⟩ := Sl.shape h1
 injection e0 with _ _ e0
 injection e1 with _ _ e1
 subst e0 e1
 unfold maxLen at q1 q3
 obtain ⟨a2, c2, rfl, _⟩ := hn.shape
 obtain ⟨a3, c3, rfl, _⟩ := hk.shape
 have hb0 := OX.2 ⟨hf, ht⟩
 have hbw := fun r hr => (ht.writes r hr).small
 have S := St.start hs
 go_enter Tryz.func89, Tryz.ntmps89
 refine sk fun K1 hK1 => ?_
 refine bD S (v := fun n => .pointer (aA n 0)) rfl (cB (v := (.agg #[(.int .i64 t.start), (.slice x0 t.reads.length y0), (.slice x1 t.writes.length y1)])) rfl) (fun n2 w3 S4 => ?_)
 refine sA S4 (kL _) fun n5 w6 S7 => ?_
 refine aC ?_
 refine wn hK1 ?_
 refine aE fun K8 hK8 => ?_
 refine sk fun K9 hK9 => ?_
 refine dx ?_
 refine dR S7 1 Tryz.underlying141 (aZ) ?_
 refine aI (v := (.int .i64 (oU l t))) S7 rfl (fn2 (TZ _ _)) (IP _ _ _ _ l t (S7).sat hl ⟨_, _, _, _, rfl, h0, h1⟩ hbw) (fun h4 d7 => ?_)
 refine dy ?_
 simp only [pq]
 refine wn hK9 ?_
 refine sk fun h5 b3 => ?_
 refine dx ?_
 refine dr bF (cG (m := (oU l t)) (n := (0 : Int)) (b := false) rfl rfl (bne_eq_false_iff_eq.2 (hb0))) ?_
 refine wn b3 ?_
 refine aF ?_
 refine aH ?_
 refine hK8 _ _ ?_
 refine sk fun h6 b4 => ?_
 refine aC ?_
 refine aR d7 rfl (fn3 (RG _ _)) (zC _ _ _ _ _ l n k (d7).sat hl hn hk hf hnn hkk) ?_
 intro h7 h8 d8 e8 a4 e9
 obtain ⟨_, rfl, a8, a9, rfl, b5⟩ := e9
 have b5 : Bs _ (.slice a8 ((gQ l n k).getD []).length a9) ((gQ l n k).getD []) := b5
 refine aC ?_
 refine sA e8 (kL _) fun d9 h9 f0 => ?_
 refine sW 0 f0 (fT) fun i0 f1 => ?_
 refine dy ?_
 simp only [pq]
 refine wn b4 ?_
 refine aE fun i1 b6 => ?_
 refine sk fun i2 b7 => ?_
 refine dx ?_
 refine dr bF (cG (b := false) rfl rfl (by decide)) ?_
 refine wn b7 ?_
 refine aF ?_
 refine aH ?_
 refine b6 _ _ ?_
 refine aE fun i3 b9 => ?_
 refine sk fun i4 c0 => ?_
 refine aC ?_
 refine wn c0 ?_
 refine aM ?_
 refine bA (fun mm aa f2 => ∃ (i : Nat) (b0 : Fz) (a7 : Nat → Value), mm = t.writes.length - i ∧ a7 = dV aa ∧ aa = ⟨([(.slice a l.length c), (.agg #[(.int .i64 t.start), (.slice x0 t.reads.length y0), (.slice x1 t.writes.length y1)]), (.slice a2 n.length c2), (.slice a3 k.length c3), undef, (pP n2 0), undef, undef, (pP n5 0), (a7 9), (a7 10), (.int .i64 (oU l t)), (pP d9 0), (iI 0), undef, (a7 15), (.slice a l.length c), (.agg #[(.int .i64 t.start), (.slice x0 t.reads.length y0), (.slice x1 t.writes.length y1)]), (.int .i64 (oU l t)), (.int .i64 (oU l t)), bF, undef, undef, (.tuple #[(.agg #[(.bool (gQ l n k).isSome), (.slice a8 ((gQ l n k).getD []).length a9)]), (iI 0)]), (.slice a l.length c), (.slice a2 n.length c2), (.slice a3 k.length c3), (.tuple #[(.agg #[(.bool (gQ l n k).isSome), (.slice a8 ((gQ l n k).getD []).length a9)]), (iI 0)]), (.agg #[(.bool (gQ l n k).isSome), (.slice a8 ((gQ l n k).getD []).length a9)]), (iI 0), (iI 0), bF, undef, undef, (pP n2 2), (.slice x1 t.writes.length y1), (nI t.writes.length), (nI i)] ++ (usF a7 38 16 [undef])).toArray, []⟩ ∧ St w F f2 b0 [⟨d9, [(.bool (gQ l n k).isSome), (.slice a8 ((gQ l n k).getD []).length a9)], 72⟩, ⟨n5, [bF, Zn], 72⟩, ⟨n2, [(.int .i64 t.start), (.slice x0 t.reads.length y0), (.slice x1 t.writes.length y1)], 141⟩] [] ∧ Le d8 b0 ∧ (i ≤ t.writes.length) ∧ ((t.writes.take i).any (fun w : Wr => dA w (⟨n, k, false, ([] : By)⟩ : Wr)) = false)) _ ⟨0, d8, _, rfl, rfl, rfl, f1, Le.refl _, (by omega), rfl⟩ ?_
 rintro i5 i6 i7 ⟨i, b0, a7, rfl, -, hfr, a5, a0, hi, hno⟩ i8 c1
 simp only [uzF, Nat.reduceAdd] at hfr; subst hfr
 refine sk fun i9 b1 => ?_
 by_cases c4 : i < t.writes.length
 refine eZ ?_
 refine wn b1 ?_
 refine aE fun j0 c5 => ?_
 refine aJ ?_
 refine aH ?_
 refine c5 _ _ ?_
 refine aE fun j1 c6 => ?_
 refine aM ?_
 refine aE fun j2 c7 => ?_
 obtain ⟨p, hp⟩ : ∃ p, t.writes[i]? = some p := ⟨t.writes[i], List.getElem?_eq_getElem c4⟩
 have hpo := ht.writes p (List.mem_of_getElem? hp)
 have hps := hpo.small
 obtain ⟨f3, f4, c8, f5, f6, f7, f8, c9, d0, f9, g0, g1, g2, g3, g4, e2⟩ := Wrs.get (h1.mono (a4.trans a0)) hp
 refine aB ?_
 refine dr (pP f3 (f4 + i * 4)) (bP (i := i) (sz := 4) Tryz.underlying40 (fJ _) rfl c8 rfl (by omega) rfl) ?_
 refine dr _ (aD rfl (cN Tryz.underlying39 rfl (cD) (eW (St.fz a5 f9) (St.fz a5 g0) (St.fz a5 g1) (St.fz a5 g2)))) ?_
 simp only [pq]
 refine sA a5 (mI _) fun j3 j4 g5 => ?_
 refine sW 0 g5 (cD) fun j5 d1 => ?_
 refine wlK c7 ?_
 refine sk fun j6 d2 => ?_
 refine dR d1 0 Tryz.underlying39 (cD) ?_
 refine aC ?_
 refine dr (.agg #[(.slice a2 n.length c2), (.slice a3 k.length c3), bF, Zn]) (aL (fY rfl rfl) (by kernel_rfl)) ?_
 refine aI (v := (.bool (dA p (⟨n, k, false, ([] : By)⟩ : Wr)))) d1 rfl (fn2 (KH _ _)) (oS _ _ _ _ p (⟨n, k, false, ([] : By)⟩ : Wr) (d1).sat ⟨_, _, _, _, _, _, rfl, g3, g4, e2⟩ ⟨_, _, _, _, _, _, rfl, (hn.mono (a4.trans a0)), (hk.mono (a4.trans a0)), (Bs.nil _)⟩) (fun j7 a1 => ?_)
 refine wn d2 ?_
 refine wp_cond_split rfl (fun a6 => ?_) (fun a6 => ?_)
 refine aE fun j8 d3 => ?_
 refine aT b0 6 [(5, .made (fun F' u => Bs F' u p.value))] (by kernel_rfl) (by kernel_rfl) ?_
 simp only [dD]
 refine gf (BD _ _) ?_
 refine gl iE a1 0 ?_
 simp only [pq]
 refine gv (.bool (!p.gone)) (fun _ _ => CS rfl rfl) ?_
 refine gf (KA _ _) ?_
 refine gl bI a1 0 ?_
 simp only [pq]
 refine dF rfl rfl (fun j9 e3 hF => bO (cK (vs := #[(.slice c9 p.value.length d0)]) (lG rfl) rfl (gN _ _)) (cS a1.sat e3 (cZ _ _ _ p.value ((St.tells a1 e3)).sat e2 (by omega)))) (fun k0 => ?_)
 refine bY ?_
 intro k1 g6 b2
 obtain ⟨g7, e4, g8⟩ := b2.get 5 rfl rfl
 have g9 := St.gives a1 e4
 have h2 : Le _ _ := e4.le a1.sat
 have e5 := g8
 generalize g7 = k2 at *
 obtain ⟨d4, d5, rfl, _⟩ := e5.shape
 clear b2
 simp only [dE]
 refine dr (.agg #[(.bool (!p.gone)), (.slice d4 p.value.length d5)]) (aL (fY rfl rfl) (by kernel_rfl)) ?_
 simp only [pq]
 refine sW 2 g9 (fT) fun k3 e6 => ?_
 refine aC ?_
 refine wlK d3 ?_
 refine aP ?_
 try simp only [xt]
 refine bR (JQ rfl ⟨_, rfl, lR e6 2 Tryz.underlying72 (fT)⟩ (gD rfl) (gD rfl)) ?_
 have ho : Ht t.writes n k = some p := Al hp hno a6
 have hx : cM l t n k = (if p.gone then none else some p.value, true) := by unfold cM; rw [ho]
 rw [hx]
 exact ⟨_, _, rfl, e6.gr, _, rfl, FdV.fnd ⟨_, _, rfl, e5⟩ hpo⟩
 refine aH ?_
 refine c6 _ _ ?_
 refine aB ?_
 refine cO (i + 1) ?_
 refine dx ?_
 refine aG ?_
 have a1 := St.drop a1 (.cons _ (List.Sublist.refl _))
 exact c1 _ _ _ (by omega) ⟨(i + 1), b0, _, rfl, rfl, rfl, a1, a0, (by omega), (xU hp hno (by simpa using a6))⟩
 refine eT ?_
 simp only [pq]
 refine wn b1 ?_
 refine aE fun k4 h3 => ?_
 refine aF ?_
 refine cV ?_
 refine b9 _ _ ?_
 refine sk fun k5 d6 => ?_
 refine dR a5 0 Tryz.underlying72 (fT) ?_
 refine sW 1 a5 (fT) fun k6 e7 => ?_
 refine aC ?_
 refine wn d6 ?_
 refine aP ?_
 try simp only [xt]
 refine bR (JQ rfl ⟨_, rfl, lR e7 1 Tryz.underlying72 (fT)⟩ (gD rfl) (gD rfl)) ?_
 have ho : Ht t.writes n k = none := Ga (LK (by omega) hno)
 have hx : cM l t n k = (gQ l n k, false) := by unfold cM; rw [ho]
 rw [hx]
 exact ⟨_, _, rfl, e7.gr, _, rfl, _, _, rfl, (b5.mono a0)⟩
theorem BO {ws : List Wr} {i : Nat} {p : Wr} (hp : ws[i]? = some p) (n a b : By) (m : List Pr) : iP n a b m (ws.drop i) = match qN n a b m p with | some x => iP n a b x (ws.drop (i + 1)) | none => none := by
 obtain ⟨hi, rfl⟩ := List.getElem?_eq_some_iff.1 hp
 rw [List.drop_eq_getElem_cons hi]
 rfl
theorem zH {ws : List Wr} {i : Nat} {p : Wr} {n a b : By} {m : List Pr} {o : Option (List Pr)} (hp : ws[i]? = some p) (hr : inR n a b p = false) (h : iP n a b m (ws.drop i) = o) : iP n a b m (ws.drop (i + 1)) = o := by
 rw [BO hp] at h
 unfold qN at h
 rw [if_neg (by simp [hr])] at h
 exact h
theorem Am {ws : List Wr} {i : Nat} {p : Wr} {n a b : By} {m : List Pr} {o : Option (List Pr)} (hp : ws[i]? = some p) (hr : inR n a b p = true) (hg : p.gone = true) (h : iP n a b m (ws.drop i) = o) : iP n a b (gP m p.key) (ws.drop (i + 1)) = o := by
 rw [BO hp] at h
 unfold qN at h
 rw [if_pos hr, if_neg (by simp [hg]), oA hg] at h
 exact h
theorem An {ws : List Wr} {i : Nat} {p : Wr} {n a b : By} {m : List Pr} {o : Option (List Pr)} (hp : ws[i]? = some p) (hr : inR n a b p = true) (hg : p.gone = false) (hl : ¬ 60 < (eV m p.key p.value).length) (h : iP n a b m (ws.drop i) = o) : iP n a b (eV m p.key p.value) (ws.drop (i + 1)) = o := by
 rw [BO hp] at h
 unfold qN at h
 rw [if_pos hr, lL hg, if_neg (fun k => hl k.2)] at h
 exact h
theorem WO {ws : List Wr} {i : Nat} {p : Wr} {n a b : By} {m : List Pr} {o : Option (List Pr)} (hp : ws[i]? = some p) (hr : inR n a b p = true) (hg : p.gone = false) (hl : 60 < (eV m p.key p.value).length) (h : iP n a b m (ws.drop i) = o) : none = o := by
 rw [BO hp] at h
 unfold qN at h
 rw [if_pos hr, lL hg, if_pos ⟨hg, hl⟩] at h
 exact h
def Jv (o : Option (List Pr)) (F : Fz) (u : Value) : Prop := match o with
  | some R => PrsE R 0 F u
  | none => PrsE [] 11 F u
theorem SC (F : Fz) (w : World) (u v y z x : Value) (l : aO) (t : Tx) (n k j : By) (hs : Sat w F) (hl : Tns F u l) (hv : TxV F v t) (hn : Bs F y n) (hk : Bs F z k) (hj : Bs F x j) (hf : ForestOk 60 l) (ht : TxOk t) (hnn : 1 ≤ n.length ∧ n.length ≤ 8) (hkk : 1 ≤ k.length ∧ k.length ≤ 16) (hjj : 1 ≤ j.length ∧ j.length ≤ 16) :
    Calls Tryz.prog 91 #[u, v, y, z, x] w (dB w F (Jv (NP l t n k j))) := by
 obtain ⟨a, c, rfl, hc1, hc2⟩ := Sl.shape hl
 unfold maxLen at hc2
 obtain ⟨x0, y0, x1, y1, rfl, h0, h1⟩ := hv
 obtain ⟨_, _, e0, q0, q1⟩ := Sl.shape h0
 obtain ⟨_, _, e1, q2, q3⟩ := Sl.shape h1
 injection e0 with _ _ e0
 injection e1 with _ _ e1
 subst e0 e1
 unfold maxLen at q1 q3
 obtain ⟨a2, c2, rfl, _⟩ := hn.shape
 obtain ⟨a3, c3, rfl, _⟩ := hk.shape
 obtain ⟨a4, c4, rfl, _⟩ := hj.shape
 have hb0 := OX.2 ⟨hf, ht⟩
 have hbw := fun r hr => (ht.writes r hr).small
 have hnw := ht.nw
 obtain ⟨o, ho⟩ : ∃ o, NP l t n k j = o := ⟨_, rfl⟩
 rw [ho]
 have hsc : iP n k j (gR (bG l n) k j) (t.writes.drop 0) = o := ho
 have S := St.start hs
 go_enter Tryz.func91, Tryz.ntmps91
 refine sk fun K1 hK1 => ?_
 refine bD S (v := fun n => .pointer (aA n 0)) rfl (cB (v := (.agg #[(.int .i64 t.start), (.slice x0 t.reads.length y0), (.slice x1 t.writes.length y1)])) rfl) (fun n2 w3 S4 => ?_)
 iterate 2 refine dy ?_
 refine wn hK1 ?_
 refine aE fun K5 hK5 => ?_
 refine sk fun K6 hK6 => ?_
 refine dx ?_
 refine dR S4 0 Tryz.underlying141 (aZ) ?_
 simp only [pq]
 refine aI (v := (.int .i64 (oU l t))) S4 rfl (fn2 (TZ _ _)) (IP _ _ _ _ l t (S4).sat hl ⟨_, _, _, _, rfl, h0, h1⟩ hbw) (fun w7 S8 => ?_)
 refine dy ?_
 refine wn hK6 ?_
 refine sk fun K9 hK9 => ?_
 refine dx ?_
 refine dr bF (cG (m := (oU l t)) (n := (0 : Int)) (b := false) rfl rfl (bne_eq_false_iff_eq.2 (hb0))) ?_
 simp only [pq]
 refine wn hK9 ?_
 refine aF ?_
 refine aH ?_
 refine hK5 _ _ ?_
 refine sk fun k3 d9 => ?_
 refine aC ?_
 refine aR S8 rfl (fn4 (Fc _ _)) (OL _ _ _ _ _ _ l n k j (S8).sat hl hn hk hj hf hnn hkk hjj) ?_
 intro k4 k5 g3 h3 a1 h4
 obtain ⟨_, rfl, d6⟩ := h4
 obtain ⟨b9, b6, rfl, g4, h5⟩ := Sl.shape d6
 unfold maxLen at h5
 have g4 : (gR (bG l n) k j).length ≤ b6 := g4
 have d6 : Prs _ (.slice b9 (gR (bG l n) k j).length b6) (gR (bG l n) k j) := d6
 refine aC ?_
 refine wn d9 ?_
 refine aE fun k6 e2 => ?_
 refine sk fun k7 e3 => ?_
 refine dx ?_
 refine dr bF (cG (b := false) rfl rfl (by decide)) ?_
 simp only [pq]
 refine wn e3 ?_
 refine aF ?_
 refine aH ?_
 refine e2 _ _ ?_
 refine aE fun k8 e4 => ?_
 refine sk fun k9 e5 => ?_
 refine aC ?_
 refine wn e5 ?_
 refine aM ?_
 refine bA (fun mm aa h6 => ∃ (i : Nat) (m : List Pr) (v : Value) (b1 : Fz) (b0 : Nat → Value), mm = t.writes.length - i ∧ b0 = dV aa ∧ aa = ⟨([(.slice a l.length c), (.agg #[(.int .i64 t.start), (.slice x0 t.reads.length y0), (.slice x1 t.writes.length y1)]), (.slice a2 n.length c2), (.slice a3 k.length c3), (.slice a4 j.length c4), undef, (pP n2 0), undef, undef, undef, (b0 10), (b0 11), (.int .i64 (oU l t)), v, (b0 14), undef, (b0 16), (b0 17), (.slice a l.length c), (.agg #[(.int .i64 t.start), (.slice x0 t.reads.length y0), (.slice x1 t.writes.length y1)]), (.int .i64 (oU l t)), (.int .i64 (oU l t)), bF, undef, (.tuple #[(.slice b9 (gR (bG l n) k j).length b6), (iI 0)]), (.slice a l.length c), (.slice a2 n.length c2), (.slice a3 k.length c3), (.slice a4 j.length c4), (.tuple #[(.slice b9 (gR (bG l n) k j).length b6), (iI 0)]), (.slice b9 (gR (bG l n) k j).length b6), (iI 0), (iI 0), bF, undef, (pP n2 2), (.slice x1 t.writes.length y1), (nI t.writes.length), (nI i)] ++ (usF b0 39 46 [undef])).toArray, []⟩ ∧ St w F h6 b1 [⟨n2, [(.int .i64 t.start), (.slice x0 t.reads.length y0), (.slice x1 t.writes.length y1)], 141⟩] [] ∧ Le g3 b1 ∧ (i ≤ t.writes.length) ∧ (Prs b1 v m) ∧ (TreeOk 60 m) ∧ (iP n k j m (t.writes.drop i) = o)) _ ⟨0, (gR (bG l n) k j), (.slice b9 (gR (bG l n) k j).length b6), g3, _, rfl, rfl, rfl, h3, Le.refl _, (by omega), d6, ((kF hf n).range k j), hsc⟩ ?_
 rintro l0 l1 l2 ⟨i, m, v, b1, b0, rfl, -, hfr, b7, a0, hi, hvm, okm, hsm⟩ l3 a5
 simp only [uzF, Nat.reduceAdd] at hfr; subst hfr
 refine sk fun l4 c0 => ?_
 by_cases e6 : i < t.writes.length
 refine eZ ?_
 refine wn c0 ?_
 refine aE fun l5 e7 => ?_
 refine aJ ?_
 refine aH ?_
 refine e7 _ _ ?_
 refine aE fun l6 a6 => ?_
 refine aM ?_
 refine aE fun l7 e8 => ?_
 obtain ⟨p, hp⟩ : ∃ p, t.writes[i]? = some p := ⟨t.writes[i], List.getElem?_eq_getElem e6⟩
 have hpo := ht.writes p (List.mem_of_getElem? hp)
 have hps := hpo.small
 obtain ⟨h7, h8, e9, h9, i0, c1, c5, c6, c7, i1, i2, i3, i4, g5, c8, g6⟩ := Wrs.get (h1.mono (a1.trans a0)) hp
 refine aB ?_
 refine dr (pP h7 (h8 + i * 4)) (bP (i := i) (sz := 4) Tryz.underlying40 (fJ _) rfl e9 rfl (by omega) rfl) ?_
 refine dr _ (aD rfl (cN Tryz.underlying39 rfl (cD) (eW (St.fz b7 i1) (St.fz b7 i2) (St.fz b7 i3) (St.fz b7 i4)))) ?_
 simp only [pq]
 refine sA b7 (mI _) fun l8 l9 i5 => ?_
 refine sW 0 i5 (cD) fun m0 d7 => ?_
 refine wlK e8 ?_
 refine aE fun m1 f0 => ?_
 refine aE fun m2 a8 => ?_
 by_cases e1 : p.name = n
 refine aB ?_
 refine aC ?_
 refine aI (v := bT) d7 rfl (fn2 (jM _ _)) (gJ (cT _ _ _ _ p.name n (d7).sat g5 (hn.mono (a1.trans a0))) (beq_iff_eq.2 (e1))) (fun m3 g7 => ?_)
 refine aC ?_
 refine aI (v := (.int .i64 (eY p.key k))) g7 rfl (fn2 (vX _ _)) (fA _ _ _ _ p.key k (g7).sat c8 (hk.mono (a1.trans a0))) (fun m4 c9 => ?_)
 simp only [pq]
 by_cases i6 : (eY p.key k) < (0 : Int)
 refine eZ ?_
 refine aC ?_
 refine wlK a8 ?_
 refine aJ ?_
 refine cV ?_
 refine a6 _ _ ?_
 refine aB ?_
 refine cO (i + 1) ?_
 refine dx ?_
 refine aG ?_
 have c9 := St.drop c9 (.cons _ (List.Sublist.refl _))
 exact a5 _ _ _ (by omega) ⟨(i + 1), m, v, b1, _, rfl, rfl, rfl, c9, a0, (by omega), hvm, okm, (zH hp (by unfold inR; rw [beq_iff_eq.2 e1, uY, uZ]; first | rw [decide_eq_false (by omega)]; rfl | rw [decide_eq_true (by omega), decide_eq_false (by omega)]; rfl) hsm)⟩
 refine eT ?_
 refine aC ?_
 refine aI (v := (.int .i64 (eY p.key j))) c9 rfl (fn2 (vX _ _)) (fA _ _ _ _ p.key j (c9).sat c8 (hj.mono (a1.trans a0))) (fun m5 a7 => ?_)
 simp only [pq]
 by_cases i7 : (0 : Int) < (eY p.key j)
 refine sX ?_
 refine dp ?_
 refine wlK a8 ?_
 refine aJ ?_
 refine cV ?_
 refine a6 _ _ ?_
 refine aB ?_
 refine cO (i + 1) ?_
 refine dx ?_
 simp only [pq]
 refine aG ?_
 have a7 := St.drop a7 (.cons _ (List.Sublist.refl _))
 exact a5 _ _ _ (by omega) ⟨(i + 1), m, v, b1, _, rfl, rfl, rfl, a7, a0, (by omega), hvm, okm, (zH hp (by unfold inR; rw [beq_iff_eq.2 e1, uY, uZ]; first | rw [decide_eq_false (by omega)]; rfl | rw [decide_eq_true (by omega), decide_eq_false (by omega)]; rfl) hsm)⟩
 refine mO ?_
 refine dp ?_
 refine wlK a8 ?_
 refine aF ?_
 refine aH ?_
 refine f0 _ _ ?_
 refine sk fun m6 f1 => ?_
 refine dy ?_
 simp only [pq]
 refine wn f1 ?_
 refine aE fun m7 b2 => ?_
 refine aE fun m8 b3 => ?_
 have hin : inR n k j p = true := by unfold inR; rw [beq_iff_eq.2 e1, uY, uZ, decide_eq_true (by omega), decide_eq_true (by omega)]; rfl
 cases hg : p.gone with
 | true =>
  rw [hg] at a7
  refine aB ?_
  refine aC ?_
  refine wlK b3 ?_
  refine aJ ?_
  refine aB ?_
  refine aC ?_
  refine aR a7 rfl (fn2 (DJ _ _)) (wA _ _ _ _ m p.key (a7).sat hvm c8 okm ⟨hpo.key1, hpo.key2⟩) ?_
  intro m9 n0 i8 f2 f3 i9
  obtain ⟨_, rfl, d8⟩ := i9
  obtain ⟨g8, f4, rfl, g9, j0⟩ := Sl.shape d8
  unfold maxLen at j0
  have g9 : (gP m p.key).length ≤ f4 := g9
  have d8 : Prs _ (.slice g8 (gP m p.key).length f4) (gP m p.key) := d8
  refine aC ?_
  refine wlK b2 ?_
  refine aE fun n1 f5 => ?_
  refine sk fun n3 f6 => ?_
  refine dx ?_
  refine dr bF (cG (b := false) rfl rfl (by decide)) ?_
  simp only [pq]
  refine wn f6 ?_
  refine aF ?_
  refine aH ?_
  refine f5 _ _ ?_
  refine aB ?_
  refine aC ?_
  refine wlK a6 ?_
  refine aB ?_
  refine cO (i + 1) ?_
  refine dx ?_
  simp only [pq]
  refine aG ?_
  have f2 := St.drop f2 (.cons _ (List.Sublist.refl _))
  exact a5 _ _ _ (by omega) ⟨(i + 1), (gP m p.key), (.slice g8 (gP m p.key).length f4), i8, _, rfl, rfl, rfl, f2, (a0.trans f3), (by omega), d8, okm.del, (Am hp hin hg hsm)⟩
 | false =>
  rw [hg] at a7
  by_cases hfit : 60 < (eV m p.key p.value).length
  refine aB ?_
  refine aC ?_
  refine wlK b3 ?_
  refine aF ?_
  refine aB ?_
  refine aC ?_
  refine dr (.agg #[(.slice c1 p.key.length c5), (.slice c6 p.value.length c7)]) (aL (fY rfl rfl) (by kernel_rfl)) ?_
  simp only [pq]
  refine aR a7 rfl (fn2 (tQ _ _)) (sE _ _ _ _ m (p.key, p.value) (a7).sat hvm ⟨_, _, _, _, rfl, c8, g6⟩ okm hps.2.1 hps.2.2 (tR.2 ⟨hpo.key1, hpo.key2, hpo.value⟩) hfit) ?_
  intro n4 n5 n6 j1 j2 j3
  obtain ⟨_, rfl, j4⟩ := j3
  obtain ⟨n7, n8, rfl, n9, j5⟩ := Sl.shape j4
  unfold maxLen at j5
  refine aC ?_
  refine wlK b2 ?_
  refine aE fun o0 j6 => ?_
  refine sk fun o1 f7 => ?_
  refine dx ?_
  refine dr bT (cG (b := true) rfl rfl (by decide)) ?_
  simp only [pq]
  refine wn f7 ?_
  refine aJ ?_
  refine sk fun o2 f8 => ?_
  refine aC ?_
  refine wn f8 ?_
  refine aP ?_
  try simp only [xt]
  refine bR (cC rfl (gD rfl) (gD rfl)) ?_
  rw [← WO hp hin hg hfit hsm]
  exact ⟨_, _, rfl, j1.gr, _, rfl, Sl.nil _ _ _⟩
  refine aB ?_
  refine aC ?_
  refine wlK b3 ?_
  refine aF ?_
  refine aB ?_
  refine aC ?_
  refine dr (.agg #[(.slice c1 p.key.length c5), (.slice c6 p.value.length c7)]) (aL (fY rfl rfl) (by kernel_rfl)) ?_
  simp only [pq]
  refine aR a7 rfl (fn2 (tQ _ _)) (tV _ _ _ _ m (p.key, p.value) (a7).sat hvm ⟨_, _, _, _, rfl, c8, g6⟩ okm hps.2.1 hps.2.2 (tR.2 ⟨hpo.key1, hpo.key2, hpo.value⟩) hfit) ?_
  intro j7 o3 f9 g0 d0 g1
  obtain ⟨_, rfl, a9⟩ := g1
  obtain ⟨d1, b4, rfl, d2, g2⟩ := Sl.shape a9
  unfold maxLen at g2
  have d2 : (eV m p.key p.value).length ≤ b4 := d2
  have a9 : Prs _ (.slice d1 (eV m p.key p.value).length b4) (eV m p.key p.value) := a9
  refine aC ?_
  refine wlK b2 ?_
  refine aE fun j8 d3 => ?_
  refine sk fun j9 d4 => ?_
  refine dx ?_
  refine dr bF (cG (b := false) rfl rfl (by decide)) ?_
  simp only [pq]
  refine wn d4 ?_
  refine aF ?_
  refine aH ?_
  refine d3 _ _ ?_
  refine aB ?_
  refine aC ?_
  refine wlK a6 ?_
  refine aB ?_
  refine cO (i + 1) ?_
  refine dx ?_
  simp only [pq]
  refine aG ?_
  have g0 := St.drop g0 (.cons _ (List.Sublist.refl _))
  exact a5 _ _ _ (by omega) ⟨(i + 1), (eV m p.key p.value), (.slice d1 (eV m p.key p.value).length b4), f9, _, rfl, rfl, rfl, g0, (a0.trans d0), (by omega), a9, (okm.put ⟨hpo.key1, hpo.key2, hpo.value⟩ (by omega)), (An hp hin hg hfit hsm)⟩
 refine aB ?_
 refine aC ?_
 refine aI (v := bF) d7 rfl (fn2 (jM _ _)) (gJ (cT _ _ _ _ p.name n (d7).sat g5 (hn.mono (a1.trans a0))) (beq_eq_false_iff_ne.2 (e1))) (fun k0 b5 => ?_)
 refine aC ?_
 refine wlK a8 ?_
 refine aJ ?_
 refine cV ?_
 refine a6 _ _ ?_
 refine aB ?_
 refine cO (i + 1) ?_
 refine dx ?_
 refine aG ?_
 have b5 := St.drop b5 (.cons _ (List.Sublist.refl _))
 exact a5 _ _ _ (by omega) ⟨(i + 1), m, v, b1, _, rfl, rfl, rfl, b5, a0, (by omega), hvm, okm, (zH hp (by unfold inR; rw [beq_eq_false_iff_ne.2 e1]; rfl) hsm)⟩
 refine eT ?_
 simp only [pq]
 refine wn c0 ?_
 refine aE fun k1 h2 => ?_
 refine aF ?_
 refine cV ?_
 refine e4 _ _ ?_
 refine sk fun k2 d5 => ?_
 refine aC ?_
 refine wn d5 ?_
 refine aP ?_
 try simp only [xt]
 refine bR (cC rfl (gD rfl) (gD rfl)) ?_
 rw [← show some m = o from by rw [List.drop_of_length_le (by omega)] at hsm; exact hsm]
 exact ⟨_, _, rfl, b7.gr, _, rfl, hvm⟩
theorem Ao {r : Wr} (h : WrOk r) : ∃ g, iT [] [r] = (0, g) := by
 rw [RV h]
 cases hw : eR [] r with
 | some g => exact ⟨g, rfl⟩
 | none =>
  have := (tI (m := 0) (ForestOk.nil 0) h (by omega) hw).1
  simp at this
theorem Sl.cap {α : Type} {k : Nat} {R : Fz → List Value → α → Prop} {F : Fz} {a : Option Addr} {n c c' : Nat} {l : List α} (h : Sl k R F (.slice a n c) l) (h1 : n ≤ c') (h2 : c' ≤ c) : Sl k R F (.slice a n c') l := by
 have hn := Sl.len h
 obtain ⟨xs, ⟨a', c0, e1, q1, q2, q3, q4⟩, hr, hk⟩ := h
 injection e1 with e1 e2 e3
 subst e1 e3
 exact ⟨xs, ⟨a, c', by rw [hn], by omega, by omega, fun h => by have := q3 h; omega, q4⟩, hr, hk⟩
theorem zI (F : Fz) (w : World) (v : Value) (m : Cm) (hs : Sat w F) (hv : CmV F v m) (hm : CmOk m) :
    Calls Tryz.prog 120 #[v] w (cU w (.int .i64 0)) := by
 obtain ⟨x1, y1, rfl, h1⟩ := hv
 obtain ⟨_, _, e1, q2, q3⟩ := Sl.shape h1
 injection e1 with _ _ e1
 subst e1
 unfold maxLen at q3
 have hmt := hm.turn
 have hms := hm.some
 have S := St.start hs
 go_enter Tryz.func120, Tryz.ntmps120
 refine sk fun K1 hK1 => ?_
 refine bD S (v := fun n => .pointer (aA n 0)) rfl (cB (v := (.agg #[(nI m.turn), (.slice x1 m.writes.length y1)])) rfl) (fun n2 w3 S4 => ?_)
 refine dy ?_
 refine wn hK1 ?_
 refine aE fun K5 hK5 => ?_
 refine sk fun K6 hK6 => ?_
 refine aC ?_
 refine eT ?_
 refine aC ?_
 refine mO ?_
 refine dp ?_
 refine wn hK6 ?_
 refine aF ?_
 refine aH ?_
 refine hK5 _ _ ?_
 refine aE fun K7 hK7 => ?_
 refine sk fun K8 hK8 => ?_
 refine aC ?_
 refine eT ?_
 refine wn hK8 ?_
 refine aF ?_
 refine aH ?_
 refine hK7 _ _ ?_
 refine aE fun K9 hK9 => ?_
 refine sk fun f4 b2 => ?_
 refine aC ?_
 refine wn b2 ?_
 refine aM ?_
 refine bA (fun mm aa d4 => ∃ (k : Nat) (b0 : Fz) (b1 : Nat → Value), mm = m.writes.length - k ∧ b1 = dV aa ∧ aa = ⟨([(.agg #[(nI m.turn), (.slice x1 m.writes.length y1)]), (pP n2 0)] ++ (usF b1 2 5 ([(pP n2 0), (nI m.turn), bF, bF, (pP n2 0), (nI m.turn), bF, bF, (pP n2 1), (.slice x1 m.writes.length y1), (nI m.writes.length), bF, (pP n2 1), (.slice x1 m.writes.length y1), (nI m.writes.length), (nI k)] ++ (usF b1 23 16 [])))).toArray, []⟩ ∧ St w F d4 b0 [⟨n2, [(nI m.turn), (.slice x1 m.writes.length y1)], 168⟩] [] ∧ Le F b0 ∧ (k ≤ m.writes.length)) _ ⟨0, F, _, rfl, rfl, rfl, S4, Le.refl _, (by omega)⟩ ?_
 rintro f5 f6 f7 ⟨k, b0, b1, rfl, -, hfr, a7, a8, hk⟩ f8 b3
 simp only [uzF, Nat.reduceAdd] at hfr; subst hfr
 refine sk fun f9 a9 => ?_
 by_cases b4 : k < m.writes.length
 refine eZ ?_
 refine wn a9 ?_
 refine aE fun g0 b5 => ?_
 refine aJ ?_
 refine aH ?_
 refine b5 _ _ ?_
 refine aE fun g1 b6 => ?_
 refine aM ?_
 refine aE fun g2 b7 => ?_
 obtain ⟨p, hp⟩ : ∃ p, m.writes[k]? = some p := ⟨m.writes[k], List.getElem?_eq_getElem b4⟩
 have hpo := hm.ok p (List.mem_of_getElem? hp)
 obtain ⟨gx, hae⟩ := Ao hpo
 obtain ⟨d5, d6, b9, a1, a2, a3, a4, a5, a6, d7, d8, d9, e0, e2, e3, e4⟩ := Wrs.get (h1.mono a8) hp
 refine aB ?_
 refine dx ?_
 refine dr (pP d5 (d6 + k * 4)) (bP (i := k) (sz := 4) Tryz.underlying40 (fJ _) rfl b9 rfl (by omega) rfl) ?_
 refine dr _ (aD rfl (cN Tryz.underlying39 rfl (cD) (eW (St.fz a7 d7) (St.fz a7 d8) (St.fz a7 d9) (St.fz a7 e0)))) ?_
 simp only [pq]
 refine sA a7 (mI _) fun g3 g4 e5 => ?_
 refine dy ?_
 refine sW 0 e5 (cD) fun g5 c9 => ?_
 simp only [pq]
 refine wlK b7 ?_
 refine aE fun g6 c0 => ?_
 refine sk fun g7 c1 => ?_
 refine dx ?_
 refine gB ?_
 refine wn c1 ?_
 refine aF ?_
 refine aH ?_
 refine c0 _ _ ?_
 refine sk fun g8 c2 => ?_
 refine dR c9 0 Tryz.underlying39 (cD) ?_
 simp only [pq]
 refine bD c9 (v := fun n => .slice (aA n 0) 1 1) rfl (bS (ps := #[(0, (.agg #[(.slice a1 p.name.length a2), (.slice a3 p.key.length a4), (.bool p.gone), (.slice a5 p.value.length a6)]))]) (cells := #[(.slice a1 p.name.length a2), (.slice a3 p.key.length a4), (.bool p.gone), (.slice a5 p.value.length a6)]) (E := 39) (cH rfl) (fun w => by kernel_rfl)) (fun d0 e6 e7 => ?_)
 simp only [pq]
 obtain ⟨d1, a0, c3⟩ := St.freezeBlk e7 (i := 0) rfl
 have e8 : Wrs _ (.slice (some ⟨d0, 0, none⟩) 1 1) [p] := gF (R := WrC) (l := [p]) (el := [[(.slice a1 p.name.length a2), (.slice a3 p.key.length a4), (.bool p.gone), (.slice a5 p.value.length a6)]]) c3 rfl ⟨⟨_, _, _, _, rfl, (e2.mono a0), (e3.mono a0), rfl, (e4.mono a0)⟩, trivial⟩ (by simp) (by unfold maxLen; simp)
 generalize addF b0 e6 d0 = g9 at *
 refine aR d1 rfl (fn2 (DI _ _)) (xR (d1).sat (Sl.nil _ _ _) e8 (ForestOk.nil 60) (by simpa using hpo) hae) ?_
 intro h0 h2 e9 c4 c5 f0
 obtain ⟨_, rfl, c6⟩ := f0
 obtain ⟨f1, d2, rfl, d3, f2⟩ := Sl.shape c6
 unfold maxLen at f2
 have d3 : gx.length ≤ d2 := d3
 have c6 : Tns _ (.slice f1 gx.length d2) gx := c6
 refine aC ?_
 refine wn c2 ?_
 refine sk fun h3 c7 => ?_
 refine dx ?_
 refine dr bF (cG (b := false) rfl rfl (by decide)) ?_
 simp only [pq]
 refine wn c7 ?_
 refine aF ?_
 refine aH ?_
 refine b6 _ _ ?_
 refine aB ?_
 refine cO (k + 1) ?_
 refine dx ?_
 refine aG ?_
 have c4 := St.drop c4 (.cons _ (List.Sublist.refl _))
 exact b3 _ _ _ (by omega) ⟨(k + 1), e9, _, rfl, rfl, rfl, c4, ((a8.trans a0).trans c5), (by omega)⟩
 refine eT ?_
 simp only [pq]
 refine wn a9 ?_
 refine aE fun h4 f3 => ?_
 refine aF ?_
 refine cV ?_
 refine hK9 _ _ ?_
 refine sk fun h5 c8 => ?_
 refine dy ?_
 refine wn c8 ?_
 refine aP ?_
 try simp only [xt]
 refine bR (bK rfl (gD rfl)) ?_
 exact ⟨rfl, a7.gr.below⟩
theorem wC {w0 w : World} {F0 F : Fz} {L0 : List Blk} {M0 : List RowP} {v u : Value} {l p : By}
    (S : St w0 F0 w F L0 (bZ 1 ByC ByC.mono 5 w0.heap.size v l :: M0)) (hu : Bs F u p) (hl : l.length ≤ 100000) (hp : p.length ≤ 1000) :
    Calls Tryz.prog 147 #[v, u] w fun e w' => ∃ v', e = .returned v' ∧ St w0 F0 w' F L0 (bZ 1 ByC ByC.mono 5 w0.heap.size v' (l ++ dK p) :: M0) := by
 obtain ⟨a, c, rfl, hc1, hc2⟩ := (S.own (i := 0) rfl).shape
 obtain ⟨x, y, rfl, _⟩ := hu.shape
 unfold maxLen at hc2
 obtain ⟨i5, hi5, hz5, hs5, hb5⟩ := info_parts rK
 go_enter Tryz.func147, Tryz.ntmps147
 refine sk fun K1 hK1 => ?_
 refine dy ?_
 refine wn hK1 ?_
 refine sk fun K2 hK2 => ?_
 refine aC ?_
 refine dr (bv (b8 p.length)) (bB (v := (nI p.length)) rfl (iY p.length _)) ?_
 refine bD S (v := fun n => .slice (aA n 0) 1 1) rfl (bS (ps := #[(0, (bv (b8 p.length)))]) (cells := #[(bv (b8 p.length))]) (E := 5) (cH rfl) (fun w => by kernel_rfl)) (fun n3 w4 S5 => ?_)
 refine eN (i := 0) (r := 0) (p := (b8 p.length)) (cs := [(bv (b8 p.length))]) S5 rfl i5 (.int .u8 0) 1 Tryz.underlying25 hi5 hz5 hs5 hb5 rfl (by decide) rfl rfl rfl rfl rfl (sF (b8 p.length)) (rfl) (Nat.le_refl _) S5.gr.below.size (by unfold maxLen; omega) (by omega) ?_
 intro v6 w7 S8 hn9
 simp only [pq]
 have S8 := St.drop S8 (.cons _ (List.Sublist.refl _))
 refine dx ?_
 refine eE (r := 0) (u := (.slice x p.length y)) S8 rfl i5 (.int .u8 0) 1 Tryz.underlying25 hi5 hz5 hs5 hb5 rfl (by decide) rfl rfl rfl (Sl.toW (Bs.sl hu) (S8).sat) ByC.one (Nat.le_refl _) S8.gr.below.size (by unfold maxLen; simp only [List.length_append, List.length_cons, List.length_nil]; omega) (by simp only [List.length_append, List.length_cons, List.length_nil]; omega) ?_
 intro a1 a2 a0 a3
 simp only [pq]
 have a0 : St w0 F0 a2 F (L0) (bZ 1 ByC ByC.mono 5 w0.heap.size a1 ((l ++ [(b8 p.length)]) ++ p) :: M0) := a0
 refine dy ?_
 refine wn hK2 ?_
 refine aP ?_
 try simp only [xt]
 refine bR (bK rfl (gD rfl)) ?_
 ·have he : (l ++ [b8 p.length]) ++ p = l ++ dK p := by unfold dK; simp
  rw [he] at a0
  exact ⟨_, rfl, a0⟩
def iK (t n : Nat) : By := [b8 (t / 65536), b8 (t / 256), b8 t, b8 n]
theorem SD (t : Nat) (ws : List Wr) : eQ t ws = iK t ws.length ++ ws.flatMap kT := rfl
theorem mS (p : By) : (dK p).length = 1 + p.length := by simp [dK]; omega
theorem UV {ws : List Wr} (h : ∀ w ∈ ws, WrOk w) : (ws.flatMap kT).length ≤ 59 * ws.length := by
 induction ws with
 | nil => simp
 | cons w ws ih =>
  have hw := h w (by simp)
  have h1 := hw.name.2; have h2 := hw.key2; have h3 := hw.value
  have := VZ hw.gone
  have := ih (fun x hx => h x (by simp [hx]))
  rw [List.flatMap_cons, List.length_append, List.length_cons]
  omega
theorem Ap {H : By} {ws : List Wr} {k : Nat} {p : Wr} (hp : ws[k]? = some p) (hg : p.gone = true) : (((H ++ (ws.take k).flatMap kT) ++ dK p.name) ++ dK p.key) ++ [(255 : UInt8)] = H ++ (ws.take (k + 1)).flatMap kT := by
 rw [fK hp, List.flatMap_append]
 simp [kT, hg]
theorem Gb {H : By} {ws : List Wr} {k : Nat} {p : Wr} (hp : ws[k]? = some p) (hg : p.gone = false) : (((H ++ (ws.take k).flatMap kT) ++ dK p.name) ++ dK p.key) ++ dK p.value = H ++ (ws.take (k + 1)).flatMap kT := by
 rw [fK hp, List.flatMap_append]
 simp [kT, hg]
def Kj (b : By) (e : Int) (F : Fz) (u : Value) : Prop := ∃ x, u = .tuple #[x, .int .i64 e] ∧ Bs F x b
theorem OY (F : Fz) (w : World) (v : Value) (m : Cm) (hs : Sat w F) (hv : CmV F v m) (hm : CmOk m) :
    Calls Tryz.prog 134 #[v] w (dB w F (Kj (eQ m.turn m.writes) 0)) := by
 obtain ⟨x1, y1, rfl, h1⟩ := hv
 obtain ⟨_, _, e1, q2, q3⟩ := Sl.shape h1
 injection e1 with _ _ e1
 subst e1
 unfold maxLen at q3
 have hms := hm.some
 obtain ⟨i5, hi5, hz5, hs5, hb5⟩ := info_parts rK
 have S := St.start hs
 go_enter Tryz.func134, Tryz.ntmps134
 refine sk fun K1 hK1 => ?_
 refine bD S (v := fun n => .pointer (aA n 0)) rfl (cB (v := (.agg #[(nI m.turn), (.slice x1 m.writes.length y1)])) rfl) (fun n2 w3 S4 => ?_)
 iterate 2 refine dy ?_
 refine wn hK1 ?_
 refine aE fun K5 hK5 => ?_
 refine sk fun K6 hK6 => ?_
 refine dR S4 0 Tryz.underlying168 (oM) ?_
 simp only [pq]
 refine aI (v := (iI 0)) S4 rfl (fn1 (Ff _ _)) (zI _ _ _ m (S4).sat ⟨_, _, rfl, h1⟩ hm) (fun w7 S8 => ?_)
 refine dy ?_
 refine wn hK6 ?_
 refine sk fun K9 hK9 => ?_
 refine dx ?_
 refine dr bF (cG (b := false) rfl rfl (by decide)) ?_
 simp only [pq]
 refine wn hK9 ?_
 refine aF ?_
 refine aH ?_
 refine hK5 _ _ ?_
 refine sk fun g8 b4 => ?_
 refine aC ?_
 refine dr (nI (m.turn / 65536)) (BM (m := m.turn) (n := 16) rfl rfl (by decide)) ?_
 simp only [pq]
 refine dr (bv (b8 (m.turn / 65536))) (bB (v := (nI (m.turn / 65536))) rfl (iY (m.turn / 65536) _)) ?_
 refine aC ?_
 refine dr (nI (m.turn / 256)) (BM (m := m.turn) (n := 8) rfl rfl (by decide)) ?_
 refine dr (bv (b8 (m.turn / 256))) (bB (v := (nI (m.turn / 256))) rfl (iY (m.turn / 256) _)) ?_
 refine aC ?_
 refine dr (bv (b8 m.turn)) (bB (v := (nI m.turn)) rfl (iY m.turn _)) ?_
 refine aC ?_
 refine dr (bv (b8 m.writes.length)) (bB (v := (nI m.writes.length)) rfl (iY m.writes.length _)) ?_
 simp only [pq]
 refine bD S8 (v := fun n => .slice (aA n 0) 4 4) rfl (bS (ps := #[(0, (bv (b8 (m.turn / 65536)))), (1, (bv (b8 (m.turn / 256)))), (2, (bv (b8 m.turn))), (3, (bv (b8 m.writes.length)))]) (cells := #[(bv (b8 (m.turn / 65536))), (bv (b8 (m.turn / 256))), (bv (b8 m.turn)), (bv (b8 m.writes.length))]) (E := 5) (mN rfl rfl rfl rfl) (fun w => by kernel_rfl)) (fun b5 e3 d7 => ?_)
 refine dy ?_
 refine wn b4 ?_
 refine aE fun g9 b6 => ?_
 refine sk fun h0 b7 => ?_
 refine aC ?_
 refine wn b7 ?_
 refine aM ?_
 have e4 : St w F e3 F [⟨n2, [(nI m.turn), (.slice x1 m.writes.length y1)], 168⟩] [bZ 1 ByC ByC.mono 5 w.heap.size (.slice (aA b5 0) 4 4) (iK m.turn m.writes.length)] := St.blkRow (k := 1) (l := (iK m.turn m.writes.length)) (el := [[(bv (b8 (m.turn / 65536)))], [(bv (b8 (m.turn / 256)))], [(bv (b8 m.turn))], [(bv (b8 m.writes.length))]]) (hR := ByC.mono) d7 rfl ⟨rfl, rfl, rfl, rfl, trivial⟩ (by simp) rfl (by simp [iK]) (by unfold maxLen; decide) (d7.blk _ (List.mem_cons_self ..)).2.2
 refine bA (fun mm aa e5 => ∃ (k : Nat) (v : Value) (b2 : Fz) (b3 : Nat → Value), mm = m.writes.length - k ∧ b3 = dV aa ∧ aa = ⟨([(.agg #[(nI m.turn), (.slice x1 m.writes.length y1)]), (pP n2 0), Zn, (iI 0), (iI 0), v, undef, (b3 7), (.agg #[(nI m.turn), (.slice x1 m.writes.length y1)]), (iI 0), (iI 0), bF, undef, (pP n2 0), (nI m.turn), (nI (m.turn / 65536)), (bv (b8 (m.turn / 65536))), (pP n2 0), (nI m.turn), (nI (m.turn / 256)), (bv (b8 (m.turn / 256))), (pP n2 0), (nI m.turn), (bv (b8 m.turn)), (pP n2 1), (.slice x1 m.writes.length y1), (nI m.writes.length), (bv (b8 m.writes.length)), (.slice (aA b5 0) 4 4), (pP n2 1), (.slice x1 m.writes.length y1), (nI m.writes.length), (nI k)] ++ (usF b3 33 20 [undef])).toArray, []⟩ ∧ St w F e5 b2 [⟨n2, [(nI m.turn), (.slice x1 m.writes.length y1)], 168⟩] [bZ 1 ByC ByC.mono 5 w.heap.size v ((iK m.turn m.writes.length) ++ (m.writes.take k).flatMap kT)] ∧ Le F b2 ∧ (k ≤ m.writes.length)) _ ⟨0, (.slice (aA b5 0) 4 4), F, _, rfl, rfl, rfl, e4, Le.refl _, (by omega)⟩ ?_
 rintro h2 h3 h4 ⟨k, v, b2, b3, rfl, -, hfr, a2, a3, hk⟩ h5 a9
 simp only [uzF, Nat.reduceAdd] at hfr; subst hfr
 refine sk fun h6 b0 => ?_
 by_cases b9 : k < m.writes.length
 ·refine eZ ?_
  refine wn b0 ?_
  refine aE fun h7 c0 => ?_
  refine aJ ?_
  refine aH ?_
  refine c0 _ _ ?_
  refine aE fun h8 b1 => ?_
  refine aM ?_
  refine aE fun h9 c1 => ?_
  obtain ⟨p, hp⟩ : ∃ p, m.writes[k]? = some p := ⟨m.writes[k], List.getElem?_eq_getElem b9⟩
  have hpo := hm.ok p (List.mem_of_getElem? hp)
  have hp1 := hpo.name.2
  have hp2 := hpo.key2
  have hp3 := hpo.value
  have hfl := UV (ws := m.writes.take k) (fun x hx => hm.ok x (List.mem_of_mem_take hx))
  rw [List.length_take] at hfl
  obtain ⟨e6, e7, c2, c3, c4, c5, c6, c7, c8, e8, e9, f0, f1, f2, f3, f4⟩ := Wrs.get (h1.mono a3) hp
  refine aB ?_
  refine dr (pP e6 (e7 + k * 4)) (bP (i := k) (sz := 4) Tryz.underlying40 (fJ _) rfl c2 rfl (by omega) rfl) ?_
  refine dr _ (aD rfl (cN Tryz.underlying39 rfl (cD) (eW (St.fz a2 e8) (St.fz a2 e9) (St.fz a2 f0) (St.fz a2 f1)))) ?_
  simp only [pq]
  refine sA a2 (mI _) fun f5 i0 f6 => ?_
  refine sW 0 f6 (cD) fun f7 f8 => ?_
  refine wlK c1 ?_
  refine aE fun i1 c9 => ?_
  obtain ⟨f9, a0, a1⟩ := St.freezeBlk f8 (i := 0) rfl
  generalize addF b2 f7 f5 = d0 at *
  refine jY f9 (by kernel_rfl) (fun i2 a6 => ?_)
  refine gT 0 rfl a6.sat ?_
  simp only [pq]
  refine dJ 1 rfl _ a6.sat (fun _ _ => ef (JY _ _)) ?_
  simp only [pq]
  refine dJ 2 rfl _ a6.sat (fun _ d1 => aD rfl (aW (bI _) (St.fz (St.start d1) (a1 0 _ rfl)))) ?_
  simp only [pq]
  refine dJ 4 rfl _ a6.sat (fun _ _ => ef (JZ _ _)) ?_
  simp only [pq]
  refine dJ 5 rfl _ a6.sat (fun _ d2 => aD rfl (aW (bI _) (St.fz (St.start d2) (a1 1 _ rfl)))) ?_
  simp only [pq]
  refine eB 3 (by kernel_rfl) rfl ?_
  refine xC (L := [⟨n2, [(nI m.turn), (.slice x1 m.writes.length y1)], 168⟩]) (M := fun v_ => [bZ 1 ByC ByC.mono 5 w.heap.size v_ (((iK m.turn m.writes.length) ++ (m.writes.take k).flatMap kT) ++ dK p.name)]) rfl (cK (vs := #[v, (.slice c3 p.name.length c4)]) (iD rfl rfl) rfl (KN _ _)) (wC a6 (f2.mono a0) (by simp only [List.length_append, mS, iK, List.length_cons, List.length_nil]; omega) (by omega)) ?_
  intro g0 i3 d8
  refine aG (cW d8.sat ?_)
  refine eB 6 (by kernel_rfl) rfl ?_
  refine xC (L := [⟨n2, [(nI m.turn), (.slice x1 m.writes.length y1)], 168⟩]) (M := fun v_ => [bZ 1 ByC ByC.mono 5 w.heap.size v_ ((((iK m.turn m.writes.length) ++ (m.writes.take k).flatMap kT) ++ dK p.name) ++ dK p.key)]) rfl (cK (vs := #[g0, (.slice c5 p.key.length c6)]) (iD rfl rfl) rfl (KN _ _)) (wC d8 (f3.mono a0) (by simp only [List.length_append, mS, iK, List.length_cons, List.length_nil]; omega) (by omega)) ?_
  intro g1 i4 a7
  simp only [pq]
  refine aG (cW a7.sat ?_)
  refine kI 7 rfl a7.sat ?_
  simp only [pq]
  refine kA (by kernel_rfl) ?_
  refine c9 _ _ ?_
  refine aE fun i6 d3 => ?_
  refine sk fun i7 d4 => ?_
  refine df (BD _ _) ?_
  refine dr _ (aD rfl (aW (iE _) (St.fz a7 (a1 2 _ rfl)))) ?_
  refine wn d4 ?_
  refine wp_cond_split rfl (fun a4 => ?_) (fun a4 => ?_)
  ·refine sk fun i8 d5 => ?_
   refine dx ?_
   simp only [pq]
   refine bD a7 (v := fun n => .slice (aA n 0) 1 1) rfl (bS (ps := #[(0, (.int .u8 255))]) (cells := #[(.int .u8 255)]) (E := 5) (cH rfl) (fun w => by kernel_rfl)) (fun i9 j0 d9 => ?_)
   refine eN (i := 0) (r := 0) (p := (255 : UInt8)) (cs := [(.int .u8 255)]) d9 rfl i5 (.int .u8 0) 1 Tryz.underlying25 hi5 hz5 hs5 hb5 rfl (by decide) rfl rfl rfl rfl rfl (sF 255) (rfl) (Nat.le_refl _) d9.gr.below.size (by unfold maxLen; simp only [List.length_append, mS, iK, List.length_cons, List.length_nil]; omega) (by simp only [List.length_append, mS, iK, List.length_cons, List.length_nil]; omega) ?_
   intro e0 g2 a8 g3
   simp only [pq]
   have a8 := St.drop a8 (.cons _ (List.Sublist.refl _))
   have a8 : St w F g2 d0 [⟨n2, [(nI m.turn), (.slice x1 m.writes.length y1)], 168⟩] [bZ 1 ByC ByC.mono 5 w.heap.size e0 (((((iK m.turn m.writes.length) ++ (m.writes.take k).flatMap kT) ++ dK p.name) ++ dK p.key) ++ [(255 : UInt8)])] := a8
   refine dy ?_
   refine wn d5 ?_
   refine cV ?_
   refine b1 _ _ ?_
   refine aB ?_
   refine cO (k + 1) ?_
   refine dx ?_
   simp only [pq]
   refine aG ?_
   rw [Ap hp (by simpa using a4)] at a8
   exact a9 _ _ _ (by omega) ⟨(k + 1), e0, d0, _, rfl, rfl, rfl, a8, (a3.trans a0), (by omega)⟩
  ·refine aH ?_
   refine d3 _ _ ?_
   refine aB ?_
   refine aC ?_
   refine dr _ (aD rfl (aW (bI _) (St.fz a7 (a1 3 _ rfl)))) ?_
   simp only [pq]
   refine xC (L := [⟨n2, [(nI m.turn), (.slice x1 m.writes.length y1)], 168⟩]) (M := fun v_ => [bZ 1 ByC ByC.mono 5 w.heap.size v_ (((((iK m.turn m.writes.length) ++ (m.writes.take k).flatMap kT) ++ dK p.name) ++ dK p.key) ++ dK p.value)]) rfl (cK (vs := #[g1, (.slice c7 p.value.length c8)]) (iD rfl rfl) rfl (KN _ _)) (wC a7 (f4.mono a0) (by simp only [List.length_append, mS, iK, List.length_cons, List.length_nil]; omega) (by omega)) ?_
   intro g4 j1 e2
   refine dy ?_
   refine wlK b1 ?_
   refine aB ?_
   refine cO (k + 1) ?_
   refine dx ?_
   simp only [pq]
   refine aG ?_
   rw [Gb hp (by simpa using a4)] at e2
   exact a9 _ _ _ (by omega) ⟨(k + 1), g4, d0, _, rfl, rfl, rfl, e2, (a3.trans a0), (by omega)⟩
 ·refine eT ?_
  refine wn b0 ?_
  refine aE fun j2 g5 => ?_
  refine aF ?_
  refine cV ?_
  refine b6 _ _ ?_
  refine sk fun j3 d6 => ?_
  refine aC ?_
  refine wn d6 ?_
  refine aP ?_
  try simp only [xt]
  refine bR (cC rfl (gD rfl) (gD rfl)) ?_
  ·have hend : m.writes.take k = m.writes := List.take_of_length_le (by omega)
   rw [hend] at a2
   obtain ⟨j4, g6, g7, a5⟩ := St.freeze a2 (i := 0) rfl (Nat.le_refl _)
   have a5 : Bys _ v ((iK m.turn m.writes.length) ++ m.writes.flatMap kT) := a5
   exact ⟨_, _, rfl, g6.gr, _, rfl, eU a5⟩
theorem Bs.cut {F : Fz} {a : Option Addr} {m c n : Nat} {l : By} (h : Bs F (.slice a m c) l) (hn : n ≤ m) : Bs F (.slice a n n) (l.take n) := by
 have hm := h.len
 obtain ⟨a', c0, e, q1, _⟩ := h.shape
 injection e with _ _ e
 have := eU (Sl.cap (c' := n) (Sl.takeN (m := n) h.sl hn) (Nat.le_refl _) (by omega))
 exact this
theorem Bs.rest {F : Fz} {a : Option Addr} {m c n : Nat} {l : By} (h : Bs F (.slice a m c) l) (hn : n ≤ m) : Bs F (.slice (if c = n then a else a.map (·.add (n * 1))) (m - n) (c - n)) (l.drop n) := eU (Sl.dropAny (by decide) h.sl hn)
def UW (l : List Wr) : Nat → Nat → Int
  | 0, _ => 0
  | n + 1, k => match l[k]? with
    | none => 0
    | some r => if k = 10 then 1 else if wrE r ≠ 0 then wrE r else UW l n (k + 1)
theorem OZ {l : List Wr} : ∀ n k, n + k = l.length → (UW l n k = 0 ↔ ∀ (i : Nat) r, k ≤ i → l[i]? = some r → i ≠ 10 ∧ wrE r = 0)
  | 0, k, h => ⟨fun _ i r hi hr => by have := (List.getElem?_eq_some_iff.1 hr).1; omega, fun _ => rfl⟩
  | n + 1, k, h => by
    have hk : k < l.length := by omega
    obtain ⟨x, hp⟩ : ∃ x, l[k]? = some x := ⟨_, List.getElem?_eq_getElem hk⟩
    simp only [UW, hp]
    by_cases h1 : k = 10
    · rw [if_pos h1]
      exact ⟨fun h => by omega, fun h => absurd h1 (h k _ (Nat.le_refl _) hp).1⟩
    · rw [if_neg h1]
      by_cases h2 : wrE x = 0
      · rw [if_neg (by simpa using h2), OZ n (k + 1) (by omega)]
        refine ⟨fun h i r hi hr => ?_, fun h i r hi hr => h i r (by omega) hr⟩
        rcases Nat.lt_or_eq_of_le hi with hi | rfl
        · exact h i r hi hr
        · rw [hp] at hr; cases hr; exact ⟨h1, h2⟩
      · rw [if_pos h2]
        exact ⟨fun h => absurd h h2, fun h => absurd (h k _ (Nat.le_refl _) hp).2 h2⟩
def Aq (m : Cm) : Int := if m.turn < 1 ∨ 1048576 < m.turn then 2 else if m.writes.length < 1 then 1 else UW m.writes m.writes.length 0
theorem Ar {m : Cm} : Aq m = 0 ↔ CmOk m := by
 unfold Aq
 by_cases h1 : m.turn < 1 ∨ 1048576 < m.turn
 rw [if_pos h1]; exact ⟨fun h => by omega, fun h => by have := h.turn; omega⟩
 rw [if_neg h1]
 by_cases h2 : m.writes.length < 1
 rw [if_pos h2]; exact ⟨fun h => by omega, fun h => by have := h.some; omega⟩
 rw [if_neg h2, OZ _ _ (by omega)]
 constructor
 intro h
 refine ⟨by omega, ⟨by omega, ?_⟩, fun w hw => ?_⟩
 rcases Nat.lt_or_ge 10 m.writes.length with h3 | h3
 exact absurd rfl (h 10 _ (Nat.zero_le _) (List.getElem?_eq_getElem h3)).1
 exact h3
 obtain ⟨i, hi, rfl⟩ := List.mem_iff_getElem.1 hw
 exact qB.1 (h i _ (Nat.zero_le _) (List.getElem?_eq_getElem hi)).2
 intro h i r _ hr
 have hi := (List.getElem?_eq_some_iff.1 hr).1
 have := h.some.2
 exact ⟨by omega, qB.2 (h.ok r (List.mem_of_getElem? hr))⟩
def As (b : By) : Int := if (cmR ⟨b, false⟩).2.short = true then 14 else if 0 < (cmR ⟨b, false⟩).2.rest.length then 4 else Aq ⟨(cmR ⟨b, false⟩).1.1, (cmR ⟨b, false⟩).1.2⟩
def Gc (b : By) : Cm := if As b = 0 then ⟨(cmR ⟨b, false⟩).1.1, (cmR ⟨b, false⟩).1.2⟩ else ⟨0, []⟩
theorem IQ {m : Cm} (hm : CmOk m) : (eQ m.turn m.writes).length ≤ 594 ∧ 4 ≤ (eQ m.turn m.writes).length := by
 have := UV hm.ok
 have := hm.some.2
 rw [SD, List.length_append, show (iK m.turn m.writes.length).length = 4 from rfl]
 omega
theorem At {m : Cm} (hm : CmOk m) : As (eQ m.turn m.writes) = 0 ∧ Gc (eQ m.turn m.writes) = m := by
 have ht := hm.turn
 have hs := hm.some
 have h := Dv m.turn m.writes [] hm.ok (by omega) (by omega)
 rw [List.append_nil] at h
 have he : As (eQ m.turn m.writes) = 0 := by
  unfold As
  rw [h, if_neg (by simp), if_neg (by simp)]
  exact Ar.2 hm
 exact ⟨he, by unfold Gc; rw [if_pos he, h]⟩
open Go.ChangeShapes Go.WideShapes Go.ChangeAt Go.RowKit Go.Deep
theorem AG {P : Program} {W : World} : ∀ {l : List (String × DataW Unit)} {ps : List MemPlace}, DataW.LaidVars P W l ps → ∀ (i : Nat) (n : String) (d : DataW Unit), l[i]? = some (n, d) →
    ∃ g t cs fuel p, P.globalNamed n = some g ∧ (P.globals[g]?).map (·.type) = some t ∧ W.var? P n = some cs ∧ DataW.trod (fun _ => ()) P W 0 (fun _ => true) false fuel t cs.toList = some (d, p)
  | [], _, _, i, n, d, hi => by simp at hi
  | (n', d') :: r, ps, h, i, n, d, hi => by
    obtain ⟨g, t, cs, fuel, p, q, h1, h2, h3, h4, h5, h6⟩ := h
    cases i with
    | zero =>
      simp only [List.getElem?_cons_zero, Option.some.injEq, Prod.mk.injEq] at hi
      obtain ⟨rfl, rfl⟩ := hi
      exact ⟨g, t, cs, fuel, p, h1, h2, h3, h4⟩
    | succ i => exact AG h5 i n d (by simpa using hi)
theorem xV {P : Program} {W : World} {l : List (String × DataW Unit)} (h : laidMet P l W) (i : Nat) (name : String) (k : IntKind) (zs : List Int) {g : Nat} {t e : TypeId} {n : Nat}
    (hi : l[i]? = some (name, Lib.tabData k zs))
    (hg : P.globalNamed name = some g) (hty : (P.globals[g]?).map (·.type) = some t) (ht : P.underlying t = some (.array n e)) (he : P.underlying e = some (.int k)) (hce : P.cellsOf e = 1) (hct : P.cellsOf t = n) : Lib.TabIs P W name k zs := by
 obtain ⟨ps, hv, _, _⟩ := h
 obtain ⟨g', t', cs, fuel, p, hg', ht', hvar, hd⟩ := AG hv i name _ hi
 obtain rfl := Option.some.inj (hg.symm.trans hg')
 obtain rfl := Option.some.inj (hty.symm.trans ht')
 unfold Lib.TabIs
 rw [hvar, ← Lib.cells_of_tab ht he hce hct hd]
def gO (a : BitVec 64) : Int := (a.toNat : Int)
theorem wD (a : BitVec 64) : BitVec.ofInt IntKind.u64.bits (gO a) = a := by
 show BitVec.ofInt 64 (a.toNat : Int) = a
 simp
theorem zJ (a : BitVec 64) : IntKind.u64.wrap ((BitVec.toNat a : Nat) : Int) = gO a := by
 have := a.isLt
 unfold gO IntKind.wrap
 simp only [IntKind.signed, Bool.false_and, Bool.false_eq_true, if_false, IntKind.bits]
 omega
theorem PA (a b : BitVec 64) : bits .xor .u64 (gO a) (gO b) = gO (a ^^^ b) := by
 unfold bits
 simp only [wD]
 exact zJ (a ^^^ b)
theorem Gd (a b : BitVec 64) : bits .or .u64 (gO a) (gO b) = gO (a ||| b) := by
 unfold bits
 simp only [wD]
 exact zJ (a ||| b)
theorem Au (a b : BitVec 64) : bits .and .u64 (gO a) (gO b) = gO (a &&& b) := by
 unfold bits
 simp only [wD]
 exact zJ (a &&& b)
theorem PB (z : Int) : IntKind.u64.wrap z = z % 18446744073709551616 := by
 unfold IntKind.wrap
 simp only [IntKind.signed, Bool.false_and, Bool.false_eq_true, if_false]
 rfl
theorem PC (a : BitVec 64) (n : Nat) : IntKind.u64.wrap (gO a * 2 ^ n) = gO (a <<< n) := by
 rw [PB]
 unfold gO
 rw [BitVec.toNat_shiftLeft, Nat.shiftLeft_eq, Int.natCast_emod, Int.natCast_mul, Int.natCast_pow]
 rfl
theorem PD (a : BitVec 64) (n : Nat) : gO a / 2 ^ n = gO (a >>> n) := by
 unfold gO
 simp only [BitVec.toNat_ushiftRight, Nat.shiftRight_eq_div_pow]
 push_cast
 rfl
theorem IR (w : World) (x : BitVec 64) (n : Nat) (h1 : 1 ≤ n) (h2 : n ≤ 63) :
    Calls Tryz.prog 148 #[.int .u64 (gO x), .int .i64 n] w (cU w (.int .u64 (gO (pH x n)))) := by
 go_enter Tryz.func148, Tryz.ntmps148
 go_wp2_with fail
 go_quiet (fail)
 go_wp2_with fail
 go_ret
 rw [PC, PD, Gd]
 exact ⟨rfl, ⟨rfl, rfl, rfl, Nat.le_refl _, fun _ _ => rfl⟩⟩
theorem fP (w : World) : (isAgg 215).run Tryz.prog w = .ok false w := by kernel_rfl
theorem rC : (Tryz.prog.info? 215).map (·.size) = some 1 := by kernel_rfl
theorem cP (w : World) : (sizeOf 215).run Tryz.prog w = .ok 1 w := by kernel_rfl
theorem Av : (Tryz.prog.info? 233).map (·.size) = some 5 := by kernel_rfl
theorem PE (w : World) : (zeroValue 233).run Tryz.prog w = .ok (.agg #[.int .u64 0, .int .u64 0, .int .u64 0, .int .u64 0, .int .u64 0]) w := by kernel_rfl
abbrev aS (a : BitVec 64) : Value := .int .u64 (gO a)
theorem PF (n : Nat) (f : Nat → BitVec 64) (i : Nat) (h : i < n) : at0 (rM n f) i = f i := by simp [at0, rM, List.getD, h]
theorem oV {n : Nat} {f g : Nat → BitVec 64} (h : ∀ i, i < n → f i = g i) : rM n f = rM n g := List.map_congr_left (fun i hi => h i (List.mem_range.1 hi))
theorem PG (S : List (BitVec 64)) : rM S.length (at0 S) = S := by
 apply List.ext_getElem (by simp [rM])
 intro i h1 h2
 simp [rM, at0, List.getD, h2]
theorem ED (n : Nat) (f : Nat → BitVec 64) (k : Nat) (v : BitVec 64) : (rM n f).set k v = rM n fun i => if i = k then v else f i := by
 apply List.ext_getElem (by simp [rM])
 intro i h1 h2
 simp only [rM, List.getElem_set, List.getElem_map, List.getElem_range]
 by_cases h : k = i
 ·subst h; simp
 ·rw [if_neg h, if_neg (fun e => h e.symm)]
theorem Aw : ∀ i, i < 24 → lQ i < 25 := by decide
theorem IS : ∀ i, i < 24 → 1 ≤ mZ i ∧ mZ i ≤ 63 := by decide
def Tabs (w : World) : Prop := (∀ i, i < 24 → w.cell? ⟨2, i, none⟩ = some (.int .i64 (lQ i))) ∧ (∀ i, i < 24 → w.cell? ⟨3, i, none⟩ = some (.int .i64 (mZ i))) ∧ ∀ i, i < 24 → w.cell? ⟨4, i, none⟩ = some (.int .u64 (gO (yP i)))
theorem Tabs.lt {w : World} (h : Tabs w) : 2 < w.heap.size ∧ 3 < w.heap.size ∧ 4 < w.heap.size :=
  ⟨World.block_lt_of_cell? w ⟨2, 0, none⟩ (h.1 0 (by decide)), World.block_lt_of_cell? w ⟨3, 0, none⟩ (h.2.1 0 (by decide)), World.block_lt_of_cell? w ⟨4, 0, none⟩ (h.2.2 0 (by decide))⟩
theorem Tabs.below {w w' : World} {N : Nat} (h : Tabs w) (hb : Below N w w') (h1 : 2 < N) (h2 : 3 < N) (h3 : 4 < N) : Tabs w' :=
  ⟨fun i hi => by rw [hb.cell (p := ⟨2, i, none⟩) h1]; exact h.1 i hi, fun i hi => by rw [hb.cell (p := ⟨3, i, none⟩) h2]; exact h.2.1 i hi, fun i hi => by rw [hb.cell (p := ⟨4, i, none⟩) h3]; exact h.2.2 i hi⟩
def AH : Array Value := (wR.map fun i : Nat => Value.int .i64 (i : Int)).toArray
theorem WP {w : World} (h : Tabs w) : (Instr.loadAt 235 (.pointer (some ⟨2, 0, none⟩))).run Tryz.prog w = .ok (.agg AH) w := by
 unfold AH
 refine run_loadAt_mid (P := Tryz.prog) w 2 0 235 (wR.map fun i : Nat => Value.int .i64 (i : Int)) (.array 24 3) (fun j v hj => ?_) (by kernel_rfl) rfl (by kernel_rfl)
 have hj' : j < 24 := by
  have := (List.getElem?_eq_some_iff.1 hj).1
  simpa [wR] using this
 rw [Nat.zero_add, h.1 j hj', ← hj]
 unfold lQ
 rw [List.getElem?_map, List.getD_eq_getElem?_getD]
 have : wR[j]? = some (wR[j]'(by simpa [wR] using hj')) := List.getElem?_eq_getElem _
 rw [this]
 rfl
theorem Tabs.at {w w' : World} (h : Tabs w) (hb : Below w.heap.size w w') : Tabs w' := h.below hb h.lt.1 h.lt.2.1 h.lt.2.2
theorem Gf {k : Nat} (h : k < 24) : AH[k]? = some (.int .i64 ((lQ k : Nat) : Int)) := by
 unfold AH lQ
 have hk : k < wR.length := by simpa [wR] using h
 simp [List.getElem?_map, List.getElem?_eq_getElem hk, List.getD_eq_getElem?_getD]
theorem fQ {X : List (BitVec 64)} {i : Nat} (h : i < X.length) : (X.map aS)[i]? = some (aS (at0 X i)) := by
 simp [at0, List.getElem?_map, List.getElem?_eq_getElem h, List.getD_eq_getElem?_getD]
theorem oB {X : List (BitVec 64)} {j : Nat} {x : BitVec 64} (h : j < X.length) : cA (X.map aS) j [aS x] = (X.set j x).map aS := by
 unfold cA
 rw [List.map_set, List.set_eq_take_append_cons_drop, if_pos (by simpa using h)]
 simp
def cL (S : List (BitVec 64)) (k : Nat) : List (BitVec 64) := rM 5 fun x => if x < k then YT S x else 0
theorem LL (S : List (BitVec 64)) (k : Nat) : (cL S k).length = 5 := CH _ _
theorem Gg (S : List (BitVec 64)) {k : Nat} (h : k < 5) : (cL S k).set k (YT S k) = cL S (k + 1) := by
 unfold cL
 rw [ED]
 refine oV fun i hi => ?_
 by_cases e : i = k
 subst e; rw [if_pos rfl, if_pos (by omega)]
 rw [if_neg e]
 by_cases e2 : i < k
 rw [if_pos e2, if_pos (by omega)]
 rw [if_neg e2, if_neg (by omega)]
theorem Gh (S : List (BitVec 64)) : cL S 0 = List.replicate 5 0 := by
 unfold cL rM; rfl
theorem Iu (S : List (BitVec 64)) : cL S 5 = (List.range 5).map (YT S) := by
 unfold cL
 exact oV fun i hi => if_pos hi
theorem BP (S C : List (BitVec 64)) (k : Nat) : (thL S C k).length = 25 := CH _ _
theorem Ax {S C : List (BitVec 64)} (h : S.length = 25) : thL S C 0 = S := by
 unfold thL
 rw [oV (g := at0 S) (fun i hi => if_neg (by omega))]
 have := PG S
 rwa [h] at this
theorem Iv {S C : List (BitVec 64)} {i : Nat} (h : i < 25) : at0 (thL S C i) i = at0 S i := by
 unfold thL
 rw [PF _ _ _ h, if_neg (by omega)]
theorem Ay (S C : List (BitVec 64)) {i : Nat} (h : i < 25) : (thL S C i).set i (Hr S C i) = thL S C (i + 1) := by
 unfold thL
 rw [ED]
 refine oV fun j hj => ?_
 by_cases e : j = i
 subst e; rw [if_pos rfl, if_pos (by omega)]
 rw [if_neg e]
 by_cases e2 : j < i
 rw [if_pos e2, if_pos (by omega)]
 rw [if_neg e2, if_neg (by omega)]
theorem uD {A : List (BitVec 64)} (h : A.length = 25) : ∀ k, (rN A k).1.length = 25
  | 0 => h
  | k + 1 => by simp [rN, uD h k]
def kJ (B : List (BitVec 64)) (k : Nat) : List (BitVec 64) := rM 25 fun i => if i < k then NL B i else at0 B i
theorem rD (B : List (BitVec 64)) (k : Nat) : (kJ B k).length = 25 := CH _ _
theorem WQ {B : List (BitVec 64)} (h : B.length = 25) : kJ B 0 = B := by
 unfold kJ
 rw [oV (g := at0 B) (fun i hi => if_neg (by omega))]
 have := PG B
 rwa [h] at this
theorem xW {B : List (BitVec 64)} {k i : Nat} (h : k ≤ i) (hi : i < 25) : at0 (kJ B k) i = at0 B i := by
 unfold kJ
 rw [PF _ _ _ hi, if_neg (by omega)]
theorem WR (B : List (BitVec 64)) {i : Nat} (h : i < 25) : (kJ B i).set i (NL B i) = kJ B (i + 1) := by
 unfold kJ
 rw [ED]
 refine oV fun j hj => ?_
 by_cases e : j = i
 subst e; rw [if_pos rfl, if_pos (by omega)]
 rw [if_neg e]
 by_cases e2 : j < i
 rw [if_pos e2, if_pos (by omega)]
 rw [if_neg e2, if_neg (by omega)]
theorem Az (B : List (BitVec 64)) : kJ B 25 = Ds B := by
 unfold kJ Ds
 exact oV fun i hi => if_pos hi
section
variable {P : Program} {ρ : Operand → Value} {w : World} {d : Option Tmp} {t X Y E : TypeId} {n : Nat} {pos : String} {after : Array Edge} {guard : Option (Nat × Bool)} {x y : Operand}
theorem Iw {cs : Array Value} {i : Nat} {v : Value} (hX : P.underlying X = some (.array n E)) (hs : (sizeOf E).run P w = .ok 1 w) (hx : ρ x = .agg cs) (hy : ρ y = .int .i64 i) (hi : i < n) (hb : (isAgg E).run P w = .ok false w) (hv : cs[i]? = some v) :
    (execOp ρ ⟨d, .index X x y, t, pos, after, guard⟩).run P w = .ok (.value v) w := by
 have h1 : (0 : Int) ≤ (i : Int) ∧ (i : Int) < (n : Int) := by omega
 simp [execOp, hx, hy, Instr.index, part, Sem.run_bind, run_underlying hX w, asIntOf, hs, h1, hb, hv, hi]
theorem gC {b i : Nat} (hX : P.underlying X = some (.array n E)) (hs : (sizeOf E).run P w = .ok 1 w) (hx : ρ x = .pointer (some ⟨b, 0, none⟩)) (hy : ρ y = .int .i64 i) (hi : i < n) :
    (execOp ρ ⟨d, .indexAddr X x y, t, pos, after, guard⟩).run P w = .ok (.value (.pointer (some ⟨b, i, none⟩))) w := by
 have hadd : (⟨b, 0, none⟩ : Addr).add (i * 1) = ⟨b, i, none⟩ := by rw [Addr.add_mid]; simp
 have hlt : (0 : Int) ≤ (i : Int) ∧ (i : Int) < (n : Int) := by omega
 simp only [Nat.mul_one] at hadd
 simp [execOp, hx, hy, Instr.indexAt, Instr.sureAddr, asIntOf, Sem.run_bind, Sem.run_pure, Result.andThen_ok, run_underlying hX w, hs, hadd, hlt, hi]
theorem nU {a b : BitVec 64} (hx : ρ x = aS a) (hy : ρ y = aS b) : (execOp ρ ⟨d, .binOp .xor X x y Y, t, pos, after, guard⟩).run P w = .ok (.value (aS (a ^^^ b))) w := by
 refine kQ hx hy ?_
 rw [eS _ (by simp)]
 show Result.ok (Value.int .u64 (bits .xor .u64 (gO a) (gO b))) w = _
 rw [PA]
theorem Gi {a b : BitVec 64} (hx : ρ x = aS a) (hy : ρ y = aS b) : (execOp ρ ⟨d, .binOp .and X x y Y, t, pos, after, guard⟩).run P w = .ok (.value (aS (a &&& b))) w := by
 refine kQ hx hy ?_
 rw [eS _ (by simp)]
 show Result.ok (Value.int .u64 (bits .and .u64 (gO a) (gO b))) w = _
 rw [Au]
theorem Gj {a : BitVec 64} (hx : ρ x = aS a) : (execOp ρ ⟨d, .unOp .xor X x, t, pos, after, guard⟩).run P w = .ok (.value (aS (~~~ a))) w := by
 have e : (18446744073709551615 : Int) = gO (BitVec.allOnes 64) := by decide
 have h : bits .xor .u64 (18446744073709551615 : Int) (gO a) = gO (~~~ a) := by rw [e, PA, BitVec.allOnes_xor]
 simp only [execOp, hx]
 show Result.ok (Next.value (.int .u64 (bits .xor .u64 (18446744073709551615 : Int) (gO a)))) w = _
 rw [h]
theorem pR {m n : Nat} (hx : ρ x = .int .i64 (m : Int)) (hy : ρ y = .int .i64 (n : Int)) (hn : 0 < n) (hm : m ≤ 9223372036854775807) : (execOp ρ ⟨d, .binOp .rem X x y Y, t, pos, after, guard⟩).run P w = .ok (.value (.int .i64 ((m % n : Nat) : Int))) w := by
 refine kQ hx hy ?_
 rw [eS _ (by simp)]
 show (Op.intDiv .rem .i64 m n).run P w = _
 unfold Op.intDiv
 rw [if_neg (by omega)]
 show Result.ok (Value.int .i64 (Int.tmod (m : Int) (n : Int))) w = _
 rw [Int.tmod_eq_emod_of_nonneg (by omega)]
 rfl
end
theorem WS {P : Program} {ρ : Operand → Value} {w : World} {d : Option Tmp} {t X E : TypeId} {n : Nat} {pos : String} {after : Array Edge} {guard : Option (Nat × Bool)} {x lo hi : Operand} {b l h : Nat} (hX : P.underlying X = some (.array n E)) (hx : ρ x = .pointer (some ⟨b, 0, none⟩)) (hsz : (sizeOf E).run P w = .ok 1 w) (hl : ρ lo = .int .i64 (l : Int)) (hh : ρ hi = .int .i64 (h : Int)) (h1 : l ≤ h) (h2 : h ≤ n) (h3 : l < n) :
    (execOp ρ ⟨d, .slice X x (some lo) (some hi) none, t, pos, after, guard⟩).run P w = .ok (.value (.slice (some ⟨b, l, none⟩) (h - l) (n - l))) w := by
 have b1 : ∀ (z y : Nat) (code : BoundsCode), z ≤ y → (Instr.sliceBound (.int .i64 z) y code).run P w = .ok z w := by
  intro z y code hzy
  have : (0 : Int) ≤ (z : Int) ∧ (z : Int) ≤ (y : Int) := by omega
  simp [Instr.sliceBound, asIntOf, this]
 have hb : (Instr.sliceBounds false n n (some (.int .i64 l)) (some (.int .i64 h)) none).run P w = .ok (l, h, n) w := by
  simp [Instr.sliceBounds, b1 _ _ _ h2, b1 _ _ _ h1]
 have hadd : (⟨b, 0, none⟩ : Addr).add l = ⟨b, l, none⟩ := by have := Addr.add_mid b 0 l; simpa using this
 have hn : ¬ n = l := by omega
 simp [execOp, hx, hl, hh, Instr.sliceAt, Instr.sureAddr, Sem.run_bind, Sem.run_pure, Result.andThen_ok, run_underlying hX w, hb, hsz, hadd, hn]
theorem Ix {P : Program} {ρ : Operand → Value} {w : World} {d : Option Tmp} {t X E : TypeId} {n : Nat} {pos : String} {after : Array Edge} {guard : Option (Nat × Bool)} {x : Operand} {a : Option Addr} {l c : Nat} (hX : P.underlying X = some (.array n E)) (hx : ρ x = .slice a l c) (hl : n ≤ l) :
    (execOp ρ ⟨d, .sliceToArrayPointer X x, t, pos, after, guard⟩).run P w = .ok (.value (.pointer a)) w := by
 have : ¬ l < n := by omega
 simp [execOp, hx, Instr.arrayAt, Sem.run_bind, Sem.run_pure, run_underlying hX w, this]
theorem St.cellsAt {w0 w : World} {F0 F : Fz} {L : List Blk} {M : List RowP} (S : St w0 F0 w F L M) {i : Nat} {n : Nat} {c : List Value} {t : TypeId} (h : L[i]? = some ⟨n, c, t⟩) : ∀ j v, c[j]? = some v → w.cell? ⟨n, j, none⟩ = some v := fun j v hv => St.cell S h hv
theorem Ba {w : World} {n : Nat} {X : List (BitVec 64)} {y : Nat} (h : ∀ (j : Nat) v, (X.map aS)[j]? = some v → w.cell? ⟨n, j, none⟩ = some v) (hy : y + 5 ≤ X.length) :
    (Instr.loadAt 233 (.pointer (some ⟨n, y, none⟩))).run Tryz.prog w = .ok (.agg #[aS (at0 X y), aS (at0 X (y + 1)), aS (at0 X (y + 2)), aS (at0 X (y + 3)), aS (at0 X (y + 4))]) w := by
 refine run_loadAt_mid (P := Tryz.prog) w n y 233 [aS (at0 X y), aS (at0 X (y + 1)), aS (at0 X (y + 2)), aS (at0 X (y + 3)), aS (at0 X (y + 4))] (.array 5 215) (fun j v hj => ?_) (by kernel_rfl) rfl (by kernel_rfl)
 refine h _ _ ?_
 have hj5 : j < 5 := by have := (List.getElem?_eq_some_iff.1 hj).1; simpa using this
 rw [fQ (by omega), ← hj]
 rcases (by omega : j = 0 ∨ j = 1 ∨ j = 2 ∨ j = 3 ∨ j = 4) with rfl | rfl | rfl | rfl | rfl <;> rfl
theorem Gk (A : List (BitVec 64)) (k : Nat) : (rN A k).1.set (lQ k) (pH (rN A k).2 (mZ k)) = (rN A (k + 1)).1 := rfl
def oW (Q : List (BitVec 64)) (y : Nat) : List (BitVec 64) := [at0 Q y, at0 Q (y + 1), at0 Q (y + 2), at0 Q (y + 3), at0 Q (y + 4)]
theorem EE (Q : List (BitVec 64)) (y : Nat) : (oW Q y).length = 5 := rfl
theorem LM {Q : List (BitVec 64)} {y x : Nat} (h : x < 5) : at0 (oW Q y) x = at0 Q (y + x) := by
 rcases (by omega : x = 0 ∨ x = 1 ∨ x = 2 ∨ x = 3 ∨ x = 4) with rfl | rfl | rfl | rfl | rfl <;> rfl
theorem Bb {Q : List (BitVec 64)} {y : Nat} (h : y + 5 ≤ 25) : oW (kJ Q y) y = oW Q y := by
 unfold oW
 rw [xW (by omega) (by omega), xW (by omega) (by omega), xW (by omega) (by omega), xW (by omega) (by omega), xW (by omega) (by omega)]
theorem Gl {Q : List (BitVec 64)} {y x : Nat} (hy : y % 5 = 0) (hx : x < 5) : at0 (oW Q y) x ^^^ (~~~ (at0 (oW Q y) ((x + 1) % 5)) &&& at0 (oW Q y) ((x + 2) % 5)) = NL Q (y + x) := by
 unfold NL
 rw [LM hx, LM (by omega), LM (by omega), show (y + x) / 5 * 5 = y from by omega, show (y + x) % 5 = x from by omega]
theorem Jw {fn : Func} {tmps : Array Value} {P : Program} {w : World} (h : fn.results = #[]) : (results fn tmps).run P w = .ok (.tuple #[]) w := by simp [results, h]
theorem WT {w0 w : World} {F0 F : Fz} {L0 : List Blk} {M0 : List RowP} {rb r : Nat} {Z : List (BitVec 64)} (S : St w0 F0 w F (⟨rb, Z.map aS, 217⟩ :: L0) M0) (hl : Z.length = 25) (hT : Tabs w0) (hr : r < 24) :
    Calls Tryz.prog 138 #[.pointer (some ⟨rb, 0, none⟩), .int .i64 ((r : Nat) : Int)] w fun e w' => e = .returned (.tuple #[]) ∧ St w0 F0 w' F (⟨rb, (HW Z r).map aS, 217⟩ :: L0) M0 := by
 go_enter Tryz.func138, Tryz.ntmps138
 refine sk fun K1 hK1 => ?_
 refine sA S (PE _) fun n2 w3 S4 => ?_
 refine wn hK1 ?_
 refine aE fun K5 hK5 => ?_
 refine sk fun K6 hK6 => ?_
 refine dx ?_
 refine wn hK6 ?_
 refine aM ?_
 have S4 : St w0 F0 w3 F (⟨n2, ((cL Z 0).map aS), 233⟩ :: ⟨rb, (Z.map aS), 217⟩ :: L0) (M0) := by rw [Gh]; exact S4
 refine bA (fun mm aa w8 => ∃ (k1 : Nat) (u7 : Nat → Value), mm = 5 - k1 ∧ u7 = dV aa ∧ aa = ⟨([(pP rb 0), (nI r), undef, undef, (pP n2 0), (u7 5)] ++ (udF 8 ([(nI k1)] ++ (usF u7 15 38 (udF 98 []))))).toArray, []⟩ ∧ St w0 F0 w8 F (⟨n2, ((cL Z k1).map aS), 233⟩ :: ⟨rb, (Z.map aS), 217⟩ :: L0) (M0) ∧ (k1 ≤ 5)) _ ⟨0, _, rfl, rfl, rfl, S4, (by omega)⟩ ?_
 rintro m9 k6 h5 ⟨k1, u7, rfl, -, hfr, a5, hk1⟩ k7 d5
 simp only [uzF, Nat.reduceAdd] at hfr; subst hfr
 refine sk fun k8 b7 => ?_
 by_cases h6 : k1 < 5
 refine eZ ?_
 simp only [pq]
 refine wn b7 ?_
 refine aE fun k9 d6 => ?_
 refine aJ ?_
 refine aH ?_
 refine d6 _ _ ?_
 refine aE fun l0 d7 => ?_
 refine aM ?_
 refine sk fun l1 d8 => ?_
 refine aC ?_
 refine wn d8 ?_
 refine aT F 34 [] (by kernel_rfl) (by kernel_rfl) ?_
 simp only [dD]
 refine gm ?_
 simp only [pq]
 iterate 2 refine gm ?_
 refine gi ?_
 simp only [pq]
 refine gv (pP rb k1) (fun _ _ => gC (i := k1) Tryz.underlying217 (cP _) rfl rfl (by omega)) ?_
 refine gv _ (fun _ a6 => aD rfl (aW (fP _) (St.cell (St.tells a5 a6) (i := 1) rfl (fQ (Nat.lt_of_lt_of_eq (show k1 < 25 by omega) hl.symm))))) ?_
 refine gm ?_
 simp only [pq]
 refine gm ?_
 refine gv (nI (k1 + 5)) (fun _ _ => iC (m := ((k1 : Nat) : Int)) (n := (5 : Int)) (r := (((k1 + 5) : Nat) : Int)) rfl rfl (by omega) (by omega) (by omega)) ?_
 refine gi ?_
 simp only [pq]
 refine gv (pP rb ((k1 + 5))) (fun _ _ => gC (i := (k1 + 5)) Tryz.underlying217 (cP _) rfl rfl (by omega)) ?_
 refine gv _ (fun _ a6 => aD rfl (aW (fP _) (St.cell (St.tells a5 a6) (i := 1) rfl (fQ (Nat.lt_of_lt_of_eq (show (k1 + 5) < 25 by omega) hl.symm))))) ?_
 refine gv (aS ((at0 Z k1) ^^^ (at0 Z (k1 + 5)))) (fun _ _ => nU rfl rfl) ?_
 simp only [pq]
 iterate 2 refine gm ?_
 refine gv (nI (k1 + 10)) (fun _ _ => iC (m := ((k1 : Nat) : Int)) (n := (10 : Int)) (r := (((k1 + 10) : Nat) : Int)) rfl rfl (by omega) (by omega) (by omega)) ?_
 simp only [pq]
 refine gi ?_
 refine gv (pP rb ((k1 + 10))) (fun _ _ => gC (i := (k1 + 10)) Tryz.underlying217 (cP _) rfl rfl (by omega)) ?_
 refine gv _ (fun _ a6 => aD rfl (aW (fP _) (St.cell (St.tells a5 a6) (i := 1) rfl (fQ (Nat.lt_of_lt_of_eq (show (k1 + 10) < 25 by omega) hl.symm))))) ?_
 simp only [pq]
 refine gv (aS (((at0 Z k1) ^^^ (at0 Z (k1 + 5))) ^^^ (at0 Z (k1 + 10)))) (fun _ _ => nU rfl rfl) ?_
 iterate 2 refine gm ?_
 simp only [pq]
 refine gv (nI (k1 + 15)) (fun _ _ => iC (m := ((k1 : Nat) : Int)) (n := (15 : Int)) (r := (((k1 + 15) : Nat) : Int)) rfl rfl (by omega) (by omega) (by omega)) ?_
 refine gi ?_
 refine gv (pP rb ((k1 + 15))) (fun _ _ => gC (i := (k1 + 15)) Tryz.underlying217 (cP _) rfl rfl (by omega)) ?_
 simp only [pq]
 refine gv _ (fun _ a6 => aD rfl (aW (fP _) (St.cell (St.tells a5 a6) (i := 1) rfl (fQ (Nat.lt_of_lt_of_eq (show (k1 + 15) < 25 by omega) hl.symm))))) ?_
 refine gv (aS ((((at0 Z k1) ^^^ (at0 Z (k1 + 5))) ^^^ (at0 Z (k1 + 10))) ^^^ (at0 Z (k1 + 15)))) (fun _ _ => nU rfl rfl) ?_
 refine gm ?_
 simp only [pq]
 refine gm ?_
 refine gv (nI (k1 + 20)) (fun _ _ => iC (m := ((k1 : Nat) : Int)) (n := (20 : Int)) (r := (((k1 + 20) : Nat) : Int)) rfl rfl (by omega) (by omega) (by omega)) ?_
 refine gi ?_
 simp only [pq]
 refine gv (pP rb ((k1 + 20))) (fun _ _ => gC (i := (k1 + 20)) Tryz.underlying217 (cP _) rfl rfl (by omega)) ?_
 refine gv _ (fun _ a6 => aD rfl (aW (fP _) (St.cell (St.tells a5 a6) (i := 1) rfl (fQ (Nat.lt_of_lt_of_eq (show (k1 + 20) < 25 by omega) hl.symm))))) ?_
 refine gv (aS (((((at0 Z k1) ^^^ (at0 Z (k1 + 5))) ^^^ (at0 Z (k1 + 10))) ^^^ (at0 Z (k1 + 15))) ^^^ (at0 Z (k1 + 20)))) (fun _ _ => nU rfl rfl) ?_
 simp only [pq]
 refine bY ?_
 intro l2 d9 e0
 clear e0
 have h7 := St.tells a5 d9
 simp only [dE]
 refine dr (pP n2 k1) (gC (i := k1) Tryz.underlying233 (cP _) rfl rfl (by omega)) ?_
 refine fL (i := 0) (v := aS (((((at0 Z k1) ^^^ (at0 Z (k1 + 5))) ^^^ (at0 Z (k1 + 10))) ^^^ (at0 Z (k1 + 15))) ^^^ (at0 Z (k1 + 20)))) h7 rfl rfl rfl rfl (rC) (lS rfl) (by rw [List.length_map, (LL _ _)]; show k1 + 1 ≤ 5; omega) (fun h0 b0 => ?_)
 simp only [pq]
 have b0 : St w0 F0 h0 F (⟨n2, (cA ((cL Z k1).map aS) k1 [aS (((((at0 Z k1) ^^^ (at0 Z (k1 + 5))) ^^^ (at0 Z (k1 + 10))) ^^^ (at0 Z (k1 + 15))) ^^^ (at0 Z (k1 + 20)))]), 233⟩ :: ⟨rb, (Z.map aS), 217⟩ :: L0) (M0) := b0
 rw [oB (Nat.lt_of_lt_of_eq (show k1 < 5 by omega) (LL _ _).symm)] at b0
 have b0 : St w0 F0 h0 F (⟨n2, (((cL Z k1).set k1 (YT Z k1)).map aS), 233⟩ :: ⟨rb, (Z.map aS), 217⟩ :: L0) (M0) := b0
 rw [Gg Z (by omega)] at b0
 refine wlK d7 ?_
 refine aB ?_
 refine cO (k1 + 1) ?_
 refine dx ?_
 refine aG ?_
 exact d5 _ _ _ (by omega) ⟨(k1 + 1), _, rfl, rfl, rfl, b0, (by omega)⟩
 refine eT ?_
 simp only [pq]
 refine wn b7 ?_
 refine aE fun l3 h8 => ?_
 refine aF ?_
 refine cV ?_
 refine hK5 _ _ ?_
 refine aE fun l4 e1 => ?_
 refine aE fun l5 e2 => ?_
 obtain rfl : k1 = 5 := by omega
 refine aB ?_
 refine dx ?_
 refine wlK e2 ?_
 refine aM ?_
 have a5 : St w0 F0 h5 F (⟨n2, ((cL Z 5).map aS), 233⟩ :: ⟨rb, ((thL Z (cL Z 5) 0).map aS), 217⟩ :: L0) (M0) := by rw [Ax hl]; exact a5
 refine bA (fun mm aa h9 => ∃ (k2 : Nat) (a1 : Nat → Value), mm = 25 - k2 ∧ a1 = dV aa ∧ aa = ⟨([(pP rb 0), (nI r), undef, undef, (pP n2 0), (u7 5), (a1 6), (a1 7)] ++ (udF 6 ([(iI 5), bF] ++ (usF u7 16 37 ([(nI k2)] ++ (usF a1 54 25 (udF 72 []))))))).toArray, []⟩ ∧ St w0 F0 h9 F (⟨n2, ((cL Z 5).map aS), 233⟩ :: ⟨rb, ((thL Z (cL Z 5) k2).map aS), 217⟩ :: L0) (M0) ∧ (k2 ≤ 25)) _ ⟨0, _, rfl, rfl, rfl, a5, (by omega)⟩ ?_
 rintro l6 l7 l8 ⟨k2, a1, rfl, -, hfr, a7, hk2⟩ l9 e3
 simp only [uzF, Nat.reduceAdd] at hfr; subst hfr
 refine sk fun m0 b9 => ?_
 by_cases i0 : k2 < 25
 refine eZ ?_
 refine wn b9 ?_
 refine aE fun m1 e4 => ?_
 refine aJ ?_
 refine aH ?_
 refine e4 _ _ ?_
 refine aE fun m2 e5 => ?_
 refine aM ?_
 refine sk fun m3 e6 => ?_
 refine aC ?_
 refine wn e6 ?_
 refine sk fun m4 e7 => ?_
 refine dx ?_
 refine dr (nI (k2 % 5)) (pR (m := k2) (n := 5) rfl rfl (by decide) (by omega)) ?_
 refine dy ?_
 simp only [pq]
 refine wn e7 ?_
 refine aT F 19 [(15, .is (aS (pH (at0 (cL Z 5) (((k2 % 5) + 1) % 5)) 1)))] (by kernel_rfl) (by kernel_rfl) ?_
 simp only [dD]
 iterate 2 refine gm ?_
 refine gi ?_
 simp only [pq]
 refine gv (pP rb k2) (fun _ _ => gC (i := k2) Tryz.underlying217 (cP _) rfl rfl (by omega)) ?_
 refine gv _ (fun _ b6 => aD rfl (aW (fP _) (St.cell (St.tells a7 b6) (i := 1) rfl (fQ (Nat.lt_of_lt_of_eq (show k2 < 25 by omega) (BP _ _ _).symm))))) ?_
 refine gm ?_
 simp only [pq]
 refine gv (nI ((k2 % 5) + 4)) (fun _ _ => iC (m := (((k2 % 5) : Nat) : Int)) (n := (4 : Int)) (r := ((((k2 % 5) + 4) : Nat) : Int)) rfl rfl (by omega) (by omega) (by omega)) ?_
 refine gv (.int .i64 (((((k2 % 5) + 4) % 5) : Nat) : Int)) (fun _ _ => pR (m := ((k2 % 5) + 4)) (n := 5) rfl rfl (by decide) (by omega)) ?_
 refine gv (pP n2 ((((k2 % 5) + 4) % 5))) (fun _ _ => gC (i := (((k2 % 5) + 4) % 5)) Tryz.underlying233 (cP _) rfl rfl (by omega)) ?_
 simp only [pq]
 refine gv _ (fun _ b6 => aD rfl (aW (fP _) (St.cell (St.tells a7 b6) (i := 0) rfl (fQ (Nat.lt_of_lt_of_eq (show (((k2 % 5) + 4) % 5) < 5 by omega) (LL _ _).symm))))) ?_
 refine gm ?_
 refine gv (nI ((k2 % 5) + 1)) (fun _ _ => iC (m := (((k2 % 5) : Nat) : Int)) (n := (1 : Int)) (r := ((((k2 % 5) + 1) : Nat) : Int)) rfl rfl (by omega) (by omega) (by omega)) ?_
 simp only [pq]
 refine gv (.int .i64 (((((k2 % 5) + 1) % 5) : Nat) : Int)) (fun _ _ => pR (m := ((k2 % 5) + 1)) (n := 5) rfl rfl (by decide) (by omega)) ?_
 refine gv (pP n2 ((((k2 % 5) + 1) % 5))) (fun _ _ => gC (i := (((k2 % 5) + 1) % 5)) Tryz.underlying233 (cP _) rfl rfl (by omega)) ?_
 refine gv _ (fun _ b6 => aD rfl (aW (fP _) (St.cell (St.tells a7 b6) (i := 0) rfl (fQ (Nat.lt_of_lt_of_eq (show (((k2 % 5) + 1) % 5) < 5 by omega) (LL _ _).symm))))) ?_
 simp only [pq]
 refine gY rfl rfl (v := (aS (pH (at0 (cL Z 5) (((k2 % 5) + 1) % 5)) 1))) (fun m5 b6 _ => bO (cK (vs := #[(aS (at0 (cL Z 5) (((k2 % 5) + 1) % 5))), (iI 1)]) (iD rfl rfl) rfl (UK _ _)) (iB (IR _ (at0 (cL Z 5) (((k2 % 5) + 1) % 5)) 1 (by decide) (by decide)))) ?_
 refine gv (aS ((at0 (cL Z 5) (((k2 % 5) + 4) % 5)) ^^^ (pH (at0 (cL Z 5) (((k2 % 5) + 1) % 5)) 1))) (fun _ _ => nU rfl rfl) ?_
 refine gv (aS ((at0 (thL Z (cL Z 5) k2) k2) ^^^ ((at0 (cL Z 5) (((k2 % 5) + 4) % 5)) ^^^ (pH (at0 (cL Z 5) (((k2 % 5) + 1) % 5)) 1)))) (fun _ _ => nU rfl rfl) ?_
 refine gi ?_
 simp only [pq]
 refine bY ?_
 intro m6 e8 e9
 clear e9
 have i1 := St.tells a7 e8
 simp only [dE]
 refine dr (pP rb k2) (gC (i := k2) Tryz.underlying217 (cP _) rfl rfl (by omega)) ?_
 refine fL (i := 1) (v := aS ((at0 (thL Z (cL Z 5) k2) k2) ^^^ ((at0 (cL Z 5) (((k2 % 5) + 4) % 5)) ^^^ (pH (at0 (cL Z 5) (((k2 % 5) + 1) % 5)) 1)))) i1 rfl rfl rfl rfl (rC) (lS rfl) (by rw [List.length_map, (BP _ _ _)]; show k2 + 1 ≤ 25; omega) (fun h1 a8 => ?_)
 simp only [pq]
 have a8 : St w0 F0 h1 F (⟨n2, ((cL Z 5).map aS), 233⟩ :: ⟨rb, (cA ((thL Z (cL Z 5) k2).map aS) k2 [aS ((at0 (thL Z (cL Z 5) k2) k2) ^^^ ((at0 (cL Z 5) (((k2 % 5) + 4) % 5)) ^^^ (pH (at0 (cL Z 5) (((k2 % 5) + 1) % 5)) 1)))]), 217⟩ :: L0) (M0) := a8
 rw [oB (Nat.lt_of_lt_of_eq (show k2 < 25 by omega) (BP _ _ _).symm)] at a8
 rw [Iv (S := Z) (C := (cL Z 5)) (i := k2) (by omega)] at a8
 have a8 : St w0 F0 h1 F (⟨n2, ((cL Z 5).map aS), 233⟩ :: ⟨rb, (((thL Z (cL Z 5) k2).set k2 (Hr Z (cL Z 5) k2)).map aS), 217⟩ :: L0) (M0) := a8
 rw [Ay Z _ (by omega)] at a8
 refine wlK e5 ?_
 refine aB ?_
 refine cO (k2 + 1) ?_
 refine dx ?_
 refine aG ?_
 exact e3 _ _ _ (by omega) ⟨(k2 + 1), _, rfl, rfl, rfl, a8, (by omega)⟩
 refine eT ?_
 simp only [pq]
 refine wn b9 ?_
 refine aE fun m7 i2 => ?_
 refine aF ?_
 refine cV ?_
 refine e1 _ _ ?_
 refine aE fun m8 f0 => ?_
 obtain rfl : k2 = 25 := by omega
 obtain ⟨A, hA⟩ : ∃ A, A = thL Z (cL Z 5) 25 := ⟨_, rfl⟩
 have hAl : A.length = 25 := by rw [hA]; exact BP _ _ _
 rw [← hA] at a7
 refine aB ?_
 refine aC ?_
 refine dr (pP rb 1) (gC (i := 1) Tryz.underlying217 (cP _) rfl rfl (by omega)) ?_
 simp only [pq]
 refine dr _ (aD rfl (aW (fP _) (St.cell a7 (i := 1) rfl (fQ (Nat.lt_of_lt_of_eq (show 1 < 25 by omega) hAl.symm))))) ?_
 refine dy ?_
 refine wlK f0 ?_
 refine aE fun n0 f1 => ?_
 refine sk fun n1 f2 => ?_
 refine dr (.agg AH) (aD rfl (WP (hT.at a7.gr.below))) ?_
 refine dx ?_
 simp only [pq]
 refine wn f2 ?_
 refine aM ?_
 refine bA (fun mm aa i3 => ∃ (k3 : Nat) (a2 : Nat → Value), mm = 24 - k3 ∧ a2 = dV aa ∧ aa = ⟨([(pP rb 0), (nI r), undef, undef, (pP n2 0), (u7 5), (a1 6), (a1 7), (aS (rN A k3).2), (a2 9), (a2 10), undef, undef, undef, (iI 5), bF] ++ (usF u7 16 37 ([(iI 25), bF] ++ (usF a1 55 24 ([(pP rb 0), (pP rb 0), (pP rb 1), (aS (at0 A 1)), (.agg AH), (nI k3)] ++ (usF a2 85 18 (udF 48 []))))))).toArray, []⟩ ∧ St w0 F0 i3 F (⟨n2, ((cL Z 5).map aS), 233⟩ :: ⟨rb, ((rN A k3).1.map aS), 217⟩ :: L0) (M0) ∧ (k3 ≤ 24)) _ ⟨0, _, rfl, rfl, rfl, a7, (by omega)⟩ ?_
 rintro n3 n4 i4 ⟨k3, a2, rfl, -, hfr, b1, hk3⟩ n5 f3
 simp only [uzF, Nat.reduceAdd] at hfr; subst hfr
 refine sk fun n6 c0 => ?_
 by_cases i5 : k3 < 24
 refine eZ ?_
 refine wn c0 ?_
 refine aE fun n7 f4 => ?_
 refine aJ ?_
 refine aH ?_
 refine f4 _ _ ?_
 refine aE fun n8 f5 => ?_
 refine aM ?_
 refine aE fun n9 f6 => ?_
 have hgo := Aw k3 (by omega)
 refine aB ?_
 refine dx ?_
 refine dr (nI (lQ k3)) (Iw (i := k3) Tryz.underlying235 (eA _) rfl rfl (by omega) (bN _) (Gf (by omega))) ?_
 refine aC ?_
 refine wlK f6 ?_
 refine aT F 13 [(6, .is (aS (pH ((rN A k3).2) (mZ k3))))] (by kernel_rfl) (by kernel_rfl) ?_
 simp only [dD]
 iterate 2 refine gm ?_
 simp only [pq]
 iterate 2 refine gm ?_
 refine gv (pP 3 k3) (fun _ _ => gC (i := k3) Tryz.underlying235 (eA _) rfl rfl (by omega)) ?_
 simp only [pq]
 refine gv _ (fun _ d2 => aD rfl (aW (bN _) (((hT.at (St.tells b1 d2).gr.below).2.1 k3 (by omega))))) ?_
 simp only [pq]
 refine gY rfl rfl (v := (aS (pH ((rN A k3).2) (mZ k3)))) (fun o0 d2 _ => bO (cK (vs := #[(aS (rN A k3).2), (nI (mZ k3))]) (iD rfl rfl) rfl (UK _ _)) (iB (IR _ ((rN A k3).2) (mZ k3) (IS _ (by omega)).1 (IS _ (by omega)).2))) ?_
 iterate 2 refine gm ?_
 refine gi ?_
 simp only [pq]
 refine gv (pP rb ((lQ k3))) (fun _ _ => gC (i := (lQ k3)) Tryz.underlying217 (cP _) rfl rfl (by omega)) ?_
 refine gv _ (fun _ d2 => aD rfl (aW (fP _) (St.cell (St.tells b1 d2) (i := 1) rfl (fQ (Nat.lt_of_lt_of_eq (show (lQ k3) < 25 by omega) (uD hAl _).symm))))) ?_
 refine gi ?_
 simp only [pq]
 refine bY ?_
 intro o1 f7 f8
 clear f8
 have i6 := St.tells b1 f7
 simp only [dE]
 refine dr (pP rb ((lQ k3))) (gC (i := (lQ k3)) Tryz.underlying217 (cP _) rfl rfl (by omega)) ?_
 refine fL (i := 1) (v := aS (pH ((rN A k3).2) (mZ k3))) i6 rfl rfl rfl rfl (rC) (lS rfl) (by rw [List.length_map, (uD hAl _)]; show (lQ k3) + 1 ≤ 25; omega) (fun i7 c1 => ?_)
 simp only [pq]
 have c1 : St w0 F0 i7 F (⟨n2, ((cL Z 5).map aS), 233⟩ :: ⟨rb, (cA (((rN A k3).1).map aS) (lQ k3) [aS (pH ((rN A k3).2) (mZ k3))]), 217⟩ :: L0) (M0) := c1
 rw [oB (Nat.lt_of_lt_of_eq (show (lQ k3) < 25 by omega) (uD hAl _).symm)] at c1
 rw [Gk] at c1
 refine dy ?_
 refine wlK f5 ?_
 refine aB ?_
 refine cO (k3 + 1) ?_
 refine dx ?_
 simp only [pq]
 refine aG ?_
 exact f3 _ _ _ (by omega) ⟨(k3 + 1), _, rfl, rfl, rfl, c1, (by omega)⟩
 refine eT ?_
 refine wn c0 ?_
 refine aE fun o2 i8 => ?_
 refine aF ?_
 refine cV ?_
 refine f1 _ _ ?_
 refine aE fun o3 f9 => ?_
 refine aE fun o4 g0 => ?_
 obtain rfl : k3 = 24 := by omega
 obtain ⟨Q, hQ⟩ : ∃ Q, Q = (rN A 24).1 := ⟨_, rfl⟩
 have hQl : Q.length = 25 := by rw [hQ]; exact uD hAl _
 rw [← hQ] at b1
 refine aB ?_
 refine dy ?_
 refine wlK g0 ?_
 refine aM ?_
 have b1 : St w0 F0 i4 F (⟨n2, ((cL Z 5).map aS), 233⟩ :: ⟨rb, ((kJ Q 0).map aS), 217⟩ :: L0) (M0) := by rw [WQ hQl]; exact b1
 refine bA (fun mm aa i9 => ∃ (y : Nat) (b2 : Nat → Value), mm = 25 - y ∧ b2 = dV aa ∧ aa = ⟨([(pP rb 0), (nI r), undef, undef, (pP n2 0), (u7 5), (a1 6), (a1 7), (aS (rN A 24).2), (a2 9), (a2 10), (nI y), (b2 12), (b2 13), (iI 5), bF] ++ (usF u7 16 37 ([(iI 25), bF] ++ (usF a1 55 24 ([(pP rb 0), (pP rb 0), (pP rb 1), (aS (at0 A 1)), (.agg AH), (iI 24), bF] ++ (usF a2 86 17 (usF b2 103 38 (udF 10 [])))))))).toArray, []⟩ ∧ St w0 F0 i9 F (⟨n2, ((cL Z 5).map aS), 233⟩ :: ⟨rb, ((kJ Q y).map aS), 217⟩ :: L0) (M0) ∧ (y % 5 = 0) ∧ (y ≤ 25)) _ ⟨0, _, rfl, rfl, rfl, b1, (by omega), (by omega)⟩ ?_
 rintro o5 o6 o7 ⟨y, b2, rfl, -, hfr, c2, hy5, j0⟩ o8 g1
 simp only [uzF, Nat.reduceAdd] at hfr; subst hfr
 refine aE fun o9 g2 => ?_
 refine sk fun p0 c3 => ?_
 refine dx ?_
 simp only [pq]
 by_cases h2 : y < 25
 refine eZ ?_
 refine wn c3 ?_
 refine aJ ?_
 refine aH ?_
 refine g2 _ _ ?_
 refine aE fun p1 g3 => ?_
 refine aM ?_
 refine sk fun p2 g4 => ?_
 refine aC ?_
 refine cO (y + 5) ?_
 refine dr (.slice (aA rb y) ((y + 5) - y) (25 - y)) (WS (l := y) (h := (y + 5)) Tryz.underlying217 rfl (cP _) rfl rfl (by omega) (by omega) (by omega)) ?_
 simp only [pq]
 refine dr (pP rb y) (Ix Tryz.underlying233 rfl (by omega)) ?_
 refine dr (.agg #[(aS (at0 (kJ Q y) y)), (aS (at0 (kJ Q y) (y + 1))), (aS (at0 (kJ Q y) (y + 2))), (aS (at0 (kJ Q y) (y + 3))), (aS (at0 (kJ Q y) (y + 4)))]) (aD rfl (Ba (St.cellsAt c2 (i := 1) rfl) (show y + 5 ≤ (kJ Q y).length from by rw [(rD _ _)]; omega))) ?_
 refine sA c2 (PE _) fun b3 p3 j1 => ?_
 simp only [pq]
 refine sW 0 j1 (Av) fun j2 d3 => ?_
 refine wn g4 ?_
 refine sk fun p4 g5 => ?_
 refine dx ?_
 refine wn g5 ?_
 refine aM ?_
 have d3 : St w0 F0 j2 F (⟨b3, ((oW (kJ Q y) y).map aS), 233⟩ :: ⟨n2, ((cL Z 5).map aS), 233⟩ :: ⟨rb, ((kJ Q y).map aS), 217⟩ :: L0) (M0) := d3
 rw [Bb (by omega)] at d3
 refine bA (fun mm aa j3 => ∃ (k5 : Nat) (d4 : Nat → Value), mm = 5 - k5 ∧ d4 = dV aa ∧ aa = ⟨([(pP rb 0), (nI r), undef, undef, (pP n2 0), (u7 5), (a1 6), (a1 7), (aS (rN A 24).2), (a2 9), (a2 10), (nI y), (pP b3 0), (d4 13), (iI 5), bF] ++ (usF u7 16 37 ([(iI 25), bF] ++ (usF a1 55 24 ([(pP rb 0), (pP rb 0), (pP rb 1), (aS (at0 A 1)), (.agg AH), (iI 24), bF] ++ (usF a2 86 17 ([(nI y), bT, (b2 105), (b2 106), (pP rb 0), (pP rb 0), (nI y), (nI y), (nI (y + 5)), (.slice (aA rb y) ((y + 5) - y) (25 - y)), (pP rb y), (.agg #[(aS (at0 (kJ Q y) y)), (aS (at0 (kJ Q y) (y + 1))), (aS (at0 (kJ Q y) (y + 2))), (aS (at0 (kJ Q y) (y + 3))), (aS (at0 (kJ Q y) (y + 4)))]), (nI k5)] ++ (usF d4 116 25 (udF 10 []))))))))).toArray, []⟩ ∧ St w0 F0 j3 F (⟨b3, ((oW Q y).map aS), 233⟩ :: ⟨n2, ((cL Z 5).map aS), 233⟩ :: ⟨rb, ((kJ Q (y + k5)).map aS), 217⟩ :: L0) (M0) ∧ (k5 ≤ 5)) _ ⟨0, _, rfl, rfl, rfl, d3, (by omega)⟩ ?_
 rintro p5 p6 p7 ⟨k5, d4, rfl, -, hfr, b4, hk5⟩ j4 c4
 simp only [uzF, Nat.reduceAdd] at hfr; subst hfr
 refine sk fun j5 a9 => ?_
 by_cases h3 : k5 < 5
 refine eZ ?_
 simp only [pq]
 refine wn a9 ?_
 refine aE fun j6 c5 => ?_
 refine aJ ?_
 refine aH ?_
 refine c5 _ _ ?_
 refine aE fun j7 c6 => ?_
 refine aM ?_
 refine sk fun j8 c7 => ?_
 refine aC ?_
 refine wn c7 ?_
 refine aT F 21 [] (by kernel_rfl) (by kernel_rfl) ?_
 simp only [dD]
 refine gm ?_
 simp only [pq]
 iterate 2 refine gm ?_
 refine gv (nI (y + k5)) (fun _ _ => iC (m := ((y : Nat) : Int)) (n := ((k5 : Nat) : Int)) (r := (((y + k5) : Nat) : Int)) rfl rfl (by omega) (by omega) (by omega)) ?_
 simp only [pq]
 refine gm ?_
 refine gv (pP b3 k5) (fun _ _ => gC (i := k5) Tryz.underlying233 (cP _) rfl rfl (by omega)) ?_
 refine gv _ (fun _ a3 => aD rfl (aW (fP _) (St.cell (St.tells b4 a3) (i := 0) rfl (fQ (Nat.lt_of_lt_of_eq (show k5 < 5 by omega) (EE _ _).symm))))) ?_
 simp only [pq]
 refine gm ?_
 refine gv (nI (k5 + 1)) (fun _ _ => iC (m := ((k5 : Nat) : Int)) (n := (1 : Int)) (r := (((k5 + 1) : Nat) : Int)) rfl rfl (by omega) (by omega) (by omega)) ?_
 refine gv (nI ((k5 + 1) % 5)) (fun _ _ => pR (m := (k5 + 1)) (n := 5) rfl rfl (by decide) (by omega)) ?_
 simp only [pq]
 refine gv (pP b3 (((k5 + 1) % 5))) (fun _ _ => gC (i := ((k5 + 1) % 5)) Tryz.underlying233 (cP _) rfl rfl (by omega)) ?_
 refine gv _ (fun _ a3 => aD rfl (aW (fP _) (St.cell (St.tells b4 a3) (i := 0) rfl (fQ (Nat.lt_of_lt_of_eq (show ((k5 + 1) % 5) < 5 by omega) (EE _ _).symm))))) ?_
 refine gv (aS (~~~ (at0 (oW Q y) ((k5 + 1) % 5)))) (fun _ _ => Gj rfl) ?_
 simp only [pq]
 refine gm ?_
 refine gv (nI (k5 + 2)) (fun _ _ => iC (m := ((k5 : Nat) : Int)) (n := (2 : Int)) (r := (((k5 + 2) : Nat) : Int)) rfl rfl (by omega) (by omega) (by omega)) ?_
 refine gv (nI ((k5 + 2) % 5)) (fun _ _ => pR (m := (k5 + 2)) (n := 5) rfl rfl (by decide) (by omega)) ?_
 simp only [pq]
 refine gv (pP b3 (((k5 + 2) % 5))) (fun _ _ => gC (i := ((k5 + 2) % 5)) Tryz.underlying233 (cP _) rfl rfl (by omega)) ?_
 refine gv _ (fun _ a3 => aD rfl (aW (fP _) (St.cell (St.tells b4 a3) (i := 0) rfl (fQ (Nat.lt_of_lt_of_eq (show ((k5 + 2) % 5) < 5 by omega) (EE _ _).symm))))) ?_
 refine gv (aS ((~~~ (at0 (oW Q y) ((k5 + 1) % 5))) &&& (at0 (oW Q y) ((k5 + 2) % 5)))) (fun _ _ => Gi rfl rfl) ?_
 simp only [pq]
 refine gv (aS ((at0 (oW Q y) k5) ^^^ ((~~~ (at0 (oW Q y) ((k5 + 1) % 5))) &&& (at0 (oW Q y) ((k5 + 2) % 5))))) (fun _ _ => nU rfl rfl) ?_
 refine gi ?_
 refine bY ?_
 intro j9 c8 c9
 clear c9
 have g6 := St.tells b4 c8
 simp only [dE]
 refine dr (pP rb ((y + k5))) (gC (i := (y + k5)) Tryz.underlying217 (cP _) rfl rfl (by omega)) ?_
 simp only [pq]
 refine fL (i := 2) (v := aS ((at0 (oW Q y) k5) ^^^ ((~~~ (at0 (oW Q y) ((k5 + 1) % 5))) &&& (at0 (oW Q y) ((k5 + 2) % 5))))) g6 rfl rfl rfl rfl (rC) (lS rfl) (by rw [List.length_map, (rD _ _)]; show (y + k5) + 1 ≤ 25; omega) (fun g7 a4 => ?_)
 simp only [pq]
 have a4 : St w0 F0 g7 F (⟨b3, ((oW Q y).map aS), 233⟩ :: ⟨n2, ((cL Z 5).map aS), 233⟩ :: ⟨rb, (cA ((kJ Q (y + k5)).map aS) (y + k5) [aS ((at0 (oW Q y) k5) ^^^ ((~~~ (at0 (oW Q y) ((k5 + 1) % 5))) &&& (at0 (oW Q y) ((k5 + 2) % 5))))]), 217⟩ :: L0) (M0) := a4
 rw [oB (Nat.lt_of_lt_of_eq (show (y + k5) < 25 by omega) (rD _ _).symm)] at a4
 rw [Gl hy5 (by omega), WR Q (by omega)] at a4
 refine wlK c6 ?_
 refine aB ?_
 refine cO (k5 + 1) ?_
 refine dx ?_
 refine aG ?_
 exact c4 _ _ _ (by omega) ⟨(k5 + 1), _, rfl, rfl, rfl, a4, (by omega)⟩
 refine eT ?_
 simp only [pq]
 refine wn a9 ?_
 refine aE fun k0 h4 => ?_
 refine aF ?_
 refine cV ?_
 refine g3 _ _ ?_
 obtain rfl : k5 = 5 := by omega
 refine aB ?_
 refine dx ?_
 refine cO (y + 5) ?_
 refine dy ?_
 simp only [pq]
 refine aG ?_
 have b4 := St.drop b4 (.cons _ (List.Sublist.refl _))
 exact g1 _ _ _ (by omega) ⟨(y + 5), _, rfl, rfl, rfl, b4, (by omega), (by omega)⟩
 refine eT ?_
 refine wn c3 ?_
 refine aF ?_
 refine cV ?_
 refine f9 _ _ ?_
 obtain rfl : y = 25 := by omega
 refine aT F 9 [] (by kernel_rfl) (by kernel_rfl) ?_
 simp only [dD]
 refine gm ?_
 refine gi ?_
 simp only [pq]
 refine gv (pP rb 0) (fun _ _ => gC (i := 0) Tryz.underlying217 (cP _) rfl rfl (by omega)) ?_
 refine gv _ (fun _ b5 => aD rfl (aW (fP _) (St.cell (St.tells c2 b5) (i := 1) rfl (fQ (Nat.lt_of_lt_of_eq (show 0 < 25 by omega) (rD _ _).symm))))) ?_
 refine gm ?_
 simp only [pq]
 refine gv (pP 4 r) (fun _ _ => gC (i := r) Tryz.underlying218 (cP _) rfl rfl (by omega)) ?_
 refine gv _ (fun _ b5 => aD rfl (aW (fP _) (((hT.at (St.tells c2 b5).gr.below).2.2 r hr)))) ?_
 refine gv (aS ((at0 (kJ Q 25) 0) ^^^ (yP r))) (fun _ _ => nU rfl rfl) ?_
 simp only [pq]
 refine gi ?_
 refine bY ?_
 intro k4 d0 d1
 clear d1
 have g8 := St.tells c2 d0
 simp only [dE]
 refine dr (pP rb 0) (gC (i := 0) Tryz.underlying217 (cP _) rfl rfl (by omega)) ?_
 refine fL (i := 1) (v := aS ((at0 (kJ Q 25) 0) ^^^ (yP r))) g8 rfl rfl rfl rfl (rC) (lS rfl) (by rw [List.length_map, (rD _ _)]; show 0 + 1 ≤ 25; omega) (fun g9 a0 => ?_)
 simp only [pq]
 have a0 : St w0 F0 g9 F (⟨n2, ((cL Z 5).map aS), 233⟩ :: ⟨rb, (cA ((kJ Q 25).map aS) 0 [aS ((at0 (kJ Q 25) 0) ^^^ (yP r))]), 217⟩ :: L0) (M0) := a0
 rw [oB (Nat.lt_of_lt_of_eq (show 0 < 25 by omega) (rD _ _).symm)] at a0
 refine aG ?_
 try simp only [xt]
 refine bE (Jw rfl) ?_
 rw [Az] at a0
 have a0 := St.drop a0 (.cons _ (List.Sublist.refl _))
 rw [hQ, hA, Iu] at a0
 exact ⟨rfl, a0⟩
end Go.Proofs.YtilgpdpooildcaaGreatDoor
