/- Rules, plain laws and walks: X1 X2 X3 P13 X4 K7 -/
import Derived.Test.YtilgpdpooildcaaGreatDoorEA5
namespace Go.Proofs.YtilgpdpooildcaaGreatDoor
set_option maxHeartbeats 8000000
open Go.RowKit
set_option maxRecDepth 100000
set_option linter.unusedVariables false
set_option linter.unusedSimpArgs false
theorem dE (F : Fz) (w : World) (v u : Value) (l m : By) (hs : Sat w F) (hv : Bs F v l) (hu : Bs F u m) :
    Calls Tryz.prog 108 #[v, u] w (cT w (.bool (l == m))) := by
 obtain ⟨a, c, rfl, _⟩ := hv.shape
 obtain ⟨a2, c2, rfl, _⟩ := hu.shape
 have S := St.start hs
 go_enter Tryz.func108, Tryz.ntmps108
 refine sk fun K1 hK1 => ?_
 refine dy ?_
 refine wn hK1 ?_
 refine sk fun K2 hK2 => ?_
 refine dx ?_
 refine dr (.string ⟨l.toArray⟩) (aU (v := (.slice a l.length c)) rfl (gE Tryz.underlying25 Tryz.underlying5 Tryz.underlying9 (S).sat hv)) ?_
 refine dx ?_
 simp only [pq]
 refine dr (.string ⟨m.toArray⟩) (aU (v := (.slice a2 m.length c2)) rfl (gE Tryz.underlying25 Tryz.underlying5 Tryz.underlying9 (S).sat hu)) ?_
 refine dr (.bool (l == m)) (tO (op := .eql) (l := l) (m := m) (b := (l == m)) (by simp) rfl rfl (rfl)) ?_
 refine dy ?_
 simp only [pq]
 refine wn hK2 ?_
 refine aO ?_
 try simp only [xt]
 refine bR (bA rfl (gD rfl)) ?_
 ·exact ⟨rfl, S.gr.below⟩
theorem pE (F : Fz) (w : World) (v u : Value) (p q : Wr) (hs : Sat w F) (hv : WrV F v p) (hu : WrV F u q) :
    Calls Tryz.prog 104 #[v, u] w (cT w (.bool (dK p q))) := by
 obtain ⟨x0, x1, x2, x3, x4, x5, rfl, h0, h1, h3⟩ := hv
 obtain ⟨y0, y1, y2, y3, y4, y5, rfl, k0, k1, k3⟩ := hu
 have S := St.start hs
 go_enter Tryz.func104, Tryz.ntmps104
 refine sk fun K1 hK1 => ?_
 refine bH S (v := fun n => .pointer (aA n 0)) rfl (bX (v := (.agg #[(.slice x0 p.name.length x1), (.slice x2 p.key.length x3), (.bool p.gone), (.slice x4 p.value.length x5)])) rfl) (fun n2 w3 S4 => ?_)
 refine bH S4 (v := fun n => .pointer (aA n 0)) rfl (bX (v := (.agg #[(.slice y0 q.name.length y1), (.slice y2 q.key.length y3), (.bool q.gone), (.slice y4 q.value.length y5)])) rfl) (fun n5 w6 S7 => ?_)
 simp only [pq]
 refine dy ?_
 refine wn hK1 ?_
 refine aE fun K8 hK8 => ?_
 by_cases e1 : p.name = q.name
 refine aB ?_
 refine aC ?_
 refine aJ (v := bT) S7 rfl (fn2 (jN _ _)) (eI (dE _ _ _ _ p.name q.name (S7).sat h0 k0) (beq_iff_eq.2 (e1))) (fun w9 a0 => ?_)
 refine aC ?_
 refine aJ (v := (.bool (p.key == q.key))) a0 rfl (fn2 (jN _ _)) (dE _ _ _ _ p.key q.key (a0).sat h1 k1) (fun a3 a1 => ?_)
 refine aC ?_
 refine wlK hK8 ?_
 refine aO ?_
 try simp only [xt]
 refine bR (bA rfl (gD rfl)) ?_
 exact ⟨by unfold dK; rw [beq_iff_eq.2 e1]; rfl, a1.gr.below⟩
 refine aB ?_
 refine aC ?_
 refine aJ (v := bF) S7 rfl (fn2 (jN _ _)) (eI (dE _ _ _ _ p.name q.name (S7).sat h0 k0) (beq_eq_false_iff_ne.2 (e1))) (fun a4 a2 => ?_)
 refine aC ?_
 refine wlK hK8 ?_
 refine aO ?_
 try simp only [xt]
 refine bR (bA rfl (gD rfl)) ?_
 exact ⟨by unfold dK; rw [beq_eq_false_iff_ne.2 e1]; rfl, a2.gr.below⟩
theorem vV (F : Fz) (w : World) (v u : Value) (p q : Rd) (hs : Sat w F) (hv : RdV F v p) (hu : RdV F u q) :
    Calls Tryz.prog 129 #[v, u] w (cT w (.bool (decide (p = q)))) := by
 obtain ⟨x0, x1, x2, x3, x4, x5, rfl, h0, h1, h3⟩ := hv
 obtain ⟨y0, y1, y2, y3, y4, y5, rfl, k0, k1, k3⟩ := hu
 have S := St.start hs
 go_enter Tryz.func129, Tryz.ntmps129
 refine sk fun K1 hK1 => ?_
 refine bH S (v := fun n => .pointer (aA n 0)) rfl (bX (v := (.agg #[(.slice x0 p.name.length x1), (.slice x2 p.key.length x3), (.bool p.wide), (.slice x4 p.last.length x5)])) rfl) (fun n2 w3 S4 => ?_)
 refine bH S4 (v := fun n => .pointer (aA n 0)) rfl (bX (v := (.agg #[(.slice y0 q.name.length y1), (.slice y2 q.key.length y3), (.bool q.wide), (.slice y4 q.last.length y5)])) rfl) (fun n5 w6 S7 => ?_)
 simp only [pq]
 refine dy ?_
 refine wn hK1 ?_
 refine aE fun K8 hK8 => ?_
 by_cases e0 : p.wide = q.wide
 by_cases e1 : p.name = q.name
 by_cases e2 : p.key = q.key
 refine aB ?_
 refine aC ?_
 refine dr bT (pV Tryz.underlying4 rfl rfl (beq_iff_eq.2 e0)) ?_
 refine aC ?_
 refine aJ (v := bT) S7 rfl (fn2 (jN _ _)) (eI (dE _ _ _ _ p.name q.name (S7).sat h0 k0) (beq_iff_eq.2 (e1))) (fun w9 a0 => ?_)
 refine aC ?_
 refine aJ (v := bT) a0 rfl (fn2 (jN _ _)) (eI (dE _ _ _ _ p.key q.key (a0).sat h1 k1) (beq_iff_eq.2 (e2))) (fun a6 a1 => ?_)
 refine aC ?_
 refine aJ (v := (.bool (p.last == q.last))) a1 rfl (fn2 (jN _ _)) (dE _ _ _ _ p.last q.last (a1).sat h3 k3) (fun a7 a3 => ?_)
 refine aC ?_
 refine wlK hK8 ?_
 refine aO ?_
 try simp only [xt]
 refine bR (bA rfl (gD rfl)) ?_
 exact ⟨by rw [show decide (p = q) = (p.last == q.last) from by rw [Bool.eq_iff_iff, decide_eq_true_iff, beq_iff_eq]; exact ⟨fun e => by rw [e], fun e => by cases p; cases q; simp_all⟩], a3.gr.below⟩
 refine aB ?_
 refine aC ?_
 refine dr bT (pV Tryz.underlying4 rfl rfl (beq_iff_eq.2 e0)) ?_
 refine aC ?_
 refine aJ (v := bT) S7 rfl (fn2 (jN _ _)) (eI (dE _ _ _ _ p.name q.name (S7).sat h0 k0) (beq_iff_eq.2 (e1))) (fun a8 a2 => ?_)
 refine aC ?_
 refine aJ (v := bF) a2 rfl (fn2 (jN _ _)) (eI (dE _ _ _ _ p.key q.key (a2).sat h1 k1) (beq_eq_false_iff_ne.2 (e2))) (fun a9 a4 => ?_)
 refine aC ?_
 refine wlK hK8 ?_
 refine aO ?_
 try simp only [xt]
 refine bR (bA rfl (gD rfl)) ?_
 exact ⟨by rw [decide_eq_false (fun e => e2 (by rw [e]))], a4.gr.below⟩
 refine aB ?_
 refine aC ?_
 refine dr bT (pV Tryz.underlying4 rfl rfl (beq_iff_eq.2 e0)) ?_
 refine aC ?_
 refine aJ (v := bF) S7 rfl (fn2 (jN _ _)) (eI (dE _ _ _ _ p.name q.name (S7).sat h0 k0) (beq_eq_false_iff_ne.2 (e1))) (fun b0 a5 => ?_)
 refine aC ?_
 refine wlK hK8 ?_
 refine aO ?_
 try simp only [xt]
 refine bR (bA rfl (gD rfl)) ?_
 exact ⟨by rw [decide_eq_false (fun e => e1 (by rw [e]))], a5.gr.below⟩
 refine aB ?_
 refine aC ?_
 refine dr bF (pV Tryz.underlying4 rfl rfl (beq_eq_false_iff_ne.2 e0)) ?_
 refine aC ?_
 refine wlK hK8 ?_
 refine aO ?_
 try simp only [xt]
 refine bR (bA rfl (gD rfl)) ?_
 exact ⟨by rw [decide_eq_false (fun e => e0 (by rw [e]))], S7.gr.below⟩
def rdE (r : Rd) : Int := if iL r.name.length ≠ 0 then iL r.name.length else if cQ r.key.length ≠ 0 then cQ r.key.length else if r.wide = true then cQ r.last.length else if 0 < r.last.length then 4 else 0
theorem EH (F : Fz) (w : World) (v : Value) (r : Rd) (hs : Sat w F) (hv : RdV F v r) :
    Calls Tryz.prog 126 #[v] w (cT w (.int .i64 (rdE r))) := by
 obtain ⟨x0, x1, x2, x3, x4, x5, rfl, h0, h1, h3⟩ := hv
 have S := St.start hs
 go_enter Tryz.func126, Tryz.ntmps126
 refine sk fun K1 hK1 => ?_
 refine bH S (v := fun n => .pointer (aA n 0)) rfl (bX (v := (.agg #[(.slice x0 r.name.length x1), (.slice x2 r.key.length x3), (.bool r.wide), (.slice x4 r.last.length x5)])) rfl) (fun n2 w3 S4 => ?_)
 refine dy ?_
 refine wn hK1 ?_
 refine aE fun K5 hK5 => ?_
 refine sk fun K6 hK6 => ?_
 refine df (DQ _ _) ?_
 refine dl (aZ _) S4 0 ?_
 simp only [pq]
 refine aJ (v := (.int .i64 (iL r.name.length))) S4 rfl (fn1 (JX _ _)) (dL (iC _ _ _ _)) (fun w7 S8 => ?_)
 refine dy ?_
 refine wn hK6 ?_
 refine sk fun K9 hK9 => ?_
 refine dx ?_
 simp only [pq]
 by_cases hc9 : (iL r.name.length) = (0 : Int)
 refine jJ ?_
 refine wn hK9 ?_
 refine aF ?_
 refine aH ?_
 refine hK5 _ _ ?_
 refine aE fun b6 a3 => ?_
 refine sk fun b7 a4 => ?_
 refine df (DR _ _) ?_
 refine dl (aZ _) S8 0 ?_
 simp only [pq]
 refine aJ (v := (.int .i64 (cQ r.key.length))) S8 rfl (fn1 (wJ _ _)) (dL (iH _ _ _ r.key h1)) (fun b9 a0 => ?_)
 refine dy ?_
 refine wn a4 ?_
 refine sk fun c0 a1 => ?_
 refine dx ?_
 simp only [pq]
 by_cases a5 : (cQ r.key.length) = (0 : Int)
 refine jJ ?_
 refine wn a1 ?_
 refine aF ?_
 refine aH ?_
 refine a3 _ _ ?_
 refine aE fun c1 a6 => ?_
 refine sk fun c2 a7 => ?_
 refine df (DS _ _) ?_
 refine dl (iJ _) a0 0 ?_
 refine dr (.bool (!r.wide)) (qI rfl rfl) ?_
 simp only [pq]
 refine wn a7 ?_
 refine wp_cond_split rfl (fun hwd => ?_) (fun hwd => ?_)
 refine aE fun c3 a8 => ?_
 refine sk fun c4 a2 => ?_
 refine df (xV _ _) ?_
 refine dl (aZ _) a0 0 ?_
 refine dn Tryz.underlying25 ?_
 simp only [pq]
 by_cases b4 : 0 < r.last.length
 refine qX ?_
 refine wn a2 ?_
 refine aI ?_
 refine sk fun c5 a9 => ?_
 refine dy ?_
 refine wn a9 ?_
 refine aO ?_
 try simp only [xt]
 refine bR (bA rfl (gD rfl)) ?_
 exact ⟨by unfold rdE; rw [zZa (by omega), zZa (by omega), zZa (by simpa using hwd), zZb (by omega)], a0.gr.below⟩
 refine lS ?_
 simp only [pq]
 refine wn a2 ?_
 refine aF ?_
 refine aH ?_
 refine a8 _ _ ?_
 refine sk fun c6 b0 => ?_
 refine dy ?_
 refine wn b0 ?_
 refine aO ?_
 try simp only [xt]
 refine bR (bA rfl (gD rfl)) ?_
 exact ⟨by unfold rdE; rw [zZa (by omega), zZa (by omega), zZa (by simpa using hwd), zZa (by omega)], a0.gr.below⟩
 refine aH ?_
 refine a6 _ _ ?_
 refine sk fun c7 b1 => ?_
 refine df (xV _ _) ?_
 refine dl (aZ _) a0 0 ?_
 simp only [pq]
 refine aJ (v := (.int .i64 (cQ r.last.length))) a0 rfl (fn1 (wJ _ _)) (dL (iH _ _ _ r.last h3)) (fun c8 b5 => ?_)
 refine dy ?_
 refine wn b1 ?_
 refine aO ?_
 try simp only [xt]
 refine bR (bA rfl (gD rfl)) ?_
 exact ⟨by unfold rdE; rw [zZa (by omega), zZa (by omega), zZb (by simpa using hwd)], b5.gr.below⟩
 refine mQ ?_
 refine wn a1 ?_
 refine aI ?_
 refine sk fun c9 b2 => ?_
 refine dx ?_
 refine dy ?_
 simp only [pq]
 refine wn b2 ?_
 refine aO ?_
 try simp only [xt]
 refine bR (bA rfl (gD rfl)) ?_
 exact ⟨by unfold rdE; rw [zZa (by omega), zZb a5], a0.gr.below⟩
 refine mQ ?_
 refine wn hK9 ?_
 refine aI ?_
 refine sk fun d0 b3 => ?_
 refine dx ?_
 refine dy ?_
 simp only [pq]
 refine wn b3 ?_
 refine aO ?_
 try simp only [xt]
 refine bR (bA rfl (gD rfl)) ?_
 exact ⟨by unfold rdE; rw [zZb hc9], S8.gr.below⟩
theorem HU (F : Fz) (w : World) (v : Value) (r : Rd) (hs : Sat w F) (hv : RdV F v r) (hb0 : r.name.length ≤ 100000) (hb1 : r.key.length ≤ 100000) (hb2 : r.last.length ≤ 100000) :
    Calls Tryz.prog 130 #[v] w (dF w F fun F' u => RdV F' u r) := by
 obtain ⟨x0, x1, x2, x3, x4, x5, rfl, h0, h1, h3⟩ := hv
 have S := St.start hs
 go_enter Tryz.func130, Tryz.ntmps130
 refine sk fun K1 hK1 => ?_
 refine bH S (v := fun n => .pointer (aA n 0)) rfl (bX (v := (.agg #[(.slice x0 r.name.length x1), (.slice x2 r.key.length x3), (.bool r.wide), (.slice x4 r.last.length x5)])) rfl) (fun n2 w3 S4 => ?_)
 refine sA S4 (tQ _) fun n5 w6 S7 => ?_
 refine wn hK1 ?_
 refine aE fun K8 hK8 => ?_
 refine aP F 11 [(2, .made (fun F' u => Bs F' u r.name)), (5, .made (fun F' u => Bs F' u r.key)), (10, .made (fun F' u => Bs F' u r.last))] (by kernel_rfl) (by kernel_rfl) ?_
 simp only [dA]
 refine gf (DQ _ _) ?_
 refine gl aZ S7 1 ?_
 simp only [pq]
 refine eE rfl rfl (fun w9 C9 hF => bQ (cB (vs := #[(.slice x0 r.name.length x1)]) (jQ rfl) rfl (gM _ _)) (dQ S7.sat C9 (dG _ _ _ r.name ((St.tells S7 C9)).sat h0 (by omega)))) (fun c4 => ?_)
 refine gf (DR _ _) ?_
 refine gl aZ S7 1 ?_
 simp only [pq]
 refine eE rfl rfl (fun w9 C9 hF => bQ (cB (vs := #[(.slice x2 r.key.length x3)]) (jQ rfl) rfl (gM _ _)) (dQ S7.sat C9 (dG _ _ _ r.key ((St.tells S7 C9)).sat h1 (by omega)))) (fun c5 => ?_)
 refine gf (DS _ _) ?_
 refine gl iJ S7 1 ?_
 refine gf (xV _ _) ?_
 simp only [pq]
 refine gl aZ S7 1 ?_
 simp only [pq]
 refine eE rfl rfl (fun w9 C9 hF => bQ (cB (vs := #[(.slice x4 r.last.length x5)]) (jQ rfl) rfl (gM _ _)) (dQ S7.sat C9 (dG _ _ _ r.last ((St.tells S7 C9)).sat h3 (by omega)))) (fun c6 => ?_)
 refine bU ?_
 intro c7 b7 a0
 obtain ⟨a1, a2, b9⟩ := a0.get 2 rfl rfl
 obtain ⟨a3, a4, c0⟩ := a0.get 5 rfl rfl
 obtain ⟨a5, a6, c1⟩ := a0.get 10 rfl rfl
 have c2 := St.gives S7 ((a2.both a4).both a6)
 have c3 : Le _ _ := ((a2.both a4).both a6).le S7.sat
 have b3 := (b9.mono ((lG a1 a3).trans (lG (both a1 a3) a5)))
 have b4 := (c0.mono ((mM a2.sat a4.sat).trans (lG (both a1 a3) a5)))
 have b5 := (c1.mono (mM (a2.both a4).sat a6.sat))
 generalize (both (both a1 a3) a5) = c8 at *
 obtain ⟨a7, a8, rfl, _⟩ := b3.shape
 obtain ⟨a9, b0, rfl, _⟩ := b4.shape
 obtain ⟨b1, b2, rfl, _⟩ := b5.shape
 clear a0
 simp only [dB]
 refine dr (.agg #[(.slice a7 r.name.length a8), (.slice a9 r.key.length b0), (.bool r.wide), (.slice b1 r.last.length b2)]) (aK (qW rfl rfl rfl rfl) (by kernel_rfl)) ?_
 simp only [pq]
 refine sW 0 c2 (dS) fun c9 b6 => ?_
 refine wlK hK8 ?_
 refine aO ?_
 try simp only [xt]
 refine bR (lJ rfl ⟨_, rfl, lR b6 0 Tryz.underlying179 (dS)⟩) ?_
 exact ⟨_, _, rfl, b6.gr, _, _, _, _, _, _, rfl, b3, b4, b5⟩
theorem sV (F : Fz) (w : World) (v : Value) (ws : List Wr) (hs : Sat w F) (hv : Wrs F v ws) (hl : ws.length ≤ 100000) (hb : ∀ r ∈ ws, r.name.length ≤ 100000 ∧ r.key.length ≤ 100000 ∧ r.value.length ≤ 100000) :
    Calls Tryz.prog 114 #[v] w (qJ w F 4 WrC 39 ws) := by
 obtain ⟨a, c, rfl, hc1, hc2⟩ := Sl.shape hv
 unfold maxLen at hc2
 obtain ⟨e3, b6, b7, b9, c0⟩ := info_parts JF
 have S := St.start hs
 go_enter Tryz.func114, Tryz.ntmps114
 refine sk fun K1 hK1 => ?_
 refine dy ?_
 refine wn hK1 ?_
 refine sk fun K2 hK2 => ?_
 refine dy ?_
 refine wn hK2 ?_
 refine aE fun K3 hK3 => ?_
 refine sk fun K4 hK4 => ?_
 refine aC ?_
 refine wn hK4 ?_
 refine aN ?_
 have S5 := St.addNil S 4 WrC WrC.mono 39 w.heap.size
 refine aX (fun mm aa w8 => ∃ (k : Nat) (v : Value) (F6 : Fz) (u7 : Nat → Value), mm = ws.length - k ∧ u7 = dX aa ∧ aa = ⟨([(.slice a ws.length c), undef, Zn, v, undef, (u7 5), (.slice a ws.length c), (nI ws.length), (nI k)] ++ (usF u7 9 19 [undef])).toArray, []⟩ ∧ St w F w8 F6 [] [cU 4 WrC WrC.mono 39 w.heap.size v (ws.take k)] ∧ Le F F6 ∧ (k ≤ ws.length)) _ ⟨0, Zn, F, _, rfl, rfl, rfl, S5, Le.refl _, (by omega)⟩ ?_
 rintro m9 h5 h6 ⟨k, v, F6, u7, rfl, -, hfr, a2, a3, hk⟩ h7 c1
 simp only [uzF, Nat.reduceAdd] at hfr; subst hfr
 refine sk fun h8 a4 => ?_
 by_cases hc9 : k < ws.length
 refine eS ?_
 refine wn a4 ?_
 refine aE fun h9 c2 => ?_
 refine aI ?_
 refine aH ?_
 refine c2 _ _ ?_
 refine aE fun i0 c3 => ?_
 refine aN ?_
 refine aE fun i1 c4 => ?_
 obtain ⟨p, hp⟩ : ∃ p, ws[k]? = some p := ⟨ws[k], zZc hc9⟩
 obtain ⟨hb0, hb1, hb2⟩ := hb p (zZi hp)
 have htk : (ws.take k).length = k := by rw [zZh]; omega
 obtain ⟨e4, e5, c5, c6, c7, c8, c9, d0, d1, e6, e7, e8, e9, f0, f1, f2⟩ := Wrs.get (hv.mono a3) hp
 refine aB ?_
 refine dr (pP e4 (e5 + k * 4)) (bN (i := k) (sz := 4) Tryz.underlying40 (fL _) rfl c5 rfl (by omega) rfl) ?_
 refine dr _ (aD rfl (cV Tryz.underlying39 rfl (bY) (eY (St.fz a2 e6) (St.fz a2 e7) (St.fz a2 e8) (St.fz a2 e9)))) ?_
 simp only [pq]
 refine sA a2 (kY _) fun i2 i3 f3 => ?_
 refine sW 0 f3 (bY) fun i4 a0 => ?_
 refine wlK c4 ?_
 refine aP F6 14 [(3, .made (fun F' u => Bs F' u p.name)), (6, .made (fun F' u => Bs F' u p.key)), (11, .made (fun F' u => Bs F' u p.value)), (12, .made (fun F' u => WrV F' u (⟨p.name, p.key, p.gone, p.value⟩ : Wr))), (13, .made (fun F' u => Wrs F' u [(⟨p.name, p.key, p.gone, p.value⟩ : Wr)]))] (by kernel_rfl) (by kernel_rfl) ?_
 simp only [dA]
 refine gm ?_
 simp only [pq]
 refine gf (JG _ _) ?_
 refine gl aZ a0 0 ?_
 simp only [pq]
 refine eE rfl rfl (fun b2 a1 hF => bQ (cB (vs := #[(.slice c6 p.name.length c7)]) (jQ rfl) rfl (gM _ _)) (dQ a0.sat a1 (dG _ _ _ p.name ((St.tells a0 a1)).sat f0 (by omega)))) (fun i5 => ?_)
 refine gf (BS _ _) ?_
 refine gl aZ a0 0 ?_
 simp only [pq]
 refine eE rfl rfl (fun b2 a1 hF => bQ (cB (vs := #[(.slice c8 p.key.length c9)]) (jQ rfl) rfl (gM _ _)) (dQ a0.sat a1 (dG _ _ _ p.key ((St.tells a0 a1)).sat f1 (by omega)))) (fun i6 => ?_)
 refine gf (xU _ _) ?_
 refine gl iJ a0 0 ?_
 refine gf (BT _ _) ?_
 simp only [pq]
 refine gl aZ a0 0 ?_
 simp only [pq]
 refine eE rfl rfl (fun b2 a1 hF => bQ (cB (vs := #[(.slice d0 p.value.length d1)]) (jQ rfl) rfl (gM _ _)) (dQ a0.sat a1 (dG _ _ _ p.value ((St.tells a0 a1)).sat f2 (by omega)))) (fun i7 => ?_)
 simp only [pq]
 refine eE rfl rfl (fun b2 a1 hF_ => ?_) (fun i8 => ?_)
 obtain ⟨b3, d2, f4⟩ := hF_.get 3 (by kernel_rfl) rfl rfl
 obtain ⟨b4, d3, f5⟩ := hF_.get 6 (by kernel_rfl) rfl rfl
 obtain ⟨d4, e0, f6⟩ := hF_.get 11 (by kernel_rfl) rfl rfl
 have hR0 := (f4.mono ((lG b3 b4).trans (lG (both b3 b4) d4)))
 obtain ⟨f7, f8, rfl, _⟩ := hR0.shape
 have hR1 := (f5.mono ((mM d2.sat d3.sat).trans (lG (both b3 b4) d4)))
 obtain ⟨f9, g0, rfl, _⟩ := hR1.shape
 have hR3 := (f6.mono (mM (d2.both d3).sat e0.sat))
 obtain ⟨g1, g2, rfl, _⟩ := hR3.shape
 exact iD (aK (qW rfl rfl rfl rfl) (by kernel_rfl)) ⟨(both (both b3 b4) d4), ((d2.both d3).both e0), ⟨_, _, _, _, _, _, rfl, hR0, hR1, hR3⟩⟩ (Below.refl _ _)
 simp only [pq]
 refine eE rfl rfl (fun b2 a1 hF_ => ?_) (fun i9 => ?_)
 obtain ⟨j0, g3, g4⟩ := hF_.get 12 (by kernel_rfl) rfl rfl
 obtain ⟨a5, a6, a7, a8, a9, b0, rfl, g5, g6, g7⟩ := g4
 exact tY (k := 4) (R := WrC) (hR := WrC.mono) (p := (⟨p.name, p.key, p.gone, p.value⟩ : Wr)) (cs := [.slice a5 _ a6, .slice a7 _ a8, _, .slice a9 _ b0]) (E := 39) g3 ⟨_, _, _, _, rfl, g5, g6, rfl, g7⟩ rfl (cN (E := 39) (cells := #[.slice a5 _ a6, .slice a7 _ a8, _, .slice a9 _ b0]) (cZ rfl) (fun w => by kernel_rfl))
 refine bU ?_
 intro j1 g8 b1
 obtain ⟨g9, e1, h0⟩ := b1.get 13 rfl rfl
 have d5 := St.gives a0 e1
 have d6 : Le _ _ := e1.le a0.sat
 have e2 := h0
 generalize g9 = h1 at *
 obtain ⟨d7, d8, rfl, _⟩ := Sl.shape e2
 clear b1
 simp only [dB]
 refine eH (r := 0) (u := (.slice d7 [(⟨p.name, p.key, p.gone, p.value⟩ : Wr)].length d8)) d5 rfl e3 (.agg #[Zn, Zn, bF, Zn]) 80 Tryz.underlying40 b6 b7 b9 c0 rfl (by decide) rfl rfl rfl (Sl.toW e2 (d5).sat) (fun F cs p h => WrC.oneCell h) (zZe _) d5.gr.below.size (by unfold maxLen; simp only [zZh, zZg, zZj]; omega) (by simp only [zZh, zZg, zZj]; omega) ?_
 intro h2 j2 b5 h3
 simp only [pq]
 refine dy ?_
 refine wlK c3 ?_
 refine aB ?_
 refine cR (k + 1) ?_
 refine dx ?_
 simp only [pq]
 refine aG ?_
 have b5 := St.drop b5 (.cons _ (zZd _))
 have hpe : (⟨p.name, p.key, p.gone, p.value⟩ : Wr) = p := rfl
 rw [hpe, ← fB hp] at b5
 exact c1 _ _ _ (by omega) ⟨(k + 1), h2, h1, _, rfl, rfl, rfl, b5, (a3.trans d6), (by omega)⟩
 refine eM ?_
 refine wn a4 ?_
 refine aE fun j3 h4 => ?_
 refine aF ?_
 refine cP ?_
 refine hK3 _ _ ?_
 refine sk fun j4 d9 => ?_
 refine aC ?_
 refine wn d9 ?_
 refine aO ?_
 try simp only [xt]
 refine bR (bA rfl (gD rfl)) ?_
 have hend : ws.take k = ws := List.take_of_length_le (by omega)
 have ho := a2.own (i := 0) rfl
 rw [hend] at ho
 exact ⟨_, _, rfl, a2.gr, ho⟩
theorem EI (F : Fz) (w : World) (v : Value) (ws : List Wr) (hs : Sat w F) (hv : Wrs F v ws) (hl : ws.length ≤ 100000) (hb : ∀ r ∈ ws, r.name.length ≤ 100000 ∧ r.key.length ≤ 100000 ∧ r.value.length ≤ 100000) :
    Calls Tryz.prog 114 #[v] w (dF w F fun F' u => Wrs F' u ws) := oB WrC.mono (sV F w v ws hs hv hl hb)
def RdP (F : Fz) (b : Nat) (p : Rd) : Prop := ∃ x0 y0 x1 y1 x3 y3, cS F b 0 = some (.slice x0 p.name.length y0) ∧ cS F b 1 = some (.slice x1 p.key.length y1) ∧ cS F b 2 = some (.bool p.wide) ∧ cS F b 3 = some (.slice x3 p.last.length y3) ∧ Bs F (.slice x0 p.name.length y0) p.name ∧ Bs F (.slice x1 p.key.length y1) p.key ∧ Bs F (.slice x3 p.last.length y3) p.last
def WrP (F : Fz) (b : Nat) (p : Wr) : Prop := ∃ x0 y0 x1 y1 x3 y3, cS F b 0 = some (.slice x0 p.name.length y0) ∧ cS F b 1 = some (.slice x1 p.key.length y1) ∧ cS F b 2 = some (.bool p.gone) ∧ cS F b 3 = some (.slice x3 p.value.length y3) ∧ Bs F (.slice x0 p.name.length y0) p.name ∧ Bs F (.slice x1 p.key.length y1) p.key ∧ Bs F (.slice x3 p.value.length y3) p.value
theorem WrP.mono {F F' : Fz} {b : Nat} {p : Wr} (h : WrP F b p) (hl : Le F F') : WrP F' b p := by
 obtain ⟨x0, y0, x1, y1, x3, y3, c0, c1, c2, c3, h0, h1, h3⟩ := h
 exact ⟨x0, y0, x1, y1, x3, y3, Le.cell hl c0, Le.cell hl c1, Le.cell hl c2, Le.cell hl c3, h0.mono hl, h1.mono hl, h3.mono hl⟩
def mI {α : Type} (l : List α) (g : α → Bool) : Int := match l.findIdx? g with | some i => (i : Int) | none => -1
theorem uC {α : Type} {l : List α} {g : α → Bool} {k : Nat} {p : α} (hp : l[k]? = some p) (h : g p = true) (hb : ∀ (i : Nat) q, i < k → l[i]? = some q → g q = false) : mI l g = (k : Int) := by
 have : l.findIdx? g = some k := by
  obtain ⟨hk, rfl⟩ := List.getElem?_eq_some_iff.1 hp
  rw [List.findIdx?_eq_some_iff_getElem]
  exact ⟨hk, h, fun j hj => by rw [hb j _ hj (zZc (by omega))]; simp⟩
 unfold mI; rw [this]
theorem rE {α : Type} {l : List α} {g : α → Bool} (hb : ∀ (i : Nat) q, i < l.length → l[i]? = some q → g q = false) : mI l g = -1 := by
 have : l.findIdx? g = none := by
  rw [List.findIdx?_eq_none_iff]
  intro x hx
  obtain ⟨i, hi, rfl⟩ := List.mem_iff_getElem.1 hx
  exact hb i _ hi (zZc hi)
 unfold mI; rw [this]
theorem yJ {α : Type} {l : List α} {g : α → Bool} : decide (0 ≤ mI l g) = l.any g := by
 unfold mI
 cases h : l.findIdx? g with
 | none =>
  rw [List.findIdx?_eq_none_iff] at h
  have : l.any g = false := by rw [List.any_eq_false]; intro x hx; rw [h x hx]; simp
  rw [this]; rfl
 | some i =>
  rw [List.findIdx?_eq_some_iff_getElem] at h
  obtain ⟨hi, h1, _⟩ := h
  have : l.any g = true := List.any_eq_true.2 ⟨_, List.getElem_mem hi, h1⟩
  rw [this]; simp
theorem MR (F : Fz) (w : World) (v : Value) (b : Nat) (q : Rd) (r : Rd) (hs : Sat w F) (hv : RdV F v q) (hr : RdP F b r) :
    Calls Tryz.prog 135 #[v, .pointer (some ⟨b, 0, none⟩)] w (cT w (.bool (decide (q = r)))) := by
 obtain ⟨x0, x1, x2, x3, x4, x5, rfl, h0, h1, h3⟩ := hv
 obtain ⟨z0, z1, z2, z3, z4, z5, c0, c1, c2, c3, k0, k1, k3⟩ := hr
 have S := St.start hs
 go_enter Tryz.func135, Tryz.ntmps135
 refine sk fun K1 hK1 => ?_
 refine bH S (v := fun n => .pointer (aA n 0)) rfl (bX (v := (.agg #[(.slice x0 q.name.length x1), (.slice x2 q.key.length x3), (.bool q.wide), (.slice x4 q.last.length x5)])) rfl) (fun n2 w3 S4 => ?_)
 refine dy ?_
 refine wn hK1 ?_
 refine sk fun K5 hK5 => ?_
 refine dR S4 0 Tryz.underlying179 (dS) ?_
 refine dr _ (aD rfl (cV Tryz.underlying179 rfl (dS) (eY (St.fz S4 c0) (St.fz S4 c1) (St.fz S4 c2) (St.fz S4 c3)))) ?_
 simp only [pq]
 refine aJ (v := (.bool (decide (q = r)))) S4 rfl (fn2 (TJ _ _)) (vV _ _ _ _ _ _ (S4).sat ⟨_, _, _, _, _, _, rfl, h0, h1, h3⟩ ⟨_, _, _, _, _, _, rfl, k0, k1, k3⟩) (fun w6 S7 => ?_)
 refine dy ?_
 refine wn hK5 ?_
 refine aO ?_
 try simp only [xt]
 refine bR (bA rfl (gD rfl)) ?_
 exact ⟨rfl, S7.gr.below⟩
theorem KM (F : Fz) (w : World) (v : Value) (b : Nat) (l : List Rd) (r : Rd) (hs : Sat w F) (hv : Rds F v l) (hr : RdP F b r) (hl : l.length ≤ 1000000) :
    Calls Tryz.prog 146 #[v, .func (.func 135) #[] #[.pointer (some ⟨b, 0, none⟩)]] w (cT w (.int .i64 (mI l (fun q : Rd => (decide (q = r)))))) := by
 obtain ⟨a, c, rfl, hc1, hc2⟩ := Sl.shape hv
 unfold maxLen at hc2
 have S := St.start hs
 go_enter Tryz.func146, Tryz.ntmps146
 refine sk fun K1 hK1 => ?_
 refine dy ?_
 refine wn hK1 ?_
 refine aE fun K2 hK2 => ?_
 refine sk fun K3 hK3 => ?_
 refine aC ?_
 refine wn hK3 ?_
 refine aN ?_
 refine aX (fun mm aa w5 => ∃ (k : Nat) (u4 : Nat → Value), mm = l.length - k ∧ u4 = dX aa ∧ aa = ⟨([(.slice a l.length c), (.func (.func 135) #[] #[(pP b 0)]), undef, undef, (u4 4), (u4 5), (.slice a l.length c), (nI l.length), (nI k)] ++ (usF u4 9 10 [])).toArray, []⟩ ∧ St w F w5 F [] [] ∧ (k ≤ l.length) ∧ (∀ (i : Nat) q, i < k → l[i]? = some q → (fun q : Rd => (decide (q = r))) q = false)) _ ⟨0, _, rfl, rfl, rfl, S, (by omega), (fun i q hi => absurd hi (by omega))⟩ ?_
 rintro m6 a7 w8 ⟨k, u4, rfl, -, hfr, S9, hk, hbad⟩ c9 a9
 simp only [uzF, Nat.reduceAdd] at hfr; subst hfr
 refine sk fun d0 a1 => ?_
 by_cases hc9 : k < l.length
 refine eS ?_
 refine wn a1 ?_
 refine aE fun d1 b0 => ?_
 refine aI ?_
 refine aH ?_
 refine b0 _ _ ?_
 refine aE fun d2 b1 => ?_
 refine aN ?_
 refine sk fun d3 b2 => ?_
 refine aC ?_
 refine wn b2 ?_
 refine aE fun d4 b3 => ?_
 obtain ⟨p, hp⟩ : ∃ p, l[k]? = some p := ⟨l[k], zZc hc9⟩
 obtain ⟨b9, c0, b4, a2, a3, a4, a5, a6, a8, c1, c2, c3, c4, c5, c6, c7⟩ := Rds.get hv hp
 refine aB ?_
 refine aC ?_
 refine dr (pP b9 (c0 + k * 4)) (bN (i := k) (sz := 4) Tryz.underlying139 (jS _) rfl b4 rfl (by omega) rfl) ?_
 refine dr _ (aD rfl (cV Tryz.underlying179 rfl (dS) (eY (St.fz S9 c1) (St.fz S9 c2) (St.fz S9 c3) (St.fz S9 c4)))) ?_
 refine aJ (v := (.bool ((fun q : Rd => (decide (q = r))) p))) S9 rfl (tK (fs := #[]) (cs := #[(pP b 0)]) (vs := #[(.agg #[(.slice a2 p.name.length a3), (.slice a4 p.key.length a5), (.bool p.wide), (.slice a6 p.last.length a8)]), (pP b 0)]) rfl (DI (fs := #[]) (cs := #[(pP b 0)]) (xs := #[(.agg #[(.slice a2 p.name.length a3), (.slice a4 p.key.length a5), (.bool p.wide), (.slice a6 p.last.length a8)])]) (jQ rfl) (by simp)) (Du _ _)) (MR _ _ _ b p r (S9).sat ⟨_, _, _, _, _, _, rfl, c5, c6, c7⟩ hr) (fun d5 b7 => ?_)
 refine wlK b3 ?_
 refine wp_cond_split rfl (fun a0 => ?_) (fun a0 => ?_)
 refine sk fun d6 b5 => ?_
 refine aC ?_
 refine wn b5 ?_
 refine aO ?_
 try simp only [xt]
 refine bR (bA rfl (gD rfl)) ?_
 exact ⟨by rw [uC hp a0 hbad], b7.gr.below⟩
 refine aH ?_
 refine b1 _ _ ?_
 refine aB ?_
 refine cR (k + 1) ?_
 refine dx ?_
 refine aG ?_
 exact a9 _ _ _ (by omega) ⟨(k + 1), _, rfl, rfl, rfl, b7, (by omega), (fun i q hi hq => by rcases Nat.lt_succ_iff_lt_or_eq.1 hi with h | rfl; exact hbad i q h hq; (rw [hp] at hq; cases hq; exact a0))⟩
 refine eM ?_
 simp only [pq]
 refine wn a1 ?_
 refine aE fun d7 c8 => ?_
 refine aF ?_
 refine cP ?_
 refine hK2 _ _ ?_
 refine sk fun d8 b6 => ?_
 refine dy ?_
 refine wn b6 ?_
 refine aO ?_
 try simp only [xt]
 refine bR (bA rfl (gD rfl)) ?_
 exact ⟨by rw [rE (fun i q hi hq => hbad i q (by omega) hq)], S9.gr.below⟩
theorem BC (F : Fz) (w : World) (v : Value) (b : Nat) (l : List Rd) (r : Rd) (hs : Sat w F) (hv : Rds F v l) (hr : RdP F b r) (hl : l.length ≤ 1000000) :
    Calls Tryz.prog 127 #[v, .func (.func 135) #[] #[.pointer (some ⟨b, 0, none⟩)]] w (cT w (.bool (l.any (fun q : Rd => (decide (q = r)))))) := by
 obtain ⟨a, c, rfl, hc1, hc2⟩ := Sl.shape hv
 have S := St.start hs
 go_enter Tryz.func127, Tryz.ntmps127
 refine sk fun K1 hK1 => ?_
 refine dy ?_
 refine wn hK1 ?_
 refine sk fun K2 hK2 => ?_
 refine aC ?_
 refine aJ (v := (.int .i64 (mI l (fun q : Rd => (decide (q = r)))))) S rfl (fn2 (JS _ _)) (KM _ _ _ b l r (S).sat hv hr hl) (fun w3 S4 => ?_)
 refine dr (.bool (l.any (fun q : Rd => (decide (q = r))))) (zF (m := mI l (fun q : Rd => (decide (q = r)))) (n := 0) (b := l.any (fun q : Rd => (decide (q = r)))) rfl rfl yJ) ?_
 refine dy ?_
 refine wn hK2 ?_
 refine aO ?_
 try simp only [xt]
 refine bR (bA rfl (gD rfl)) ?_
 exact ⟨rfl, S4.gr.below⟩
theorem QS (F : Fz) (w : World) (v : Value) (b : Nat) (q : Rd) (r : Rd) (hs : Sat w F) (hv : RdV F v q) (hr : RdP F b r) :
    Calls Tryz.prog 128 #[v, .pointer (some ⟨b, 0, none⟩)] w (cT w (.bool (decide (q = r)))) := by
 obtain ⟨x0, x1, x2, x3, x4, x5, rfl, h0, h1, h3⟩ := hv
 obtain ⟨z0, z1, z2, z3, z4, z5, c0, c1, c2, c3, k0, k1, k3⟩ := hr
 have S := St.start hs
 go_enter Tryz.func128, Tryz.ntmps128
 refine sk fun K1 hK1 => ?_
 refine bH S (v := fun n => .pointer (aA n 0)) rfl (bX (v := (.agg #[(.slice x0 q.name.length x1), (.slice x2 q.key.length x3), (.bool q.wide), (.slice x4 q.last.length x5)])) rfl) (fun n2 w3 S4 => ?_)
 refine dy ?_
 refine wn hK1 ?_
 refine sk fun K5 hK5 => ?_
 refine dR S4 0 Tryz.underlying179 (dS) ?_
 refine dr _ (aD rfl (cV Tryz.underlying179 rfl (dS) (eY (St.fz S4 c0) (St.fz S4 c1) (St.fz S4 c2) (St.fz S4 c3)))) ?_
 simp only [pq]
 refine aJ (v := (.bool (decide (q = r)))) S4 rfl (fn2 (TJ _ _)) (vV _ _ _ _ _ _ (S4).sat ⟨_, _, _, _, _, _, rfl, h0, h1, h3⟩ ⟨_, _, _, _, _, _, rfl, k0, k1, k3⟩) (fun w6 S7 => ?_)
 refine dy ?_
 refine wn hK5 ?_
 refine aO ?_
 try simp only [xt]
 refine bR (bA rfl (gD rfl)) ?_
 exact ⟨rfl, S7.gr.below⟩
theorem MS (F : Fz) (w : World) (v : Value) (b : Nat) (l : List Rd) (r : Rd) (hs : Sat w F) (hv : Rds F v l) (hr : RdP F b r) (hl : l.length ≤ 1000000) :
    Calls Tryz.prog 146 #[v, .func (.func 128) #[] #[.pointer (some ⟨b, 0, none⟩)]] w (cT w (.int .i64 (mI l (fun q : Rd => (decide (q = r)))))) := by
 obtain ⟨a, c, rfl, hc1, hc2⟩ := Sl.shape hv
 unfold maxLen at hc2
 have S := St.start hs
 go_enter Tryz.func146, Tryz.ntmps146
 refine sk fun K1 hK1 => ?_
 refine dy ?_
 refine wn hK1 ?_
 refine aE fun K2 hK2 => ?_
 refine sk fun K3 hK3 => ?_
 refine aC ?_
 refine wn hK3 ?_
 refine aN ?_
 refine aX (fun mm aa w5 => ∃ (k : Nat) (u4 : Nat → Value), mm = l.length - k ∧ u4 = dX aa ∧ aa = ⟨([(.slice a l.length c), (.func (.func 128) #[] #[(pP b 0)]), undef, undef, (u4 4), (u4 5), (.slice a l.length c), (nI l.length), (nI k)] ++ (usF u4 9 10 [])).toArray, []⟩ ∧ St w F w5 F [] [] ∧ (k ≤ l.length) ∧ (∀ (i : Nat) q, i < k → l[i]? = some q → (fun q : Rd => (decide (q = r))) q = false)) _ ⟨0, _, rfl, rfl, rfl, S, (by omega), (fun i q hi => absurd hi (by omega))⟩ ?_
 rintro m6 a7 w8 ⟨k, u4, rfl, -, hfr, S9, hk, hbad⟩ c9 a9
 simp only [uzF, Nat.reduceAdd] at hfr; subst hfr
 refine sk fun d0 a1 => ?_
 by_cases hc9 : k < l.length
 refine eS ?_
 refine wn a1 ?_
 refine aE fun d1 b0 => ?_
 refine aI ?_
 refine aH ?_
 refine b0 _ _ ?_
 refine aE fun d2 b1 => ?_
 refine aN ?_
 refine sk fun d3 b2 => ?_
 refine aC ?_
 refine wn b2 ?_
 refine aE fun d4 b3 => ?_
 obtain ⟨p, hp⟩ : ∃ p, l[k]? = some p := ⟨l[k], zZc hc9⟩
 obtain ⟨b9, c0, b4, a2, a3, a4, a5, a6, a8, c1, c2, c3, c4, c5, c6, c7⟩ := Rds.get hv hp
 refine aB ?_
 refine aC ?_
 refine dr (pP b9 (c0 + k * 4)) (bN (i := k) (sz := 4) Tryz.underlying139 (jS _) rfl b4 rfl (by omega) rfl) ?_
 refine dr _ (aD rfl (cV Tryz.underlying179 rfl (dS) (eY (St.fz S9 c1) (St.fz S9 c2) (St.fz S9 c3) (St.fz S9 c4)))) ?_
 refine aJ (v := (.bool ((fun q : Rd => (decide (q = r))) p))) S9 rfl (tK (fs := #[]) (cs := #[(pP b 0)]) (vs := #[(.agg #[(.slice a2 p.name.length a3), (.slice a4 p.key.length a5), (.bool p.wide), (.slice a6 p.last.length a8)]), (pP b 0)]) rfl (DI (fs := #[]) (cs := #[(pP b 0)]) (xs := #[(.agg #[(.slice a2 p.name.length a3), (.slice a4 p.key.length a5), (.bool p.wide), (.slice a6 p.last.length a8)])]) (jQ rfl) (by simp)) (Dp _ _)) (QS _ _ _ b p r (S9).sat ⟨_, _, _, _, _, _, rfl, c5, c6, c7⟩ hr) (fun d5 b7 => ?_)
 refine wlK b3 ?_
 refine wp_cond_split rfl (fun a0 => ?_) (fun a0 => ?_)
 refine sk fun d6 b5 => ?_
 refine aC ?_
 refine wn b5 ?_
 refine aO ?_
 try simp only [xt]
 refine bR (bA rfl (gD rfl)) ?_
 exact ⟨by rw [uC hp a0 hbad], b7.gr.below⟩
 refine aH ?_
 refine b1 _ _ ?_
 refine aB ?_
 refine cR (k + 1) ?_
 refine dx ?_
 refine aG ?_
 exact a9 _ _ _ (by omega) ⟨(k + 1), _, rfl, rfl, rfl, b7, (by omega), (fun i q hi hq => by rcases Nat.lt_succ_iff_lt_or_eq.1 hi with h | rfl; exact hbad i q h hq; (rw [hp] at hq; cases hq; exact a0))⟩
 refine eM ?_
 simp only [pq]
 refine wn a1 ?_
 refine aE fun d7 c8 => ?_
 refine aF ?_
 refine cP ?_
 refine hK2 _ _ ?_
 refine sk fun d8 b6 => ?_
 refine dy ?_
 refine wn b6 ?_
 refine aO ?_
 try simp only [xt]
 refine bR (bA rfl (gD rfl)) ?_
 exact ⟨by rw [rE (fun i q hi hq => hbad i q (by omega) hq)], S9.gr.below⟩
theorem EJ (F : Fz) (w : World) (v : Value) (b : Nat) (l : List Rd) (r : Rd) (hs : Sat w F) (hv : Rds F v l) (hr : RdP F b r) (hl : l.length ≤ 1000000) :
    Calls Tryz.prog 127 #[v, .func (.func 128) #[] #[.pointer (some ⟨b, 0, none⟩)]] w (cT w (.bool (l.any (fun q : Rd => (decide (q = r)))))) := by
 obtain ⟨a, c, rfl, hc1, hc2⟩ := Sl.shape hv
 have S := St.start hs
 go_enter Tryz.func127, Tryz.ntmps127
 refine sk fun K1 hK1 => ?_
 refine dy ?_
 refine wn hK1 ?_
 refine sk fun K2 hK2 => ?_
 refine aC ?_
 refine aJ (v := (.int .i64 (mI l (fun q : Rd => (decide (q = r)))))) S rfl (fn2 (JS _ _)) (MS _ _ _ b l r (S).sat hv hr hl) (fun w3 S4 => ?_)
 refine dr (.bool (l.any (fun q : Rd => (decide (q = r))))) (zF (m := mI l (fun q : Rd => (decide (q = r)))) (n := 0) (b := l.any (fun q : Rd => (decide (q = r)))) rfl rfl yJ) ?_
 refine dy ?_
 refine wn hK2 ?_
 refine aO ?_
 try simp only [xt]
 refine bR (bA rfl (gD rfl)) ?_
 exact ⟨rfl, S4.gr.below⟩
theorem MT (F : Fz) (w : World) (v : Value) (b : Nat) (q : Wr) (r : Wr) (hs : Sat w F) (hv : WrV F v q) (hr : WrP F b r) :
    Calls Tryz.prog 137 #[v, .pointer (some ⟨b, 0, none⟩)] w (cT w (.bool (dK q r))) := by
 obtain ⟨x0, x1, x2, x3, x4, x5, rfl, h0, h1, h3⟩ := hv
 obtain ⟨z0, z1, z2, z3, z4, z5, c0, c1, c2, c3, k0, k1, k3⟩ := hr
 have S := St.start hs
 go_enter Tryz.func137, Tryz.ntmps137
 refine sk fun K1 hK1 => ?_
 refine bH S (v := fun n => .pointer (aA n 0)) rfl (bX (v := (.agg #[(.slice x0 q.name.length x1), (.slice x2 q.key.length x3), (.bool q.gone), (.slice x4 q.value.length x5)])) rfl) (fun n2 w3 S4 => ?_)
 refine dy ?_
 refine wn hK1 ?_
 refine sk fun K5 hK5 => ?_
 refine dR S4 0 Tryz.underlying39 (bY) ?_
 refine dr _ (aD rfl (cV Tryz.underlying39 rfl (bY) (eY (St.fz S4 c0) (St.fz S4 c1) (St.fz S4 c2) (St.fz S4 c3)))) ?_
 simp only [pq]
 refine aJ (v := (.bool (dK q r))) S4 rfl (fn2 (JM _ _)) (pE _ _ _ _ _ _ (S4).sat ⟨_, _, _, _, _, _, rfl, h0, h1, h3⟩ ⟨_, _, _, _, _, _, rfl, k0, k1, k3⟩) (fun w6 S7 => ?_)
 refine dy ?_
 refine wn hK5 ?_
 refine aO ?_
 try simp only [xt]
 refine bR (bA rfl (gD rfl)) ?_
 exact ⟨rfl, S7.gr.below⟩
theorem KN (F : Fz) (w : World) (v : Value) (b : Nat) (l : List Wr) (r : Wr) (hs : Sat w F) (hv : Wrs F v l) (hr : WrP F b r) (hl : l.length ≤ 1000000) :
    Calls Tryz.prog 115 #[v, .func (.func 137) #[] #[.pointer (some ⟨b, 0, none⟩)]] w (cT w (.int .i64 (mI l (fun q : Wr => (dK q r))))) := by
 obtain ⟨a, c, rfl, hc1, hc2⟩ := Sl.shape hv
 unfold maxLen at hc2
 have S := St.start hs
 go_enter Tryz.func115, Tryz.ntmps115
 refine sk fun K1 hK1 => ?_
 refine dy ?_
 refine wn hK1 ?_
 refine aE fun K2 hK2 => ?_
 refine sk fun K3 hK3 => ?_
 refine aC ?_
 refine wn hK3 ?_
 refine aN ?_
 refine aX (fun mm aa w5 => ∃ (k : Nat) (u4 : Nat → Value), mm = l.length - k ∧ u4 = dX aa ∧ aa = ⟨([(.slice a l.length c), (.func (.func 137) #[] #[(pP b 0)]), undef, undef, (u4 4), (u4 5), (.slice a l.length c), (nI l.length), (nI k)] ++ (usF u4 9 10 [])).toArray, []⟩ ∧ St w F w5 F [] [] ∧ (k ≤ l.length) ∧ (∀ (i : Nat) q, i < k → l[i]? = some q → (fun q : Wr => (dK q r)) q = false)) _ ⟨0, _, rfl, rfl, rfl, S, (by omega), (fun i q hi => absurd hi (by omega))⟩ ?_
 rintro m6 a7 w8 ⟨k, u4, rfl, -, hfr, S9, hk, hbad⟩ c9 a9
 simp only [uzF, Nat.reduceAdd] at hfr; subst hfr
 refine sk fun d0 a1 => ?_
 by_cases hc9 : k < l.length
 refine eS ?_
 refine wn a1 ?_
 refine aE fun d1 b0 => ?_
 refine aI ?_
 refine aH ?_
 refine b0 _ _ ?_
 refine aE fun d2 b1 => ?_
 refine aN ?_
 refine sk fun d3 b2 => ?_
 refine aC ?_
 refine wn b2 ?_
 refine aE fun d4 b3 => ?_
 obtain ⟨p, hp⟩ : ∃ p, l[k]? = some p := ⟨l[k], zZc hc9⟩
 obtain ⟨b9, c0, b4, a2, a3, a4, a5, a6, a8, c1, c2, c3, c4, c5, c6, c7⟩ := Wrs.get hv hp
 refine aB ?_
 refine aC ?_
 refine dr (pP b9 (c0 + k * 4)) (bN (i := k) (sz := 4) Tryz.underlying40 (fL _) rfl b4 rfl (by omega) rfl) ?_
 refine dr _ (aD rfl (cV Tryz.underlying39 rfl (bY) (eY (St.fz S9 c1) (St.fz S9 c2) (St.fz S9 c3) (St.fz S9 c4)))) ?_
 refine aJ (v := (.bool ((fun q : Wr => (dK q r)) p))) S9 rfl (tK (fs := #[]) (cs := #[(pP b 0)]) (vs := #[(.agg #[(.slice a2 p.name.length a3), (.slice a4 p.key.length a5), (.bool p.gone), (.slice a6 p.value.length a8)]), (pP b 0)]) rfl (DI (fs := #[]) (cs := #[(pP b 0)]) (xs := #[(.agg #[(.slice a2 p.name.length a3), (.slice a4 p.key.length a5), (.bool p.gone), (.slice a6 p.value.length a8)])]) (jQ rfl) (by simp)) (Dw _ _)) (MT _ _ _ b p r (S9).sat ⟨_, _, _, _, _, _, rfl, c5, c6, c7⟩ hr) (fun d5 b7 => ?_)
 refine wlK b3 ?_
 refine wp_cond_split rfl (fun a0 => ?_) (fun a0 => ?_)
 refine sk fun d6 b5 => ?_
 refine aC ?_
 refine wn b5 ?_
 refine aO ?_
 try simp only [xt]
 refine bR (bA rfl (gD rfl)) ?_
 exact ⟨by rw [uC hp a0 hbad], b7.gr.below⟩
 refine aH ?_
 refine b1 _ _ ?_
 refine aB ?_
 refine cR (k + 1) ?_
 refine dx ?_
 refine aG ?_
 exact a9 _ _ _ (by omega) ⟨(k + 1), _, rfl, rfl, rfl, b7, (by omega), (fun i q hi hq => by rcases Nat.lt_succ_iff_lt_or_eq.1 hi with h | rfl; exact hbad i q h hq; (rw [hp] at hq; cases hq; exact a0))⟩
 refine eM ?_
 simp only [pq]
 refine wn a1 ?_
 refine aE fun d7 c8 => ?_
 refine aF ?_
 refine cP ?_
 refine hK2 _ _ ?_
 refine sk fun d8 b6 => ?_
 refine dy ?_
 refine wn b6 ?_
 refine aO ?_
 try simp only [xt]
 refine bR (bA rfl (gD rfl)) ?_
 exact ⟨by rw [rE (fun i q hi hq => hbad i q (by omega) hq)], S9.gr.below⟩
theorem BD (F : Fz) (w : World) (v : Value) (b : Nat) (l : List Wr) (r : Wr) (hs : Sat w F) (hv : Wrs F v l) (hr : WrP F b r) (hl : l.length ≤ 1000000) :
    Calls Tryz.prog 136 #[v, .func (.func 137) #[] #[.pointer (some ⟨b, 0, none⟩)]] w (cT w (.bool (l.any (fun q : Wr => (dK q r))))) := by
 obtain ⟨a, c, rfl, hc1, hc2⟩ := Sl.shape hv
 have S := St.start hs
 go_enter Tryz.func136, Tryz.ntmps136
 refine sk fun K1 hK1 => ?_
 refine dy ?_
 refine wn hK1 ?_
 refine sk fun K2 hK2 => ?_
 refine aC ?_
 refine aJ (v := (.int .i64 (mI l (fun q : Wr => (dK q r))))) S rfl (fn2 (TG _ _)) (KN _ _ _ b l r (S).sat hv hr hl) (fun w3 S4 => ?_)
 refine dr (.bool (l.any (fun q : Wr => (dK q r)))) (zF (m := mI l (fun q : Wr => (dK q r))) (n := 0) (b := l.any (fun q : Wr => (dK q r))) rfl rfl yJ) ?_
 refine dy ?_
 refine wn hK2 ?_
 refine aO ?_
 try simp only [xt]
 refine bR (bA rfl (gD rfl)) ?_
 exact ⟨rfl, S4.gr.below⟩
theorem MU (F : Fz) (w : World) (v : Value) (b : Nat) (q : Wr) (r : Wr) (hs : Sat w F) (hv : WrV F v q) (hr : WrP F b r) :
    Calls Tryz.prog 116 #[v, .pointer (some ⟨b, 0, none⟩)] w (cT w (.bool (dK q r))) := by
 obtain ⟨x0, x1, x2, x3, x4, x5, rfl, h0, h1, h3⟩ := hv
 obtain ⟨z0, z1, z2, z3, z4, z5, c0, c1, c2, c3, k0, k1, k3⟩ := hr
 have S := St.start hs
 go_enter Tryz.func116, Tryz.ntmps116
 refine sk fun K1 hK1 => ?_
 refine bH S (v := fun n => .pointer (aA n 0)) rfl (bX (v := (.agg #[(.slice x0 q.name.length x1), (.slice x2 q.key.length x3), (.bool q.gone), (.slice x4 q.value.length x5)])) rfl) (fun n2 w3 S4 => ?_)
 refine dy ?_
 refine wn hK1 ?_
 refine sk fun K5 hK5 => ?_
 refine dR S4 0 Tryz.underlying39 (bY) ?_
 refine dr _ (aD rfl (cV Tryz.underlying39 rfl (bY) (eY (St.fz S4 c0) (St.fz S4 c1) (St.fz S4 c2) (St.fz S4 c3)))) ?_
 simp only [pq]
 refine aJ (v := (.bool (dK q r))) S4 rfl (fn2 (JM _ _)) (pE _ _ _ _ _ _ (S4).sat ⟨_, _, _, _, _, _, rfl, h0, h1, h3⟩ ⟨_, _, _, _, _, _, rfl, k0, k1, k3⟩) (fun w6 S7 => ?_)
 refine dy ?_
 refine wn hK5 ?_
 refine aO ?_
 try simp only [xt]
 refine bR (bA rfl (gD rfl)) ?_
 exact ⟨rfl, S7.gr.below⟩
theorem KO (F : Fz) (w : World) (v : Value) (b : Nat) (l : List Wr) (r : Wr) (hs : Sat w F) (hv : Wrs F v l) (hr : WrP F b r) (hl : l.length ≤ 1000000) :
    Calls Tryz.prog 115 #[v, .func (.func 116) #[] #[.pointer (some ⟨b, 0, none⟩)]] w (cT w (.int .i64 (mI l (fun q : Wr => (dK q r))))) := by
 obtain ⟨a, c, rfl, hc1, hc2⟩ := Sl.shape hv
 unfold maxLen at hc2
 have S := St.start hs
 go_enter Tryz.func115, Tryz.ntmps115
 refine sk fun K1 hK1 => ?_
 refine dy ?_
 refine wn hK1 ?_
 refine aE fun K2 hK2 => ?_
 refine sk fun K3 hK3 => ?_
 refine aC ?_
 refine wn hK3 ?_
 refine aN ?_
 refine aX (fun mm aa w5 => ∃ (k : Nat) (u4 : Nat → Value), mm = l.length - k ∧ u4 = dX aa ∧ aa = ⟨([(.slice a l.length c), (.func (.func 116) #[] #[(pP b 0)]), undef, undef, (u4 4), (u4 5), (.slice a l.length c), (nI l.length), (nI k)] ++ (usF u4 9 10 [])).toArray, []⟩ ∧ St w F w5 F [] [] ∧ (k ≤ l.length) ∧ (∀ (i : Nat) q, i < k → l[i]? = some q → (fun q : Wr => (dK q r)) q = false)) _ ⟨0, _, rfl, rfl, rfl, S, (by omega), (fun i q hi => absurd hi (by omega))⟩ ?_
 rintro m6 a7 w8 ⟨k, u4, rfl, -, hfr, S9, hk, hbad⟩ c9 a9
 simp only [uzF, Nat.reduceAdd] at hfr; subst hfr
 refine sk fun d0 a1 => ?_
 by_cases hc9 : k < l.length
 refine eS ?_
 refine wn a1 ?_
 refine aE fun d1 b0 => ?_
 refine aI ?_
 refine aH ?_
 refine b0 _ _ ?_
 refine aE fun d2 b1 => ?_
 refine aN ?_
 refine sk fun d3 b2 => ?_
 refine aC ?_
 refine wn b2 ?_
 refine aE fun d4 b3 => ?_
 obtain ⟨p, hp⟩ : ∃ p, l[k]? = some p := ⟨l[k], zZc hc9⟩
 obtain ⟨b9, c0, b4, a2, a3, a4, a5, a6, a8, c1, c2, c3, c4, c5, c6, c7⟩ := Wrs.get hv hp
 refine aB ?_
 refine aC ?_
 refine dr (pP b9 (c0 + k * 4)) (bN (i := k) (sz := 4) Tryz.underlying40 (fL _) rfl b4 rfl (by omega) rfl) ?_
 refine dr _ (aD rfl (cV Tryz.underlying39 rfl (bY) (eY (St.fz S9 c1) (St.fz S9 c2) (St.fz S9 c3) (St.fz S9 c4)))) ?_
 refine aJ (v := (.bool ((fun q : Wr => (dK q r)) p))) S9 rfl (tK (fs := #[]) (cs := #[(pP b 0)]) (vs := #[(.agg #[(.slice a2 p.name.length a3), (.slice a4 p.key.length a5), (.bool p.gone), (.slice a6 p.value.length a8)]), (pP b 0)]) rfl (DI (fs := #[]) (cs := #[(pP b 0)]) (xs := #[(.agg #[(.slice a2 p.name.length a3), (.slice a4 p.key.length a5), (.bool p.gone), (.slice a6 p.value.length a8)])]) (jQ rfl) (by simp)) (Dm _ _)) (MU _ _ _ b p r (S9).sat ⟨_, _, _, _, _, _, rfl, c5, c6, c7⟩ hr) (fun d5 b7 => ?_)
 refine wlK b3 ?_
 refine wp_cond_split rfl (fun a0 => ?_) (fun a0 => ?_)
 refine sk fun d6 b5 => ?_
 refine aC ?_
 refine wn b5 ?_
 refine aO ?_
 try simp only [xt]
 refine bR (bA rfl (gD rfl)) ?_
 exact ⟨by rw [uC hp a0 hbad], b7.gr.below⟩
 refine aH ?_
 refine b1 _ _ ?_
 refine aB ?_
 refine cR (k + 1) ?_
 refine dx ?_
 refine aG ?_
 exact a9 _ _ _ (by omega) ⟨(k + 1), _, rfl, rfl, rfl, b7, (by omega), (fun i q hi hq => by rcases Nat.lt_succ_iff_lt_or_eq.1 hi with h | rfl; exact hbad i q h hq; (rw [hp] at hq; cases hq; exact a0))⟩
 refine eM ?_
 simp only [pq]
 refine wn a1 ?_
 refine aE fun d7 c8 => ?_
 refine aF ?_
 refine cP ?_
 refine hK2 _ _ ?_
 refine sk fun d8 b6 => ?_
 refine dy ?_
 refine wn b6 ?_
 refine aO ?_
 try simp only [xt]
 refine bR (bA rfl (gD rfl)) ?_
 exact ⟨by rw [rE (fun i q hi hq => hbad i q (by omega) hq)], S9.gr.below⟩
theorem nH {P : Program} {ρ : Operand → Value} {w : World} {d : Option Tmp} {t : TypeId} {pos : String} {after : Array Edge} {guard : Option (Nat × Bool)} {k : FuncId} {x : Operand} {v : Value} (hx : ρ x = v) : (execOp ρ ⟨d, .makeFunc (.func k) #[] #[x], t, pos, after, guard⟩).run P w = .ok (.value (.func (.func k) #[] #[v])) w := by
 subst hx
 simp [execOp, Instr.makeFunc]
theorem QT (r : Wr) : (gV [] [r]).1 = wrE r := by
 unfold gV
 rw [zZa (by simp)]
 by_cases h : wrE r = 0
 ·unfold dW
  rw [zZa (by simp [h])]
  cases hw : gF [] r with
  | none =>
   have := (tI (m := 0) (ForestOk.nil 0) (oY.1 h) (by omega) hw).1
   simp at this
  | some g => exact h.symm
 ·rw [sF h]
def TxV (F : Fz) (u : Value) (t : Tx) : Prop := ∃ x0 y0 x1 y1, u = .agg #[.int .i64 t.start, .slice x0 t.reads.length y0, .slice x1 t.writes.length y1] ∧ Rds F (.slice x0 t.reads.length y0) t.reads ∧ Wrs F (.slice x1 t.writes.length y1) t.writes
theorem TxV.mono {F F' : Fz} {u : Value} {t : Tx} (h : TxV F u t) (hl : Le F F') : TxV F' u t := by
 obtain ⟨x0, y0, x1, y1, rfl, h0, h1⟩ := h
 exact ⟨x0, y0, x1, y1, rfl, h0.mono hl, h1.mono hl⟩
def nU (l : List Rd) : Nat → Nat → Int
  | 0, _ => 0
  | n + 1, k => match l[k]? with
    | none => 0
    | some r => if rdE r ≠ 0 then rdE r else if (l.take k).any (fun q => decide (q = r)) = true then 3 else nU l n (k + 1)
def uD (l : List Wr) : Nat → Nat → Int
  | 0, _ => 0
  | n + 1, k => match l[k]? with
    | none => 0
    | some r => if wrE r ≠ 0 then wrE r else if (l.take k).any (fun q => dK q r) = true then 3 else uD l n (k + 1)
def txE (t : Tx) : Int := if t.start < 0 ∨ 1048576 < t.start then 2 else if 20 < t.reads.length ∨ 10 < t.writes.length then 1 else if nU t.reads t.reads.length 0 ≠ 0 then nU t.reads t.reads.length 0 else uD t.writes t.writes.length 0
theorem EK {l : List Rd} {k : Nat} {r : Rd} (hp : l[k]? = some r) : nU l (l.length - k) k = if rdE r ≠ 0 then rdE r else if (l.take k).any (fun q => decide (q = r)) = true then 3 else nU l (l.length - (k + 1)) (k + 1) := by
 obtain ⟨hk, _⟩ := List.getElem?_eq_some_iff.1 hp
 rw [show l.length - k = (l.length - (k + 1)) + 1 from by omega]
 simp only [nU, hp]
theorem VM {l : List Rd} {k : Nat} (hk : l.length ≤ k) : nU l (l.length - k) k = 0 := by rw [show l.length - k = 0 from by omega]; rfl
theorem EL {l : List Wr} {k : Nat} {r : Wr} (hp : l[k]? = some r) : uD l (l.length - k) k = if wrE r ≠ 0 then wrE r else if (l.take k).any (fun q => dK q r) = true then 3 else uD l (l.length - (k + 1)) (k + 1) := by
 obtain ⟨hk, _⟩ := List.getElem?_eq_some_iff.1 hp
 rw [show l.length - k = (l.length - (k + 1)) + 1 from by omega]
 simp only [uD, hp]
theorem VN {l : List Wr} {k : Nat} (hk : l.length ≤ k) : uD l (l.length - k) k = 0 := by rw [show l.length - k = 0 from by omega]; rfl
theorem vW (F : Fz) (w : World) (v : Value) (r : Wr) (hs : Sat w F) (hv : WrV F v r) (hb : r.name.length ≤ 100000 ∧ r.key.length ≤ 100000 ∧ r.value.length ≤ 100000) :
    Calls Tryz.prog 112 #[v] w (cT w (.int .i64 (wrE r))) := by
 obtain ⟨x0, x1, x2, x3, x4, x5, rfl, h0, h1, h3⟩ := hv
 have S := St.start hs
 go_enter Tryz.func112, Tryz.ntmps112
 refine sk fun K1 hK1 => ?_
 refine bH S (v := fun n => .pointer (aA n 0)) rfl (bX (v := (.agg #[(.slice x0 r.name.length x1), (.slice x2 r.key.length x3), (.bool r.gone), (.slice x4 r.value.length x5)])) rfl) (fun n2 w3 S4 => ?_)
 refine dy ?_
 refine wn hK1 ?_
 refine sk fun K5 hK5 => ?_
 refine dR S4 0 Tryz.underlying39 (bY) ?_
 refine bH S4 (v := fun n => .slice (aA n 0) 1 1) rfl (cN (ps := #[(0, (.agg #[(.slice x0 r.name.length x1), (.slice x2 r.key.length x3), (.bool r.gone), (.slice x4 r.value.length x5)]))]) (cells := #[(.slice x0 r.name.length x1), (.slice x2 r.key.length x3), (.bool r.gone), (.slice x4 r.value.length x5)]) (E := 39) (cZ rfl) (fun w => by kernel_rfl)) (fun n6 w7 S8 => ?_)
 simp only [pq]
 obtain ⟨S9, a0, a1⟩ := St.freezeBlk S8 (i := 0) rfl
 have a3 : Wrs _ (.slice (some ⟨n6, 0, none⟩) 1 1) [r] := gP (R := WrC) (l := [r]) (el := [[(.slice x0 r.name.length x1), (.slice x2 r.key.length x3), (.bool r.gone), (.slice x4 r.value.length x5)]]) a1 rfl ⟨⟨_, _, _, _, rfl, (h0.mono a0), (h1.mono a0), rfl, (h3.mono a0)⟩, trivial⟩ (by simp) (by unfold maxLen; simp)
 generalize addF F w7 n6 = a8 at *
 refine aR S9 rfl (fn2 (zG _ _)) (wN _ _ _ _ [] [r] (S9).sat (Sl.nil _ _ _) a3 (ForestOk.nil 60) (fun q hq => by rw [List.mem_singleton.1 hq]; exact hb)) ?_
 intro a9 b0 b1 a4 a5 a6
 obtain ⟨_, rfl, a7⟩ := a6
 obtain ⟨b2, b3, rfl, _⟩ := Sl.shape a7
 refine aC ?_
 refine wn hK5 ?_
 refine sk fun b4 a2 => ?_
 refine aC ?_
 refine wn a2 ?_
 refine aO ?_
 try simp only [xt]
 refine bodyPost_ret (v := (.int .i64 (gV [] [r]).1)) ?_ rfl ?_
 exact bA rfl rfl
 exact ⟨by rw [QT], a4.gr.below⟩
theorem nB (F : Fz) (w : World) (v : Value) (t : Tx) (hs : Sat w F) (hv : TxV F v t) (hbw : ∀ r ∈ t.writes, r.name.length ≤ 100000 ∧ r.key.length ≤ 100000 ∧ r.value.length ≤ 100000) :
    Calls Tryz.prog 111 #[v] w (cT w (.int .i64 (txE t))) := by
 obtain ⟨x0, y0, x1, y1, rfl, h0, h1⟩ := hv
 obtain ⟨_, _, e0, q0, q1⟩ := Sl.shape h0
 obtain ⟨_, _, e1, q2, q3⟩ := Sl.shape h1
 injection e0 with _ _ e0
 injection e1 with _ _ e1
 subst e0 e1
 unfold maxLen at q1 q3
 have S := St.start hs
 go_enter Tryz.func111, Tryz.ntmps111
 refine sk fun K1 hK1 => ?_
 refine bH S (v := fun n => .pointer (aA n 0)) rfl (bX (v := (.agg #[(.int .i64 t.start), (.slice x0 t.reads.length y0), (.slice x1 t.writes.length y1)])) rfl) (fun n2 w3 S4 => ?_)
 refine dy ?_
 refine wn hK1 ?_
 refine aE fun K5 hK5 => ?_
 refine sk fun K6 hK6 => ?_
 refine aC ?_
 by_cases h8 : t.start < (0 : Int)
 refine eS ?_
 refine aC ?_
 refine wn hK6 ?_
 refine aI ?_
 refine sk fun K7 hK7 => ?_
 refine dy ?_
 refine wn hK7 ?_
 refine aO ?_
 try simp only [xt]
 refine bR (bA rfl (gD rfl)) ?_
 exact ⟨by unfold txE; rw [zZb (by omega)], S4.gr.below⟩
 refine eM ?_
 refine aC ?_
 by_cases h9 : (1048576 : Int) < t.start
 refine qX ?_
 refine dp ?_
 refine wn hK6 ?_
 refine aI ?_
 refine sk fun K8 hK8 => ?_
 refine dy ?_
 simp only [pq]
 refine wn hK8 ?_
 refine aO ?_
 try simp only [xt]
 refine bR (bA rfl (gD rfl)) ?_
 exact ⟨by unfold txE; rw [zZb (by omega)], S4.gr.below⟩
 refine lS ?_
 refine dp ?_
 refine wn hK6 ?_
 refine aF ?_
 refine aH ?_
 refine hK5 _ _ ?_
 refine aE fun K9 hK9 => ?_
 refine sk fun m3 a7 => ?_
 refine aC ?_
 by_cases i0 : 20 < t.reads.length
 refine qX ?_
 refine aC ?_
 refine wn a7 ?_
 refine aI ?_
 refine sk fun m4 d3 => ?_
 refine dy ?_
 refine wn d3 ?_
 refine aO ?_
 try simp only [xt]
 refine bR (bA rfl (gD rfl)) ?_
 exact ⟨by unfold txE; rw [zZa (by omega), zZb (by omega)], S4.gr.below⟩
 refine lS ?_
 refine aC ?_
 by_cases i1 : 10 < t.writes.length
 refine qX ?_
 refine dp ?_
 refine wn a7 ?_
 refine aI ?_
 refine sk fun m5 d4 => ?_
 refine dy ?_
 simp only [pq]
 refine wn d4 ?_
 refine aO ?_
 try simp only [xt]
 refine bR (bA rfl (gD rfl)) ?_
 exact ⟨by unfold txE; rw [zZa (by omega), zZb (by omega)], S4.gr.below⟩
 refine lS ?_
 refine dp ?_
 refine wn a7 ?_
 refine aF ?_
 refine aH ?_
 refine hK9 _ _ ?_
 refine aE fun m6 d5 => ?_
 refine sk fun m7 d6 => ?_
 refine aC ?_
 refine wn d6 ?_
 refine aN ?_
 refine aX (fun mm aa i2 => ∃ (k : Nat) (b2 : Fz) (b3 : Nat → Value), mm = t.reads.length - k ∧ b3 = dX aa ∧ aa = ⟨([(.agg #[(.int .i64 t.start), (.slice x0 t.reads.length y0), (.slice x1 t.writes.length y1)]), (pP n2 0)] ++ (usF b3 2 4 ([undef, undef, undef, (pP n2 0), (.int .i64 t.start), bF, bF, (pP n2 0), (.int .i64 t.start), bF, bF, (pP n2 1), (.slice x0 t.reads.length y0), (nI t.reads.length), bF, bF, (pP n2 2), (.slice x1 t.writes.length y1), (nI t.writes.length), bF, bF, (pP n2 1), (.slice x0 t.reads.length y0), (nI t.reads.length), (nI k)] ++ (usF b3 31 16 (udF 20 []))))).toArray, []⟩ ∧ St w F i2 b2 [⟨n2, [(.int .i64 t.start), (.slice x0 t.reads.length y0), (.slice x1 t.writes.length y1)], 141⟩] [] ∧ Le F b2 ∧ (k ≤ t.reads.length) ∧ (nU t.reads t.reads.length 0 = nU t.reads (t.reads.length - k) k)) _ ⟨0, F, _, rfl, rfl, rfl, S4, Le.refl _, (by omega), rfl⟩ ?_
 rintro m8 m9 n0 ⟨k, b2, b3, rfl, -, hfr, b4, a2, hk, hTr⟩ n1 d7
 simp only [uzF, Nat.reduceAdd] at hfr; subst hfr
 refine sk fun n3 b6 => ?_
 by_cases d8 : k < t.reads.length
 refine eS ?_
 refine wn b6 ?_
 refine aE fun n4 d9 => ?_
 refine aI ?_
 refine aH ?_
 refine d9 _ _ ?_
 refine aE fun n5 e2 => ?_
 refine aN ?_
 refine aE fun n6 e3 => ?_
 obtain ⟨p, hp⟩ : ∃ p, t.reads[k]? = some p := ⟨t.reads[k], zZc d8⟩
 obtain ⟨i3, i4, e4, i5, i6, i7, i8, i9, j0, j1, j2, j3, j4, g6, g7, g8⟩ := Rds.get (h0.mono a2) hp
 refine aB ?_
 refine dx ?_
 refine dr (pP i3 (i4 + k * 4)) (bN (i := k) (sz := 4) Tryz.underlying139 (jS _) rfl e4 rfl (by omega) rfl) ?_
 refine dr _ (aD rfl (cV Tryz.underlying179 rfl (dS) (eY (St.fz b4 j1) (St.fz b4 j2) (St.fz b4 j3) (St.fz b4 j4)))) ?_
 simp only [pq]
 refine sA b4 (tQ _) fun d0 n7 j5 => ?_
 refine dy ?_
 refine sW 0 j5 (dS) fun n8 e5 => ?_
 simp only [pq]
 refine wlK e3 ?_
 refine aE fun n9 e6 => ?_
 refine sk fun o0 e7 => ?_
 refine dR e5 0 Tryz.underlying179 (dS) ?_
 refine aJ (v := (.int .i64 (rdE p))) e5 rfl (fn1 (TI _ _)) (EH _ _ _ p (e5).sat ⟨_, _, _, _, _, _, rfl, g6, g7, g8⟩) (fun j6 g9 => ?_)
 refine dy ?_
 refine wn e7 ?_
 refine sk fun o1 b7 => ?_
 refine dx ?_
 simp only [pq]
 by_cases e8 : (rdE p) = (0 : Int)
 refine jJ ?_
 refine wn b7 ?_
 refine aF ?_
 refine aH ?_
 refine e6 _ _ ?_
 refine aE fun o2 e9 => ?_
 obtain ⟨h2, a3, a5⟩ := St.freezeBlk g9 (i := 0) rfl
 have j7 : RdP _ d0 p := ⟨_, _, _, _, _, _, a5 0 _ rfl, a5 1 _ rfl, a5 2 _ rfl, a5 3 _ rfl, (g6.mono a3), (g7.mono a3), (g8.mono a3)⟩
 generalize addF b2 j6 d0 = j8 at *
 refine aB ?_
 refine aC ?_
 have f0 := Sl.takeN (m := k) (h0.mono (a2.trans a3)) (by omega)
 have f0 : Rds _ (.slice x0 k y0) (t.reads.take k) := f0
 refine dr (.slice x0 k y0) (bD (l := 0) (h := k) (sz := 4) Tryz.underlying139 rfl (jS _) (.inl ⟨rfl, rfl⟩) (.inr ⟨_, rfl, rfl⟩) (by omega) (by omega) (eZ)) ?_
 refine dr (.func (.func 135) #[] #[(pP d0 0)]) (nH rfl) ?_
 refine aJ (v := (.bool ((t.reads.take k).any (fun q => decide (q = p))))) h2 rfl (fn2 (JR _ _)) (BC _ _ _ d0 (t.reads.take k) p (h2).sat f0 j7 (by rw [zZh]; omega)) (fun o3 h3 => ?_)
 refine wlK e9 ?_
 refine wp_cond_split rfl (fun a8 => ?_) (fun a8 => ?_)
 refine sk fun o4 f1 => ?_
 refine dy ?_
 simp only [pq]
 refine wn f1 ?_
 refine aO ?_
 try simp only [xt]
 refine bR (bA rfl (gD rfl)) ?_
 have hr : nU t.reads t.reads.length 0 = 3 := by rw [hTr, EK hp, zZa (by omega), zZb a8]
 exact ⟨by unfold txE; rw [zZa (by omega), zZa (by omega), zZb (by omega), hr], h3.gr.below⟩
 refine aH ?_
 refine e2 _ _ ?_
 refine aB ?_
 refine cR (k + 1) ?_
 refine dx ?_
 refine aG ?_
 exact d7 _ _ _ (by omega) ⟨(k + 1), j8, _, rfl, rfl, rfl, h3, (a2.trans a3), (by omega), (by rw [hTr, EK hp, zZa (by omega), zZa (by rw [a8]; simp)])⟩
 refine mQ ?_
 simp only [pq]
 refine wn b7 ?_
 refine aI ?_
 refine sk fun o5 f2 => ?_
 refine aC ?_
 refine wn f2 ?_
 refine aO ?_
 try simp only [xt]
 refine bR (bA rfl (gD rfl)) ?_
 have hr : nU t.reads t.reads.length 0 = rdE p := by rw [hTr, EK hp, zZb e8]
 exact ⟨by unfold txE; rw [zZa (by omega), zZa (by omega), zZb (by omega), hr], g9.gr.below⟩
 refine eM ?_
 simp only [pq]
 refine wn b6 ?_
 refine aE fun o6 j9 => ?_
 refine aF ?_
 refine cP ?_
 refine d5 _ _ ?_
 refine aE fun o7 f3 => ?_
 refine aE fun o8 f4 => ?_
 have hr0 : nU t.reads t.reads.length 0 = 0 := by rw [hTr, VM (by omega)]
 refine aB ?_
 refine aC ?_
 refine wlK f4 ?_
 refine aN ?_
 refine aX (fun mm aa k0 => ∃ (j : Nat) (d1 : Fz) (b9 : Nat → Value), mm = t.writes.length - j ∧ b9 = dX aa ∧ aa = ⟨([(.agg #[(.int .i64 t.start), (.slice x0 t.reads.length y0), (.slice x1 t.writes.length y1)]), (pP n2 0), (b9 2)] ++ (usF b3 3 3 (usF b9 6 3 ([(pP n2 0), (.int .i64 t.start), bF, bF, (pP n2 0), (.int .i64 t.start), bF, bF, (pP n2 1), (.slice x0 t.reads.length y0), (nI t.reads.length), bF, bF, (pP n2 2), (.slice x1 t.writes.length y1), (nI t.writes.length), bF, bF, (pP n2 1), (.slice x0 t.reads.length y0), (nI t.reads.length), (nI k), bF] ++ (usF b3 32 15 ([(pP n2 2), (.slice x1 t.writes.length y1), (nI t.writes.length), (nI j)] ++ (usF b9 51 16 []))))))).toArray, []⟩ ∧ St w F k0 d1 [⟨n2, [(.int .i64 t.start), (.slice x0 t.reads.length y0), (.slice x1 t.writes.length y1)], 141⟩] [] ∧ Le b2 d1 ∧ (j ≤ t.writes.length) ∧ (uD t.writes t.writes.length 0 = uD t.writes (t.writes.length - j) j)) _ ⟨0, b2, _, rfl, rfl, rfl, b4, Le.refl _, (by omega), rfl⟩ ?_
 rintro o9 p0 p1 ⟨j, d1, b9, rfl, -, hfr, b5, a9, hj, hTw⟩ p2 f5
 simp only [uzF, Nat.reduceAdd] at hfr; subst hfr
 refine sk fun p3 c0 => ?_
 by_cases f6 : j < t.writes.length
 refine eS ?_
 refine wn c0 ?_
 refine aE fun p4 f7 => ?_
 refine aI ?_
 refine aH ?_
 refine f7 _ _ ?_
 refine aE fun p5 f8 => ?_
 refine aN ?_
 refine aE fun p6 f9 => ?_
 obtain ⟨p, hp⟩ : ∃ p, t.writes[j]? = some p := ⟨t.writes[j], zZc f6⟩
 obtain ⟨k1, k2, g0, k3, k4, k5, k6, k7, k8, k9, l0, l1, l2, h4, h5, h6⟩ := Wrs.get (h1.mono (a2.trans a9)) hp
 refine aB ?_
 refine dx ?_
 refine dr (pP k1 (k2 + j * 4)) (bN (i := j) (sz := 4) Tryz.underlying40 (fL _) rfl g0 rfl (by omega) rfl) ?_
 refine dr _ (aD rfl (cV Tryz.underlying39 rfl (bY) (eY (St.fz b5 k9) (St.fz b5 l0) (St.fz b5 l1) (St.fz b5 l2)))) ?_
 simp only [pq]
 refine sA b5 (kY _) fun d2 p7 g1 => ?_
 refine dy ?_
 refine sW 0 g1 (bY) fun l3 b0 => ?_
 simp only [pq]
 refine wlK f9 ?_
 refine aE fun l4 c1 => ?_
 refine sk fun l5 c2 => ?_
 refine dR b0 0 Tryz.underlying39 (bY) ?_
 refine aJ (v := (.int .i64 (wrE p))) b0 rfl (fn1 (TD _ _)) (vW _ _ _ p (b0).sat ⟨_, _, _, _, _, _, rfl, h4, h5, h6⟩ (hbw p (zZi hp))) (fun g2 c3 => ?_)
 refine dy ?_
 refine wn c2 ?_
 refine sk fun l6 a6 => ?_
 refine dx ?_
 simp only [pq]
 by_cases g3 : (wrE p) = (0 : Int)
 refine jJ ?_
 refine wn a6 ?_
 refine aF ?_
 refine aH ?_
 refine c1 _ _ ?_
 refine aE fun l7 c4 => ?_
 obtain ⟨c5, a0, a1⟩ := St.freezeBlk c3 (i := 0) rfl
 have g4 : WrP _ d2 p := ⟨_, _, _, _, _, _, a1 0 _ rfl, a1 1 _ rfl, a1 2 _ rfl, a1 3 _ rfl, (h4.mono a0), (h5.mono a0), (h6.mono a0)⟩
 generalize addF d1 g2 d2 = g5 at *
 refine aB ?_
 refine aC ?_
 have b1 := Sl.takeN (m := j) (h1.mono ((a2.trans a9).trans a0)) (by omega)
 have b1 : Wrs _ (.slice x1 j y1) (t.writes.take j) := b1
 refine dr (.slice x1 j y1) (bD (l := 0) (h := j) (sz := 4) Tryz.underlying40 rfl (fL _) (.inl ⟨rfl, rfl⟩) (.inr ⟨_, rfl, rfl⟩) (by omega) (by omega) (eZ)) ?_
 refine dr (.func (.func 137) #[] #[(pP d2 0)]) (nH rfl) ?_
 refine aJ (v := (.bool ((t.writes.take j).any (fun q => dK q p)))) c5 rfl (fn2 (Dv _ _)) (BD _ _ _ d2 (t.writes.take j) p (c5).sat b1 g4 (by rw [zZh]; omega)) (fun l8 c6 => ?_)
 refine wlK c4 ?_
 refine wp_cond_split rfl (fun a4 => ?_) (fun a4 => ?_)
 refine sk fun l9 c7 => ?_
 refine dy ?_
 simp only [pq]
 refine wn c7 ?_
 refine aO ?_
 try simp only [xt]
 refine bR (bA rfl (gD rfl)) ?_
 exact ⟨by unfold txE; rw [zZa (by omega), zZa (by omega), zZa (by omega), hTw, EL hp, zZa (by omega), zZb a4], c6.gr.below⟩
 refine aH ?_
 refine f8 _ _ ?_
 refine aB ?_
 refine cR (j + 1) ?_
 refine dx ?_
 refine aG ?_
 exact f5 _ _ _ (by omega) ⟨(j + 1), g5, _, rfl, rfl, rfl, c6, (a9.trans a0), (by omega), (by rw [hTw, EL hp, zZa (by omega), zZa (by rw [a4]; simp)])⟩
 refine mQ ?_
 simp only [pq]
 refine wn a6 ?_
 refine aI ?_
 refine sk fun m0 c8 => ?_
 refine aC ?_
 refine wn c8 ?_
 refine aO ?_
 try simp only [xt]
 refine bR (bA rfl (gD rfl)) ?_
 exact ⟨by unfold txE; rw [zZa (by omega), zZa (by omega), zZa (by omega), hTw, EL hp, zZb g3], c3.gr.below⟩
 refine eM ?_
 simp only [pq]
 refine wn c0 ?_
 refine aE fun m1 h7 => ?_
 refine aF ?_
 refine cP ?_
 refine f3 _ _ ?_
 refine sk fun m2 c9 => ?_
 refine dy ?_
 refine wn c9 ?_
 refine aO ?_
 try simp only [xt]
 refine bR (bA rfl (gD rfl)) ?_
 exact ⟨by unfold txE; rw [zZa (by omega), zZa (by omega), zZa (by omega), hTw, VN (by omega)], b5.gr.below⟩
theorem EM {r : Rd} : rdE r = 0 ↔ RdOk r := by
 unfold rdE
 by_cases h1 : iL r.name.length = 0
 rw [zZa (by simp [h1])]
 have hn := mR.1 h1
 by_cases h2 : cQ r.key.length = 0
 rw [zZa (by simp [h2])]
 have hk := iX.1 h2
 cases hg : r.wide with
 | true =>
  simp only [if_true]
  exact ⟨fun h => ⟨hn, hk, by rw [hg]; simpa using iX.1 h⟩, fun h => iX.2 (by have := h.last; rw [hg] at this; simpa using this)⟩
 | false =>
  simp only [Bool.false_eq_true, if_false]
  by_cases h3 : 0 < r.last.length
  rw [zZb h3]
  refine ⟨fun h => by omega, fun h => ?_⟩
  have := h.last
  rw [hg] at this
  simp at this
  rw [this] at h3; simp at h3
  rw [zZa h3]
  exact ⟨fun _ => ⟨hn, hk, by rw [hg]; simpa using List.eq_nil_of_length_eq_zero (by omega)⟩, fun _ => rfl⟩
 rw [zZb h2]
 exact ⟨fun h => absurd h h2, fun h => absurd (iX.2 h.key) h2⟩
 rw [zZb h1]
 exact ⟨fun h => absurd h h1, fun h => absurd (mR.2 h.name) h1⟩
theorem MV {l : List Rd} : ∀ n k, n + k = l.length → (nU l n k = 0 ↔ ∀ (i : Nat) r, k ≤ i → l[i]? = some r → rdE r = 0 ∧ (l.take i).any (fun q => decide (q = r)) = false)
  | 0, k, h => ⟨fun _ i r hi hr => by have := (List.getElem?_eq_some_iff.1 hr).1; omega, fun _ => rfl⟩
  | n + 1, k, h => by
    have hk : k < l.length := by omega
    obtain ⟨x, hp⟩ : ∃ x, l[k]? = some x := ⟨_, zZc hk⟩
    simp only [nU, hp]
    by_cases h1 : rdE x = 0
    · rw [zZa (by simpa using h1)]
      by_cases h2 : (l.take k).any (fun q => decide (q = x)) = true
      · rw [zZb h2]
        refine ⟨fun h => by omega, fun h => ?_⟩
        have := (h k _ (zZe _) hp).2
        rw [h2] at this
        cases this
      · rw [zZa h2, MV n (k + 1) (by omega)]
        refine ⟨fun h i r hi hr => ?_, fun h i r hi hr => h i r (by omega) hr⟩
        rcases Nat.lt_or_eq_of_le hi with hi | rfl
        · exact h i r hi hr
        · rw [hp] at hr; cases hr; exact ⟨h1, Bool.eq_false_iff.2 h2⟩
    · rw [zZb h1]
      exact ⟨fun h => absurd h h1, fun h => absurd (h k _ (zZe _) hp).1 h1⟩
theorem MW {l : List Wr} : ∀ n k, n + k = l.length → (uD l n k = 0 ↔ ∀ (i : Nat) r, k ≤ i → l[i]? = some r → wrE r = 0 ∧ (l.take i).any (fun q => dK q r) = false)
  | 0, k, h => ⟨fun _ i r hi hr => by have := (List.getElem?_eq_some_iff.1 hr).1; omega, fun _ => rfl⟩
  | n + 1, k, h => by
    have hk : k < l.length := by omega
    obtain ⟨x, hp⟩ : ∃ x, l[k]? = some x := ⟨_, zZc hk⟩
    simp only [uD, hp]
    by_cases h1 : wrE x = 0
    · rw [zZa (by simpa using h1)]
      by_cases h2 : (l.take k).any (fun q => dK q x) = true
      · rw [zZb h2]
        refine ⟨fun h => by omega, fun h => ?_⟩
        have := (h k _ (zZe _) hp).2
        rw [h2] at this
        cases this
      · rw [zZa h2, MW n (k + 1) (by omega)]
        refine ⟨fun h i r hi hr => ?_, fun h i r hi hr => h i r (by omega) hr⟩
        rcases Nat.lt_or_eq_of_le hi with hi | rfl
        · exact h i r hi hr
        · rw [hp] at hr; cases hr; exact ⟨h1, Bool.eq_false_iff.2 h2⟩
    · rw [zZb h1]
      exact ⟨fun h => absurd h h1, fun h => absurd (h k _ (zZe _) hp).1 h1⟩
theorem uE {α : Type} {l : List α} {g : α → Bool} {i : Nat} : (l.take i).any g = false ↔ ∀ (j : Nat) q, j < i → l[j]? = some q → g q = false := by
 rw [List.any_eq_false]
 constructor
 ·intro h j q hj hq
  have := h q (zZi (show (l.take i)[j]? = some q by rw [List.getElem?_take, zZb hj]; exact hq))
  simpa using this
 ·intro h x hx
  obtain ⟨j, hj, rfl⟩ := List.mem_iff_getElem.1 hx
  rw [zZh] at hj
  rw [List.getElem_take]
  simpa using h j l[j] (by omega) (zZc (by omega))
theorem nR {t : Tx} : txE t = 0 ↔ TxOk t := by
 unfold txE
 by_cases h1 : t.start < 0 ∨ 1048576 < t.start
 rw [zZb h1]
 exact ⟨fun h => by omega, fun h => by have := h.start; omega⟩
 rw [zZa h1]
 by_cases h2 : 20 < t.reads.length ∨ 10 < t.writes.length
 rw [zZb h2]
 exact ⟨fun h => by omega, fun h => by have := h.nr; have := h.nw; omega⟩
 rw [zZa h2]
 have kr := MV (l := t.reads) t.reads.length 0 (by omega)
 have kw := MW (l := t.writes) t.writes.length 0 (by omega)
 have er : nU t.reads t.reads.length 0 = 0 ↔ (∀ r ∈ t.reads, RdOk r) ∧ t.reads.Pairwise (· ≠ ·) := by
  rw [kr]
  constructor
  intro h
  refine ⟨fun r hr => ?_, List.pairwise_iff_getElem.2 fun i j hi hj hij e => ?_⟩
  obtain ⟨i, hi, rfl⟩ := List.mem_iff_getElem.1 hr
  exact EM.1 (h i _ (Nat.zero_le _) (zZc hi)).1
  have := uE.1 (h j _ (Nat.zero_le _) (zZc hj)).2 i _ hij (zZc hi)
  simp [e] at this
  rintro ⟨h, hp⟩ i r _ hr
  refine ⟨EM.2 (h r (zZi hr)), uE.2 fun j q hj hq => decide_eq_false fun e => ?_⟩
  obtain ⟨hi, rfl⟩ := List.getElem?_eq_some_iff.1 hr
  obtain ⟨hj', rfl⟩ := List.getElem?_eq_some_iff.1 hq
  exact List.pairwise_iff_getElem.1 hp j i hj' hi hj e
 have ew : uD t.writes t.writes.length 0 = 0 ↔ (∀ r ∈ t.writes, WrOk r) ∧ t.writes.Pairwise fun a b => dK a b = false := by
  rw [kw]
  constructor
  intro h
  refine ⟨fun r hr => ?_, List.pairwise_iff_getElem.2 fun i j hi hj hij => ?_⟩
  obtain ⟨i, hi, rfl⟩ := List.mem_iff_getElem.1 hr
  exact oY.1 (h i _ (Nat.zero_le _) (zZc hi)).1
  exact uE.1 (h j _ (Nat.zero_le _) (zZc hj)).2 i _ hij (zZc hi)
  rintro ⟨h, hp⟩ i r _ hr
  refine ⟨oY.2 (h r (zZi hr)), uE.2 fun j q hj hq => ?_⟩
  obtain ⟨hi, rfl⟩ := List.getElem?_eq_some_iff.1 hr
  obtain ⟨hj', rfl⟩ := List.getElem?_eq_some_iff.1 hq
  exact List.pairwise_iff_getElem.1 hp j i hj' hi hj
 by_cases h3 : nU t.reads t.reads.length 0 = 0
 rw [zZa (by simpa using h3), ew]
 have := er.1 h3
 exact ⟨fun h => ⟨by omega, by omega, by omega, this.1, this.2, h.1, h.2⟩, fun h => ⟨h.writes, h.wdiff⟩⟩
 rw [zZb h3]
 exact ⟨fun h => absurd h h3, fun h => absurd (er.2 ⟨h.reads, h.rdiff⟩) h3⟩
theorem RdOk.small {r : Rd} (h : RdOk r) : r.name.length ≤ 100000 ∧ r.key.length ≤ 100000 ∧ r.last.length ≤ 100000 := by
 have h1 := h.name.2; have h2 := h.key.2; have h3 := h.last
 refine ⟨by omega, by omega, ?_⟩
 split at h3
 omega
 rw [h3]; simp
theorem WrOk.small {r : Wr} (h : WrOk r) : r.name.length ≤ 100000 ∧ r.key.length ≤ 100000 ∧ r.value.length ≤ 100000 := by
 have h1 := h.name.2; have h2 := h.key2; have h3 := h.value; omega
def jW : Tx := ⟨0, [], []⟩
def qB (t : Tx) (r : Rd) : Int := if txE t ≠ 0 then txE t else if rdE r ≠ 0 then rdE r else if r ∈ t.reads then 0 else if t.reads.length = 20 then 11 else 0
def uF (t : Tx) (r : Rd) : Tx := if qB t r ≠ 0 then jW else (jL t r).getD t
def nS (t : Tx) (r : Wr) : Int := if txE t ≠ 0 then txE t else if wrE r ≠ 0 then wrE r else if 0 ≤ mI t.writes (fun q => dK q r) then 0 else if t.writes.length = 10 then 11 else 0
def sK (t : Tx) (r : Wr) : Tx := if nS t r ≠ 0 then jW else (gR t r).getD t
theorem EO {t u : Tx} {r : Rd} (h : TxOk t) (hr : RdOk r) (e : jL t r = some u) : qB t r = 0 ∧ uF t r = u := by
 have h1 : qB t r = 0 := by
  unfold qB; rw [zZa (by simpa using nR.2 h), zZa (by simpa using EM.2 hr)]
  unfold jL at e
  split at e
  ·rename_i hm; rw [zZb hm]
  ·rename_i hm
   split at e
   ·cases e
   ·rename_i hl; rw [zZa hm, zZa hl]
 exact ⟨h1, by unfold uF; rw [zZa (by simpa using h1), e]; rfl⟩
theorem QU {t : Tx} {r : Rd} (h : TxOk t) (hr : RdOk r) (e : jL t r = none) : qB t r = 11 ∧ uF t r = jW := by
 have h1 : qB t r = 11 := by
  unfold qB; rw [zZa (by simpa using nR.2 h), zZa (by simpa using EM.2 hr)]
  unfold jL at e
  split at e
  ·cases e
  ·rename_i hm
   split at e
   ·rename_i hl; rw [zZa hm, zZb hl]
   ·cases e
 exact ⟨h1, by unfold uF; rw [zZb (by rw [h1]; decide)]⟩
theorem HV {ws : List Wr} {r : Wr} : mI ws (fun q => dK q r) = match AW ws r with | some i => (i : Int) | none => -1 := rfl
theorem zN {t u : Tx} {r : Wr} (h : TxOk t) (hr : WrOk r) (e : gR t r = some u) : nS t r = 0 ∧ sK t r = u := by
 have h1 : nS t r = 0 := by
  unfold nS; rw [zZa (by simpa using nR.2 h), zZa (by simpa using oY.2 hr), HV]
  unfold gR at e
  cases hi : AW t.writes r with
  | some i => rw [zZb (by simp only; omega)]
  | none =>
   rw [hi] at e
   simp only at e
   split at e
   ·cases e
   ·rename_i hl; rw [zZa (by simp only; omega), zZa hl]
 exact ⟨h1, by unfold sK; rw [zZa (by simpa using h1), e]; rfl⟩
theorem AM {t : Tx} {r : Wr} (h : TxOk t) (hr : WrOk r) (e : gR t r = none) : nS t r = 11 ∧ sK t r = jW := by
 have h1 : nS t r = 11 := by
  unfold nS; rw [zZa (by simpa using nR.2 h), zZa (by simpa using oY.2 hr), HV]
  unfold gR at e
  cases hi : AW t.writes r with
  | some i => rw [hi] at e; cases e
  | none =>
   rw [hi] at e
   simp only at e
   split at e
   ·rename_i hl; rw [zZa (by simp only; omega), zZb hl]
   ·cases e
 exact ⟨h1, by unfold sK; rw [zZb (by rw [h1]; decide)]⟩
theorem CD : TxOk jW := ⟨by decide, by decide, by decide, by simp [jW], by simp [jW], by simp [jW], by simp [jW]⟩
def TxE (F : Fz) (u : Value) (t : Tx) (e : Int) : Prop := ∃ v, u = .tuple #[v, .int .i64 e] ∧ TxV F v t
theorem TxV.nil (F : Fz) : TxV F (.agg #[.int .i64 0, .slice none 0 0, .slice none 0 0]) jW := ⟨none, 0, none, 0, rfl, Sl.nil _ _ _, Sl.nil _ _ _⟩
theorem VO {α : Type} {l : List α} {g : α → Bool} (h : 0 ≤ mI l g) : ∃ i : Nat, mI l g = (i : Int) ∧ i < l.length ∧ l.findIdx? g = some i := by
 unfold mI at *
 cases hf : l.findIdx? g with
 | none => rw [hf] at h; simp only at h; omega
 | some i =>
  refine ⟨i, rfl, ?_, rfl⟩
  exact (List.findIdx?_eq_some_iff_getElem.1 hf).1
theorem MX {α : Type} {l : List α} {g : α → Bool} (h : ¬ 0 ≤ mI l g) : l.findIdx? g = none := by
 unfold mI at h
 cases hf : l.findIdx? g with
 | none => rfl
 | some i => rw [hf] at h; simp only at h; omega
theorem AN (F : Fz) (w : World) (v : Value) (t : Tx) (hs : Sat w F) (hv : TxV F v t) (ht : TxOk t) :
    Calls Tryz.prog 113 #[v] w (TT w F 179 39 t) := by
 obtain ⟨x0, y0, x1, y1, rfl, h0, h1⟩ := hv
 obtain ⟨_, _, e0, q0, q1⟩ := Sl.shape h0
 obtain ⟨_, _, e1, q2, q3⟩ := Sl.shape h1
 injection e0 with _ _ e0
 injection e1 with _ _ e1
 subst e0 e1
 unfold maxLen at q1 q3
 obtain ⟨d7, b4, b5, b6, b7⟩ := info_parts MB
 have hnr := ht.nr
 have hwl : t.writes.length ≤ 100000 := zZo ht.nw (by decide)
 have hws := fun r hr => (ht.writes r hr).small
 have S := St.start hs
 go_enter Tryz.func113, Tryz.ntmps113
 refine sk fun K1 hK1 => ?_
 refine bH S (v := fun n => .pointer (aA n 0)) rfl (bX (v := (.agg #[(.int .i64 t.start), (.slice x0 t.reads.length y0), (.slice x1 t.writes.length y1)])) rfl) (fun n2 w3 S4 => ?_)
 refine sA S4 (gT _) fun n5 w6 S7 => ?_
 refine wn hK1 ?_
 refine aE fun K8 hK8 => ?_
 refine aP F 7 [(4, .rel (MadeO w6 F 4 WrC 39 t.writes) (MadeO.stable WrC.mono _ _ _ _ _)), (5, .rel (fun u w => ∃ a0 a1, u = (.agg #[(.int .i64 t.start), Zn, (.slice a0 t.writes.length a1)]) ∧ MadeO w6 F 4 WrC 39 t.writes (.slice a0 t.writes.length a1) w) (fun u w w1 h hb => by obtain ⟨a, c, e, h⟩ := h; exact ⟨a, c, e, MadeO.stable WrC.mono _ _ _ _ _ _ _ _ h hb⟩)), (6, .rel (NewAt w6 [(iI 0), Zn, Zn] 141) (NewAt.stable _ _ _))] (by kernel_rfl) (by kernel_rfl) ?_
 simp only [dA]
 refine gf (mA _ _) ?_
 refine gl bM S7 1 ?_
 simp only [pq]
 refine gf (xW _ _) ?_
 refine gl xS S7 1 ?_
 simp only [pq]
 refine eE rfl rfl (fun w9 C9 hF => bQ (cB (vs := #[(.slice x1 t.writes.length y1)]) (jQ rfl) rfl (TF _ _)) (QR S7.sat C9 (sV _ _ _ t.writes ((St.tells S7 C9)).sat h1 hwl hws))) (fun g3 => ?_)
 simp only [pq]
 refine eE rfl rfl (fun w9 C9 hF_ => ?_) (fun k3 => ?_)
 obtain ⟨Fo, go, ho⟩ := hF_.getR 4 (by kernel_rfl) rfl rfl
 obtain ⟨a0, a1, rfl, _, _⟩ := ho.shape
 exact iD (aK (fD rfl rfl) (by kernel_rfl)) ⟨a0, a1, rfl, Fo, go, ho⟩ (Below.refl _ _)
 simp only [pq]
 refine eE rfl rfl (fun w9 C9 _ => jU (cs := [(iI 0), Zn, Zn]) (gT _) rfl C9) (fun k4 => ?_)
 refine bU ?_
 intro k5 g4 a4
 obtain ⟨d4, rfl, b9, c0⟩ := a4.getR 6 rfl rfl
 have a5 : ∀ u ∈ [(.int .i64 0), (.slice none 0 0), (.slice none 0 0)], ∀ x, u ≠ bv x := by intro u hu x; simp only [zZk, List.not_mem_nil, or_false] at hu; rcases hu with rfl | rfl | rfl <;> (unfold bv; simp)
 obtain ⟨a0, a1, rfl, g5, d8, d9⟩ := a4.getR 5 rfl rfl
 have g6 := St.addBlkRow (hR := WrC.mono) (cs := [(.int .i64 0), (.slice none 0 0), (.slice none 0 0)]) S7 d8 d9 b9 c0 (by decide) (WrC.dropF d8.sat c0 a5)
 have e2 : Le _ _ := (d8.dropF S7.sat b9).le S7.sat
 generalize dropF g5 d4 = f8 at *
 clear a4
 simp only [dB]
 refine sW 0 g6 (bB) fun k6 g7 => ?_
 simp only [pq]
 refine wlK hK8 ?_
 refine aE fun k7 e3 => ?_
 refine sk fun k8 e4 => ?_
 refine aC ?_
 refine wn e4 ?_
 refine aN ?_
 have g8 := St.addNil g7 4 RdC RdC.mono 179 w.heap.size
 refine aX (fun mm aa g9 => ∃ (k : Nat) (v : Value) (d5 : Fz) (d6 : Nat → Value), mm = t.reads.length - k ∧ d6 = dX aa ∧ aa = ⟨([(.agg #[(.int .i64 t.start), (.slice x0 t.reads.length y0), (.slice x1 t.writes.length y1)]), (pP n2 0), (pP n5 0), (pP d4 0), undef, (d6 5), (pP n2 0), (.int .i64 t.start), (pP n2 2), (.slice x1 t.writes.length y1), g3, (.agg #[(.int .i64 t.start), Zn, (.slice a0 t.writes.length a1)]), (pP n2 1), (.slice x0 t.reads.length y0), (nI t.reads.length), (nI k)] ++ (usF d6 16 11 [undef])).toArray, []⟩ ∧ St w F g9 d5 [⟨d4, [(.int .i64 t.start), v, (.slice a0 t.writes.length a1)], 141⟩, ⟨n5, [(iI 0), Zn, Zn], 141⟩, ⟨n2, [(.int .i64 t.start), (.slice x0 t.reads.length y0), (.slice x1 t.writes.length y1)], 141⟩] [cU 4 RdC RdC.mono 179 w.heap.size v (t.reads.take k), cU 4 WrC WrC.mono 39 w.heap.size (.slice a0 t.writes.length a1) t.writes] ∧ Le f8 d5 ∧ (k ≤ t.reads.length)) _ ⟨0, Zn, f8, _, rfl, rfl, rfl, g8, Le.refl _, (by omega)⟩ ?_
 rintro k9 l0 l1 ⟨k, v, d5, d6, rfl, -, hfr, a2, c1, hk⟩ l2 e5
 simp only [uzF, Nat.reduceAdd] at hfr; subst hfr
 refine sk fun l3 c2 => ?_
 by_cases e6 : k < t.reads.length
 refine eS ?_
 refine wn c2 ?_
 refine aE fun l4 e7 => ?_
 refine aI ?_
 refine aH ?_
 refine e7 _ _ ?_
 refine aE fun l5 e8 => ?_
 refine aN ?_
 refine aE fun l6 e9 => ?_
 obtain ⟨p, hp⟩ : ∃ p, t.reads[k]? = some p := ⟨t.reads[k], zZc e6⟩
 obtain ⟨hb0, hb1, hb2⟩ := (ht.reads p (zZi hp)).small
 have htk : (t.reads.take k).length = k := by rw [zZh]; omega
 obtain ⟨h2, h3, f0, a6, a7, a8, a9, b0, b1, h4, h5, h6, h7, h8, h9, i0⟩ := Rds.get (h0.mono (e2.trans c1)) hp
 refine aB ?_
 refine dr (pP h2 (h3 + k * 4)) (bN (i := k) (sz := 4) Tryz.underlying139 (jS _) rfl f0 rfl (by omega) rfl) ?_
 refine dr _ (aD rfl (cV Tryz.underlying179 rfl (dS) (eY (St.fz a2 h4) (St.fz a2 h5) (St.fz a2 h6) (St.fz a2 h7)))) ?_
 simp only [pq]
 refine sA a2 (tQ _) fun i1 l7 i2 => ?_
 refine sW 0 i2 (dS) fun l8 b3 => ?_
 refine wlK e9 ?_
 refine aP d5 5 [(3, .made (fun F' u => RdV F' u p)), (4, .made (fun F' u => Rds F' u [p]))] (by kernel_rfl) (by kernel_rfl) ?_
 simp only [dA]
 refine gf (tT _ _) ?_
 simp only [pq]
 refine gl DP b3 1 ?_
 refine gv _ (fun _ c3 => aD rfl (cV Tryz.underlying179 rfl (dS) (St.range (St.tells b3 c3) (i := 0) rfl 0 [(.slice a6 p.name.length a7), (.slice a8 p.key.length a9), (.bool p.wide), (.slice b0 p.last.length b1)] (dI 0 rfl)))) ?_
 simp only [pq]
 refine eE rfl rfl (fun i3 c3 hF => bQ (cB (vs := #[(.agg #[(.slice a6 p.name.length a7), (.slice a8 p.key.length a9), (.bool p.wide), (.slice b0 p.last.length b1)])]) (jQ rfl) rfl (TK _ _)) (dQ b3.sat c3 (HU _ _ _ p ((St.tells b3 c3)).sat ⟨_, _, _, _, _, _, rfl, h8, h9, i0⟩ hb0 hb1 hb2))) (fun l9 => ?_)
 simp only [pq]
 refine eE rfl rfl (fun i3 c3 hF_ => ?_) (fun m0 => ?_)
 obtain ⟨m1, i4, i5⟩ := hF_.get 3 (by kernel_rfl) rfl rfl
 obtain ⟨c4, c5, c6, c7, c8, c9, rfl, i6, i7, i8⟩ := i5
 exact tY (k := 4) (R := RdC) (hR := RdC.mono) (p := p) (cs := [.slice c4 _ c5, .slice c6 _ c7, _, .slice c8 _ c9]) (E := 179) i4 ⟨_, _, _, _, rfl, i6, i7, rfl, i8⟩ rfl (cN (E := 179) (cells := #[.slice c4 _ c5, .slice c6 _ c7, _, .slice c8 _ c9]) (cZ rfl) (fun w => by kernel_rfl))
 refine bU ?_
 intro m2 i9 d0
 obtain ⟨j0, f9, j1⟩ := d0.get 4 rfl rfl
 have f1 := St.gives b3 f9
 have f2 : Le _ _ := f9.le b3.sat
 have g0 := j1
 generalize j0 = g1 at *
 obtain ⟨f3, f4, rfl, _⟩ := Sl.shape g0
 clear d0
 simp only [dB]
 refine eH (r := 0) (u := (.slice f3 [p].length f4)) f1 rfl d7 (.agg #[Zn, Zn, bF, Zn]) 80 Tryz.underlying139 b4 b5 b6 b7 rfl (by decide) rfl rfl rfl (Sl.toW g0 (f1).sat) (fun F cs p h => RdC.oneCell h) (zZe _) f1.gr.below.size (by unfold maxLen; simp only [zZh, zZg, zZj]; omega) (by simp only [zZh, zZg, zZj]; omega) ?_
 intro j2 j3 d1 j4
 simp only [pq]
 have d1 : St w F j3 g1 [⟨i1, [(.slice a6 p.name.length a7), (.slice a8 p.key.length a9), (.bool p.wide), (.slice b0 p.last.length b1)], 179⟩, ⟨d4, [(.int .i64 t.start), v, (.slice a0 t.writes.length a1)], 141⟩, ⟨n5, [(iI 0), Zn, Zn], 141⟩, ⟨n2, [(.int .i64 t.start), (.slice x0 t.reads.length y0), (.slice x1 t.writes.length y1)], 141⟩] [cU 4 RdC RdC.mono 179 w.heap.size j2 ((t.reads.take k) ++ [p]), cU 4 WrC WrC.mono 39 w.heap.size (.slice a0 t.writes.length a1) t.writes] := d1
 have hpe : (⟨p.name, p.key, p.wide, p.last⟩ : Rd) = p := rfl
 rw [← fB hp] at d1
 obtain ⟨j5, d2, rfl, j6, f5⟩ := (d1.own (i := 0) rfl).shape
 unfold maxLen at f5
 refine df (tT _ _) ?_
 refine sW 1 d1 (MA) fun j7 b2 => ?_
 refine wlK e8 ?_
 refine aB ?_
 refine cR (k + 1) ?_
 refine dx ?_
 simp only [pq]
 refine aG ?_
 have b2 := St.drop b2 (.cons _ (zZd _))
 exact e5 _ _ _ (by omega) ⟨(k + 1), (.slice j5 (t.reads.take (k + 1)).length d2), g1, _, rfl, rfl, rfl, b2, (c1.trans f2), (by omega)⟩
 refine eM ?_
 refine wn c2 ?_
 refine aE fun j8 g2 => ?_
 refine aF ?_
 refine cP ?_
 refine e3 _ _ ?_
 refine aE fun j9 d3 => ?_
 have hend : t.reads.take k = t.reads := List.take_of_length_le (by omega)
 rw [hend] at a2
 obtain ⟨k0, f6, rfl, k1, f7⟩ := (a2.own (i := 0) rfl).shape
 unfold maxLen at f7
 refine aB ?_
 refine dR a2 0 Tryz.underlying141 (bB) ?_
 refine sW 1 a2 (bB) fun k2 a3 => ?_
 simp only [pq]
 refine wlK d3 ?_
 refine aO ?_
 try simp only [xt]
 refine bR (lJ rfl ⟨_, rfl, lR a3 1 Tryz.underlying141 (bB)⟩) ?_
 exact ⟨_, _, _, rfl, a3.gr, a3.own (i := 0) rfl, a3.own (i := 1) rfl⟩
theorem yK (F : Fz) (w : World) (v u : Value) (t : Tx) (r : Rd) (hs : Sat w F) (hv : TxV F v t) (hu : RdV F u r) (hbw : ∀ r ∈ t.writes, r.name.length ≤ 100000 ∧ r.key.length ≤ 100000 ∧ r.value.length ≤ 100000) :
    Calls Tryz.prog 106 #[v, u] w (dF w F fun F' u => TxE F' u (uF t r) (qB t r)) := by
 obtain ⟨x0, y0, x1, y1, rfl, h0, h1⟩ := hv
 obtain ⟨_, _, e0, q0, q1⟩ := Sl.shape h0
 obtain ⟨_, _, e1, q2, q3⟩ := Sl.shape h1
 injection e0 with _ _ e0
 injection e1 with _ _ e1
 subst e0 e1
 unfold maxLen at q1 q3
 obtain ⟨z0, z1, z2, z3, z4, z5, rfl, k0, k1, k3⟩ := hu
 obtain ⟨e4, b1, b2, b3, b4⟩ := info_parts MB
 have S := St.start hs
 go_enter Tryz.func106, Tryz.ntmps106
 refine sk fun K1 hK1 => ?_
 refine bH S (v := fun n => .pointer (aA n 0)) rfl (bX (v := (.agg #[(.int .i64 t.start), (.slice x0 t.reads.length y0), (.slice x1 t.writes.length y1)])) rfl) (fun n2 w3 S4 => ?_)
 refine bH S4 (v := fun n => .pointer (aA n 0)) rfl (bX (v := (.agg #[(.slice z0 r.name.length z1), (.slice z2 r.key.length z3), (.bool r.wide), (.slice z4 r.last.length z5)])) rfl) (fun n5 w6 S7 => ?_)
 simp only [pq]
 refine sA S7 (gT _) fun n8 w9 e5 => ?_
 refine dy ?_
 refine wn hK1 ?_
 refine aE fun l1 e6 => ?_
 refine sk fun l2 e7 => ?_
 refine dR e5 2 Tryz.underlying141 (bB) ?_
 simp only [pq]
 refine aJ (v := (.int .i64 (txE t))) e5 rfl (fn1 (BX _ _)) (nB _ _ _ t (e5).sat ⟨_, _, _, _, rfl, h0, h1⟩ hbw) (fun l3 e2 => ?_)
 refine dy ?_
 refine wn e7 ?_
 refine sk fun l4 b5 => ?_
 refine dx ?_
 simp only [pq]
 by_cases b6 : (txE t) = (0 : Int)
 refine jJ ?_
 refine wn b5 ?_
 refine aF ?_
 refine aH ?_
 refine e6 _ _ ?_
 refine aE fun l5 e8 => ?_
 refine aE fun l6 e9 => ?_
 have ht : TxOk t := nR.1 (by omega)
 have hnr := ht.nr
 refine aB ?_
 refine dR e2 1 Tryz.underlying179 (dS) ?_
 refine aJ (v := (.int .i64 (rdE r))) e2 rfl (fn1 (TI _ _)) (EH _ _ _ r (e2).sat ⟨_, _, _, _, _, _, rfl, k0, k1, k3⟩) (fun l7 e3 => ?_)
 refine dy ?_
 simp only [pq]
 refine wlK e9 ?_
 refine sk fun l8 b7 => ?_
 refine dx ?_
 simp only [pq]
 by_cases b9 : (rdE r) = (0 : Int)
 refine jJ ?_
 refine wn b7 ?_
 refine aF ?_
 refine aH ?_
 refine e8 _ _ ?_
 refine aE fun l9 f0 => ?_
 have hr : RdOk r := EM.1 (by omega)
 obtain ⟨hb0, hb1, hb2⟩ := hr.small
 refine aB ?_
 refine dR e3 2 Tryz.underlying141 (bB) ?_
 refine HR e3 rfl (fn1 (TE _ _)) (AN _ _ _ t (e3).sat ⟨_, _, _, _, rfl, h0, h1⟩ ht) (by decide) ?_
 intro h4 h5 g2 g3 m0 h6 h7 a1 f1 f2
 unfold maxLen at f1 f2
 refine sA h7 (gT _) fun m1 m2 h8 => ?_
 simp only [pq]
 refine sW 0 h8 (bB) fun h9 i0 => ?_
 refine wlK f0 ?_
 refine aE fun m3 c0 => ?_
 refine aN ?_
 refine aE fun m4 f3 => ?_
 obtain ⟨g4, a2, a0⟩ := St.freezeBlk i0 (i := 2) rfl
 have i1 : RdP _ n5 r := ⟨_, _, _, _, _, _, a0 0 _ rfl, a0 1 _ rfl, a0 2 _ rfl, a0 3 _ rfl, ((k0.mono a1).mono a2), ((k1.mono a1).mono a2), ((k3.mono a1).mono a2)⟩
 generalize addF h6 h9 n5 = i2 at *
 refine aB ?_
 refine aC ?_
 refine dr (.func (.func 128) #[] #[(pP n5 0)]) (nH rfl) ?_
 simp only [pq]
 refine aJ (v := (.bool (t.reads.any (fun q => decide (q = r))))) g4 rfl (fn2 (JR _ _)) (EJ _ _ _ n5 t.reads r (g4).sat (h0.mono (a1.trans a2)) i1 (by omega)) (fun m5 a4 => ?_)
 refine dy ?_
 refine wlK f3 ?_
 refine wp_cond_split rfl (fun a3 => ?_) (fun a3 => ?_)
 refine aH ?_
 refine c0 _ _ ?_
 refine aE fun m6 f4 => ?_
 obtain ⟨m7, i3, i4, a8⟩ := St.freeze a4 (i := 0) rfl (zZe _)
 have a8 : Rds _ (.slice h4 t.reads.length h5) t.reads := a8
 obtain ⟨m8, g5, f5, a9⟩ := St.freeze i3 (i := 0) rfl (zZe _)
 have a9 : Wrs _ (.slice g2 t.writes.length g3) t.writes := a9
 refine aB ?_
 refine dR g5 0 Tryz.underlying141 (bB) ?_
 refine sW 1 g5 (bB) fun m9 g6 => ?_
 simp only [pq]
 refine dy ?_
 refine wlK f4 ?_
 refine aO ?_
 try simp only [xt]
 refine bR (dM rfl ⟨_, rfl, lR g6 1 Tryz.underlying141 (bB)⟩ (gD rfl)) ?_
 have hm : r ∈ t.reads := by obtain ⟨x, hx, e⟩ := List.any_eq_true.1 a3; have := of_decide_eq_true e; subst this; exact hx
 obtain ⟨he, hT⟩ := EO ht hr (show jL t r = some t by unfold jL; rw [zZb hm])
 rw [he, hT]
 exact ⟨_, _, rfl, g6.gr, _, rfl, _, _, _, _, rfl, (a8.mono f5), a9⟩
 refine sk fun n0 c1 => ?_
 refine aC ?_
 by_cases i5 : t.reads.length = 20
 refine iA ?_
 refine dy ?_
 refine wn c1 ?_
 refine aI ?_
 refine sk fun n1 f6 => ?_
 refine dr (.agg #[(iI 0), Zn, Zn]) (aK (hU) (by kernel_rfl)) ?_
 simp only [pq]
 refine sW 1 a4 (bB) fun n3 g7 => ?_
 refine dy ?_
 refine wn f6 ?_
 refine aO ?_
 try simp only [xt]
 refine bR (dM rfl ⟨_, rfl, lR g7 1 Tryz.underlying141 (bB)⟩ (gD rfl)) ?_
 have hm : r ∉ t.reads := by intro hm; have : t.reads.any (fun q => decide (q = r)) = true := List.any_eq_true.2 ⟨r, hm, decide_eq_true rfl⟩; rw [this] at a3; simp at a3
 have he : qB t r = 11 := by unfold qB; rw [zZa (by omega), zZa (by omega), zZa hm, zZb (by omega)]
 have hT : uF t r = jW := by unfold uF; rw [zZb (by rw [he]; decide)]
 rw [he, hT]
 exact ⟨_, _, rfl, g7.gr, _, rfl, _, _, _, _, rfl, (Sl.nil _ _ _), (Sl.nil _ _ _)⟩
 refine gH ?_
 refine dy ?_
 simp only [pq]
 refine wn c1 ?_
 refine aF ?_
 refine aP i2 5 [(3, .made (fun F' u => RdV F' u r)), (4, .made (fun F' u => Rds F' u [r]))] (by kernel_rfl) (by kernel_rfl) ?_
 simp only [dA]
 refine gf (tT _ _) ?_
 refine gl DP a4 0 ?_
 refine gv _ (fun _ a7 => aD rfl (cV Tryz.underlying179 rfl (dS) (eY (St.fz (St.tells a4 a7) (a0 0 _ rfl)) (St.fz (St.tells a4 a7) (a0 1 _ rfl)) (St.fz (St.tells a4 a7) (a0 2 _ rfl)) (St.fz (St.tells a4 a7) (a0 3 _ rfl))))) ?_
 simp only [pq]
 refine eE rfl rfl (fun i6 a7 hF => bQ (cB (vs := #[(.agg #[(.slice z0 r.name.length z1), (.slice z2 r.key.length z3), (.bool r.wide), (.slice z4 r.last.length z5)])]) (jQ rfl) rfl (TK _ _)) (dQ a4.sat a7 (HU _ _ _ r ((St.tells a4 a7)).sat ⟨_, _, _, _, _, _, rfl, (k0.mono (a1.trans a2)), (k1.mono (a1.trans a2)), (k3.mono (a1.trans a2))⟩ hb0 hb1 hb2))) (fun n4 => ?_)
 simp only [pq]
 refine eE rfl rfl (fun i6 a7 hF_ => ?_) (fun n6 => ?_)
 obtain ⟨n7, i7, i8⟩ := hF_.get 3 (by kernel_rfl) rfl rfl
 obtain ⟨c2, c3, c4, c5, c6, c7, rfl, i9, j0, j1⟩ := i8
 exact tY (k := 4) (R := RdC) (hR := RdC.mono) (p := r) (cs := [.slice c2 _ c3, .slice c4 _ c5, _, .slice c6 _ c7]) (E := 179) i7 ⟨_, _, _, _, rfl, i9, j0, rfl, j1⟩ rfl (cN (E := 179) (cells := #[.slice c2 _ c3, .slice c4 _ c5, _, .slice c6 _ c7]) (cZ rfl) (fun w => by kernel_rfl))
 refine bU ?_
 intro n9 j2 c8
 obtain ⟨j3, g8, j4⟩ := c8.get 4 rfl rfl
 have f7 := St.gives a4 g8
 have j5 : Le _ _ := g8.le a4.sat
 have g9 := j4
 generalize j3 = o0 at *
 obtain ⟨c9, d0, rfl, _⟩ := Sl.shape g9
 clear c8
 simp only [dB]
 refine eH (r := 0) (u := (.slice c9 [r].length d0)) f7 rfl e4 (.agg #[Zn, Zn, bF, Zn]) 80 Tryz.underlying139 b1 b2 b3 b4 rfl (by decide) rfl rfl rfl (Sl.toW g9 (f7).sat) (fun F cs p h => RdC.oneCell h) (zZe _) f7.gr.below.size (by unfold maxLen; simp only [zZg, zZj]; omega) (by simp only [zZg, zZj]; omega) ?_
 intro j6 j7 d1 h2
 simp only [pq]
 have hpe : (⟨r.name, r.key, r.wide, r.last⟩ : Rd) = r := rfl
 obtain ⟨f8, b0, rfl, j8, f9⟩ := (d1.own (i := 0) rfl).shape
 unfold maxLen at f9
 refine df (tT _ _) ?_
 refine sW 0 d1 (MA) fun j9 g0 => ?_
 refine wlK c0 ?_
 refine aE fun k2 d2 => ?_
 obtain ⟨k4, g1, h3, a5⟩ := St.freeze g0 (i := 0) rfl (zZe _)
 have a5 : Rds _ (.slice f8 (t.reads ++ [r]).length b0) (t.reads ++ [r]) := a5
 obtain ⟨k5, d3, d4, a6⟩ := St.freeze g1 (i := 0) rfl (zZe _)
 have a6 : Wrs _ (.slice g2 t.writes.length g3) t.writes := a6
 refine aB ?_
 refine dR d3 0 Tryz.underlying141 (bB) ?_
 simp only [pq]
 refine sW 1 d3 (bB) fun k6 d5 => ?_
 refine dy ?_
 refine wlK d2 ?_
 refine aO ?_
 try simp only [xt]
 refine bR (dM rfl ⟨_, rfl, lR d5 1 Tryz.underlying141 (bB)⟩ (gD rfl)) ?_
 have hm : r ∉ t.reads := by intro hm; have : t.reads.any (fun q => decide (q = r)) = true := List.any_eq_true.2 ⟨r, hm, decide_eq_true rfl⟩; rw [this] at a3; simp at a3
 obtain ⟨he, hT⟩ := EO ht hr (show jL t r = some ⟨t.start, t.reads ++ [r], t.writes⟩ by unfold jL; rw [zZa hm, zZa (by omega)])
 rw [he, hT]
 exact ⟨_, _, rfl, d5.gr, _, rfl, _, _, _, _, rfl, (a5.mono d4), a6⟩
 refine mQ ?_
 simp only [pq]
 refine wn b7 ?_
 refine aI ?_
 refine sk fun k7 d6 => ?_
 refine dr (.agg #[(iI 0), Zn, Zn]) (aK (hU) (by kernel_rfl)) ?_
 refine dx ?_
 refine sW 0 e3 (bB) fun k8 d7 => ?_
 simp only [pq]
 refine dy ?_
 refine wn d6 ?_
 refine aO ?_
 try simp only [xt]
 refine bR (dM rfl ⟨_, rfl, lR d7 0 Tryz.underlying141 (bB)⟩ (gD rfl)) ?_
 have he : qB t r = rdE r := by unfold qB; rw [zZa (by omega), zZb b9]
 have hT : uF t r = jW := by unfold uF; rw [zZb (by rw [he]; exact b9)]
 rw [he, hT]
 exact ⟨_, _, rfl, d7.gr, _, rfl, _, _, _, _, rfl, (Sl.nil _ _ _), (Sl.nil _ _ _)⟩
 refine mQ ?_
 refine wn b5 ?_
 refine aI ?_
 refine sk fun k9 d8 => ?_
 refine dr (.agg #[(iI 0), Zn, Zn]) (aK (hU) (by kernel_rfl)) ?_
 refine dx ?_
 simp only [pq]
 refine sW 0 e2 (bB) fun l0 d9 => ?_
 refine dy ?_
 refine wn d8 ?_
 refine aO ?_
 try simp only [xt]
 refine bR (dM rfl ⟨_, rfl, lR d9 0 Tryz.underlying141 (bB)⟩ (gD rfl)) ?_
 have he : qB t r = txE t := by unfold qB; rw [zZb b6]
 have hT : uF t r = jW := by unfold uF; rw [zZb (by rw [he]; exact b6)]
 rw [he, hT]
 exact ⟨_, _, rfl, d9.gr, _, rfl, _, _, _, _, rfl, (Sl.nil _ _ _), (Sl.nil _ _ _)⟩
theorem uG (F : Fz) (w : World) (v u : Value) (t : Tx) (r : Wr) (hs : Sat w F) (hv : TxV F v t) (hu : WrV F u r) (hbw : ∀ r ∈ t.writes, r.name.length ≤ 100000 ∧ r.key.length ≤ 100000 ∧ r.value.length ≤ 100000) (hbr : r.name.length ≤ 100000 ∧ r.key.length ≤ 100000 ∧ r.value.length ≤ 100000) :
    Calls Tryz.prog 94 #[v, u] w (dF w F fun F' u => TxE F' u (sK t r) (nS t r)) := by
 obtain ⟨x0, y0, x1, y1, rfl, h0, h1⟩ := hv
 obtain ⟨_, _, e0, q0, q1⟩ := Sl.shape h0
 obtain ⟨_, _, e1, q2, q3⟩ := Sl.shape h1
 injection e0 with _ _ e0
 injection e1 with _ _ e1
 subst e0 e1
 unfold maxLen at q1 q3
 obtain ⟨z0, z1, z2, z3, z4, z5, rfl, k0, k1, k3⟩ := hu
 obtain ⟨i8, f4, f5, f6, f7⟩ := info_parts JF
 have S := St.start hs
 go_enter Tryz.func94, Tryz.ntmps94
 refine sk fun K1 hK1 => ?_
 refine bH S (v := fun n => .pointer (aA n 0)) rfl (bX (v := (.agg #[(.int .i64 t.start), (.slice x0 t.reads.length y0), (.slice x1 t.writes.length y1)])) rfl) (fun n2 w3 S4 => ?_)
 refine bH S4 (v := fun n => .pointer (aA n 0)) rfl (bX (v := (.agg #[(.slice z0 r.name.length z1), (.slice z2 r.key.length z3), (.bool r.gone), (.slice z4 r.value.length z5)])) rfl) (fun n5 w6 S7 => ?_)
 simp only [pq]
 refine sA S7 (gT _) fun n8 w9 f8 => ?_
 refine dy ?_
 refine wn hK1 ?_
 refine aE fun n4 f9 => ?_
 refine sk fun n6 g0 => ?_
 refine dR f8 2 Tryz.underlying141 (bB) ?_
 simp only [pq]
 refine aJ (v := (.int .i64 (txE t))) f8 rfl (fn1 (BX _ _)) (nB _ _ _ t (f8).sat ⟨_, _, _, _, rfl, h0, h1⟩ hbw) (fun n7 e9 => ?_)
 refine dy ?_
 refine wn g0 ?_
 refine sk fun n9 c5 => ?_
 refine dx ?_
 simp only [pq]
 by_cases c6 : (txE t) = (0 : Int)
 refine jJ ?_
 refine wn c5 ?_
 refine aF ?_
 refine aH ?_
 refine f9 _ _ ?_
 refine aE fun o0 g1 => ?_
 refine aE fun o1 g2 => ?_
 have ht : TxOk t := nR.1 (by omega)
 have hnr := ht.nr
 have hnw := ht.nw
 refine aB ?_
 refine dR e9 1 Tryz.underlying39 (bY) ?_
 refine aJ (v := (.int .i64 (wrE r))) e9 rfl (fn1 (TD _ _)) (vW _ _ _ r (e9).sat ⟨_, _, _, _, _, _, rfl, k0, k1, k3⟩ hbr) (fun o2 f0 => ?_)
 refine dy ?_
 simp only [pq]
 refine wlK g2 ?_
 refine sk fun o3 c7 => ?_
 refine dx ?_
 simp only [pq]
 by_cases c8 : (wrE r) = (0 : Int)
 refine jJ ?_
 refine wn c7 ?_
 refine aF ?_
 refine aH ?_
 refine g1 _ _ ?_
 refine aE fun o4 g3 => ?_
 have hr : WrOk r := oY.1 (by omega)
 refine aB ?_
 refine dR f0 2 Tryz.underlying141 (bB) ?_
 refine HR f0 rfl (fn1 (TE _ _)) (AN _ _ _ t (f0).sat ⟨_, _, _, _, rfl, h0, h1⟩ ht) (by decide) ?_
 intro c2 c3 o5 c4 o6 i9 j0 b7 g4 g5
 unfold maxLen at g4 g5
 refine sA j0 (gT _) fun o7 o8 j1 => ?_
 simp only [pq]
 refine sW 0 j1 (bB) fun o9 i0 => ?_
 refine wlK g3 ?_
 refine sk fun p0 g6 => ?_
 refine dR i0 2 Tryz.underlying39 (bY) ?_
 refine bH i0 (v := fun n => .slice (aA n 0) 1 1) rfl (cN (ps := #[(0, (.agg #[(.slice z0 r.name.length z1), (.slice z2 r.key.length z3), (.bool r.gone), (.slice z4 r.value.length z5)]))]) (cells := #[(.slice z0 r.name.length z1), (.slice z2 r.key.length z3), (.bool r.gone), (.slice z4 r.value.length z5)]) (E := 39) (cZ rfl) (fun w => by kernel_rfl)) (fun i1 j2 j3 => ?_)
 simp only [pq]
 obtain ⟨i2, b9, g7⟩ := St.freezeBlk j3 (i := 0) rfl
 have j4 : Wrs _ (.slice (some ⟨i1, 0, none⟩) 1 1) [r] := gP (R := WrC) (l := [r]) (el := [[(.slice z0 r.name.length z1), (.slice z2 r.key.length z3), (.bool r.gone), (.slice z4 r.value.length z5)]]) g7 rfl ⟨⟨_, _, _, _, rfl, ((k0.mono b7).mono b9), ((k1.mono b7).mono b9), rfl, ((k3.mono b7).mono b9)⟩, trivial⟩ (by simp) (by unfold maxLen; simp)
 generalize addF i9 j2 i1 = p1 at *
 refine aR i2 rfl (fn1 (TF _ _)) (EI _ _ _ [r] (i2).sat j4 (by simp) (by intro x hx; rw [List.mem_singleton.1 hx]; exact hbr)) ?_
 intro p2 p3 j5 c9 j6 i3
 obtain ⟨p4, p5, rfl, p6, p7⟩ := Sl.shape i3
 simp only [pq]
 obtain ⟨j7, j8, g8, a8, a9, b0, b1, b2, b3, j9, k2, k4, k5, f1, f2, f3⟩ := Wrs.get i3 (show [r][0]? = some r from rfl)
 refine dr (pP j7 (j8 + 0 * 4)) (bN (i := 0) (sz := 4) Tryz.underlying40 (fL _) rfl g8 rfl (by simp) rfl) ?_
 refine dr _ (aD rfl (cV Tryz.underlying39 rfl (bY) (eY (St.fz c9 j9) (St.fz c9 k2) (St.fz c9 k4) (St.fz c9 k5)))) ?_
 refine sW 2 c9 (bY) fun k6 k7 => ?_
 simp only [pq]
 refine wn g6 ?_
 refine aE fun p8 g9 => ?_
 obtain ⟨i4, a0, a1⟩ := St.freezeBlk k7 (i := 2) rfl
 have k8 : WrP _ n5 r := ⟨_, _, _, _, _, _, a1 0 _ rfl, a1 1 _ rfl, a1 2 _ rfl, a1 3 _ rfl, (f1.mono a0), (f2.mono a0), (f3.mono a0)⟩
 generalize addF j5 k6 n5 = p9 at *
 refine aB ?_
 refine aC ?_
 refine dr (.func (.func 116) #[] #[(pP n5 0)]) (nH rfl) ?_
 simp only [pq]
 obtain ⟨q4, h2, h3, d0⟩ := oR i4 (i := 1) rfl
 refine aJ (v := (.int .i64 (mI t.writes (fun q => dK q r)))) i4 rfl (fn2 (TG _ _)) (KO _ _ _ n5 t.writes r h2 d0 (k8.mono h3) (by omega)) (fun q5 a3 => ?_)
 refine dy ?_
 refine wlK g9 ?_
 refine aE fun q6 d1 => ?_
 refine aN ?_
 refine sk fun k9 b5 => ?_
 refine dx ?_
 simp only [pq]
 by_cases c0 : (0 : Int) ≤ (mI t.writes (fun q => dK q r))
 refine Cg ?_
 refine dy ?_
 refine wn b5 ?_
 refine aI ?_
 obtain ⟨i, hi, hil, hif⟩ := VO c0
 rw [hi]
 obtain ⟨a2, rfl⟩ := Own.addr0 (a3.own (i := 1) rfl) (by omega)
 refine aB ?_
 refine aC ?_
 refine dr _ (aD rfl (cV Tryz.underlying39 rfl (bY) (eY (St.fz a3 (a1 0 _ rfl)) (St.fz a3 (a1 1 _ rfl)) (St.fz a3 (a1 2 _ rfl)) (St.fz a3 (a1 3 _ rfl))))) ?_
 refine dr (pP a2 (0 + i * 4)) (bN (i := i) (sz := 4) Tryz.underlying40 (fL _) rfl rfl rfl (by omega) rfl) ?_
 refine DK (r := 1) (i := i) (p := r) (u := (.agg #[(.slice a8 r.name.length a9), (.slice b0 r.key.length b1), (.bool r.gone), (.slice b2 r.value.length b3)])) a3 rfl rfl (by omega) rfl rfl (by omega) (bY) (Im rfl rfl rfl rfl) rfl ⟨_, _, _, _, rfl, (f1.mono a0), (f2.mono a0), rfl, (f3.mono a0)⟩ (zZe _) (fun l0 h4 => ?_)
 refine wlK d1 ?_
 refine aE fun l1 d2 => ?_
 obtain ⟨l2, h5, i5, a4⟩ := St.freeze h4 (i := 0) rfl (zZe _)
 have a4 : Rds _ (.slice c2 t.reads.length c3) t.reads := a4
 obtain ⟨l3, d3, d4, a5⟩ := St.freeze h5 (i := 0) rfl (zZe _)
 have a5 : Wrs _ (.slice (some ⟨a2, 0, none⟩) t.writes.length c4) (t.writes.set i r) := a5
 refine aB ?_
 refine dR d3 0 Tryz.underlying141 (bB) ?_
 simp only [pq]
 refine sW 1 d3 (bB) fun l4 d5 => ?_
 refine dy ?_
 refine wlK d2 ?_
 refine aO ?_
 try simp only [xt]
 refine bodyPost_ret (v := (.tuple #[(.agg #[(.int .i64 t.start), (.slice c2 t.reads.length c3), (.slice (some ⟨a2, 0, none⟩) t.writes.length c4)]), (.int .i64 0)])) ?_ rfl ?_
 exact dM rfl ⟨_, rfl, jC (cs := [(.int .i64 t.start), (.slice c2 t.reads.length c3), (.slice (some ⟨a2, 0, none⟩) t.writes.length c4)]) Tryz.underlying141 rfl (bB) (St.range d5 (i := 1) rfl 0 [(.int .i64 t.start), (.slice c2 t.reads.length c3), (.slice (some ⟨a2, 0, none⟩) t.writes.length c4)] (dI 0 rfl))⟩ rfl
 obtain ⟨he, hT⟩ := zN ht hr (show gR t r = some ⟨t.start, t.reads, t.writes.set i r⟩ by unfold gR AW; rw [hif])
 rw [he, hT]
 exact ⟨_, _, rfl, d5.gr, _, rfl, _, _, _, _, (show _ = Value.agg #[.int .i64 t.start, (.slice c2 t.reads.length c3), (.slice (some ⟨a2, 0, none⟩) (t.writes.set i r).length c4)] from by rw [List.length_set]), (a4.mono d4), (show Wrs _ (.slice (some ⟨a2, 0, none⟩) (t.writes.set i r).length c4) (t.writes.set i r) from by rw [List.length_set]; exact a5)⟩
 refine Ch ?_
 refine dy ?_
 simp only [pq]
 refine wn b5 ?_
 refine aF ?_
 refine sk fun l5 b6 => ?_
 refine aC ?_
 by_cases l6 : t.writes.length = 10
 refine iA ?_
 refine dy ?_
 refine wn b6 ?_
 refine aI ?_
 refine sk fun l7 d6 => ?_
 refine dr (.agg #[(iI 0), Zn, Zn]) (aK (hU) (by kernel_rfl)) ?_
 simp only [pq]
 refine sW 1 a3 (bB) fun l8 d7 => ?_
 refine dy ?_
 refine wn d6 ?_
 refine aO ?_
 try simp only [xt]
 refine bR (dM rfl ⟨_, rfl, lR d7 1 Tryz.underlying141 (bB)⟩ (gD rfl)) ?_
 obtain ⟨he, hT⟩ := AM ht hr (show gR t r = none by unfold gR AW; rw [MX c0]; simp only; rw [zZb (by omega)])
 rw [he, hT]
 exact ⟨_, _, rfl, d7.gr, _, rfl, _, _, _, _, rfl, (Sl.nil _ _ _), (Sl.nil _ _ _)⟩
 refine gH ?_
 refine dy ?_
 simp only [pq]
 refine wn b6 ?_
 refine aF ?_
 refine aB ?_
 refine aC ?_
 refine dr _ (aD rfl (cV Tryz.underlying39 rfl (bY) (eY (St.fz a3 (a1 0 _ rfl)) (St.fz a3 (a1 1 _ rfl)) (St.fz a3 (a1 2 _ rfl)) (St.fz a3 (a1 3 _ rfl))))) ?_
 simp only [pq]
 refine bH a3 (v := fun n => .slice (aA n 0) 1 1) rfl (cN (ps := #[(0, (.agg #[(.slice a8 r.name.length a9), (.slice b0 r.key.length b1), (.bool r.gone), (.slice b2 r.value.length b3)]))]) (cells := #[(.slice a8 r.name.length a9), (.slice b0 r.key.length b1), (.bool r.gone), (.slice b2 r.value.length b3)]) (E := 39) (cZ rfl) (fun w => by kernel_rfl)) (fun l9 m0 d8 => ?_)
 refine fH (i := 0) (r := 1) (p := r) (cs := [(.slice a8 r.name.length a9), (.slice b0 r.key.length b1), (.bool r.gone), (.slice b2 r.value.length b3)]) d8 rfl i8 (.agg #[Zn, Zn, bF, Zn]) 80 Tryz.underlying40 f4 f5 f6 f7 rfl (by decide) rfl rfl rfl rfl rfl (WrC.oneCell (p := r) ⟨_, _, _, _, rfl, (f1.mono a0), (f2.mono a0), rfl, (f3.mono a0)⟩) (⟨_, _, _, _, rfl, (f1.mono a0), (f2.mono a0), rfl, (f3.mono a0)⟩) (zZe _) d8.gr.below.size (by unfold maxLen; omega) (by omega) ?_
 intro m1 m2 b4 i6
 simp only [pq]
 have b4 := St.drop b4 (.cons _ (zZd _))
 obtain ⟨h6, c1, rfl, m3, h7⟩ := (b4.own (i := 1) rfl).shape
 unfold maxLen at h7
 refine df (xW _ _) ?_
 refine sW 0 b4 (JC) fun m4 h8 => ?_
 refine wlK d1 ?_
 refine aE fun m5 d9 => ?_
 obtain ⟨m6, h9, i7, a6⟩ := St.freeze h8 (i := 0) rfl (zZe _)
 have a6 : Rds _ (.slice c2 t.reads.length c3) t.reads := a6
 obtain ⟨m7, e2, e3, a7⟩ := St.freeze h9 (i := 0) rfl (zZe _)
 have a7 : Wrs _ (.slice h6 (t.writes ++ [r]).length c1) (t.writes ++ [r]) := a7
 refine aB ?_
 refine dR e2 0 Tryz.underlying141 (bB) ?_
 simp only [pq]
 refine sW 1 e2 (bB) fun m8 e4 => ?_
 refine dy ?_
 refine wlK d9 ?_
 refine aO ?_
 try simp only [xt]
 refine bR (dM rfl ⟨_, rfl, lR e4 1 Tryz.underlying141 (bB)⟩ (gD rfl)) ?_
 obtain ⟨he, hT⟩ := zN ht hr (show gR t r = some ⟨t.start, t.reads, t.writes ++ [r]⟩ by unfold gR AW; rw [MX c0]; simp only; rw [zZa (by omega)])
 rw [he, hT]
 exact ⟨_, _, rfl, e4.gr, _, rfl, _, _, _, _, rfl, (a6.mono e3), a7⟩
 refine mQ ?_
 simp only [pq]
 refine wn c7 ?_
 refine aI ?_
 refine sk fun m9 e5 => ?_
 refine dr (.agg #[(iI 0), Zn, Zn]) (aK (hU) (by kernel_rfl)) ?_
 refine dx ?_
 refine sW 0 f0 (bB) fun n0 e6 => ?_
 simp only [pq]
 refine dy ?_
 refine wn e5 ?_
 refine aO ?_
 try simp only [xt]
 refine bR (dM rfl ⟨_, rfl, lR e6 0 Tryz.underlying141 (bB)⟩ (gD rfl)) ?_
 have he : nS t r = wrE r := by unfold nS; rw [zZa (by omega), zZb c8]
 have hT : sK t r = jW := by unfold sK; rw [zZb (by rw [he]; exact c8)]
 rw [he, hT]
 exact ⟨_, _, rfl, e6.gr, _, rfl, _, _, _, _, rfl, (Sl.nil _ _ _), (Sl.nil _ _ _)⟩
 refine mQ ?_
 refine wn c5 ?_
 refine aI ?_
 refine sk fun n1 e7 => ?_
 refine dr (.agg #[(iI 0), Zn, Zn]) (aK (hU) (by kernel_rfl)) ?_
 refine dx ?_
 simp only [pq]
 refine sW 0 e9 (bB) fun n3 e8 => ?_
 refine dy ?_
 refine wn e7 ?_
 refine aO ?_
 try simp only [xt]
 refine bR (dM rfl ⟨_, rfl, lR e8 0 Tryz.underlying141 (bB)⟩ (gD rfl)) ?_
 have he : nS t r = txE t := by unfold nS; rw [zZb c6]
 have hT : sK t r = jW := by unfold sK; rw [zZb (by rw [he]; exact c6)]
 rw [he, hT]
 exact ⟨_, _, rfl, e8.gr, _, rfl, _, _, _, _, rfl, (Sl.nil _ _ _), (Sl.nil _ _ _)⟩
theorem TxV.dropT {w : World} {F : Fz} {n : Nat} {T : TypeId} (hs : Sat w F) (hb : w.heap[n]? = some (.cells [Value.int .i64 0, Value.slice none 0 0, Value.slice none 0 0].toArray T (0, 0))) (hc : ∀ u ∈ [Value.int .i64 0, Value.slice none 0 0, Value.slice none 0 0], ∀ x, u ≠ bv x) {u : Value} {t : Tx} (h : TxV F u t) : TxV (dropF F n) u t := by
 obtain ⟨x0, y0, x1, y1, rfl, h0, h1⟩ := h
 exact ⟨x0, y0, x1, y1, rfl, Rds.dropF hs hb hc (by simp) h0, Wrs.dropF hs hb hc (by simp) h1⟩
theorem nT (F : Fz) (w : World) (v u : Value) (t : Tx) (r : Wr) (t' : Tx) (hs : Sat w F) (hv : TxV F v t) (hu : WrV F u r) (ht : TxOk t) (hr : WrOk r) (e : gR t r = some t') :
    Calls Tryz.prog 94 #[v, u] w (dF w F fun F' u => TxE F' u t' 0) := by
 have := uG F w v u t r hs hv hu (fun x hx => (ht.writes x hx).small) hr.small
 obtain ⟨h1, h2⟩ := zN ht hr e
 rwa [h1, h2] at this
theorem pF (F : Fz) (w : World) (v u : Value) (t : Tx) (r : Rd) (t' : Tx) (hs : Sat w F) (hv : TxV F v t) (hu : RdV F u r) (ht : TxOk t) (hr : RdOk r) (e : jL t r = some t') :
    Calls Tryz.prog 106 #[v, u] w (dF w F fun F' u => TxE F' u t' 0) := by
 have := yK F w v u t r hs hv hu (fun x hx => (ht.writes x hx).small)
 obtain ⟨h1, h2⟩ := EO ht hr e
 rwa [h1, h2] at this
end Go.Proofs.YtilgpdpooildcaaGreatDoor
