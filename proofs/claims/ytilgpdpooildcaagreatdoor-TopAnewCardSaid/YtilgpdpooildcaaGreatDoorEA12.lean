/- Rules, plain laws and walks: SV5 SV6 SV7 SV8 SV9 P16 -/
import Derived.Test.YtilgpdpooildcaaGreatDoorEA11
namespace Go.Proofs.YtilgpdpooildcaaGreatDoor
set_option maxHeartbeats 8000000
open Go.RowKit
set_option maxRecDepth 100000
set_option linter.unusedVariables false
set_option linter.unusedSimpArgs false
theorem qF (F : Fz) (w : World) (u v y z : Value) (l : aW) (t : Tx) (n k : By) {b : Bool} (hs : Sat w F) (hl : Tns F u l) (hv : TxV F v t) (hn : Bs F y n) (hk : Bs F z k) (hf : ForestOk 60 l) (ht : TxOk t) (hnn : 1 ≤ n.length ∧ n.length ≤ 8) (hkk : 1 ≤ k.length ∧ k.length ≤ 16) (h : (cY l t n k).2 = b) :
    Calls Tryz.prog 89 #[u, v, y, z] w (dF w F (Fw (cY l t n k).1 b 0)) := by
 subst h; exact VP F w u v y z l t n k hs hl hv hn hk hf ht hnn hkk
theorem AQ (F : Fz) (w : World) (u v y z x : Value) (l : aW) (t : Tx) (n k j : By) {o : Option (List Pr)} (hs : Sat w F) (hl : Tns F u l) (hv : TxV F v t) (hn : Bs F y n) (hk : Bs F z k) (hj : Bs F x j) (hf : ForestOk 60 l) (ht : TxOk t) (hnn : 1 ≤ n.length ∧ n.length ≤ 8) (hkk : 1 ≤ k.length ∧ k.length ≤ 16) (hjj : 1 ≤ j.length ∧ j.length ≤ 16) (h : GV l t n k j = o) :
    Calls Tryz.prog 91 #[u, v, y, z, x] w (dF w F (wL (o.getD []) (if o.isSome then 0 else 11))) := by
 have := QW F w u v y z x l t n k j hs hl hv hn hk hj hf ht hnn hkk hjj
 rw [h] at this
 cases o <;> exact this
theorem Az {m : Nat} {g : Eng} (h : EngOk m g) {s : Nat} {t : Tx} (ht : g.txn s = some t) : ∃ k : Nat, t.start = (k : Int) ∧ k ≤ g.commits.length ∧ t.start.toNat = k := by
 obtain ⟨h1, h2⟩ := h.txns s t ht
 have := h.sync
 have := h1.start
 exact ⟨t.start.toNat, by omega, by omega, rfl⟩
theorem Ba {F : Fz} {b : Nat} {z : Int} {k : Nat} (h : cS F b 0 = some (.int .i64 z)) (e : z = (k : Int)) : cS F b 0 = some (.int .i64 ((k : Nat) : Int)) := by rw [← e]; exact h
theorem Bb {k : Nat} {r : Rq} {j : Nat} (ok : RqOk k r) (hk : k = j) (hj : j = 2 ∨ j = 3 := by decide) : (1 ≤ r.name.length ∧ r.name.length ≤ 8) ∧ (1 ≤ r.key.length ∧ r.key.length ≤ 16) ∧ (j = 3 → 1 ≤ r.last.length ∧ r.last.length ≤ 16) := by
 subst hk
 obtain ⟨h1, h2, h3, h4, h5, h6⟩ := Ao ok (by omega)
 exact ⟨h1, h2, h5⟩
theorem Bc (w0 : World) (F0 : Fz) (w : World) (F : Fz) (n : Nat) (g : Eng) (L : List Blk) {m : Nat} (s : Nat) (hs8 : s < 8) (u : Value) (t : Tx) (k : Nat) (r : Rq) (hM : EngM w0 F0 w F n g L) (hh : Has w0) (hT : Tabs w0) (hg : EngOk m g) (hm : m ≤ 149) (hts : g.txn s = some t) (hv : BG F u k r.name r.key r.last r.value) (ok : RqOk k r) (hk1 : k ≠ 1 ∧ k ≠ 7 ∧ k ≠ 8) (hq : g.replies.length ≤ 100000) :
    Calls Tryz.prog 81 #[.pointer (some ⟨n, 0, none⟩), .int .i64 ((s : Nat) : Int), .pointer (some ⟨n, 6 + s * 2, none⟩), u] w (wV w0 F0 F n (g.work s t k r) L) := by
 obtain ⟨_, _, _, _, rfl, q0, q1, q2, q3⟩ := hv
 obtain ⟨a0, c0, rfl, _⟩ := q0.shape
 obtain ⟨a1, c1, rfl, _⟩ := q1.shape
 obtain ⟨a2, c2, rfl, _⟩ := q2.shape
 obtain ⟨a3, c3, rfl, _⟩ := q3.shape
 obtain ⟨ad, cd, ac, cc, af, cf, aw, cw, ar, cr, pv, S, hd, ht⟩ := hM
 have hb := ht s hs8
 rw [hts] at hb
 obtain ⟨b, x0, y0, x1, y1, hp, b0, b1, b2, r0, r1⟩ := hb
 have htok := (hg.txns s t hts).1
 have hsy := hg.sync
 have hst := hg.states
 go_enter Tryz.func81, Tryz.ntmps81
 refine sk fun K4 hK4 => ?_
 refine bH S (v := fun n => .pointer (aA n 0)) rfl (bX (v := (.agg #[(nI k), (.slice a0 r.name.length c0), (.slice a1 r.key.length c1), (.slice a2 r.last.length c2), (.slice a3 r.value.length c3)])) rfl) (fun n5 w6 S7 => ?_)
 refine wn hK4 ?_
 refine aE fun K8 hK8 => ?_
 obtain ⟨st, hst1, hst2, hst3⟩ := Az hg hts
 have hfa := vP hg hst2
 have hfo := vQ hg hst2
 have b0n := Ba b0 hst1
 obtain ⟨g9, aa, k9, l0, ma, k7⟩ := UJ (S7.own (i := 1) rfl) hfa
 refine aP F 11 [] (by kernel_rfl) (by kernel_rfl) ?_
 simp only [dA]
 refine gm ?_
 refine gi ?_
 refine gf (nF _ _) ?_
 simp only [pq]
 refine gl oS S7 1 ?_
 refine gm ?_
 refine gi ?_
 simp only [pq]
 refine gf (eN _ _) ?_
 refine gv _ (fun _ ab => aD rfl (aQ (eQ _) (St.cell (St.tells S7 ab) (i := 1) rfl ((eV hs8).trans (congrArg some hp))))) ?_
 refine gi ?_
 simp only [pq]
 refine gf (mA _ _) ?_
 refine gv _ (fun _ ab => aD rfl (aQ (bM _) (St.fz (St.tells S7 ab) b0n))) ?_
 refine bU ?_
 intro mb l1 ae
 clear ae
 have c7 := St.tells S7 l1
 simp only [dB]
 refine dr (pP g9 (0 + st * 1)) (bN (i := st) (sz := 1) Tryz.underlying106 (oE _) rfl aa rfl (by omega) rfl) ?_
 refine dr _ (aD rfl (aQ (uV _) (rB l1 ma))) ?_
 refine dy ?_
 simp only [pq]
 refine wlK hK8 ?_
 refine aE fun rz ag => ?_
 subst hst3
 refine aB ?_
 refine aC ?_
 refine wlK ag ?_
 refine aN ?_
 refine aE fun sa g0 => ?_
 rcases (by have := ok.kind; omega : k = 2 ∨ k = 3 ∨ k = 6 ∨ (k = 4 ∨ k = 5)) with hk | hk | hk | hk
 have hq4 := Bb ok hk
 refine aB ?_
 refine iA ?_
 refine dy ?_
 simp only [pq]
 refine wlK g0 ?_
 refine aI ?_
 refine aE fun sb g1 => ?_
 obtain ⟨em, a4, d8⟩ := St.freezeBlk c7 (i := 0) rfl
 generalize addF F mb n5 = sd at *
 cases hlk : (cY (g.forest t.start.toNat) t r.name r.key).2 with
 | true =>
  refine II (i := 0) em rfl (by kernel_rfl) (fun se d7 => ?_)
  refine uO 0 rfl (fP (i := 0) d7 (Le.refl _) rfl) ?_
  simp only [pq]
  refine uO 1 rfl (fP (i := 0) d7 (Le.refl _) rfl) ?_
  simp only [pq]
  refine UK 2 rfl (fP (i := 0) d7 (Le.refl _) rfl) ?_
  simp only [pq]
  refine mG 3 rfl _ (fP (i := 0) d7 (Le.refl _) rfl) (fun _ _ => ef (eN _ _)) ?_
  simp only [pq]
  refine mG 4 rfl _ (fP (i := 0) d7 (Le.refl _) rfl) (fun _ ah => aD rfl (aQ (eQ _) (Gd ah.2 ((eV hs8).trans (congrArg some hp))))) ?_
  simp only [pq]
  refine UK 5 rfl (fP (i := 0) d7 (Le.refl _) rfl) ?_
  simp only [pq]
  refine mG 6 rfl (.agg #[(.int .i64 t.start), (.slice x0 t.reads.length y0), (.slice x1 t.writes.length y1)]) (fP (i := 0) d7 (Le.refl _) rfl) (fun _ j4 => aD rfl (jC (cs := [(.int .i64 t.start), (.slice x0 t.reads.length y0), (.slice x1 t.writes.length y1)]) Tryz.underlying141 rfl (bB) (rV (St.fz (St.start j4.1) (Le.cell a4 b0)) (St.fz (St.start j4.1) (Le.cell a4 b1)) (St.fz (St.start j4.1) (Le.cell a4 b2))))) ?_
  simp only [pq]
  refine mG 7 rfl _ (fP (i := 0) d7 (Le.refl _) rfl) (fun _ _ => ef (xZ _ _)) ?_
  simp only [pq]
  refine mG 8 rfl _ (fP (i := 0) d7 (Le.refl _) rfl) (fun _ ai => aD rfl (aQ (aZ _) (St.fz (St.start ai.1) (d8 1 _ rfl)))) ?_
  simp only [pq]
  refine mG 9 rfl _ (fP (i := 0) d7 (Le.refl _) rfl) (fun _ _ => ef (yA _ _)) ?_
  simp only [pq]
  refine mG 10 rfl _ (fP (i := 0) d7 (Le.refl _) rfl) (fun _ aj => aD rfl (aQ (aZ _) (St.fz (St.start aj.1) (d8 2 _ rfl)))) ?_
  simp only [pq]
  refine Ax 11 16 (by kernel_rfl) rfl rfl ?_ ?_
  refine aR d7 rfl (fn4 (KA _ _)) (qF _ _ _ _ _ _ (g.forest t.start.toNat) t r.name r.key (b := true) (d7).sat (k7.mono a4) ⟨_, _, _, _, rfl, (r0.mono a4), (r1.mono a4)⟩ (q0.mono a4) (q1.mono a4) hfo htok hq4.1 hq4.2.1 hlk) ?_
  intro sf sg mc k8 c8 md
  obtain ⟨_, rfl, me⟩ := md
  obtain ⟨z8, z9, rfl, ak⟩ := me
  have ak : Bs _ (.slice z8 ((cY (g.forest t.start.toNat) t r.name r.key).1.getD []).length z9) ((cY (g.forest t.start.toNat) t r.name r.key).1.getD []) := ak
  refine aG (kZ (fP (i := 0) k8 c8 rfl) ?_)
  refine uO 12 rfl (fP (i := 0) k8 c8 rfl) ?_
  simp only [pq]
  refine sX 13 rfl (fP (i := 0) k8 c8 rfl) ?_
  simp only [pq]
  refine sX 14 rfl (fP (i := 0) k8 c8 rfl) ?_
  simp only [pq]
  refine sX 15 rfl (fP (i := 0) k8 c8 rfl) ?_
  simp only [pq]
  refine qE 16 (by kernel_rfl) rfl ?_
  refine sA k8 (lZ _) fun sh si en => ?_
  refine aG (kZ (fP (i := 1) en c8 rfl) ?_)
  refine qE 17 (by kernel_rfl) rfl ?_
  refine sW 0 en (gL) fun sj h6 => ?_
  refine aG (kZ (fP (i := 1) h6 c8 rfl) ?_)
  refine nL 18 rfl (fP (i := 1) h6 c8 rfl) ?_
  simp only [pq]
  refine nL 19 rfl (fP (i := 1) h6 c8 rfl) ?_
  simp only [pq]
  refine CI (by kernel_rfl) ?_
  refine g1 _ _ ?_
  refine aE fun sl al => ?_
  refine sk fun sm am => ?_
  refine aC ?_
  refine wn am ?_
  refine aF ?_
  refine aH ?_
  refine al _ _ ?_
  refine aP mc 14 [] (by kernel_rfl) (by kernel_rfl) ?_
  simp only [dA]
  iterate 2 refine gm ?_
  simp only [pq]
  refine gm ?_
  refine gi ?_
  refine gf (eN _ _) ?_
  simp only [pq]
  refine gv _ (fun _ an => aD rfl (aQ (eQ _) (St.cell (St.tells h6 an) (i := 1) rfl ((eV hs8).trans (congrArg some hp))))) ?_
  refine gi ?_
  refine gf (mA _ _) ?_
  simp only [pq]
  refine gv _ (fun _ an => aD rfl (aQ (bM _) (St.fz (St.tells h6 an) (Le.cell (a4.trans c8) b0)))) ?_
  refine gf (uZ _ _) ?_
  refine gl iJ h6 0 ?_
  simp only [pq]
  refine gf (vA _ _) ?_
  refine gl aZ h6 0 ?_
  refine gv (.agg #[(nI s), (iI 0), (.int .i64 t.start), (.bool (cY (g.forest t.start.toNat) t r.name r.key).1.isSome), (.slice z8 ((cY (g.forest t.start.toNat) t r.name r.key).1.getD []).length z9), Zn, Zn, bF, Zn, Zn, Zn, bF, Zn, Zn, Zn]) (fun _ _ => aK (ps := #[(0, (nI s)), (2, (.int .i64 t.start)), (3, (.bool (cY (g.forest t.start.toNat) t r.name r.key).1.isSome)), (4, (.slice z8 ((cY (g.forest t.start.toNat) t r.name r.key).1.getD []).length z9))]) (qW rfl rfl rfl rfl) (by kernel_rfl)) ?_
  simp only [pq]
  refine bU ?_
  intro sn ao ap
  clear ap
  have mf := St.tells h6 ao
  simp only [dB]
  have mg := St.perm mf (List.perm_middle (l₁ := [_]))
  have aq : EngM _ _ _ _ n g _ := ⟨_, _, _, _, _, _, _, _, _, _, _, mg, (hd.mono (a4.trans c8)), (eG ht (a4.trans c8))⟩
  refine doC rfl (cB (vs := #[(pP n 0), (.agg #[(nI s), (iI 0), (.int .i64 t.start), (.bool (cY (g.forest t.start.toNat) t r.name r.key).1.isSome), (.slice z8 ((cY (g.forest t.start.toNat) t r.name r.key).1.getD []).length z9), Zn, Zn, bF, Zn, Zn, Zn, bF, Zn, Zn, Zn])]) (gK rfl rfl) rfl (qL _ _)) (kG _ _ _ _ _ _ _ _ (⟨s, 0, t.start, (cY (g.forest t.start.toNat) t r.name r.key).1.isSome, (cY (g.forest t.start.toNat) t r.name r.key).1.getD [], [], [], jG, jG⟩ : Rep) aq ⟨_, _, _, _, _, _, _, _, _, rfl, ak, Sl.nil _ _ _, Bs.nil _, Sl.nil _ _ _, Bs.nil _, Bs.nil _, Sl.nil _ _ _, Bs.nil _, Bs.nil _⟩ hq) ?_
  rintro _ so ⟨rfl, sp, au, av⟩
  refine ⟨_, rfl, ?_⟩
  obtain ⟨mh, mi, mj, mk, ml, mm, mn, mo, mp, eo, ep, ax, l2, l3⟩ := av
  simp only [pq]
  refine aG ?_
  try simp only [xt]
  refine bE (iV rfl) ?_
  have l4 : EngM _ _ _ _ n (g.reply (⟨s, 0, t.start, (cY (g.forest t.start.toNat) t r.name r.key).1.isSome, (cY (g.forest t.start.toNat) t r.name r.key).1.getD [], [], [], jG, jG⟩ : Rep)) _ := ⟨_, _, _, _, _, _, _, _, _, _, _, ax, l2, l3⟩
  have he : g.work s t k r = (g.reply (⟨s, 0, t.start, (cY (g.forest t.start.toNat) t r.name r.key).1.isSome, (cY (g.forest t.start.toNat) t r.name r.key).1.getD [], [], [], jG, jG⟩ : Rep)) := by
   unfold Eng.work
   rw [zZb hk]
   unfold Eng.look
   simp only; rw [zZb hlk]
  rw [he]
  exact ⟨rfl, _, ((a4.trans c8).trans au), (l4.drop (.cons _ (zZd _)))⟩
  refine sA d7 (lZ _) fun mq mr j5 => ?_
  refine aG (kZ (fP (i := 1) j5 (Le.refl _) rfl) ?_)
  refine qE 11 (by kernel_rfl) rfl ?_
  refine aR j5 rfl (fn4 (KA _ _)) (qF _ _ _ _ _ _ (g.forest t.start.toNat) t r.name r.key (b := true) (j5).sat (k7.mono a4) ⟨_, _, _, _, rfl, (r0.mono a4), (r1.mono a4)⟩ (q0.mono a4) (q1.mono a4) hfo htok hq4.1 hq4.2.1 hlk) ?_
  intro ms mt ay d9 b4 az
  obtain ⟨_, rfl, ba⟩ := az
  obtain ⟨g2, g3, rfl, j6⟩ := ba
  have j6 : Bs _ (.slice g2 ((cY (g.forest t.start.toNat) t r.name r.key).1.getD []).length g3) ((cY (g.forest t.start.toNat) t r.name r.key).1.getD []) := j6
  refine aG (kZ (fP (i := 1) d9 b4 rfl) ?_)
  refine uO 12 rfl (fP (i := 1) d9 b4 rfl) ?_
  simp only [pq]
  refine sX 13 rfl (fP (i := 1) d9 b4 rfl) ?_
  simp only [pq]
  refine sX 14 rfl (fP (i := 1) d9 b4 rfl) ?_
  simp only [pq]
  refine sX 15 rfl (fP (i := 1) d9 b4 rfl) ?_
  simp only [pq]
  refine qE 17 (by kernel_rfl) rfl ?_
  refine sW 0 d9 (gL) fun mu d4 => ?_
  refine aG (kZ (fP (i := 1) d4 b4 rfl) ?_)
  refine nL 18 rfl (fP (i := 1) d4 b4 rfl) ?_
  simp only [pq]
  refine nL 19 rfl (fP (i := 1) d4 b4 rfl) ?_
  simp only [pq]
  refine CI (by kernel_rfl) ?_
  refine g1 _ _ ?_
  refine aE fun mv l5 => ?_
  refine sk fun mw l6 => ?_
  refine aC ?_
  refine wn l6 ?_
  refine aF ?_
  refine aH ?_
  refine l5 _ _ ?_
  refine aP ay 14 [] (by kernel_rfl) (by kernel_rfl) ?_
  simp only [dA]
  iterate 2 refine gm ?_
  simp only [pq]
  refine gm ?_
  refine gi ?_
  refine gf (eN _ _) ?_
  simp only [pq]
  refine gv _ (fun _ j7 => aD rfl (aQ (eQ _) (St.cell (St.tells d4 j7) (i := 1) rfl ((eV hs8).trans (congrArg some hp))))) ?_
  refine gi ?_
  refine gf (mA _ _) ?_
  simp only [pq]
  refine gv _ (fun _ j7 => aD rfl (aQ (bM _) (St.fz (St.tells d4 j7) (Le.cell (a4.trans b4) b0)))) ?_
  refine gf (uZ _ _) ?_
  refine gl iJ d4 0 ?_
  simp only [pq]
  refine gf (vA _ _) ?_
  refine gl aZ d4 0 ?_
  refine gv (.agg #[(nI s), (iI 0), (.int .i64 t.start), (.bool (cY (g.forest t.start.toNat) t r.name r.key).1.isSome), (.slice g2 ((cY (g.forest t.start.toNat) t r.name r.key).1.getD []).length g3), Zn, Zn, bF, Zn, Zn, Zn, bF, Zn, Zn, Zn]) (fun _ _ => aK (ps := #[(0, (nI s)), (2, (.int .i64 t.start)), (3, (.bool (cY (g.forest t.start.toNat) t r.name r.key).1.isSome)), (4, (.slice g2 ((cY (g.forest t.start.toNat) t r.name r.key).1.getD []).length g3))]) (qW rfl rfl rfl rfl) (by kernel_rfl)) ?_
  simp only [pq]
  refine bU ?_
  intro mx l7 l8
  clear l8
  have bb := St.tells d4 l7
  simp only [dB]
  have bc := St.perm bb (List.perm_middle (l₁ := [_]))
  have l9 : EngM _ _ _ _ n g _ := ⟨_, _, _, _, _, _, _, _, _, _, _, bc, (hd.mono (a4.trans b4)), (eG ht (a4.trans b4))⟩
  refine doC rfl (cB (vs := #[(pP n 0), (.agg #[(nI s), (iI 0), (.int .i64 t.start), (.bool (cY (g.forest t.start.toNat) t r.name r.key).1.isSome), (.slice g2 ((cY (g.forest t.start.toNat) t r.name r.key).1.getD []).length g3), Zn, Zn, bF, Zn, Zn, Zn, bF, Zn, Zn, Zn])]) (gK rfl rfl) rfl (qL _ _)) (kG _ _ _ _ _ _ _ _ (⟨s, 0, t.start, (cY (g.forest t.start.toNat) t r.name r.key).1.isSome, (cY (g.forest t.start.toNat) t r.name r.key).1.getD [], [], [], jG, jG⟩ : Rep) l9 ⟨_, _, _, _, _, _, _, _, _, rfl, j6, Sl.nil _ _ _, Bs.nil _, Sl.nil _ _ _, Bs.nil _, Bs.nil _, Sl.nil _ _ _, Bs.nil _, Bs.nil _⟩ hq) ?_
  rintro _ my ⟨rfl, mz, m0, m1⟩
  refine ⟨_, rfl, ?_⟩
  obtain ⟨eq, er, es, et, eu, ew, ex, ey, ez, fa, fb, bd, m2, m3⟩ := m1
  simp only [pq]
  refine aG ?_
  try simp only [xt]
  refine bE (iV rfl) ?_
  have m4 : EngM _ _ _ _ n (g.reply (⟨s, 0, t.start, (cY (g.forest t.start.toNat) t r.name r.key).1.isSome, (cY (g.forest t.start.toNat) t r.name r.key).1.getD [], [], [], jG, jG⟩ : Rep)) _ := ⟨_, _, _, _, _, _, _, _, _, _, _, bd, m2, m3⟩
  have he : g.work s t k r = (g.reply (⟨s, 0, t.start, (cY (g.forest t.start.toNat) t r.name r.key).1.isSome, (cY (g.forest t.start.toNat) t r.name r.key).1.getD [], [], [], jG, jG⟩ : Rep)) := by
   unfold Eng.work
   rw [zZb hk]
   unfold Eng.look
   simp only; rw [zZb hlk]
  rw [he]
  exact ⟨rfl, _, ((a4.trans b4).trans m0), (m4.drop (.cons _ (zZd _)))⟩
 | false =>
  refine II (i := 0) em rfl (by kernel_rfl) (fun na c6 => ?_)
  refine uO 0 rfl (fP (i := 0) c6 (Le.refl _) rfl) ?_
  simp only [pq]
  refine uO 1 rfl (fP (i := 0) c6 (Le.refl _) rfl) ?_
  simp only [pq]
  refine UK 2 rfl (fP (i := 0) c6 (Le.refl _) rfl) ?_
  simp only [pq]
  refine mG 3 rfl _ (fP (i := 0) c6 (Le.refl _) rfl) (fun _ _ => ef (eN _ _)) ?_
  simp only [pq]
  refine mG 4 rfl _ (fP (i := 0) c6 (Le.refl _) rfl) (fun _ m5 => aD rfl (aQ (eQ _) (Gd m5.2 ((eV hs8).trans (congrArg some hp))))) ?_
  simp only [pq]
  refine UK 5 rfl (fP (i := 0) c6 (Le.refl _) rfl) ?_
  simp only [pq]
  refine mG 6 rfl (.agg #[(.int .i64 t.start), (.slice x0 t.reads.length y0), (.slice x1 t.writes.length y1)]) (fP (i := 0) c6 (Le.refl _) rfl) (fun _ e2 => aD rfl (jC (cs := [(.int .i64 t.start), (.slice x0 t.reads.length y0), (.slice x1 t.writes.length y1)]) Tryz.underlying141 rfl (bB) (rV (St.fz (St.start e2.1) (Le.cell a4 b0)) (St.fz (St.start e2.1) (Le.cell a4 b1)) (St.fz (St.start e2.1) (Le.cell a4 b2))))) ?_
  simp only [pq]
  refine mG 7 rfl _ (fP (i := 0) c6 (Le.refl _) rfl) (fun _ _ => ef (xZ _ _)) ?_
  simp only [pq]
  refine mG 8 rfl _ (fP (i := 0) c6 (Le.refl _) rfl) (fun _ m6 => aD rfl (aQ (aZ _) (St.fz (St.start m6.1) (d8 1 _ rfl)))) ?_
  simp only [pq]
  refine mG 9 rfl _ (fP (i := 0) c6 (Le.refl _) rfl) (fun _ _ => ef (yA _ _)) ?_
  simp only [pq]
  refine mG 10 rfl _ (fP (i := 0) c6 (Le.refl _) rfl) (fun _ m7 => aD rfl (aQ (aZ _) (St.fz (St.start m7.1) (d8 2 _ rfl)))) ?_
  simp only [pq]
  refine Ax 11 16 (by kernel_rfl) rfl rfl ?_ ?_
  refine aR c6 rfl (fn4 (KA _ _)) (qF _ _ _ _ _ _ (g.forest t.start.toNat) t r.name r.key (b := false) (c6).sat (k7.mono a4) ⟨_, _, _, _, rfl, (r0.mono a4), (r1.mono a4)⟩ (q0.mono a4) (q1.mono a4) hfo htok hq4.1 hq4.2.1 hlk) ?_
  intro nb nc nd e0 a5 be
  obtain ⟨_, rfl, bf⟩ := be
  obtain ⟨g4, g5, rfl, j8⟩ := bf
  have j8 : Bs _ (.slice g4 ((cY (g.forest t.start.toNat) t r.name r.key).1.getD []).length g5) ((cY (g.forest t.start.toNat) t r.name r.key).1.getD []) := j8
  refine aG (kZ (fP (i := 0) e0 a5 rfl) ?_)
  refine uO 12 rfl (fP (i := 0) e0 a5 rfl) ?_
  simp only [pq]
  refine sX 13 rfl (fP (i := 0) e0 a5 rfl) ?_
  simp only [pq]
  refine sX 14 rfl (fP (i := 0) e0 a5 rfl) ?_
  simp only [pq]
  refine sX 15 rfl (fP (i := 0) e0 a5 rfl) ?_
  simp only [pq]
  refine qE 16 (by kernel_rfl) rfl ?_
  refine sA e0 (lZ _) fun ne nf m8 => ?_
  refine aG (kZ (fP (i := 1) m8 a5 rfl) ?_)
  refine qE 17 (by kernel_rfl) rfl ?_
  refine sW 0 m8 (gL) fun ng e3 => ?_
  refine aG (kZ (fP (i := 1) e3 a5 rfl) ?_)
  refine nL 18 rfl (fP (i := 1) e3 a5 rfl) ?_
  simp only [pq]
  refine nL 19 rfl (fP (i := 1) e3 a5 rfl) ?_
  simp only [pq]
  refine CI (by kernel_rfl) ?_
  refine g1 _ _ ?_
  refine aE fun nh m9 => ?_
  refine sk fun ni h7 => ?_
  refine aC ?_
  refine dr _ (aD rfl (cV Tryz.underlying27 rfl (bG) (zV (c := [(nI k), (.slice a0 r.name.length c0), (.slice a1 r.key.length c1), (.slice a2 r.last.length c2), (.slice a3 r.value.length c3)]) e3.sat (Le.cells a5 d8)))) ?_
  simp only [pq]
  have bg := St.perm e3 (List.perm_middle (l₁ := [_]))
  have n0 : EngM _ _ _ _ n g _ := ⟨_, _, _, _, _, _, _, _, _, _, _, bg, (hd.mono (a4.trans a5)), (eG ht (a4.trans a5))⟩
  refine doC rfl (fn4 (QF _ _)) (FF _ _ _ _ _ _ _ s hs8 _ k r false t n0 hh ⟨_, _, _, _, rfl, (q0.mono (a4.trans a5)), (q1.mono (a4.trans a5)), (q2.mono (a4.trans a5)), (q3.mono (a4.trans a5))⟩ ok (.inl ⟨hk, rfl⟩) hts htok hq) ?_
  rintro _ nj ⟨bh, e4, g6⟩
  cases hn : jL t ⟨r.name, r.key, false, r.last⟩ with
  | none =>
   rw [hn] at g6
   obtain ⟨rfl, n1⟩ := g6
   refine ⟨_, rfl, ?_⟩
   obtain ⟨fc, fd, fe, ff, fg, fh, fi, fj, fk, fl, fm, bi, n2, n3⟩ := n1
   refine aC ?_
   refine wn h7 ?_
   refine aI ?_
   refine aO ?_
   try simp only [xt]
   refine bR (iV rfl) ?_
   have n4 : EngM _ _ _ _ n (g.reply (fQ s 11)) _ := ⟨_, _, _, _, _, _, _, _, _, _, _, bi, n2, n3⟩
   have he : g.work s t k r = (g.reply (fQ s 11)) := by
    unfold Eng.work
    rw [zZb hk]
    unfold Eng.look
    simp only; rw [zZa (by rw [hlk]; decide)]; unfold Eng.note; rw [hn]
   rw [he]
   exact ⟨rfl, _, ((a4.trans a5).trans e4), (n4.drop (.cons _ (zZd _)))⟩
  | some nx =>
   rw [hn] at g6
   obtain ⟨rfl, n6⟩ := g6
   refine ⟨_, rfl, ?_⟩
   obtain ⟨fn, fo, fp, fq, fr, fs, ft, fu, fv, fw, fx, e5, n7, h8⟩ := n6
   simp only [pq]
   have h9 := h8 s hs8
   rw [show (g.setTxn s (some nx)).txn s = some nx from lP _ _ _] at h9
   obtain ⟨nk, nl, nm, nn, no, n8, bj, np, nq, nr, ns⟩ := h9
   refine aC ?_
   refine wn h7 ?_
   refine aF ?_
   refine aH ?_
   refine m9 _ _ ?_
   refine aP bh 14 [] (by kernel_rfl) (by kernel_rfl) ?_
   simp only [dA]
   refine gm ?_
   simp only [pq]
   iterate 2 refine gm ?_
   refine gi ?_
   simp only [pq]
   refine gf (eN _ _) ?_
   refine gv _ (fun _ j9 => aD rfl (aQ (eQ _) (St.cell (St.tells e5 j9) (i := 0) rfl ((eV hs8).trans (congrArg some n8))))) ?_
   refine gi ?_
   simp only [pq]
   refine gf (mA _ _) ?_
   simp only [pq]
   refine hY rfl rfl (.int .i64 t.start) (fun nt j9 => aM (aD rfl (aQ (bM _) (St.fz (St.tells e5 j9) (by rw [← (uR hn).2.2]; exact bj))))) ?_
   refine gf (uZ _ _) ?_
   refine gl iJ e5 1 ?_
   refine gf (vA _ _) ?_
   simp only [pq]
   refine gl aZ e5 1 ?_
   refine gv (.agg #[(nI s), (iI 0), (.int .i64 t.start), (.bool (cY (g.forest t.start.toNat) t r.name r.key).1.isSome), (.slice g4 ((cY (g.forest t.start.toNat) t r.name r.key).1.getD []).length g5), Zn, Zn, bF, Zn, Zn, Zn, bF, Zn, Zn, Zn]) (fun _ _ => aK (ps := #[(0, (nI s)), (2, (.int .i64 t.start)), (3, (.bool (cY (g.forest t.start.toNat) t r.name r.key).1.isSome)), (4, (.slice g4 ((cY (g.forest t.start.toNat) t r.name r.key).1.getD []).length g5))]) (qW rfl rfl rfl rfl) (by kernel_rfl)) ?_
   refine bU ?_
   intro nu n9 o0
   clear o0
   have bk := St.tells e5 n9
   simp only [dB]
   have o1 : EngM _ _ _ _ n (g.setTxn s (some nx)) _ := ⟨_, _, _, _, _, _, _, _, _, _, _, bk, n7, h8⟩
   refine doC rfl (cB (vs := #[(pP n 0), (.agg #[(nI s), (iI 0), (.int .i64 t.start), (.bool (cY (g.forest t.start.toNat) t r.name r.key).1.isSome), (.slice g4 ((cY (g.forest t.start.toNat) t r.name r.key).1.getD []).length g5), Zn, Zn, bF, Zn, Zn, Zn, bF, Zn, Zn, Zn])]) (gK rfl rfl) rfl (qL _ _)) (kG _ _ _ _ _ _ _ _ (⟨s, 0, t.start, (cY (g.forest t.start.toNat) t r.name r.key).1.isSome, (cY (g.forest t.start.toNat) t r.name r.key).1.getD [], [], [], jG, jG⟩ : Rep) o1 ⟨_, _, _, _, _, _, _, _, _, rfl, (j8.mono e4), Sl.nil _ _ _, Bs.nil _, Sl.nil _ _ _, Bs.nil _, Bs.nil _, Sl.nil _ _ _, Bs.nil _, Bs.nil _⟩ hq) ?_
   rintro _ nv ⟨rfl, nw, o2, o3⟩
   refine ⟨_, rfl, ?_⟩
   obtain ⟨fy, gb, gc, gd, ge, gg, gh, gj, gk, gn, gp, bl, o4, o5⟩ := o3
   simp only [pq]
   refine aG ?_
   try simp only [xt]
   refine bE (iV rfl) ?_
   have o6 : EngM _ _ _ _ n ((g.setTxn s (some nx)).reply (⟨s, 0, t.start, (cY (g.forest t.start.toNat) t r.name r.key).1.isSome, (cY (g.forest t.start.toNat) t r.name r.key).1.getD [], [], [], jG, jG⟩ : Rep)) _ := ⟨_, _, _, _, _, _, _, _, _, _, _, bl, o4, o5⟩
   have he : g.work s t k r = ((g.setTxn s (some nx)).reply (⟨s, 0, t.start, (cY (g.forest t.start.toNat) t r.name r.key).1.isSome, (cY (g.forest t.start.toNat) t r.name r.key).1.getD [], [], [], jG, jG⟩ : Rep)) := by
    unfold Eng.work
    rw [zZb hk]
    unfold Eng.look
    simp only; rw [zZa (by rw [hlk]; decide)]; unfold Eng.note; rw [hn]
   rw [he]
   exact ⟨rfl, _, (((a4.trans a5).trans e4).trans o2), (o6.drop (.cons _ (zZd _)))⟩
  refine sA c6 (lZ _) fun ny nz k0 => ?_
  refine aG (kZ (fP (i := 1) k0 (Le.refl _) rfl) ?_)
  refine qE 11 (by kernel_rfl) rfl ?_
  refine aR k0 rfl (fn4 (KA _ _)) (qF _ _ _ _ _ _ (g.forest t.start.toNat) t r.name r.key (b := false) (k0).sat (k7.mono a4) ⟨_, _, _, _, rfl, (r0.mono a4), (r1.mono a4)⟩ (q0.mono a4) (q1.mono a4) hfo htok hq4.1 hq4.2.1 hlk) ?_
  intro oa ob oc e1 a6 bm
  obtain ⟨_, rfl, bn⟩ := bm
  obtain ⟨g7, g8, rfl, k1⟩ := bn
  have k1 : Bs _ (.slice g7 ((cY (g.forest t.start.toNat) t r.name r.key).1.getD []).length g8) ((cY (g.forest t.start.toNat) t r.name r.key).1.getD []) := k1
  refine aG (kZ (fP (i := 1) e1 a6 rfl) ?_)
  refine uO 12 rfl (fP (i := 1) e1 a6 rfl) ?_
  simp only [pq]
  refine sX 13 rfl (fP (i := 1) e1 a6 rfl) ?_
  simp only [pq]
  refine sX 14 rfl (fP (i := 1) e1 a6 rfl) ?_
  simp only [pq]
  refine sX 15 rfl (fP (i := 1) e1 a6 rfl) ?_
  simp only [pq]
  refine qE 17 (by kernel_rfl) rfl ?_
  refine sW 0 e1 (gL) fun od e6 => ?_
  refine aG (kZ (fP (i := 1) e6 a6 rfl) ?_)
  refine nL 18 rfl (fP (i := 1) e6 a6 rfl) ?_
  simp only [pq]
  refine nL 19 rfl (fP (i := 1) e6 a6 rfl) ?_
  simp only [pq]
  refine CI (by kernel_rfl) ?_
  refine g1 _ _ ?_
  refine aE fun oe o7 => ?_
  refine sk fun og i0 => ?_
  refine aC ?_
  refine dr _ (aD rfl (cV Tryz.underlying27 rfl (bG) (zV (c := [(nI k), (.slice a0 r.name.length c0), (.slice a1 r.key.length c1), (.slice a2 r.last.length c2), (.slice a3 r.value.length c3)]) e6.sat (Le.cells a6 d8)))) ?_
  simp only [pq]
  have bo := St.perm e6 (List.perm_middle (l₁ := [_]))
  have o8 : EngM _ _ _ _ n g _ := ⟨_, _, _, _, _, _, _, _, _, _, _, bo, (hd.mono (a4.trans a6)), (eG ht (a4.trans a6))⟩
  refine doC rfl (fn4 (QF _ _)) (FF _ _ _ _ _ _ _ s hs8 _ k r false t o8 hh ⟨_, _, _, _, rfl, (q0.mono (a4.trans a6)), (q1.mono (a4.trans a6)), (q2.mono (a4.trans a6)), (q3.mono (a4.trans a6))⟩ ok (.inl ⟨hk, rfl⟩) hts htok hq) ?_
  rintro _ oh ⟨bp, e7, h0⟩
  cases hn : jL t ⟨r.name, r.key, false, r.last⟩ with
  | none =>
   rw [hn] at h0
   obtain ⟨rfl, o9⟩ := h0
   refine ⟨_, rfl, ?_⟩
   obtain ⟨gq, gs, gt, gu, gx, gy, gz, ha, hc, hf, hi, bq, p0, p1⟩ := o9
   refine aC ?_
   refine wn i0 ?_
   refine aI ?_
   refine aO ?_
   try simp only [xt]
   refine bR (iV rfl) ?_
   have p2 : EngM _ _ _ _ n (g.reply (fQ s 11)) _ := ⟨_, _, _, _, _, _, _, _, _, _, _, bq, p0, p1⟩
   have he : g.work s t k r = (g.reply (fQ s 11)) := by
    unfold Eng.work
    rw [zZb hk]
    unfold Eng.look
    simp only; rw [zZa (by rw [hlk]; decide)]; unfold Eng.note; rw [hn]
   rw [he]
   exact ⟨rfl, _, ((a4.trans a6).trans e7), (p2.drop (.cons _ (zZd _)))⟩
  | some nx =>
   rw [hn] at h0
   obtain ⟨rfl, p3⟩ := h0
   refine ⟨_, rfl, ?_⟩
   obtain ⟨hj, hl, ho, hr, hs, hw, hx, hy, hz, ia, ib, e8, p4, i1⟩ := p3
   simp only [pq]
   have i2 := i1 s hs8
   rw [show (g.setTxn s (some nx)).txn s = some nx from lP _ _ _] at i2
   obtain ⟨oi, oj, ol, om, oo, p5, br, op, oq, os, ot⟩ := i2
   refine aC ?_
   refine wn i0 ?_
   refine aF ?_
   refine aH ?_
   refine o7 _ _ ?_
   refine aP bp 14 [] (by kernel_rfl) (by kernel_rfl) ?_
   simp only [dA]
   refine gm ?_
   simp only [pq]
   iterate 2 refine gm ?_
   refine gi ?_
   simp only [pq]
   refine gf (eN _ _) ?_
   refine gv _ (fun _ k2 => aD rfl (aQ (eQ _) (St.cell (St.tells e8 k2) (i := 0) rfl ((eV hs8).trans (congrArg some p5))))) ?_
   refine gi ?_
   simp only [pq]
   refine gf (mA _ _) ?_
   simp only [pq]
   refine hY rfl rfl (.int .i64 t.start) (fun ou k2 => aM (aD rfl (aQ (bM _) (St.fz (St.tells e8 k2) (by rw [← (uR hn).2.2]; exact br))))) ?_
   refine gf (uZ _ _) ?_
   refine gl iJ e8 1 ?_
   refine gf (vA _ _) ?_
   simp only [pq]
   refine gl aZ e8 1 ?_
   refine gv (.agg #[(nI s), (iI 0), (.int .i64 t.start), (.bool (cY (g.forest t.start.toNat) t r.name r.key).1.isSome), (.slice g7 ((cY (g.forest t.start.toNat) t r.name r.key).1.getD []).length g8), Zn, Zn, bF, Zn, Zn, Zn, bF, Zn, Zn, Zn]) (fun _ _ => aK (ps := #[(0, (nI s)), (2, (.int .i64 t.start)), (3, (.bool (cY (g.forest t.start.toNat) t r.name r.key).1.isSome)), (4, (.slice g7 ((cY (g.forest t.start.toNat) t r.name r.key).1.getD []).length g8))]) (qW rfl rfl rfl rfl) (by kernel_rfl)) ?_
   refine bU ?_
   intro ov p6 p7
   clear p7
   have bs := St.tells e8 p6
   simp only [dB]
   have p8 : EngM _ _ _ _ n (g.setTxn s (some nx)) _ := ⟨_, _, _, _, _, _, _, _, _, _, _, bs, p4, i1⟩
   refine doC rfl (cB (vs := #[(pP n 0), (.agg #[(nI s), (iI 0), (.int .i64 t.start), (.bool (cY (g.forest t.start.toNat) t r.name r.key).1.isSome), (.slice g7 ((cY (g.forest t.start.toNat) t r.name r.key).1.getD []).length g8), Zn, Zn, bF, Zn, Zn, Zn, bF, Zn, Zn, Zn])]) (gK rfl rfl) rfl (qL _ _)) (kG _ _ _ _ _ _ _ _ (⟨s, 0, t.start, (cY (g.forest t.start.toNat) t r.name r.key).1.isSome, (cY (g.forest t.start.toNat) t r.name r.key).1.getD [], [], [], jG, jG⟩ : Rep) p8 ⟨_, _, _, _, _, _, _, _, _, rfl, (k1.mono e7), Sl.nil _ _ _, Bs.nil _, Sl.nil _ _ _, Bs.nil _, Bs.nil _, Sl.nil _ _ _, Bs.nil _, Bs.nil _⟩ hq) ?_
   rintro _ ow ⟨rfl, ox, p9, q4⟩
   refine ⟨_, rfl, ?_⟩
   obtain ⟨ic, id, ie, ig, ii, ij, ik, il, im, io, ip, bt, q5, q6⟩ := q4
   simp only [pq]
   refine aG ?_
   try simp only [xt]
   refine bE (iV rfl) ?_
   have q7 : EngM _ _ _ _ n ((g.setTxn s (some nx)).reply (⟨s, 0, t.start, (cY (g.forest t.start.toNat) t r.name r.key).1.isSome, (cY (g.forest t.start.toNat) t r.name r.key).1.getD [], [], [], jG, jG⟩ : Rep)) _ := ⟨_, _, _, _, _, _, _, _, _, _, _, bt, q5, q6⟩
   have he : g.work s t k r = ((g.setTxn s (some nx)).reply (⟨s, 0, t.start, (cY (g.forest t.start.toNat) t r.name r.key).1.isSome, (cY (g.forest t.start.toNat) t r.name r.key).1.getD [], [], [], jG, jG⟩ : Rep)) := by
    unfold Eng.work
    rw [zZb hk]
    unfold Eng.look
    simp only; rw [zZa (by rw [hlk]; decide)]; unfold Eng.note; rw [hn]
   rw [he]
   exact ⟨rfl, _, (((a4.trans a6).trans e7).trans p9), (q7.drop (.cons _ (zZd _)))⟩
 have hq4 := Bb ok hk
 refine aB ?_
 refine gH ?_
 refine dy ?_
 refine wlK g0 ?_
 refine aF ?_
 refine sk fun oy q8 => ?_
 refine iA ?_
 refine dy ?_
 simp only [pq]
 refine wn q8 ?_
 refine aI ?_
 refine aE fun oz i3 => ?_
 cases hsc : (GV (g.forest t.start.toNat) t r.name r.key r.last) with
 | none =>
  refine aP F 18 [(13, .made (fun F' u => wL [] 11 F' u)), (15, .made (fun F' u => Prs F' u [])), (16, .is (iI 11))] (by kernel_rfl) (by kernel_rfl) ?_
  simp only [dA]
  iterate 2 refine gm ?_
  refine gi ?_
  simp only [pq]
  refine gf (eN _ _) ?_
  refine gv _ (fun _ d2 => aD rfl (aQ (eQ _) (St.cell (St.tells c7 d2) (i := 1) rfl ((eV hs8).trans (congrArg some hp))))) ?_
  refine gi ?_
  simp only [pq]
  refine gv _ (fun _ d2 => aD rfl (cV Tryz.underlying141 rfl (bB) (rV (St.fz (St.tells c7 d2) b0) (St.fz (St.tells c7 d2) b1) (St.fz (St.tells c7 d2) b2)))) ?_
  refine gf (xZ _ _) ?_
  refine gl aZ c7 0 ?_
  simp only [pq]
  refine gf (yA _ _) ?_
  refine gl aZ c7 0 ?_
  refine gf (JH _ _) ?_
  simp only [pq]
  refine gl aZ c7 0 ?_
  simp only [pq]
  refine eE rfl rfl (fun q9 d2 hF => bQ (cB (vs := #[(.slice k9 (g.forest t.start.toNat).length l0), (.agg #[(.int .i64 t.start), (.slice x0 t.reads.length y0), (.slice x1 t.writes.length y1)]), (.slice a0 r.name.length c0), (.slice a1 r.key.length c1), (.slice a2 r.last.length c2)]) (Ij rfl rfl rfl rfl rfl) rfl (YV _ _)) (dQ c7.sat d2 (AQ _ _ _ _ _ _ _ (g.forest t.start.toNat) t r.name r.key r.last ((St.tells c7 d2)).sat k7 ⟨_, _, _, _, rfl, r0, r1⟩ q0 q1 q2 hfo htok hq4.1 hq4.2.1 (hq4.2.2 rfl) hsc))) (fun pa => ?_)
  refine gm ?_
  simp only [pq]
  refine eE rfl rfl (fun q9 d2 hF_ => ?_) (fun pb => ?_)
  obtain ⟨bu, bw, _, rfl, r2⟩ := hF_.get 13 (by kernel_rfl) rfl rfl
  exact iD (cC rfl rfl) ⟨bu, bw, r2⟩ (Below.refl _ _)
  simp only [pq]
  refine fT rfl rfl (v := (iI 11)) (fun q9 d2 hF_ => ?_) ?_
  obtain ⟨pc, pd, _, rfl, iq⟩ := hF_.get 13 (by kernel_rfl) rfl rfl
  exact yU (cC rfl rfl)
  refine ga ?_
  refine bU ?_
  intro pe ir i4
  obtain ⟨bx, r3, bz⟩ := i4.get 15 rfl rfl
  have ca := St.gives c7 r3
  have e9 : Le _ _ := r3.le c7.sat
  have k3 := bz
  generalize bx = pf at *
  obtain ⟨cb, ce, rfl, pg, ph⟩ := Sl.shape k3
  have k3 : Prs _ (.slice cb ([] : List Pr).length ce) ([] : List Pr) := k3
  clear i4
  simp only [dB]
  refine dy ?_
  simp only [pq]
  refine wlK i3 ?_
  refine aE fun pi it => ?_
  refine sk fun pj r4 => ?_
  refine dx ?_
  refine dr bT (cH (b := true) rfl rfl (by decide)) ?_
  refine wn r4 ?_
  refine aI ?_
  refine sk fun pk r5 => ?_
  refine aC ?_
  have cg := St.perm ca (List.perm_middle (l₁ := [_]))
  have r6 : EngM _ _ _ _ n g _ := ⟨_, _, _, _, _, _, _, _, _, _, _, cg, (hd.mono e9), (eG ht e9)⟩
  refine doC rfl (fn3 (mD _ _)) (iF _ _ _ _ _ _ _ s 11 r6 hq) ?_
  rintro _ pl ⟨rfl, pm, r7, r8⟩
  refine ⟨_, rfl, ?_⟩
  obtain ⟨iu, iv, iw, ix, iy, iz, ja, jb, jc, jd, je, ch, r9, s0⟩ := r8
  refine wn r5 ?_
  refine aO ?_
  try simp only [xt]
  refine bR (iV rfl) ?_
  have s1 : EngM _ _ _ _ n (g.reply (fQ s 11)) _ := ⟨_, _, _, _, _, _, _, _, _, _, _, ch, r9, s0⟩
  have he : g.work s t k r = (g.reply (fQ s 11)) := by
   unfold Eng.work
   rw [zZa (by omega), zZb hk]
   unfold Eng.scan
   rw [hsc]
  rw [he]
  exact ⟨rfl, _, (e9.trans r7), (s1.drop (.cons _ (zZd _)))⟩
 | some R =>
  refine aP F 18 [(13, .made (fun F' u => wL R 0 F' u)), (15, .made (fun F' u => Prs F' u R)), (16, .is (iI 0))] (by kernel_rfl) (by kernel_rfl) ?_
  simp only [dA]
  iterate 2 refine gm ?_
  refine gi ?_
  simp only [pq]
  refine gf (eN _ _) ?_
  refine gv _ (fun _ d3 => aD rfl (aQ (eQ _) (St.cell (St.tells c7 d3) (i := 1) rfl ((eV hs8).trans (congrArg some hp))))) ?_
  refine gi ?_
  simp only [pq]
  refine gv _ (fun _ d3 => aD rfl (cV Tryz.underlying141 rfl (bB) (rV (St.fz (St.tells c7 d3) b0) (St.fz (St.tells c7 d3) b1) (St.fz (St.tells c7 d3) b2)))) ?_
  refine gf (xZ _ _) ?_
  refine gl aZ c7 0 ?_
  simp only [pq]
  refine gf (yA _ _) ?_
  refine gl aZ c7 0 ?_
  refine gf (JH _ _) ?_
  simp only [pq]
  refine gl aZ c7 0 ?_
  simp only [pq]
  refine eE rfl rfl (fun s2 d3 hF => bQ (cB (vs := #[(.slice k9 (g.forest t.start.toNat).length l0), (.agg #[(.int .i64 t.start), (.slice x0 t.reads.length y0), (.slice x1 t.writes.length y1)]), (.slice a0 r.name.length c0), (.slice a1 r.key.length c1), (.slice a2 r.last.length c2)]) (Ij rfl rfl rfl rfl rfl) rfl (YV _ _)) (dQ c7.sat d3 (AQ _ _ _ _ _ _ _ (g.forest t.start.toNat) t r.name r.key r.last ((St.tells c7 d3)).sat k7 ⟨_, _, _, _, rfl, r0, r1⟩ q0 q1 q2 hfo htok hq4.1 hq4.2.1 (hq4.2.2 rfl) hsc))) (fun pn => ?_)
  refine gm ?_
  simp only [pq]
  refine eE rfl rfl (fun s2 d3 hF_ => ?_) (fun po => ?_)
  obtain ⟨ci, cj, _, rfl, s3⟩ := hF_.get 13 (by kernel_rfl) rfl rfl
  exact iD (cC rfl rfl) ⟨ci, cj, s3⟩ (Below.refl _ _)
  simp only [pq]
  refine fT rfl rfl (v := (iI 0)) (fun s2 d3 hF_ => ?_) ?_
  obtain ⟨pp, pr, _, rfl, jf⟩ := hF_.get 13 (by kernel_rfl) rfl rfl
  exact yU (cC rfl rfl)
  refine ga ?_
  refine bU ?_
  intro pt jg i5
  obtain ⟨ck, s4, cl⟩ := i5.get 15 rfl rfl
  have s5 := St.gives c7 s4
  have c9 : Le _ _ := s4.le c7.sat
  have h1 := cl
  generalize ck = pw at *
  obtain ⟨s6, s7, rfl, px, py⟩ := Sl.shape h1
  have h1 : Prs _ (.slice s6 R.length s7) R := h1
  clear i5
  simp only [dB]
  refine dy ?_
  simp only [pq]
  refine wlK i3 ?_
  refine aE fun pz s8 => ?_
  refine sk fun qa s9 => ?_
  refine dx ?_
  refine dr bF (cH (b := false) rfl rfl (by decide)) ?_
  refine wn s9 ?_
  refine aF ?_
  refine aH ?_
  refine s8 _ _ ?_
  refine aE fun qb t0 => ?_
  refine sk fun qc i6 => ?_
  refine aC ?_
  refine dR s5 0 Tryz.underlying27 (bG) ?_
  simp only [pq]
  have cm := St.perm s5 (List.perm_middle (l₁ := [_]))
  have t1 : EngM _ _ _ _ n g _ := ⟨_, _, _, _, _, _, _, _, _, _, _, cm, (hd.mono c9), (eG ht c9)⟩
  refine doC rfl (fn4 (QF _ _)) (FF _ _ _ _ _ _ _ s hs8 _ k r true t t1 hh ⟨_, _, _, _, rfl, (q0.mono c9), (q1.mono c9), (q2.mono c9), (q3.mono c9)⟩ ok (.inr ⟨hk, rfl⟩) hts htok hq) ?_
  rintro _ qd ⟨qe, f0, h2⟩
  cases hn : jL t ⟨r.name, r.key, true, r.last⟩ with
  | none =>
   rw [hn] at h2
   obtain ⟨rfl, t2⟩ := h2
   refine ⟨_, rfl, ?_⟩
   obtain ⟨jh, ji, jj, jk, jl, jm, jn, jo, jp, jq, jr, cn, t3, t4⟩ := t2
   refine dt ?_
   refine wn i6 ?_
   refine aI ?_
   refine aO ?_
   try simp only [xt]
   refine bR (iV rfl) ?_
   have t5 : EngM _ _ _ _ n (g.reply (fQ s 11)) _ := ⟨_, _, _, _, _, _, _, _, _, _, _, cn, t3, t4⟩
   have he : g.work s t k r = (g.reply (fQ s 11)) := by
    unfold Eng.work
    rw [zZa (by omega), zZb hk]
    unfold Eng.scan
    rw [hsc]; simp only; unfold Eng.note; rw [hn]
   rw [he]
   exact ⟨rfl, _, (c9.trans f0), (t5.drop (.cons _ (zZd _)))⟩
  | some nx =>
   rw [hn] at h2
   obtain ⟨rfl, t6⟩ := h2
   refine ⟨_, rfl, ?_⟩
   obtain ⟨js, jt, ju, jv, jw, jx, jy, jz, ka, kb, kc, k4, t7, i7⟩ := t6
   simp only [pq]
   have i8 := i7 s hs8
   rw [show (g.setTxn s (some nx)).txn s = some nx from lP _ _ _] at i8
   obtain ⟨qf, qg, qh, qi, qj, t8, co, qk, ql, qm, qn⟩ := i8
   refine dt ?_
   refine wn i6 ?_
   refine aF ?_
   refine aH ?_
   refine t0 _ _ ?_
   refine aB ?_
   refine aC ?_
   refine dr _ (aD rfl (aQ (eQ _) (St.cell k4 (i := 0) rfl ((eV hs8).trans (congrArg some t8))))) ?_
   refine aC ?_
   refine dr (.int .i64 t.start) (aD rfl (aQ (bM _) (St.fz k4 (by rw [← (uR hn).2.2]; exact co)))) ?_
   refine aC ?_
   refine dr (.agg #[(nI s), (iI 0), (.int .i64 t.start), bF, Zn, (.slice s6 R.length s7), Zn, bF, Zn, Zn, Zn, bF, Zn, Zn, Zn]) (aK (LY rfl rfl rfl) (by kernel_rfl)) ?_
   simp only [pq]
   have t9 : EngM _ _ _ _ n (g.setTxn s (some nx)) _ := ⟨_, _, _, _, _, _, _, _, _, _, _, k4, t7, i7⟩
   refine doC rfl (fn2 (qL _ _)) (kG _ _ _ _ _ _ _ _ (⟨s, 0, t.start, false, [], R, [], jG, jG⟩ : Rep) t9 ⟨_, _, _, _, _, _, _, _, _, rfl, Bs.nil _, (h1.mono f0), Bs.nil _, Sl.nil _ _ _, Bs.nil _, Bs.nil _, Sl.nil _ _ _, Bs.nil _, Bs.nil _⟩ hq) ?_
   rintro _ qo ⟨rfl, qp, u0, u1⟩
   refine ⟨_, rfl, ?_⟩
   obtain ⟨kd, ke, kf, kg, kh, ki, kj, kk, kl, km, kn, cp, u2, u3⟩ := u1
   refine aG ?_
   try simp only [xt]
   refine bE (iV rfl) ?_
   have u4 : EngM _ _ _ _ n ((g.setTxn s (some nx)).reply (⟨s, 0, t.start, false, [], R, [], jG, jG⟩ : Rep)) _ := ⟨_, _, _, _, _, _, _, _, _, _, _, cp, u2, u3⟩
   have he : g.work s t k r = ((g.setTxn s (some nx)).reply (⟨s, 0, t.start, false, [], R, [], jG, jG⟩ : Rep)) := by
    unfold Eng.work
    rw [zZa (by omega), zZb hk]
    unfold Eng.scan
    rw [hsc]; simp only; unfold Eng.note; rw [hn]
   rw [he]
   exact ⟨rfl, _, ((c9.trans f0).trans u0), (u4.drop (.cons _ (zZd _)))⟩
 refine aB ?_
 refine gH ?_
 refine dy ?_
 refine wlK g0 ?_
 refine aF ?_
 refine sk fun qq u5 => ?_
 refine gH ?_
 refine dy ?_
 simp only [pq]
 refine wn u5 ?_
 refine aF ?_
 refine sk fun qr u6 => ?_
 refine iA ?_
 refine dy ?_
 refine wn u6 ?_
 refine aI ?_
 refine aB ?_
 refine aC ?_
 have cq := St.perm c7 (List.perm_middle (l₁ := [_]))
 have u7 : EngM _ _ _ _ n g _ := ⟨_, _, _, _, _, _, _, _, _, _, _, cq, hd, ht⟩
 refine doC rfl (fn3 (Hp _ _)) (RU _ _ _ _ _ _ _ s hs8 t u7 hT hg hm hts hq) ?_
 rintro _ qs ⟨rfl, qt, u8, u9⟩
 refine ⟨_, rfl, ?_⟩
 obtain ⟨ko, kp, kq, kr, ks, kt, ku, kv, kw, kx, ky, ct, v0, v1⟩ := u9
 refine aG ?_
 try simp only [xt]
 refine bE (iV rfl) ?_
 have v2 : EngM _ _ _ _ n (g.commit s t) _ := ⟨_, _, _, _, _, _, _, _, _, _, _, ct, v0, v1⟩
 have he : g.work s t k r = (g.commit s t) := by
  unfold Eng.work
  rw [zZa (by omega), zZa (by omega), zZb hk]
 rw [he]
 exact ⟨rfl, _, u8, (v2.drop (.cons _ (zZd _)))⟩
 have v3 : (k = 4 ∧ (k == 5) = false) ∨ (k = 5 ∧ (k == 5) = true) := by rcases hk with rfl | rfl <;> simp
 have hwo : WrOk (⟨r.name, r.key, k == 5, r.value⟩ : Wr) := Ap ok v3
 refine aB ?_
 refine gH ?_
 refine dy ?_
 refine wlK g0 ?_
 refine aF ?_
 refine sk fun qu v4 => ?_
 refine gH ?_
 refine dy ?_
 simp only [pq]
 refine wn v4 ?_
 refine aF ?_
 refine sk fun qv v5 => ?_
 refine gH ?_
 refine dy ?_
 refine wn v5 ?_
 refine aF ?_
 refine sk fun qw v6 => ?_
 refine dR c7 0 Tryz.underlying27 (bG) ?_
 simp only [pq]
 refine aR c7 rfl (fn1 (Hq _ _)) (GG _ _ _ k r (b := k == 5) (c7).sat (hh.below c7.gr.below) ⟨_, _, _, _, rfl, q0, q1, q2, q3⟩ ok v3) ?_
 intro qx qy v7 cu a7 cv
 obtain ⟨_, rfl, cx⟩ := cv
 obtain ⟨b5, b6, b7, b9, c4, c5, rfl, v8, v9, w2⟩ := cx
 refine aC ?_
 refine sA cu (kY _) fun w3 qz cy => ?_
 refine sW 0 cy (bY) fun w4 a8 => ?_
 refine dy ?_
 simp only [pq]
 refine wn v6 ?_
 refine aE fun ra i9 => ?_
 cases hwx : gR t (⟨r.name, r.key, k == 5, r.value⟩ : Wr) with
 | none =>
  refine lO v7 [0, 1, 2, 3, 4, 5, 6, 7, 8, 9, 11] 10 12 [13] [(7, .made (fun F' u => TxE F' u jW 11)), (9, .made (fun F' u => TxV F' u jW)), (11, .rel (NewAt w4 [(iI 0), Zn, Zn] 141) (NewAt.stable _ _ _)), (10, .is (iI 11))] (by kernel_rfl) (by kernel_rfl) rfl rfl rfl rfl ?_
  simp only [gB, zZq, zZp, List.map_cons, List.map_nil]
  refine bV rfl rfl (pP n (6 + s * 2)) (fun d0 a9 => aM (fR _)) ?_
  simp only [pq]
  refine bV rfl rfl (pP n (6 + s * 2)) (fun d0 a9 => aM (mP rfl)) ?_
  simp only [pq]
  refine bV rfl rfl (pP n (6 + s * 2)) (fun d0 a9 => aM (ef (eN _ _))) ?_
  simp only [pq]
  refine bV rfl rfl (pP b 0) (fun d0 a9 => aM (aD rfl (aQ (eQ _) (St.cell (St.tells a8 a9) (i := 2) rfl ((eV hs8).trans (congrArg some hp)))))) ?_
  simp only [pq]
  refine bV rfl rfl (pP b 0) (fun d0 a9 => aM (mP rfl)) ?_
  simp only [pq]
  refine bV rfl rfl (.agg #[(.int .i64 t.start), (.slice x0 t.reads.length y0), (.slice x1 t.writes.length y1)]) (fun d0 a9 => aM (aD rfl (jC (cs := [(.int .i64 t.start), (.slice x0 t.reads.length y0), (.slice x1 t.writes.length y1)]) Tryz.underlying141 rfl (bB) (rV (St.fz (St.tells a8 a9) (Le.cell a7 b0)) (St.fz (St.tells a8 a9) (Le.cell a7 b1)) (St.fz (St.tells a8 a9) (Le.cell a7 b2)))))) ?_
  simp only [pq]
  refine bV rfl rfl (.agg #[(.slice b5 r.name.length b6), (.slice b7 r.key.length b9), (.bool (k == 5)), (.slice c4 r.value.length c5)]) (fun d0 a9 => aM (aD rfl (jC (cs := [(.slice b5 r.name.length b6), (.slice b7 r.key.length b9), (.bool (k == 5)), (.slice c4 r.value.length c5)]) Tryz.underlying39 rfl (bY) (St.range (St.tells a8 a9) (i := 0) rfl 0 [(.slice b5 r.name.length b6), (.slice b7 r.key.length b9), (.bool (k == 5)), (.slice c4 r.value.length c5)] (dI 0 rfl))))) ?_
  simp only [pq]
  refine lE rfl rfl (fun d0 a9 hF => bQ (cB (vs := #[(.agg #[(.int .i64 t.start), (.slice x0 t.reads.length y0), (.slice x1 t.writes.length y1)]), (.agg #[(.slice b5 r.name.length b6), (.slice b7 r.key.length b9), (.bool (k == 5)), (.slice c4 r.value.length c5)])]) (gK rfl rfl) rfl (KB _ _)) (dQ a8.sat a9 (BK _ _ _ _ t (⟨r.name, r.key, k == 5, r.value⟩ : Wr) ((St.tells a8 a9)).sat ⟨_, _, _, _, rfl, (r0.mono a7), (r1.mono a7)⟩ ⟨_, _, _, _, _, _, rfl, v8, v9, w2⟩ htok hwo hwx))) (fun cz => ?_)
  simp only [pq]
  refine bV rfl rfl cz (fun d0 a9 => aM (fR _)) ?_
  simp only [pq]
  refine lE rfl rfl (fun d0 a9 hF_ => ?_) (fun rb => ?_)
  obtain ⟨db, dc, _, rfl, w5⟩ := hF_.get 7 (by kernel_rfl) rfl rfl
  exact iD (cC rfl rfl) ⟨db, dc, w5⟩ (Below.refl _ _)
  simp only [pq]
  refine lE rfl rfl (fun d0 a9 _ => jU (cs := [(iI 0), Zn, Zn]) (gT _) rfl a9) (fun rc => ?_)
  simp only [pq]
  refine zK (HS rfl rfl (v := (iI 11)) (fun d0 a9 hF_ => ?_) ?_)
  obtain ⟨rd, re, _, rfl, kz⟩ := hF_.get 7 (by kernel_rfl) rfl rfl
  exact fun w1 => aM (cC rfl rfl)
  intro rf la f1
  obtain ⟨dd, rfl, j0, j1⟩ := f1.getR 11 rfl rfl
  have h3 : ∀ u ∈ [(.int .i64 0), (.slice none 0 0), (.slice none 0 0)], ∀ x, u ≠ bv x := by intro u hu x; simp only [zZk, List.not_mem_nil, or_false] at hu; rcases hu with rfl | rfl | rfl <;> (unfold bv; simp)
  obtain ⟨dg, w7, dh⟩ := f1.get 9 rfl rfl
  have w8 := w7.dropF a8.sat j0
  have dj := TxV.dropT w7.sat j1 h3 dh
  have dk := St.addBlk (cs := [(.int .i64 0), (.slice none 0 0), (.slice none 0 0)]) a8 w8 j0 (oX _ _) j1
  have f2 : Le _ _ := w8.le a8.sat
  have dm := dj
  generalize (dropF dg dd) = rg at *
  obtain ⟨w9, x2, x3, x4, rfl, rh, ri⟩ := dm
  clear f1
  refine zM (i := 0) (v := (.agg #[(.int .i64 jW.start), (.slice w9 jW.reads.length x2), (.slice x3 jW.writes.length x4)])) dk rfl rfl rfl (bB) (SM rfl rfl rfl) (Nat.le_of_ble_eq_true rfl) (fun rj dq => ?_)
  refine dy ?_
  simp only [pq]
  refine wlK i9 ?_
  refine aE fun rk x5 => ?_
  refine sk fun rl x6 => ?_
  refine dx ?_
  refine dr bF (dH (b := false) rfl rfl (by decide)) ?_
  refine wn x6 ?_
  refine aF ?_
  refine aH ?_
  refine x5 _ _ ?_
  refine aB ?_
  refine aC ?_
  have ds := St.perm dq (List.perm_middle (l₁ := [_, _, _]))
  have x7 : EngM _ _ _ _ n g _ := ⟨_, _, _, _, _, _, _, _, _, _, _, ds, (hd.mono (a7.trans f2)), (eG ht (a7.trans f2))⟩
  refine doC rfl (fn3 (mD _ _)) (iF _ _ _ _ _ _ _ s 11 x7 hq) ?_
  rintro _ rm ⟨rfl, rn, x8, x9⟩
  refine ⟨_, rfl, ?_⟩
  obtain ⟨lb, lc, ld, lf, lg, lh, li, lj, lk, ll, lm, du, y2, y3⟩ := x9
  refine aG ?_
  try simp only [xt]
  refine bE (iV rfl) ?_
  have y4 : EngM _ _ _ _ n (g.reply (fQ s 11)) _ := ⟨_, _, _, _, _, _, _, _, _, _, _, du, y2, y3⟩
  have he : g.work s t k r = (g.reply (fQ s 11)) := by
   unfold Eng.work
   rw [zZa (by omega), zZa (by omega), zZa (by omega)]
   unfold Eng.put
   rw [hwx]
  rw [he]
  exact ⟨rfl, _, ((a7.trans f2).trans x8), (y4.drop (.cons _ (.cons _ (.cons _ (zZd _)))))⟩
 | some nx =>
  refine lO v7 [0, 1, 2, 3, 4, 5, 6, 7, 8, 9, 11] 10 12 [13] [(7, .made (fun F' u => TxE F' u nx 0)), (9, .made (fun F' u => TxV F' u nx)), (11, .rel (NewAt w4 [(iI 0), Zn, Zn] 141) (NewAt.stable _ _ _)), (10, .is (iI 0))] (by kernel_rfl) (by kernel_rfl) rfl rfl rfl rfl ?_
  simp only [gB, zZq, zZp, List.map_cons, List.map_nil]
  refine bV rfl rfl (pP n (6 + s * 2)) (fun d1 b3 => aM (fR _)) ?_
  simp only [pq]
  refine bV rfl rfl (pP n (6 + s * 2)) (fun d1 b3 => aM (mP rfl)) ?_
  simp only [pq]
  refine bV rfl rfl (pP n (6 + s * 2)) (fun d1 b3 => aM (ef (eN _ _))) ?_
  simp only [pq]
  refine bV rfl rfl (pP b 0) (fun d1 b3 => aM (aD rfl (aQ (eQ _) (St.cell (St.tells a8 b3) (i := 2) rfl ((eV hs8).trans (congrArg some hp)))))) ?_
  simp only [pq]
  refine bV rfl rfl (pP b 0) (fun d1 b3 => aM (mP rfl)) ?_
  simp only [pq]
  refine bV rfl rfl (.agg #[(.int .i64 t.start), (.slice x0 t.reads.length y0), (.slice x1 t.writes.length y1)]) (fun d1 b3 => aM (aD rfl (jC (cs := [(.int .i64 t.start), (.slice x0 t.reads.length y0), (.slice x1 t.writes.length y1)]) Tryz.underlying141 rfl (bB) (rV (St.fz (St.tells a8 b3) (Le.cell a7 b0)) (St.fz (St.tells a8 b3) (Le.cell a7 b1)) (St.fz (St.tells a8 b3) (Le.cell a7 b2)))))) ?_
  simp only [pq]
  refine bV rfl rfl (.agg #[(.slice b5 r.name.length b6), (.slice b7 r.key.length b9), (.bool (k == 5)), (.slice c4 r.value.length c5)]) (fun d1 b3 => aM (aD rfl (jC (cs := [(.slice b5 r.name.length b6), (.slice b7 r.key.length b9), (.bool (k == 5)), (.slice c4 r.value.length c5)]) Tryz.underlying39 rfl (bY) (St.range (St.tells a8 b3) (i := 0) rfl 0 [(.slice b5 r.name.length b6), (.slice b7 r.key.length b9), (.bool (k == 5)), (.slice c4 r.value.length c5)] (dI 0 rfl))))) ?_
  simp only [pq]
  refine lE rfl rfl (fun d1 b3 hF => bQ (cB (vs := #[(.agg #[(.int .i64 t.start), (.slice x0 t.reads.length y0), (.slice x1 t.writes.length y1)]), (.agg #[(.slice b5 r.name.length b6), (.slice b7 r.key.length b9), (.bool (k == 5)), (.slice c4 r.value.length c5)])]) (gK rfl rfl) rfl (KB _ _)) (dQ a8.sat b3 (nT _ _ _ _ t (⟨r.name, r.key, k == 5, r.value⟩ : Wr) nx ((St.tells a8 b3)).sat ⟨_, _, _, _, rfl, (r0.mono a7), (r1.mono a7)⟩ ⟨_, _, _, _, _, _, rfl, v8, v9, w2⟩ htok hwo hwx))) (fun dv => ?_)
  simp only [pq]
  refine bV rfl rfl dv (fun d1 b3 => aM (fR _)) ?_
  simp only [pq]
  refine lE rfl rfl (fun d1 b3 hF_ => ?_) (fun ro => ?_)
  obtain ⟨dw, dz, _, rfl, y5⟩ := hF_.get 7 (by kernel_rfl) rfl rfl
  exact iD (cC rfl rfl) ⟨dw, dz, y5⟩ (Below.refl _ _)
  simp only [pq]
  refine lE rfl rfl (fun d1 b3 _ => jU (cs := [(iI 0), Zn, Zn]) (gT _) rfl b3) (fun rp => ?_)
  simp only [pq]
  refine zK (HS rfl rfl (v := (iI 0)) (fun d1 b3 hF_ => ?_) ?_)
  obtain ⟨rq, rr, _, rfl, ln⟩ := hF_.get 7 (by kernel_rfl) rfl rfl
  exact fun w1 => aM (cC rfl rfl)
  intro rs lo f3
  obtain ⟨d6, rfl, j2, j3⟩ := f3.getR 11 rfl rfl
  have h4 : ∀ u ∈ [(.int .i64 0), (.slice none 0 0), (.slice none 0 0)], ∀ x, u ≠ bv x := by intro u hu x; simp only [zZk, List.not_mem_nil, or_false] at hu; rcases hu with rfl | rfl | rfl <;> (unfold bv; simp)
  obtain ⟨ea, y6, eb⟩ := f3.get 9 rfl rfl
  have y7 := y6.dropF a8.sat j2
  have ec := TxV.dropT y6.sat j3 h4 eb
  have ed := St.addBlk (cs := [(.int .i64 0), (.slice none 0 0), (.slice none 0 0)]) a8 y7 j2 (oX _ _) j3
  have f4 : Le _ _ := y7.le a8.sat
  have ee := ec
  generalize (dropF ea d6) = k5 at *
  obtain ⟨f5, f6, f7, f8, rfl, eg, eh⟩ := ee
  clear f3
  refine zM (i := 0) (v := (.agg #[(.int .i64 nx.start), (.slice f5 nx.reads.length f6), (.slice f7 nx.writes.length f8)])) ed rfl rfl rfl (bB) (SM rfl rfl rfl) (Nat.le_of_ble_eq_true rfl) (fun ei k6 => ?_)
  have k6 : St w0 F0 ei k5 (⟨d6, [(.int .i64 nx.start), (.slice f5 nx.reads.length f6), (.slice f7 nx.writes.length f8)], 141⟩ :: ⟨w3, [(.slice b5 r.name.length b6), (.slice b7 r.key.length b9), (.bool (k == 5)), (.slice c4 r.value.length c5)], 39⟩ :: ⟨n5, [(nI k), (.slice a0 r.name.length c0), (.slice a1 r.key.length c1), (.slice a2 r.last.length c2), (.slice a3 r.value.length c3)], 27⟩ :: ⟨n, mY g.up (.slice ad g.tape.data.length cd) g.tape.synced (.slice ac g.commits.length cc) (.slice af g.forests.length cf) g.synced pv g.waits (.slice aw g.waiting.length cw) (.slice ar g.replies.length cr), 115⟩ :: L) (pQ w0.heap.size (.slice ac g.commits.length cc) g.commits (.slice af g.forests.length cf) g.forests (.slice aw g.waiting.length cw) g.waiting (.slice ar g.replies.length cr) g.replies) := k6
  refine dy ?_
  simp only [pq]
  refine wlK i9 ?_
  refine aE fun rt y8 => ?_
  refine sk fun ru y9 => ?_
  refine dx ?_
  refine dr bT (dH (b := true) rfl rfl (by decide)) ?_
  refine wn y9 ?_
  refine aI ?_
  refine aB ?_
  refine aC ?_
  refine fZ (i := 3) (v := (pP d6 0)) k6 rfl rfl rfl rfl (oT) (mL rfl) (by rw [mF]; simp only [Value.cells]; exact Nat.le_of_lt_succ (by simp only [List.size_toArray, zZg, zZj]; omega)) (fun z0 h5 => ?_)
  simp only [pq]
  have h5 : St w0 F0 z0 k5 (⟨d6, [(.int .i64 nx.start), (.slice f5 nx.reads.length f6), (.slice f7 nx.writes.length f8)], 141⟩ :: ⟨w3, [(.slice b5 r.name.length b6), (.slice b7 r.key.length b9), (.bool (k == 5)), (.slice c4 r.value.length c5)], 39⟩ :: ⟨n5, [(nI k), (.slice a0 r.name.length c0), (.slice a1 r.key.length c1), (.slice a2 r.last.length c2), (.slice a3 r.value.length c3)], 27⟩ :: ⟨n, cK (mY g.up (.slice ad g.tape.data.length cd) g.tape.synced (.slice ac g.commits.length cc) (.slice af g.forests.length cf) g.synced pv g.waits (.slice aw g.waiting.length cw) (.slice ar g.replies.length cr)) (6 + s * 2) [(pP d6 0)], 115⟩ :: L) (pQ w0.heap.size (.slice ac g.commits.length cc) g.commits (.slice af g.forests.length cf) g.forests (.slice aw g.waiting.length cw) g.waiting (.slice ar g.replies.length cr) g.replies) := h5
  rw [pO hs8] at h5
  refine wlK y8 ?_
  obtain ⟨ej, d5, f9⟩ := St.freezeBlk h5 (i := 0) rfl
  generalize addF k5 z0 d6 = rv at *
  have z1 := sQ (x := .pointer (some ⟨d6, 0, none⟩)) (t := some nx) (eG ht ((a7.trans f4).trans d5)) ⟨_, _, _, _, _, rfl, f9 0 _ rfl, f9 1 _ rfl, f9 2 _ rfl, (eg.mono d5), (eh.mono d5)⟩ s
  refine aB ?_
  refine aC ?_
  have ek := St.perm ej (List.perm_middle (l₁ := [_, _]))
  have z2 : EngM _ _ _ _ n (g.setTxn s (some nx)) _ := ⟨_, _, _, _, _, _, _, _, _, _, _, ek, (hd.mono ((a7.trans f4).trans d5)), z1⟩
  refine doC rfl (fn3 (mD _ _)) (iF _ _ _ _ _ _ _ s 0 z2 hq) ?_
  rintro _ rx ⟨rfl, ry, z3, z4⟩
  refine ⟨_, rfl, ?_⟩
  obtain ⟨lp, lq, lr, ls, lt, lu, lv, lw, lx, ly, lz, el, z5, z6⟩ := z4
  refine aG ?_
  try simp only [xt]
  refine bE (iV rfl) ?_
  have z7 : EngM _ _ _ _ n ((g.setTxn s (some nx)).reply (fQ s 0)) _ := ⟨_, _, _, _, _, _, _, _, _, _, _, el, z5, z6⟩
  have he : g.work s t k r = ((g.setTxn s (some nx)).reply (fQ s 0)) := by
   unfold Eng.work
   rw [zZa (by omega), zZa (by omega), zZa (by omega)]
   unfold Eng.put
   rw [hwx]
  rw [he]
  exact ⟨rfl, _, (((a7.trans f4).trans d5).trans z3), (z7.drop (.cons _ (.cons _ (zZd _))))⟩
theorem Id {r : Rq} (ok : RqOk 8 r) : (1 ≤ r.name.length ∧ r.name.length ≤ 8) ∧ (1 ≤ r.key.length ∧ r.key.length ≤ 16) := by
 obtain ⟨a1, a2, _⟩ := rI (h := bJ 8) ok.fits
 exact ⟨a1 rfl, a2 rfl⟩
theorem WZ (w0 : World) (F0 : Fz) (w : World) (F : Fz) (n : Nat) (g : Eng) (L : List Blk) {m : Nat} (s : Nat) (u : Value) (r : Rq) (hM : EngM w0 F0 w F n g L) (hT : Tabs w0) (hg : EngOk m g) (hv : BG F u (8 : Nat) r.name r.key r.last r.value) (ok : RqOk 8 r) (hq : g.replies.length ≤ 100000) :
    Calls Tryz.prog 78 #[.pointer (some ⟨n, 0, none⟩), .int .i64 ((s : Nat) : Int), u] w (wV w0 F0 F n (g.prove s r) L) := by
 obtain ⟨_, _, _, _, rfl, q0, q1, q2, q3⟩ := hv
 obtain ⟨a0, c0, rfl, _⟩ := q0.shape
 obtain ⟨a1, c1, rfl, _⟩ := q1.shape
 obtain ⟨a2, c2, rfl, _⟩ := q2.shape
 obtain ⟨a3, c3, rfl, _⟩ := q3.shape
 obtain ⟨ad, cd, ac, cc, af, cf, aw, cw, ar, cr, pv, S, hd, ht⟩ := hM
 have hsy := hg.sync
 have hst := hg.states
 have hsl : g.synced ≤ g.commits.length := by omega
 have hnk := Id ok
 go_enter Tryz.func78, Tryz.ntmps78
 refine sk fun K4 hK4 => ?_
 refine bH S (v := fun n => .pointer (aA n 0)) rfl (bX (v := (.agg #[(iI 8), (.slice a0 r.name.length c0), (.slice a1 r.key.length c1), (.slice a2 r.last.length c2), (.slice a3 r.value.length c3)])) rfl) (fun n5 w6 S7 => ?_)
 refine wn hK4 ?_
 refine aE fun K8 hK8 => ?_
 have hfa := vP hg hsl
 have hfo := vQ hg hsl
 obtain ⟨g9, d4, f6, f7, f8, d5⟩ := UJ (S7.own (i := 1) rfl) hfa
 refine aP F 8 [] (by kernel_rfl) (by kernel_rfl) ?_
 simp only [dA]
 refine gm ?_
 refine gi ?_
 refine gf (nF _ _) ?_
 simp only [pq]
 refine gl oS S7 1 ?_
 refine gm ?_
 refine gi ?_
 simp only [pq]
 refine gf (gU _ _) ?_
 refine gl bM S7 1 ?_
 refine bU ?_
 intro i6 b0 d6
 clear d6
 have d7 := St.tells S7 b0
 simp only [dB]
 refine dr (pP g9 (0 + g.synced * 1)) (bN (i := g.synced) (sz := 1) Tryz.underlying106 (oE _) rfl d4 rfl (by omega) rfl) ?_
 refine dr _ (aD rfl (aQ (uV _) (rB b0 f8))) ?_
 refine dy ?_
 simp only [pq]
 refine wlK hK8 ?_
 refine sk fun i7 d8 => ?_
 refine dx ?_
 refine aR d7 rfl (fn1 (Hn _ _)) (BF _ _ _ (g.forest g.synced) (d7).sat (hT.at d7.gr.below) d5 hfo) ?_
 intro i8 i9 j0 d9 a5 f9
 obtain ⟨j1, rfl, b4⟩ := f9
 obtain ⟨a7, a8, rfl, _⟩ := b4.shape
 have b4 : Bs _ (.slice a7 (yR (g.forest g.synced)).length a8) (yR (g.forest g.synced)) := b4
 refine aC ?_
 refine wn d8 ?_
 refine sk fun j2 e0 => ?_
 refine aC ?_
 refine aR d9 rfl (fn3 (Ho _ _)) (zS _ _ _ _ _ (g.forest g.synced) r.name r.key (d9).sat (hT.at d9.gr.below) (d5.mono a5) (q0.mono a5) (q1.mono a5) hfo hnk.1 hnk.2) ?_
 intro j3 j4 j5 g0 a6 g1
 obtain ⟨_, _, rfl, g2, g3⟩ := g1
 obtain ⟨b5, b6, b7, b9, c4, c5, rfl, g4, g5, g6⟩ := g2
 obtain ⟨c6, c7, c8, c9, d0, d1, rfl, g7, g8, h0⟩ := g3
 refine aC ?_
 refine sA g0 (sC _) fun j6 j7 h1 => ?_
 refine sA h1 (sC _) fun j8 j9 h2 => ?_
 simp only [pq]
 refine sW 1 h2 (eK) fun k0 h3 => ?_
 refine sW 0 h3 (eK) fun k1 f0 => ?_
 refine dy ?_
 simp only [pq]
 refine wn e0 ?_
 refine sk fun k2 e1 => ?_
 refine aC ?_
 refine aR f0 rfl (fn3 (YO _ _)) (HQ _ _ _ _ _ (g.forest g.synced) r.name r.key (f0).sat (d5.mono (a5.trans a6)) (q0.mono (a5.trans a6)) (q1.mono (a5.trans a6)) hfo hnk.1 hnk.2) ?_
 intro k3 k4 h4 h5 a4 h6
 obtain ⟨_, rfl, d2, d3, rfl, e2⟩ := h6
 have e2 : Bs _ (.slice d2 ((mO (g.forest g.synced) r.name r.key).getD []).length d3) ((mO (g.forest g.synced) r.name r.key).getD []) := e2
 refine aC ?_
 refine sA h5 (lZ _) fun k5 k6 h7 => ?_
 refine sW 0 h7 (gL) fun k7 a9 => ?_
 refine dy ?_
 simp only [pq]
 refine wn e1 ?_
 refine aP h4 14 [] (by kernel_rfl) (by kernel_rfl) ?_
 simp only [dA]
 iterate 3 refine gm ?_
 simp only [pq]
 refine gi ?_
 refine gf (gU _ _) ?_
 refine gl bM a9 4 ?_
 simp only [pq]
 refine gf (uZ _ _) ?_
 refine gl iJ a9 0 ?_
 refine gf (vA _ _) ?_
 simp only [pq]
 refine gl aZ a9 0 ?_
 refine gm ?_
 refine gv _ (fun _ e3 => aD rfl (cV Tryz.underlying52 rfl (eK) (St.range (St.tells a9 e3) (i := 2) rfl 0 [(.bool (aV (cE (g.forest g.synced)) r.name).empty), (.slice b5 (aV (cE (g.forest g.synced)) r.name).steps.length b6), (.slice b7 (aV (cE (g.forest g.synced)) r.name).pair.1.length b9), (.slice c4 (aV (cE (g.forest g.synced)) r.name).pair.2.length c5)] (dI 0 rfl)))) ?_
 simp only [pq]
 refine gv _ (fun _ e3 => aD rfl (cV Tryz.underlying52 rfl (eK) (St.range (St.tells a9 e3) (i := 1) rfl 0 [(.bool (aV (bP (g.forest g.synced) r.name) r.key).empty), (.slice c6 (aV (bP (g.forest g.synced) r.name) r.key).steps.length c7), (.slice c8 (aV (bP (g.forest g.synced) r.name) r.key).pair.1.length c9), (.slice d0 (aV (bP (g.forest g.synced) r.name) r.key).pair.2.length d1)] (dI 0 rfl)))) ?_
 refine gv (.agg #[(nI s), (iI 0), (nI g.synced), (.bool (mO (g.forest g.synced) r.name r.key).isSome), (.slice d2 ((mO (g.forest g.synced) r.name r.key).getD []).length d3), Zn, (.slice a7 (yR (g.forest g.synced)).length a8), (.bool (aV (cE (g.forest g.synced)) r.name).empty), (.slice b5 (aV (cE (g.forest g.synced)) r.name).steps.length b6), (.slice b7 (aV (cE (g.forest g.synced)) r.name).pair.1.length b9), (.slice c4 (aV (cE (g.forest g.synced)) r.name).pair.2.length c5), (.bool (aV (bP (g.forest g.synced) r.name) r.key).empty), (.slice c6 (aV (bP (g.forest g.synced) r.name) r.key).steps.length c7), (.slice c8 (aV (bP (g.forest g.synced) r.name) r.key).pair.1.length c9), (.slice d0 (aV (bP (g.forest g.synced) r.name) r.key).pair.2.length d1)]) (fun _ _ => aK (ps := #[(0, (nI s)), (2, (nI g.synced)), (3, (.bool (mO (g.forest g.synced) r.name r.key).isSome)), (4, (.slice d2 ((mO (g.forest g.synced) r.name r.key).getD []).length d3)), (6, (.slice a7 (yR (g.forest g.synced)).length a8)), (7, (.agg #[(.bool (aV (cE (g.forest g.synced)) r.name).empty), (.slice b5 (aV (cE (g.forest g.synced)) r.name).steps.length b6), (.slice b7 (aV (cE (g.forest g.synced)) r.name).pair.1.length b9), (.slice c4 (aV (cE (g.forest g.synced)) r.name).pair.2.length c5)])), (8, (.agg #[(.bool (aV (bP (g.forest g.synced) r.name) r.key).empty), (.slice c6 (aV (bP (g.forest g.synced) r.name) r.key).steps.length c7), (.slice c8 (aV (bP (g.forest g.synced) r.name) r.key).pair.1.length c9), (.slice d0 (aV (bP (g.forest g.synced) r.name) r.key).pair.2.length d1)]))]) (Il rfl rfl rfl rfl rfl rfl rfl) (by kernel_rfl)) ?_
 refine bU ?_
 intro k8 e4 e5
 clear e5
 have h8 := St.tells a9 e4
 simp only [dB]
 have h9 := St.perm h8 (List.perm_middle (l₁ := [_, _, _, _]))
 have e6 : EngM _ _ _ _ n g _ := ⟨_, _, _, _, _, _, _, _, _, _, _, h9, (hd.mono ((a5.trans a6).trans a4)), (eG ht ((a5.trans a6).trans a4))⟩
 refine doC rfl (cB (vs := #[(pP n 0), (.agg #[(nI s), (iI 0), (nI g.synced), (.bool (mO (g.forest g.synced) r.name r.key).isSome), (.slice d2 ((mO (g.forest g.synced) r.name r.key).getD []).length d3), Zn, (.slice a7 (yR (g.forest g.synced)).length a8), (.bool (aV (cE (g.forest g.synced)) r.name).empty), (.slice b5 (aV (cE (g.forest g.synced)) r.name).steps.length b6), (.slice b7 (aV (cE (g.forest g.synced)) r.name).pair.1.length b9), (.slice c4 (aV (cE (g.forest g.synced)) r.name).pair.2.length c5), (.bool (aV (bP (g.forest g.synced) r.name) r.key).empty), (.slice c6 (aV (bP (g.forest g.synced) r.name) r.key).steps.length c7), (.slice c8 (aV (bP (g.forest g.synced) r.name) r.key).pair.1.length c9), (.slice d0 (aV (bP (g.forest g.synced) r.name) r.key).pair.2.length d1)])]) (gK rfl rfl) rfl (qL _ _)) (kG _ _ _ _ _ _ _ _ (⟨s, 0, g.synced, (mO (g.forest g.synced) r.name r.key).isSome, (mO (g.forest g.synced) r.name r.key).getD [], [], yR (g.forest g.synced), aV (cE (g.forest g.synced)) r.name, aV (bP (g.forest g.synced) r.name) r.key⟩ : Rep) e6 ⟨_, _, _, _, _, _, _, _, _, rfl, e2, Sl.nil _ _ _, (b4.mono (a6.trans a4)), (g4.mono a4), (g5.mono a4), (g6.mono a4), (g7.mono a4), (g8.mono a4), (h0.mono a4)⟩ hq) ?_
 rintro _ k9 ⟨rfl, l0, e7, e8⟩
 refine ⟨_, rfl, ?_⟩
 obtain ⟨i0, i1, i2, i3, i4, i5, f1, f2, f3, f4, f5, e9, b1, b2⟩ := e8
 simp only [pq]
 refine aG ?_
 try simp only [xt]
 refine bE (iV rfl) ?_
 have b3 : EngM _ _ _ _ n (g.reply (⟨s, 0, g.synced, (mO (g.forest g.synced) r.name r.key).isSome, (mO (g.forest g.synced) r.name r.key).getD [], [], yR (g.forest g.synced), aV (cE (g.forest g.synced)) r.name, aV (bP (g.forest g.synced) r.name) r.key⟩ : Rep)) _ := ⟨_, _, _, _, _, _, _, _, _, _, _, e9, b1, b2⟩
 exact ⟨rfl, _, (((a5.trans a6).trans a4).trans e7), (b3.drop (.cons _ (.cons _ (.cons _ (.cons _ (zZd _))))))⟩
theorem IJ (w : World) (n : Nat) (t : Int) (h1 : n ≤ 1000000) (h2 : 0 ≤ t) (h3 : t ≤ 1048576) {b : Bool} (h : Eng.keptB n t = b) : Calls Tryz.prog 80 #[.int .i64 ((n : Nat) : Int), .int .i64 t] w (cT w (.bool b)) := by
 subst h
 by_cases hk : 0 ≤ t ∧ t ≤ n ∧ (n : Int) - t < 6
 ·have e : Eng.keptB n t = true := by unfold Eng.keptB; simp [hk]
  rw [e]
  exact (Ay n t w hk.1 hk.2.1 hk.2.2 (by omega)).mono fun e w' ⟨h, h'⟩ => by subst h'; exact ⟨h, Below.refl _ _⟩
 ·have e : Eng.keptB n t = false := by
   unfold Eng.keptB
   rw [← Bool.not_eq_true]
   simp only [Bool.and_eq_true, decide_eq_true_eq]
   intro h; exact hk ⟨h.1.1, h.1.2, h.2⟩
  rw [e]
  exact (Fa n t w (by omega) (by omega) (by omega) (by omega) (by omega)).mono fun e w' ⟨h, h'⟩ => by subst h'; exact ⟨h, Below.refl _ _⟩
def wW : Prop := ∀ (w0 : World) (F0 : Fz) (w : World) (F : Fz) (n : Nat) (g : Eng) (L : List Blk) {m : Nat} (s : Nat) (u : Value) (r : Rq), EngM w0 F0 w F n g L → Tabs w0 → EngOk m g → BG F u (8 : Nat) r.name r.key r.last r.value → RqOk 8 r → g.replies.length ≤ 100000 →
    Calls Tryz.prog 78 #[.pointer (some ⟨n, 0, none⟩), .int .i64 ((s : Nat) : Int), u] w (wV w0 F0 F n (g.prove s r) L)
theorem Fb (w0 : World) (F0 : Fz) (w : World) (F : Fz) (n : Nat) (g : Eng) (L : List Blk) {m : Nat} (s : Nat) (hs8 : s < 8) (u : Value) (b : By) (hM : EngM w0 F0 w F n g L) (hh : Has w0) (hT : Tabs w0) (hg : EngOk m g) (hm : m ≤ 149) (hu : Bs F u b) (hP : wdE b = 0 → (wdR b).1 = 8 → wW) (hq : g.replies.length ≤ 100000) :
    Calls Tryz.prog 68 #[.pointer (some ⟨n, 0, none⟩), .int .i64 ((s : Nat) : Int), u] w (wV w0 F0 F n (g.ask s b) L) := by
 obtain ⟨da, dc, rfl, _⟩ := hu.shape
 have hd0 := hu
 obtain ⟨ad, cd, ac, cc, af, cf, aw, cw, ar, cr, pv, S, hd, ht⟩ := hM
 obtain ⟨⟨k, r⟩, hkr⟩ : ∃ p : Nat × Rq, wdR b = p := ⟨_, rfl⟩
 have hsy := hg.sync
 have hmy := hg.many
 go_enter Tryz.func68, Tryz.ntmps68
 refine aE fun K4 hK4 => ?_
 refine sk fun K5 hK5 => ?_
 refine dx ?_
 refine di ?_
 refine df (qY _ _) ?_
 simp only [pq]
 refine dl (iJ _) S 0 ?_
 refine dr (.bool (!g.up)) (qI rfl rfl) ?_
 refine wn hK5 ?_
 refine wp_cond_split rfl (fun hc6 => ?_) (fun hc6 => ?_)
 refine sk fun K7 hK7 => ?_
 iterate 2 refine dx ?_
 simp only [pq]
 have hM8 : EngM _ _ _ _ n g _ := ⟨_, _, _, _, _, _, _, _, _, _, _, S, hd, ht⟩
 refine doC rfl (fn3 (mD _ _)) (iF _ _ _ _ _ _ _ s 13 hM8 hq) ?_
 rintro _ w9 ⟨rfl, ct, l0, l1⟩
 refine ⟨_, rfl, ?_⟩
 obtain ⟨y1, y2, y3, y4, y5, y6, y7, y8, y9, z0, z1, z2, l2, l3⟩ := l1
 refine wn hK7 ?_
 refine aO ?_
 try simp only [xt]
 refine bR (iV rfl) ?_
 have l4 : EngM _ _ _ _ n (g.reply (fQ s 13)) _ := ⟨_, _, _, _, _, _, _, _, _, _, _, z2, l2, l3⟩
 have he : g.ask s b = (g.reply (fQ s 13)) := by
  unfold Eng.ask
  rw [zZa (by simpa using hc6)]
 rw [he]
 exact ⟨rfl, _, l0, l4⟩
 refine aH ?_
 refine hK4 _ _ ?_
 refine sk fun cu l5 => ?_
 refine dx ?_
 refine aR S rfl (fn1 (Hh _ _)) (FB _ _ _ b (S).sat (hh.below S.gr.below) hd0 rfl hkr) ?_
 intro cv cx a7 z3 a0 z4
 obtain ⟨cy, rfl, z5⟩ := z4
 obtain ⟨cz, db, dd, dg, rfl, l6, l7, l8, l9⟩ := z5
 obtain ⟨c6, c7, rfl, _⟩ := l6.shape
 obtain ⟨c8, c9, rfl, _⟩ := l7.shape
 obtain ⟨d0, d1, rfl, _⟩ := l8.shape
 obtain ⟨d2, d3, rfl, _⟩ := l9.shape
 simp only [pq]
 refine dx ?_
 iterate 2 refine de ?_
 simp only [pq]
 refine sA z3 (xY _) fun k9 dh z6 => ?_
 refine sW 0 z6 (bG) fun dj a4 => ?_
 refine dy ?_
 simp only [pq]
 refine wn l5 ?_
 refine aE fun dk m0 => ?_
 refine sk fun dm d4 => ?_
 refine dx ?_
 simp only [pq]
 by_cases a2 : (wdE b) = (0 : Int)
 refine jJ ?_
 refine wn d4 ?_
 refine aF ?_
 refine aH ?_
 refine m0 _ _ ?_
 refine aE fun dq m1 => ?_
 have ok : RqOk k r := by have := (OE a2).1; rwa [hkr] at this
 have hkk := ok.kind
 refine aB ?_
 iterate 2 refine dx ?_
 refine di ?_
 simp only [pq]
 refine df (yC _ _) ?_
 refine dr (pP n (6 + s * 2)) (Aw (i := s) Tryz.underlying113 (DU _) rfl rfl (hs8)) ?_
 refine dy ?_
 simp only [pq]
 refine wlK m1 ?_
 refine aN ?_
 refine sk fun ds d5 => ?_
 refine df (mB _ _) ?_
 refine dl (bM _) a4 0 ?_
 simp only [pq]
 by_cases a3 : k = 8
 refine iA ?_
 refine dy ?_
 refine wn d5 ?_
 refine aI ?_
 refine aB ?_
 iterate 2 refine dx ?_
 refine dR a4 0 Tryz.underlying27 (bG) ?_
 simp only [pq]
 have z7 := St.perm a4 (List.perm_middle (l₁ := [_]))
 have m2 : EngM _ _ _ _ n g _ := ⟨_, _, _, _, _, _, _, _, _, _, _, z7, (hd.mono a0), (eG ht a0)⟩
 refine doC rfl (cB (vs := #[(pP n 0), (nI s), (.agg #[(nI k), (.slice c6 r.name.length c7), (.slice c8 r.key.length c9), (.slice d0 r.last.length d1), (.slice d2 r.value.length d3)])]) (JA rfl rfl rfl) rfl (Hi _ _)) ((hP a2 (by rw [hkr]; exact a3)) _ _ _ _ _ _ _ s _ r m2 hT hg ⟨_, _, _, _, (by rw [a3]), l6, l7, l8, l9⟩ (a3 ▸ ok) hq) ?_
 rintro _ du ⟨rfl, dv, m3, m4⟩
 refine ⟨_, rfl, ?_⟩
 obtain ⟨z8, z9, aa, ab, ae, ag, ah, ai, aj, ak, al, am, m5, m6⟩ := m4
 refine aG ?_
 try simp only [xt]
 refine bE (iV rfl) ?_
 have m7 : EngM _ _ _ _ n (g.prove s r) _ := ⟨_, _, _, _, _, _, _, _, _, _, _, am, m5, m6⟩
 have he : g.ask s b = (g.prove s r) := by
  unfold Eng.ask
  rw [zZb (by simpa using hc6)]
  rw [zZb a2, hkr]
  simp only
  unfold Eng.req
  rw [zZb a3]
 rw [he]
 exact ⟨rfl, _, (a0.trans m3), (m7.drop (.cons _ (zZd _)))⟩
 refine gH ?_
 refine dy ?_
 refine wn d5 ?_
 refine aF ?_
 refine aE fun dw a8 => ?_
 cases hws : g.waits s with
 | true =>
  refine aP a7 13 [] (by kernel_rfl) (by kernel_rfl) ?_
  simp only [dA]
  refine gm ?_
  simp only [pq]
  refine gi ?_
  refine gf (oU _ _) ?_
  refine gv _ (fun _ an => aD rfl (aQ (iJ _) (St.cell (St.tells a4 an) (i := 1) rfl ((pM hs8).trans (congrArg some (congrArg Value.bool hws)))))) ?_
  simp only [pq]
  refine gm ?_
  simp only [pq]
  refine cX (bL rfl rfl rfl (c := true) rfl (by decide)) ?_
  simp only [pq]
  refine cX (bL rfl rfl rfl (c := true) rfl (by decide)) ?_
  simp only [pq]
  refine cX (bL rfl rfl rfl (c := true) rfl (by decide)) ?_
  simp only [pq]
  refine cX (bL rfl rfl rfl (c := true) rfl (by decide)) ?_
  simp only [pq]
  refine cX (bL rfl rfl rfl (c := true) rfl (by decide)) ?_
  simp only [pq]
  refine cX (bL rfl rfl rfl (c := true) rfl (by decide)) ?_
  simp only [pq]
  refine cX (bL rfl rfl rfl (c := true) rfl (by decide)) ?_
  simp only [pq]
  refine cX (bL rfl rfl rfl (c := true) rfl (by decide)) ?_
  refine bU ?_
  intro dz m8 m9
  clear m9
  have ao := St.tells a4 m8
  simp only [dB]
  refine nO ?_
  simp only [pq]
  refine dp ?_
  refine dy ?_
  refine wlK a8 ?_
  refine aI ?_
  refine aB ?_
  iterate 2 refine dx ?_
  simp only [pq]
  have ap := St.perm ao (List.perm_middle (l₁ := [_]))
  have n0 : EngM _ _ _ _ n g _ := ⟨_, _, _, _, _, _, _, _, _, _, _, ap, (hd.mono a0), (eG ht a0)⟩
  refine doC rfl (fn3 (mD _ _)) (iF _ _ _ _ _ _ _ s 6 n0 hq) ?_
  rintro _ ea ⟨rfl, eb, n1, n2⟩
  refine ⟨_, rfl, ?_⟩
  obtain ⟨aq, au, av, ax, ay, p6, p7, p8, p9, q0, q1, n3, d6, d7⟩ := n2
  refine aG ?_
  try simp only [xt]
  refine bE (iV rfl) ?_
  have d8 : EngM _ _ _ _ n (g.reply (fQ s 6)) _ := ⟨_, _, _, _, _, _, _, _, _, _, _, n3, d6, d7⟩
  have he : g.ask s b = (g.reply (fQ s 6)) := by
   unfold Eng.ask
   rw [zZb (by simpa using hc6)]
   rw [zZb a2, hkr]
   simp only
   unfold Eng.req
   rw [zZa a3, zZb hws]
  rw [he]
  exact ⟨rfl, _, (a0.trans n1), (d8.drop (.cons _ (zZd _)))⟩
 | false =>
  cases hts : g.txn s with
  | none =>
   have hp : pv s = .pointer none := by have := ht s hs8; rw [hts] at this; exact this
   by_cases h1 : k = 1
   refine aP a7 13 [] (by kernel_rfl) (by kernel_rfl) ?_
   simp only [dA]
   refine gm ?_
   refine gi ?_
   refine gf (oU _ _) ?_
   simp only [pq]
   refine gv _ (fun _ b9 => aD rfl (aQ (iJ _) (St.cell (St.tells a4 b9) (i := 1) rfl ((pM hs8).trans (congrArg some (congrArg Value.bool hws)))))) ?_
   iterate 2 refine gm ?_
   simp only [pq]
   refine gi ?_
   refine gf (eN _ _) ?_
   refine gv _ (fun _ b9 => aD rfl (aQ (eQ _) (St.cell (St.tells a4 b9) (i := 1) rfl ((eV hs8).trans (congrArg some hp))))) ?_
   simp only [pq]
   refine gv bF (fun _ _ => CH (p := none) Tryz.underlying110 rfl rfl) ?_
   refine gf (mB _ _) ?_
   refine gl bM a4 0 ?_
   simp only [pq]
   refine gv bT (fun _ _ => dH (m := ((k : Nat) : Int)) (n := (1 : Int)) (b := true) rfl rfl (beq_iff_eq.2 (by omega))) ?_
   refine bU ?_
   intro az d9 e0
   clear e0
   have c0 := St.tells a4 d9
   simp only [dB]
   refine dr bF (pV Tryz.underlying4 rfl rfl (rfl)) ?_
   refine dp ?_
   refine dy ?_
   simp only [pq]
   refine wlK a8 ?_
   refine aF ?_
   refine sk fun ba e1 => ?_
   refine df (mB _ _) ?_
   refine dl (bM _) c0 0 ?_
   refine iA ?_
   simp only [pq]
   refine dy ?_
   refine wn e1 ?_
   refine aI ?_
   refine sk fun bb e2 => ?_
   iterate 2 refine dx ?_
   refine di ?_
   simp only [pq]
   refine df (gU _ _) ?_
   refine dl (bM _) c0 1 ?_
   refine dr (.agg #[(nI g.synced), Zn, Zn]) (aK (cZ rfl) (by kernel_rfl)) ?_
   simp only [pq]
   refine bH c0 (v := fun n => .pointer (aA n 0)) rfl (bX (v := (.agg #[(nI g.synced), Zn, Zn])) rfl) (fun a6 n4 c1 => ?_)
   simp only [pq]
   have c1 : St w0 F0 n4 a7 (⟨a6, [(nI g.synced), Zn, Zn], 141⟩ :: ⟨k9, [(nI k), (.slice c6 r.name.length c7), (.slice c8 r.key.length c9), (.slice d0 r.last.length d1), (.slice d2 r.value.length d3)], 27⟩ :: ⟨n, mY g.up (.slice ad g.tape.data.length cd) g.tape.synced (.slice ac g.commits.length cc) (.slice af g.forests.length cf) g.synced pv g.waits (.slice aw g.waiting.length cw) (.slice ar g.replies.length cr), 115⟩ :: L) (pQ w0.heap.size (.slice ac g.commits.length cc) g.commits (.slice af g.forests.length cf) g.forests (.slice aw g.waiting.length cw) g.waiting (.slice ar g.replies.length cr) g.replies) := c1
   refine di ?_
   refine df (eN _ _) ?_
   refine fZ (i := 2) (v := (pP a6 0)) c1 rfl rfl rfl rfl (oT) (mL rfl) (by rw [mF]; simp only [Value.cells]; exact Nat.le_of_lt_succ (by simp only [List.size_toArray, zZg, zZj]; omega)) (fun e3 b1 => ?_)
   simp only [pq]
   have b1 : St w0 F0 e3 a7 (⟨a6, [(nI g.synced), Zn, Zn], 141⟩ :: ⟨k9, [(nI k), (.slice c6 r.name.length c7), (.slice c8 r.key.length c9), (.slice d0 r.last.length d1), (.slice d2 r.value.length d3)], 27⟩ :: ⟨n, cK (mY g.up (.slice ad g.tape.data.length cd) g.tape.synced (.slice ac g.commits.length cc) (.slice af g.forests.length cf) g.synced pv g.waits (.slice aw g.waiting.length cw) (.slice ar g.replies.length cr)) (6 + s * 2) [(pP a6 0)], 115⟩ :: L) (pQ w0.heap.size (.slice ac g.commits.length cc) g.commits (.slice af g.forests.length cf) g.forests (.slice aw g.waiting.length cw) g.waiting (.slice ar g.replies.length cr) g.replies) := b1
   rw [pO hs8] at b1
   refine wn e2 ?_
   obtain ⟨e4, a9, b0⟩ := St.freezeBlk b1 (i := 0) rfl
   generalize addF a7 e3 a6 = bc at *
   have e5 := sQ (x := .pointer (some ⟨a6, 0, none⟩)) (t := some (⟨g.synced, [], []⟩ : Tx)) (eG ht (a0.trans a9)) ⟨_, _, _, _, _, rfl, b0 0 _ rfl, b0 1 _ rfl, b0 2 _ rfl, Sl.nil _ _ _, Sl.nil _ _ _⟩ s
   refine aB ?_
   iterate 3 refine dx ?_
   simp only [pq]
   refine di ?_
   refine df (gU _ _) ?_
   refine dl (bM _) e4 1 ?_
   simp only [pq]
   refine dr (.agg #[(nI s), (iI 0), (nI g.synced), bF, Zn, Zn, Zn, bF, Zn, Zn, Zn, bF, Zn, Zn, Zn]) (aK (fD rfl rfl) (by kernel_rfl)) ?_
   simp only [pq]
   have n5 := St.perm e4 (List.perm_middle (l₁ := [_]))
   have e6 : EngM _ _ _ _ n (g.setTxn s (some (⟨g.synced, [], []⟩ : Tx))) _ := ⟨_, _, _, _, _, _, _, _, _, _, _, n5, (hd.mono (a0.trans a9)), e5⟩
   refine doC rfl (fn2 (qL _ _)) (kG _ _ _ _ _ _ _ _ _ e6 (RpV.turn _ s ((g.synced : Nat) : Int)) hq) ?_
   rintro _ bd ⟨rfl, be, e7, e8⟩
   refine ⟨_, rfl, ?_⟩
   obtain ⟨q2, q3, q4, q5, q6, q7, q8, q9, r0, r1, r2, n6, e9, f0⟩ := e8
   refine aG ?_
   try simp only [xt]
   refine bE (iV rfl) ?_
   have f1 : EngM _ _ _ _ n ((g.setTxn s (some (⟨g.synced, [], []⟩ : Tx))).reply (BJ s g.synced)) _ := ⟨_, _, _, _, _, _, _, _, _, _, _, n6, e9, f0⟩
   have he : g.ask s b = ((g.setTxn s (some (⟨g.synced, [], []⟩ : Tx))).reply (BJ s g.synced)) := by
    unfold Eng.ask
    rw [zZb (by simpa using hc6)]
    rw [zZb a2, hkr]
    simp only
    unfold Eng.req
    rw [zZa a3, zZa (by rw [hws]; decide), hts]
    simp only
    rw [zZb h1]
   rw [he]
   exact ⟨rfl, _, ((a0.trans a9).trans e7), (f1.drop (.cons _ (zZd _)))⟩
   refine aP a7 13 [] (by kernel_rfl) (by kernel_rfl) ?_
   simp only [dA]
   refine gm ?_
   refine gi ?_
   refine gf (oU _ _) ?_
   simp only [pq]
   refine gv _ (fun _ c2 => aD rfl (aQ (iJ _) (St.cell (St.tells a4 c2) (i := 1) rfl ((pM hs8).trans (congrArg some (congrArg Value.bool hws)))))) ?_
   iterate 2 refine gm ?_
   simp only [pq]
   refine gi ?_
   refine gf (eN _ _) ?_
   refine gv _ (fun _ c2 => aD rfl (aQ (eQ _) (St.cell (St.tells a4 c2) (i := 1) rfl ((eV hs8).trans (congrArg some hp))))) ?_
   simp only [pq]
   refine gv bF (fun _ _ => CH (p := none) Tryz.underlying110 rfl rfl) ?_
   refine gf (mB _ _) ?_
   refine gl bM a4 0 ?_
   simp only [pq]
   refine gv bF (fun _ _ => dH (m := ((k : Nat) : Int)) (n := (1 : Int)) (b := false) rfl rfl (beq_eq_false_iff_ne.2 (by omega))) ?_
   refine bU ?_
   intro bf f2 f3
   clear f3
   have n7 := St.tells a4 f2
   simp only [dB]
   refine dr bT (pV Tryz.underlying4 rfl rfl (rfl)) ?_
   refine dp ?_
   refine dy ?_
   simp only [pq]
   refine wlK a8 ?_
   refine aI ?_
   refine aB ?_
   iterate 2 refine dx ?_
   simp only [pq]
   have n8 := St.perm n7 (List.perm_middle (l₁ := [_]))
   have f4 : EngM _ _ _ _ n g _ := ⟨_, _, _, _, _, _, _, _, _, _, _, n8, (hd.mono a0), (eG ht a0)⟩
   refine doC rfl (fn3 (mD _ _)) (iF _ _ _ _ _ _ _ s 6 f4 hq) ?_
   rintro _ bg ⟨rfl, bh, f5, f6⟩
   refine ⟨_, rfl, ?_⟩
   obtain ⟨r3, r4, r5, r6, r7, r8, r9, s0, s1, s2, s3, n9, f7, f8⟩ := f6
   refine aG ?_
   try simp only [xt]
   refine bE (iV rfl) ?_
   have f9 : EngM _ _ _ _ n (g.reply (fQ s 6)) _ := ⟨_, _, _, _, _, _, _, _, _, _, _, n9, f7, f8⟩
   have he : g.ask s b = (g.reply (fQ s 6)) := by
    unfold Eng.ask
    rw [zZb (by simpa using hc6)]
    rw [zZb a2, hkr]
    simp only
    unfold Eng.req
    rw [zZa a3, zZa (by rw [hws]; decide), hts]
    simp only
    rw [zZa h1]
   rw [he]
   exact ⟨rfl, _, (a0.trans f5), (f9.drop (.cons _ (zZd _)))⟩
  | some t =>
   have b5 := ht s hs8
   rw [hts] at b5
   obtain ⟨g0, bi, bj, bk, bl, a5, g1, bm, bn, bo, bp⟩ := b5
   obtain ⟨htok, hlt⟩ := hg.txns s t hts
   by_cases h1 : k = 1
   refine aP a7 13 [] (by kernel_rfl) (by kernel_rfl) ?_
   simp only [dA]
   refine gm ?_
   refine gi ?_
   refine gf (oU _ _) ?_
   simp only [pq]
   refine gv _ (fun _ c3 => aD rfl (aQ (iJ _) (St.cell (St.tells a4 c3) (i := 1) rfl ((pM hs8).trans (congrArg some (congrArg Value.bool hws)))))) ?_
   iterate 2 refine gm ?_
   simp only [pq]
   refine gi ?_
   refine gf (eN _ _) ?_
   refine gv _ (fun _ c3 => aD rfl (aQ (eQ _) (St.cell (St.tells a4 c3) (i := 1) rfl ((eV hs8).trans (congrArg some a5))))) ?_
   simp only [pq]
   refine gv bT (fun _ _ => CH (p := some ⟨g0, 0, none⟩) Tryz.underlying110 rfl rfl) ?_
   refine gf (mB _ _) ?_
   refine gl bM a4 0 ?_
   simp only [pq]
   refine gv bT (fun _ _ => dH (m := ((k : Nat) : Int)) (n := (1 : Int)) (b := true) rfl rfl (beq_iff_eq.2 (by omega))) ?_
   refine bU ?_
   intro bq g2 g3
   clear g3
   have o0 := St.tells a4 g2
   simp only [dB]
   refine dr bT (pV Tryz.underlying4 rfl rfl (rfl)) ?_
   refine dp ?_
   refine dy ?_
   simp only [pq]
   refine wlK a8 ?_
   refine aI ?_
   refine aB ?_
   iterate 2 refine dx ?_
   simp only [pq]
   have o1 := St.perm o0 (List.perm_middle (l₁ := [_]))
   have g4 : EngM _ _ _ _ n g _ := ⟨_, _, _, _, _, _, _, _, _, _, _, o1, (hd.mono a0), (eG ht a0)⟩
   refine doC rfl (fn3 (mD _ _)) (iF _ _ _ _ _ _ _ s 6 g4 hq) ?_
   rintro _ br ⟨rfl, bs, g5, g6⟩
   refine ⟨_, rfl, ?_⟩
   obtain ⟨s4, s5, s6, s7, s8, s9, t0, t1, t2, t3, t4, o2, g7, g8⟩ := g6
   refine aG ?_
   try simp only [xt]
   refine bE (iV rfl) ?_
   have g9 : EngM _ _ _ _ n (g.reply (fQ s 6)) _ := ⟨_, _, _, _, _, _, _, _, _, _, _, o2, g7, g8⟩
   have he : g.ask s b = (g.reply (fQ s 6)) := by
    unfold Eng.ask
    rw [zZb (by simpa using hc6)]
    rw [zZb a2, hkr]
    simp only
    unfold Eng.req
    rw [zZa a3, zZa (by rw [hws]; decide), hts]
    simp only
    rw [zZb h1]
   rw [he]
   exact ⟨rfl, _, (a0.trans g5), (g9.drop (.cons _ (zZd _)))⟩
   refine aP a7 13 [] (by kernel_rfl) (by kernel_rfl) ?_
   simp only [dA]
   refine gm ?_
   refine gi ?_
   refine gf (oU _ _) ?_
   simp only [pq]
   refine gv _ (fun _ c4 => aD rfl (aQ (iJ _) (St.cell (St.tells a4 c4) (i := 1) rfl ((pM hs8).trans (congrArg some (congrArg Value.bool hws)))))) ?_
   iterate 2 refine gm ?_
   simp only [pq]
   refine gi ?_
   refine gf (eN _ _) ?_
   refine gv _ (fun _ c4 => aD rfl (aQ (eQ _) (St.cell (St.tells a4 c4) (i := 1) rfl ((eV hs8).trans (congrArg some a5))))) ?_
   simp only [pq]
   refine gv bT (fun _ _ => CH (p := some ⟨g0, 0, none⟩) Tryz.underlying110 rfl rfl) ?_
   refine gf (mB _ _) ?_
   refine gl bM a4 0 ?_
   simp only [pq]
   refine gv bF (fun _ _ => dH (m := ((k : Nat) : Int)) (n := (1 : Int)) (b := false) rfl rfl (beq_eq_false_iff_ne.2 (by omega))) ?_
   refine bU ?_
   intro bt h0 h2
   clear h2
   have a1 := St.tells a4 h0
   simp only [dB]
   refine dr bF (pV Tryz.underlying4 rfl rfl (rfl)) ?_
   refine dp ?_
   refine dy ?_
   simp only [pq]
   refine wlK a8 ?_
   refine aF ?_
   refine sk fun bu h3 => ?_
   refine df (mB _ _) ?_
   refine dl (bM _) a1 0 ?_
   refine gH ?_
   simp only [pq]
   refine dy ?_
   refine wn h3 ?_
   refine aF ?_
   refine aE fun bw b6 => ?_
   by_cases h7 : k = 7
   refine aB ?_
   refine df (mB _ _) ?_
   refine dl (bM _) a1 0 ?_
   refine iA ?_
   simp only [pq]
   refine dy ?_
   refine wlK b6 ?_
   refine aI ?_
   refine sk fun bx h4 => ?_
   refine dx ?_
   refine di ?_
   refine df (eN _ _) ?_
   simp only [pq]
   refine fZ (i := 1) (v := (.pointer none)) a1 rfl rfl rfl rfl (oT) (mL rfl) (by rw [mF]; simp only [Value.cells]; exact Nat.le_of_lt_succ (by simp only [List.size_toArray, zZg, zZj]; omega)) (fun o3 b2 => ?_)
   simp only [pq]
   have b2 : St w0 F0 o3 a7 (⟨k9, [(nI k), (.slice c6 r.name.length c7), (.slice c8 r.key.length c9), (.slice d0 r.last.length d1), (.slice d2 r.value.length d3)], 27⟩ :: ⟨n, cK (mY g.up (.slice ad g.tape.data.length cd) g.tape.synced (.slice ac g.commits.length cc) (.slice af g.forests.length cf) g.synced pv g.waits (.slice aw g.waiting.length cw) (.slice ar g.replies.length cr)) (6 + s * 2) [(.pointer none)], 115⟩ :: L) (pQ w0.heap.size (.slice ac g.commits.length cc) g.commits (.slice af g.forests.length cf) g.forests (.slice aw g.waiting.length cw) g.waiting (.slice ar g.replies.length cr) g.replies) := b2
   rw [pO hs8] at b2
   refine wn h4 ?_
   have h5 := sQ (x := .pointer none) (t := none) (eG ht a0) rfl s
   refine aB ?_
   iterate 2 refine dx ?_
   simp only [pq]
   have o4 := St.perm b2 (List.perm_middle (l₁ := [_]))
   have h6 : EngM _ _ _ _ n (g.setTxn s none) _ := ⟨_, _, _, _, _, _, _, _, _, _, _, o4, (hd.mono a0), h5⟩
   refine doC rfl (fn3 (mD _ _)) (iF _ _ _ _ _ _ _ s 0 h6 hq) ?_
   rintro _ bz ⟨rfl, ca, h8, h9⟩
   refine ⟨_, rfl, ?_⟩
   obtain ⟨t5, t6, t7, t8, t9, u0, u1, u2, u3, u4, u5, o5, i0, i1⟩ := h9
   refine aG ?_
   try simp only [xt]
   refine bE (iV rfl) ?_
   have i2 : EngM _ _ _ _ n ((g.setTxn s none).reply (fQ s 0)) _ := ⟨_, _, _, _, _, _, _, _, _, _, _, o5, i0, i1⟩
   have he : g.ask s b = ((g.setTxn s none).reply (fQ s 0)) := by
    unfold Eng.ask
    rw [zZb (by simpa using hc6)]
    rw [zZb a2, hkr]
    simp only
    unfold Eng.req
    rw [zZa a3, zZa (by rw [hws]; decide), hts]
    simp only
    rw [zZa h1, zZb h7]
   rw [he]
   exact ⟨rfl, _, (a0.trans h8), (i2.drop (.cons _ (zZd _)))⟩
   refine aB ?_
   refine df (mB _ _) ?_
   refine dl (bM _) a1 0 ?_
   refine gH ?_
   simp only [pq]
   refine dy ?_
   refine wlK b6 ?_
   refine aF ?_
   refine aE fun cb b7 => ?_
   cases hkp : Eng.keptB g.synced t.start with
   | true =>
    refine aP a7 11 [] (by kernel_rfl) (by kernel_rfl) ?_
    simp only [dA]
    refine gm ?_
    refine gi ?_
    simp only [pq]
    refine gf (gU _ _) ?_
    refine gl bM a1 1 ?_
    refine gm ?_
    simp only [pq]
    refine gi ?_
    refine gf (eN _ _) ?_
    refine gv _ (fun _ c5 => aD rfl (aQ (eQ _) (St.cell (St.tells a1 c5) (i := 1) rfl ((eV hs8).trans (congrArg some a5))))) ?_
    simp only [pq]
    refine gi ?_
    refine gf (mA _ _) ?_
    refine gv _ (fun _ c5 => aD rfl (aQ (bM _) (St.fz (St.tells a1 c5) (Le.cell a0 g1)))) ?_
    simp only [pq]
    refine bU ?_
    intro ce i3 i4
    clear i4
    have o6 := St.tells a1 i3
    simp only [dB]
    refine aJ (v := bT) o6 rfl (fn2 (YU _ _)) (IJ _ g.synced t.start (by omega) htok.start.1 htok.start.2 hkp) (fun cg i5 => ?_)
    simp only [pq]
    refine dt ?_
    refine dy ?_
    refine wlK b7 ?_
    refine aF ?_
    refine aB ?_
    iterate 3 refine dx ?_
    simp only [pq]
    refine dR i5 0 Tryz.underlying27 (bG) ?_
    simp only [pq]
    have o7 := St.perm i5 (List.perm_middle (l₁ := [_]))
    have i6 : EngM _ _ _ _ n g _ := ⟨_, _, _, _, _, _, _, _, _, _, _, o7, (hd.mono a0), (eG ht a0)⟩
    refine doC rfl (fn4 (Hj _ _)) (Bc _ _ _ _ _ _ _ s hs8 _ t k r i6 hh hT hg hm hts ⟨_, _, _, _, rfl, l6, l7, l8, l9⟩ ok ⟨by omega, by omega, by omega⟩ hq) ?_
    rintro _ ch ⟨rfl, ci, i7, i8⟩
    refine ⟨_, rfl, ?_⟩
    obtain ⟨u6, u7, u8, u9, v0, v1, v2, v3, v4, v5, v6, o8, i9, j0⟩ := i8
    refine aG ?_
    try simp only [xt]
    refine bE (iV rfl) ?_
    have j1 : EngM _ _ _ _ n (g.work s t k r) _ := ⟨_, _, _, _, _, _, _, _, _, _, _, o8, i9, j0⟩
    have he : g.ask s b = (g.work s t k r) := by
     unfold Eng.ask
     rw [zZb (by simpa using hc6)]
     rw [zZb a2, hkr]
     simp only
     unfold Eng.req
     rw [zZa a3, zZa (by rw [hws]; decide), hts]
     simp only
     rw [zZa h1, zZa h7, zZb hkp]
    rw [he]
    exact ⟨rfl, _, (a0.trans i7), (j1.drop (.cons _ (zZd _)))⟩
   | false =>
    refine aP a7 11 [] (by kernel_rfl) (by kernel_rfl) ?_
    simp only [dA]
    refine gm ?_
    refine gi ?_
    refine gf (gU _ _) ?_
    simp only [pq]
    refine gl bM a1 1 ?_
    refine gm ?_
    refine gi ?_
    simp only [pq]
    refine hY rfl rfl (pP n (6 + s * 2)) (fun cj b3 => aM (ef (eN _ _))) ?_
    refine gv _ (fun _ b3 => aD rfl (aQ (eQ _) (St.cell (St.tells a1 b3) (i := 1) rfl ((eV hs8).trans (congrArg some a5))))) ?_
    refine gi ?_
    refine gf (mA _ _) ?_
    simp only [pq]
    refine gv _ (fun _ b3 => aD rfl (aQ (bM _) (St.fz (St.tells a1 b3) (Le.cell a0 g1)))) ?_
    refine bU ?_
    intro ck j2 j3
    clear j3
    have o9 := St.tells a1 j2
    simp only [dB]
    refine aJ (v := bF) o9 rfl (fn2 (YU _ _)) (IJ _ g.synced t.start (by omega) htok.start.1 htok.start.2 hkp) (fun cl p0 => ?_)
    simp only [pq]
    refine dt ?_
    refine dy ?_
    refine wlK b7 ?_
    refine aI ?_
    refine sk fun cm j4 => ?_
    refine dx ?_
    refine di ?_
    refine df (eN _ _) ?_
    simp only [pq]
    refine fZ (i := 1) (v := (.pointer none)) p0 rfl rfl rfl rfl (oT) (mL rfl) (by rw [mF]; simp only [Value.cells]; exact Nat.le_of_lt_succ (by simp only [List.size_toArray, zZg, zZj]; omega)) (fun p1 b4 => ?_)
    simp only [pq]
    have b4 : St w0 F0 p1 a7 (⟨k9, [(nI k), (.slice c6 r.name.length c7), (.slice c8 r.key.length c9), (.slice d0 r.last.length d1), (.slice d2 r.value.length d3)], 27⟩ :: ⟨n, cK (mY g.up (.slice ad g.tape.data.length cd) g.tape.synced (.slice ac g.commits.length cc) (.slice af g.forests.length cf) g.synced pv g.waits (.slice aw g.waiting.length cw) (.slice ar g.replies.length cr)) (6 + s * 2) [(.pointer none)], 115⟩ :: L) (pQ w0.heap.size (.slice ac g.commits.length cc) g.commits (.slice af g.forests.length cf) g.forests (.slice aw g.waiting.length cw) g.waiting (.slice ar g.replies.length cr) g.replies) := b4
    rw [pO hs8] at b4
    refine wn j4 ?_
    have j5 := sQ (x := .pointer none) (t := none) (eG ht a0) rfl s
    refine aB ?_
    iterate 2 refine dx ?_
    simp only [pq]
    have p2 := St.perm b4 (List.perm_middle (l₁ := [_]))
    have j6 : EngM _ _ _ _ n (g.setTxn s none) _ := ⟨_, _, _, _, _, _, _, _, _, _, _, p2, (hd.mono a0), j5⟩
    refine doC rfl (fn3 (mD _ _)) (iF _ _ _ _ _ _ _ s 10 j6 hq) ?_
    rintro _ cn ⟨rfl, co, j7, j8⟩
    refine ⟨_, rfl, ?_⟩
    obtain ⟨v7, v8, v9, w1, w2, w3, w4, w5, w6, w7, w8, p3, j9, k0⟩ := j8
    refine aG ?_
    try simp only [xt]
    refine bE (iV rfl) ?_
    have k1 : EngM _ _ _ _ n ((g.setTxn s none).reply (fQ s 10)) _ := ⟨_, _, _, _, _, _, _, _, _, _, _, p3, j9, k0⟩
    have he : g.ask s b = ((g.setTxn s none).reply (fQ s 10)) := by
     unfold Eng.ask
     rw [zZb (by simpa using hc6)]
     rw [zZb a2, hkr]
     simp only
     unfold Eng.req
     rw [zZa a3, zZa (by rw [hws]; decide), hts]
     simp only
     rw [zZa h1, zZa h7, zZa (by rw [hkp]; decide)]
    rw [he]
    exact ⟨rfl, _, (a0.trans j7), (k1.drop (.cons _ (zZd _)))⟩
 refine mQ ?_
 refine wn d4 ?_
 refine aI ?_
 refine sk fun cp k2 => ?_
 iterate 3 refine dx ?_
 simp only [pq]
 have p4 := St.perm a4 (List.perm_middle (l₁ := [_]))
 have k3 : EngM _ _ _ _ n g _ := ⟨_, _, _, _, _, _, _, _, _, _, _, p4, (hd.mono a0), (eG ht a0)⟩
 refine doC rfl (fn3 (mD _ _)) (iF _ _ _ _ _ _ _ s (wdE b) k3 hq) ?_
 rintro _ cq ⟨rfl, cs, k4, k5⟩
 refine ⟨_, rfl, ?_⟩
 obtain ⟨x0, x1, x2, x3, x4, x5, x6, x7, x8, x9, y0, p5, k6, k7⟩ := k5
 refine wn k2 ?_
 refine aO ?_
 try simp only [xt]
 refine bR (iV rfl) ?_
 have k8 : EngM _ _ _ _ n (g.reply (fQ s (wdE b))) _ := ⟨_, _, _, _, _, _, _, _, _, _, _, p5, k6, k7⟩
 have he : g.ask s b = (g.reply (fQ s (wdE b))) := by
  unfold Eng.ask
  rw [zZb (by simpa using hc6)]
  rw [zZa a2]
 rw [he]
 exact ⟨rfl, _, (a0.trans k4), (k8.drop (.cons _ (zZd _)))⟩
theorem St.permR {w0 w : World} {F0 F : Fz} {L : List Blk} {M M' : List RowP} (S : St w0 F0 w F L M) (h : M.Perm M') : St w0 F0 w F L M' := ⟨S.gr, S.blk, fun r hr => S.row r (h.mem_iff.2 hr), S.bb, fun r hr => S.rb r (h.mem_iff.2 hr), (h.pairwise_iff (fun hne g hs hr => hne g hr hs)).1 S.rr⟩
theorem St.nilW {w0 w : World} {F0 F : Fz} {L : List Blk} {b : Nat} {vc vf vw vr : Value} {cs : List Cm} {fs : List aW} {ws : List Nat} {rs : List Rep} (S : St w0 F0 w F L (pQ b vc cs vf fs vw ws vr rs)) : St w0 F0 w F L (pQ b vc cs vf fs (.slice none 0 0) [] vr rs) := by
 have S1 := (S.dropRow (.cons_cons _ (.cons_cons _ (.cons _ (zZd _))))).addNil 1 NtC NtC.mono 3 b
 exact S1.permR ((List.perm_middle (l₁ := [_, _])).symm)
theorem XA (l : List Nat) (s : Nat) (g : Eng) : Eng.told (l ++ [s]) g = { Eng.told l g with synced := (Eng.told l g).synced + 1, waits := qM (Eng.told l g).waits s false, replies := (Eng.told l g).replies ++ [BJ s (((Eng.told l g).synced + 1 : Nat) : Int)] } := by
 induction l generalizing g with
 | nil => rfl
 | cons x l ih => rw [List.cons_append, Eng.told, ih]; rfl
theorem Bd (w0 : World) (F0 : Fz) (w : World) (F : Fz) (n : Nat) (g : Eng) (L : List Blk) {m : Nat} (hM : EngM w0 F0 w F n g L) (hg : EngOk m g) (hm : m ≤ 149) (hq : g.replies.length + g.waiting.length ≤ 100000) :
    Calls Tryz.prog 69 #[.pointer (some ⟨n, 0, none⟩)] w (wV w0 F0 F n g.sync L) := by
 obtain ⟨ad, cd, ac, cc, af, cf, aw, cw, ar, cr, pv, S, hd, ht⟩ := hM
 have hsy := hg.sync
 have hmy := hg.many
 have htl : g.tape.data.length ≤ 90000 := by have := sM hg.hist.ok; rw [hg.data]; omega
 have hts2 := hg.syn
 go_enter Tryz.func69, Tryz.ntmps69
 refine aE fun K4 hK4 => ?_
 refine sk fun K5 hK5 => ?_
 refine dx ?_
 refine di ?_
 refine df (qY _ _) ?_
 simp only [pq]
 refine dl (iJ _) S 0 ?_
 refine dr (.bool (!g.up)) (qI rfl rfl) ?_
 refine wn hK5 ?_
 refine wp_cond_split rfl (fun hc6 => ?_) (fun hc6 => ?_)
 refine aO ?_
 try simp only [xt]
 refine bR (iV rfl) ?_
 have he : g.sync = g := by unfold Eng.sync; rw [zZa (by simpa using hc6)]
 rw [he]
 exact ⟨rfl, _, Le.refl _, ⟨_, _, _, _, _, _, _, _, _, _, _, S, hd, ht⟩⟩
 refine aH ?_
 refine hK4 _ _ ?_
 refine sk fun K7 hK7 => ?_
 iterate 2 refine dx ?_
 refine di ?_
 simp only [pq]
 refine df (qZ _ _) ?_
 refine dr _ (aD rfl (cV Tryz.underlying108 rfl (cD) (St.range S (i := 0) rfl 1 [(.slice ad g.tape.data.length cd), (nI g.tape.synced)] (dI 1 rfl)))) ?_
 refine aR S rfl (fn1 (Hk _ _)) (WQ _ _ _ g.tape (S).sat ⟨_, _, rfl, hd⟩ ⟨by omega, hts2⟩) ?_
 intro d9 w8 c3 S9 a3 c5
 obtain ⟨_, rfl, c6⟩ := c5
 obtain ⟨a1, a2, rfl, b0⟩ := c6
 have b0 : Bs _ (.slice a1 g.tape.data.length a2) g.tape.data := b0
 refine dx ?_
 iterate 2 refine de ?_
 simp only [pq]
 refine di ?_
 refine df (qZ _ _) ?_
 refine sW 0 S9 (cD) fun e0 c4 => ?_
 simp only [pq]
 refine wn hK7 ?_
 refine aE fun e1 b1 => ?_
 refine sk fun e2 b2 => ?_
 refine dx ?_
 refine di ?_
 refine df (tU _ _) ?_
 simp only [pq]
 refine dl (JE _) c4 0 ?_
 refine dn Tryz.underlying60 ?_
 refine dx ?_
 simp only [pq]
 refine wn b2 ?_
 refine aN ?_
 refine aX (fun mm aa c7 => ∃ (i : Nat) (sy : Nat) (wf : Nat → Bool) (ar2 : Option Addr) (cr2 : Nat) (rs : List Rep) (a4 : Fz) (a8 : Nat → Value), mm = g.waiting.length - i ∧ a8 = dX aa ∧ aa = ⟨([(pP n 0), undef, undef, (a8 3), (pP n 0), (pP n 0), (pP n 0), (.bool g.up), (.bool (!g.up)), (.tuple #[(.agg #[(.slice a1 g.tape.data.length a2), (nI g.tape.data.length)]), (iI 0)]), (pP n 0), (pP n 0), (pP n 0), (pP n 1), (.agg #[(.slice ad g.tape.data.length cd), (nI g.tape.synced)]), (.tuple #[(.agg #[(.slice a1 g.tape.data.length a2), (nI g.tape.data.length)]), (iI 0)]), (.agg #[(.slice a1 g.tape.data.length a2), (nI g.tape.data.length)]), (iI 0), (pP n 0), (pP n 1), (pP n 0), (pP n 0), (pP n 22), (.slice aw g.waiting.length cw), (nI g.waiting.length), (nI i)] ++ (usF a8 26 25 [undef, undef, undef])).toArray, []⟩ ∧ St w0 F0 c7 a4 (⟨n, mY g.up (.slice a1 g.tape.data.length a2) g.tape.data.length (.slice ac g.commits.length cc) (.slice af g.forests.length cf) sy pv wf (.slice aw g.waiting.length cw) (.slice ar2 rs.length cr2), 115⟩ :: L) (pQ w0.heap.size (.slice ac g.commits.length cc) g.commits (.slice af g.forests.length cf) g.forests (.slice aw g.waiting.length cw) g.waiting (.slice ar2 rs.length cr2) rs) ∧ Le c3 a4 ∧ (i ≤ g.waiting.length) ∧ (Eng.told (g.waiting.take i) ({ g with tape := ⟨g.tape.data, g.tape.data.length⟩ } : Eng) = { ({ g with tape := ⟨g.tape.data, g.tape.data.length⟩ } : Eng) with synced := sy, waits := wf, replies := rs }) ∧ (rs.length + g.waiting.length ≤ 100000 + i) ∧ (sy = g.synced + i)) _ ⟨0, g.synced, g.waits, ar, cr, g.replies, c3, _, rfl, rfl, rfl, c4, Le.refl _, (by omega), rfl, (by omega), (by omega)⟩ ?_
 rintro e3 e4 e5 ⟨i, sy, wf, ar2, cr2, rs, a4, a8, rfl, -, hfr, a9, a0, hi, hin, hrs, hse⟩ e6 b3
 simp only [uzF, Nat.reduceAdd] at hfr; subst hfr
 refine sk fun e7 a5 => ?_
 by_cases a6 : i < g.waiting.length
 refine eS ?_
 refine wn a5 ?_
 refine aE fun e8 b4 => ?_
 refine aI ?_
 refine aH ?_
 refine b4 _ _ ?_
 refine aE fun e9 b5 => ?_
 refine aN ?_
 refine aE fun f0 b6 => ?_
 obtain ⟨x, hx⟩ : ∃ x, g.waiting[i]? = some x := ⟨g.waiting[i], zZc a6⟩
 have hx8 := hg.who x (zZi hx)
 obtain ⟨c8, b7, c9⟩ := Ja (a9.own (i := 2) rfl) hx
 refine aB ?_
 refine dr (pP c8 (0 + i * 1)) (bN (i := i) (sz := 1) Tryz.underlying60 (fI _) rfl b7 rfl (a6) rfl) ?_
 refine dr _ (aD rfl (aQ (bM _) c9)) ?_
 refine dy ?_
 simp only [pq]
 refine wlK b6 ?_
 refine sk fun f1 b9 => ?_
 refine dx ?_
 refine di ?_
 refine df (gU _ _) ?_
 simp only [pq]
 refine dl (bM _) a9 0 ?_
 refine cR (sy + 1) ?_
 refine di ?_
 simp only [pq]
 refine df (gU _ _) ?_
 refine sW 0 a9 (qK) fun d0 c0 => ?_
 simp only [pq]
 have c0 : St w0 F0 d0 a4 (⟨n, mY g.up (.slice a1 g.tape.data.length a2) g.tape.data.length (.slice ac g.commits.length cc) (.slice af g.forests.length cf) (sy + 1) pv wf (.slice aw g.waiting.length cw) (.slice ar2 rs.length cr2), 115⟩ :: L) (pQ w0.heap.size (.slice ac g.commits.length cc) g.commits (.slice af g.forests.length cf) g.forests (.slice aw g.waiting.length cw) g.waiting (.slice ar2 rs.length cr2) rs) := c0
 refine wn b9 ?_
 refine sk fun f2 c1 => ?_
 iterate 2 refine dx ?_
 refine di ?_
 simp only [pq]
 refine df (yC _ _) ?_
 refine dr (pP n (6 + x * 2)) (Aw (i := x) Tryz.underlying113 (DU _) rfl rfl (hx8)) ?_
 refine df (oU _ _) ?_
 simp only [pq]
 refine fZ (i := 0) (v := bF) c0 rfl rfl rfl rfl (tP) (mL rfl) (by rw [mF]; simp only [Value.cells]; exact Nat.le_of_lt_succ (by simp only [List.size_toArray, zZg, zZj]; omega)) (fun d1 a7 => ?_)
 simp only [pq]
 have a7 : St w0 F0 d1 a4 (⟨n, cK (mY g.up (.slice a1 g.tape.data.length a2) g.tape.data.length (.slice ac g.commits.length cc) (.slice af g.forests.length cf) (sy + 1) pv wf (.slice aw g.waiting.length cw) (.slice ar2 rs.length cr2)) (6 + x * 2 + 1) [bF], 115⟩ :: L) (pQ w0.heap.size (.slice ac g.commits.length cc) g.commits (.slice af g.forests.length cf) g.forests (.slice aw g.waiting.length cw) g.waiting (.slice ar2 rs.length cr2) rs) := a7
 rw [FD hx8] at a7
 refine wn c1 ?_
 refine aB ?_
 iterate 3 refine dx ?_
 simp only [pq]
 refine di ?_
 refine df (gU _ _) ?_
 refine dl (bM _) a7 0 ?_
 simp only [pq]
 refine dr (.agg #[(nI x), (iI 0), (nI (sy + 1)), bF, Zn, Zn, Zn, bF, Zn, Zn, Zn, bF, Zn, Zn, Zn]) (aK (fD rfl rfl) (by kernel_rfl)) ?_
 refine doC rfl (fn2 (qL _ _)) (OK _ _ _ _ _ _ _ _ _ _ _ _ _ _ _ _ _ _ _ _ _ _ (BJ x ((sy + 1 : Nat) : Int)) a7 (RpV.turn _ x ((sy + 1 : Nat) : Int)) (by omega)) ?_
 rintro _ f3 ⟨rfl, d2, d3, d4, c2, d5⟩
 refine ⟨_, rfl, ?_⟩
 refine wlK b5 ?_
 refine aB ?_
 refine cR (i + 1) ?_
 refine dx ?_
 simp only [pq]
 refine aG ?_
 exact b3 _ _ _ (by omega) ⟨(i + 1), (sy + 1), (qM wf x false), d3, d4, (rs ++ [BJ x ((sy + 1 : Nat) : Int)]), d2, _, rfl, rfl, rfl, d5, (a0.trans c2), (by omega), (by rw [fB hx, XA, hin]), (by rw [zZf]; simp only [List.length_singleton]; omega), (by omega)⟩
 refine eM ?_
 refine wn a5 ?_
 refine aE fun f4 d6 => ?_
 refine aF ?_
 refine cP ?_
 refine b1 _ _ ?_
 have hall : g.waiting.take i = g.waiting := List.take_of_length_le (by omega)
 rw [hall] at hin
 refine aB ?_
 refine dx ?_
 refine di ?_
 refine df (tU _ _) ?_
 simp only [pq]
 refine sW 0 a9 (BR) fun f5 d7 => ?_
 refine aG ?_
 try simp only [xt]
 refine bE (iV rfl) ?_
 have d8 := St.nilW d7
 have he : g.sync = { ({ g with tape := ⟨g.tape.data, g.tape.data.length⟩ } : Eng) with synced := sy, waits := wf, replies := rs, waiting := [] } := by
  unfold Eng.sync
  rw [zZb (by simpa using hc6), hin]
 rw [he]
 exact ⟨rfl, _, (a3.trans a0), ⟨_, _, _, _, _, _, _, _, _, _, _, d8, (b0.mono a0), eG ht (a3.trans a0)⟩⟩
theorem Be : (Tryz.prog.info? 113).map (·.size) = some 16 := by kernel_rfl
theorem XB (F : Fz) (w : World) (v : Value) (t : Tp) (hs : Sat w F) (hT : Tabs w) (hv : TpV F v t) (ok : TpOk 100000 t) :
    Calls Tryz.prog 84 #[v] w fun e w' => ∃ v a c F', e = .returned (.tuple #[v, .agg #[.slice a (t.data.take (iT t.data).2).length c, .int .i64 ((min t.synced (iT t.data).2 : Nat))], .int .i64 0]) ∧ Gr w F w' F' ∧ Own 2 CmC 168 w.heap.size w' F' v (iT t.data).1 ∧ Bs F' (.slice a (t.data.take (iT t.data).2).length c) (t.data.take (iT t.data).2) :=
  (GF F w v t hs hT hv ok).mono fun e w' ⟨v, a, c, F', he, g, ho, hb⟩ => by
    have hl := congrArg (fun z => Value.slice a z c) hb.len
    exact ⟨v, a, c, F', he.trans (by rw [hl]), g, ho, hl ▸ hb⟩
theorem St.setRow {w0 w : World} {F0 F : Fz} {L : List Blk} {M : List RowP} (S : St w0 F0 w F L M) {i : Nat} {r r' : RowP} (h : M[i]? = some r) (ho : r'.ob = r.ob) (hh : r'.holds w F) : St w0 F0 w F L (M.set i r') := by
 obtain ⟨hi, he⟩ := List.getElem?_eq_some_iff.1 h
 have hm : r ∈ M := by rw [← he]; exact List.getElem_mem hi
 have hmem : ∀ x ∈ M.set i r', x = r' ∨ x ∈ M := fun x hx => by
  rcases List.mem_or_eq_of_mem_set hx with h | h
  exact .inr h
  exact .inl h
 refine ⟨S.gr, S.blk, fun x hx => ?_, S.bb, fun x hx y hy => ?_, qU S.rr fun k hk hki g hg hc => ?_⟩
 rcases hmem x hx with rfl | hx
 exact ⟨hh, fun g hg => (S.row r hm).2 g (by rw [← ho]; exact hg)⟩
 exact S.row x hx
 rcases hmem x hx with rfl | hx
 rw [ho]; exact S.rb r hm y hy
 exact S.rb x hx y hy
 rw [ho] at hg
 have hp := List.pairwise_iff_getElem.1 S.rr
 rcases Nat.lt_or_gt_of_ne hki with h1 | h1
 have := hp k i hk hi h1 g hc; rw [he] at this; exact this hg
 have := hp i k hi hk h1 g (by rw [he]; exact hg); exact this hc
theorem wA {α : Type} {k : Nat} : ∀ {el : List (List α)} (m : Nat), (∀ x ∈ el, x.length = k) → (el.take m).flatten = el.flatten.take (m * k)
  | [], m, _ => by simp
  | x :: el, 0, _ => by simp
  | x :: el, m + 1, h => by
    have hx := h x (by simp)
    simp only [List.take_succ_cons, List.flatten_cons]
    rw [wA m (fun y hy => h y (by simp [hy])), Nat.add_mul, Nat.one_mul, List.take_append, hx, show m * k + k - k = m * k from by omega, List.take_of_length_le (show x.length ≤ m * k + k by omega)]
theorem Own.takeN {α : Type} {k E base : Nat} {R : Fz → List Value → α → Prop} {w : World} {F : Fz} {a : Option Addr} {n c m : Nat} {l : List α} (h : Own k R E base w F (.slice a n c) l) (hm : m ≤ l.length) : Own k R E base w F (.slice a m c) (l.take m) := by
 obtain ⟨⟨el, ⟨e1, e2⟩, h2, h3⟩, h4⟩ := h
 have hll := h2.len
 have hlm : (l.take m).length = m := by rw [zZh]; omega
 refine ⟨⟨el.take m, ⟨?_, ?_⟩, h2.take m, fun x hx => h3 x (List.mem_of_mem_take hx)⟩, fun g hg => ?_⟩
 rw [fV (fun x hx => h3 x (List.mem_of_mem_take hx)), zZh, hlm, Nat.min_eq_left (by omega)]
 rcases e2 with ⟨e2, e3⟩ | ⟨b, cap, cur, e2, q1, q2, q3, q4, q5, q6⟩
 left
 cases e2
 obtain rfl : m = 0 := by omega
 exact ⟨rfl, by simp⟩
 right
 cases e2
 refine ⟨b, c, cur, by rw [hlm], q1, q2, by omega, q4, q5, ?_⟩
 rw [wA m h3, ← q6, List.take_take, hlm, Nat.min_eq_left (Nat.mul_le_mul_right k hm)]
 cases a with
 | none => cases hg
 | some a => exact h4 g hg
theorem St.takeF {w0 w : World} {F0 F : Fz} {L : List Blk} {b : Nat} {vc vw vr : Value} {cs : List Cm} {fs : List aW} {ws : List Nat} {rs : List Rep} {a : Option Addr} {n c m k : Nat} (S : St w0 F0 w F L (pQ b vc cs (.slice a n c) fs vw ws vr rs)) (hm : m ≤ fs.length) (hk : k = m) : St w0 F0 w F L (pQ b vc cs (.slice a k c) (fs.take m) vw ws vr rs) := by
 subst hk
 have := S.setRow (i := 1) (r' := cU 1 FoC FoC.mono 24 b (.slice a k c) (fs.take k)) rfl (by cases a <;> rfl) ((S.own (i := 1) rfl).takeN hm)
 exact this
theorem Fc {m : Nat} {g : Eng} (h : EngOk m g) (k : Nat) : (iT (g.tape.data.take (cO g.tape k))).1.length ≤ g.commits.length := by
 rw [h.data, NX h.hist (by rw [← h.data]; exact (vO h.syn k).2), zZh]
 exact Nat.min_le_right _ _
theorem XC (w0 : World) (F0 : Fz) (w : World) (F : Fz) (n : Nat) (g : Eng) (L : List Blk) {m : Nat} (k : Nat) (hM : EngM w0 F0 w F n g L) (hT : Tabs w0) (hg : EngOk m g) (hm : m ≤ 149) (hk : k ≤ 100000) :
    Calls Tryz.prog 70 #[.pointer (some ⟨n, 0, none⟩), .int .i64 ((k : Nat) : Int)] w (wV w0 F0 F n (g.crash k) L) := by
 obtain ⟨ad, cd, ac, cc, af, cf, aw, cw, ar, cr, pv, S, hd, ht⟩ := hM
 have hsy := hg.sync
 have hmy := hg.many
 have hst := hg.states
 have htl : g.tape.data.length ≤ 90000 := by have := sM hg.hist.ok; rw [hg.data]; omega
 have hts2 := hg.syn
 have hxl := Fc hg k
 have hcn := vO hg.syn k
 go_enter Tryz.func70, Tryz.ntmps70
 refine aE fun K4 hK4 => ?_
 refine sk fun K5 hK5 => ?_
 refine dx ?_
 refine di ?_
 refine df (qY _ _) ?_
 simp only [pq]
 refine dl (iJ _) S 0 ?_
 refine dr (.bool (!g.up)) (qI rfl rfl) ?_
 refine wn hK5 ?_
 refine wp_cond_split rfl (fun hc6 => ?_) (fun hc6 => ?_)
 refine aO ?_
 try simp only [xt]
 refine bR (iV rfl) ?_
 have he : g.crash k = g := by unfold Eng.crash; rw [zZa (by simpa using hc6)]
 rw [he]
 exact ⟨rfl, _, Le.refl _, ⟨_, _, _, _, _, _, _, _, _, _, _, S, hd, ht⟩⟩
 refine aH ?_
 refine hK4 _ _ ?_
 refine sk fun K7 hK7 => ?_
 refine dx ?_
 refine di ?_
 refine df (qZ _ _) ?_
 simp only [pq]
 refine dr _ (aD rfl (cV Tryz.underlying108 rfl (cD) (St.range S (i := 0) rfl 1 [(.slice ad g.tape.data.length cd), (nI g.tape.synced)] (dI 1 rfl)))) ?_
 refine dx ?_
 refine aR S rfl (fn2 (Hl _ _)) (RI _ _ _ g.tape k (S).sat ⟨_, _, rfl, hd⟩ ⟨by omega, hts2⟩ hk) ?_
 intro d8 w8 d9 S9 a5 c4
 obtain ⟨_, rfl, c5⟩ := c4
 obtain ⟨b5, b6, rfl, a6⟩ := c5
 have a6 : Bs _ (.slice b5 (g.tape.data.take (cO g.tape k)).length b6) (g.tape.data.take (cO g.tape k)) := a6
 refine dx ?_
 iterate 2 refine de ?_
 simp only [pq]
 refine sA S9 (jT _) fun c6 e0 c7 => ?_
 refine sW 0 c7 (cD) fun e1 a1 => ?_
 refine dy ?_
 simp only [pq]
 refine wn hK7 ?_
 refine sk fun e2 a7 => ?_
 iterate 2 refine dx ?_
 refine dR a1 0 Tryz.underlying108 (cD) ?_
 simp only [pq]
 refine doC rfl (fn1 (Hm _ _)) (XB _ _ _ (⟨(g.tape.data.take (cO g.tape k)), cO g.tape k⟩ : Tp) (a1).sat (hT.at a1.gr.below) ⟨_, _, rfl, a6⟩ ⟨by simp only [zZh]; omega, by simp only [zZh]; omega⟩) ?_
 rintro _ e3 ⟨e4, b7, b9, c0, rfl, c1, a8, a0⟩
 refine ⟨_, rfl, ?_⟩
 have a9 := c1.le a1.sat
 have c2 := (a1.addRow (hR := CmC.mono) c1 a8).dropRow (.cons_cons _ (.cons _ (zZd _)))
 have a0 : Bs _ (.slice b7 ((g.tape.data.take (cO g.tape k)).take (iT (g.tape.data.take (cO g.tape k))).2).length b9) ((g.tape.data.take (cO g.tape k)).take (iT (g.tape.data.take (cO g.tape k))).2) := a0
 simp only [pq]
 obtain ⟨c8, a2, rfl, e5, c9⟩ := (c2.own (i := 0) rfl).shape
 unfold maxLen at c9
 refine dx ?_
 iterate 2 refine de ?_
 simp only [pq]
 refine de ?_
 refine di ?_
 refine df (iB _ _) ?_
 simp only [pq]
 refine sW 1 c2 (DO) fun e6 d0 => ?_
 refine di ?_
 refine df (qZ _ _) ?_
 simp only [pq]
 refine sW 1 d0 (cD) fun e7 a3 => ?_
 refine wn a7 ?_
 refine aE fun e8 b0 => ?_
 have hcf : g.forests.length ≤ cf := by have := (a3.own (i := 1) rfl).shape; obtain ⟨_, _, e, q, _⟩ := this; simp only [Value.slice.injEq] at e; omega
 refine aP c0 12 [] (by kernel_rfl) (by kernel_rfl) ?_
 simp only [dA]
 iterate 2 refine gm ?_
 simp only [pq]
 refine gi ?_
 refine gf (nF _ _) ?_
 refine gl oS a3 1 ?_
 simp only [pq]
 refine gm ?_
 refine gi ?_
 refine gf (iB _ _) ?_
 simp only [pq]
 refine gl jD a3 1 ?_
 refine gv (.int .i64 (((iT (g.tape.data.take (cO g.tape k))).1.length : Nat) : Int)) (fun _ _ => oO Tryz.underlying109 rfl) ?_
 refine gv (.int .i64 ((((iT (g.tape.data.take (cO g.tape k))).1.length + 1) : Nat) : Int)) (fun _ _ => gG (m := (((iT (g.tape.data.take (cO g.tape k))).1.length : Nat) : Int)) (n := (1 : Int)) (r := ((((iT (g.tape.data.take (cO g.tape k))).1.length + 1) : Nat) : Int)) rfl rfl (by omega) (by omega) (by omega)) ?_
 simp only [pq]
 refine gv (.slice af ((iT (g.tape.data.take (cO g.tape k))).1.length + 1) cf) (fun _ _ => bD (l := 0) (h := ((iT (g.tape.data.take (cO g.tape k))).1.length + 1)) (sz := 1) Tryz.underlying106 rfl (oE _) (.inl ⟨rfl, rfl⟩) (.inr ⟨_, rfl, rfl⟩) (by omega) (by omega) (eZ)) ?_
 refine bU ?_
 intro e9 b1 b2
 clear b2
 have d1 := St.tells a3 b1
 simp only [dB]
 refine di ?_
 refine df (nF _ _) ?_
 simp only [pq]
 refine sW 1 d1 (DN) fun f0 d2 => ?_
 simp only [pq]
 have c3 := St.takeF (m := (iT (g.tape.data.take (cO g.tape k))).1.length + 1) d2 (by omega) rfl
 refine wlK b0 ?_
 refine sk fun f1 b3 => ?_
 iterate 2 refine dx ?_
 refine di ?_
 simp only [pq]
 refine df (iB _ _) ?_
 refine dl (jD _) c3 1 ?_
 refine dn Tryz.underlying109 ?_
 simp only [pq]
 refine di ?_
 refine df (gU _ _) ?_
 refine sW 1 c3 (qK) fun f2 d3 => ?_
 simp only [pq]
 refine wn b3 ?_
 refine sk fun f3 b4 => ?_
 iterate 2 refine dx ?_
 refine di ?_
 simp only [pq]
 refine df (qY _ _) ?_
 refine sW 1 d3 (tP) fun f4 d4 => ?_
 refine di ?_
 refine df (tU _ _) ?_
 simp only [pq]
 refine sW 1 d4 (BR) fun f5 d5 => ?_
 refine wn b4 ?_
 refine aB ?_
 refine dx ?_
 refine dr (.agg #[(.pointer none), bF, (.pointer none), bF, (.pointer none), bF, (.pointer none), bF, (.pointer none), bF, (.pointer none), bF, (.pointer none), bF, (.pointer none), bF]) (aK (hU) (by kernel_rfl)) ?_
 refine di ?_
 simp only [pq]
 refine df (yC _ _) ?_
 refine fZ (i := 1) (v := (.agg #[(.pointer none), bF, (.pointer none), bF, (.pointer none), bF, (.pointer none), bF, (.pointer none), bF, (.pointer none), bF, (.pointer none), bF, (.pointer none), bF])) d5 rfl rfl rfl rfl (Be) (by simp only [Value.cells]; simp; refine ⟨rfl, rfl, rfl, rfl, rfl, rfl, rfl, rfl, rfl, rfl, rfl, rfl, rfl, rfl, rfl, rfl⟩) (Nat.le_of_ble_eq_true rfl) (fun f6 d6 => ?_)
 refine aG ?_
 try simp only [xt]
 refine bE (iV rfl) ?_
 have d7 := St.perm d6 (L' := (⟨n, mY false (.slice b7 ((g.tape.data.take (cO g.tape k)).take (iT (g.tape.data.take (cO g.tape k))).2).length b9) (min (cO g.tape k) (iT (g.tape.data.take (cO g.tape k))).2) (.slice c8 (iT (g.tape.data.take (cO g.tape k))).1.length a2) (.slice af ((iT (g.tape.data.take (cO g.tape k))).1.length + 1) cf) ((iT (g.tape.data.take (cO g.tape k))).1.length) (fun _ => Value.pointer none) (fun _ => false) (.slice none 0 0) (.slice ar g.replies.length cr), 115⟩ :: ⟨c6, [(.slice b5 (g.tape.data.take (cO g.tape k)).length b6), (.int .i64 ((cO g.tape k : Nat) : Int))], 108⟩ :: L)) (List.perm_middle (l₁ := [_]))
 have a4 := St.nilW d7
 have a4 := St.drop a4 (List.Sublist.cons_cons _ (.cons _ (zZd _)))
 have htl : ∀ i, i < 8 → TxB c0 ((fun _ => Value.pointer none) i) ((fun _ => (none : Option Tx)) i) := fun i hi => rfl
 have hfl : (g.forests.take ((iT (g.tape.data.take (cO g.tape k))).1.length + 1)).length = (iT (g.tape.data.take (cO g.tape k))).1.length + 1 := by rw [zZh]; omega
 have he : g.crash k = { g with up := false, tape := ⟨(g.tape.data.take (cO g.tape k)).take (iT (g.tape.data.take (cO g.tape k))).2, min (cO g.tape k) (iT (g.tape.data.take (cO g.tape k))).2⟩, commits := (iT (g.tape.data.take (cO g.tape k))).1, forests := g.forests.take ((iT (g.tape.data.take (cO g.tape k))).1.length + 1), synced := (iT (g.tape.data.take (cO g.tape k))).1.length, txn := fun _ => none, waits := fun _ => false, waiting := [] } := by
  unfold Eng.crash
  rw [zZb (by simpa using hc6)]
 have hfv := congrArg (fun z => Value.slice af z cf) hfl
 rw [he]
 rw [← hfv] at a4
 exact ⟨rfl, _, (a5.trans a9), ⟨_, _, _, _, _, _, _, _, _, _, _, a4, a0, htl⟩⟩
def Ac.kind : Ac → Nat
  | .ask _ _ => 1
  | .sync => 2
  | .crash _ => 3
  | .start => 4
def Ac.sess : Ac → Nat
  | .ask s _ => s
  | _ => 0
def Ac.keep : Ac → Nat
  | .crash k => k
  | _ => 0
def Ac.data : Ac → By
  | .ask _ b => b
  | _ => []
def isP : Ac → Bool
  | .ask _ b => wdE b == 0 && (wdR b).1 == 8
  | _ => false
def isK : Ac → Bool
  | .crash _ => true
  | _ => false
theorem Fd {a : Ac} (h : pL a) : WU (a.kind : Nat) (a.sess : Nat) (a.keep : Nat) a.data.length = 0 := by
 cases a with
 | ask s b =>
  obtain ⟨h1, h2⟩ := h
  simp only [Ac.kind, Ac.sess, Ac.keep, Ac.data]
  unfold WU
  rw [zZa (by omega), zZa (by omega), zZa (by omega), zZa (by omega)]
 | sync => rfl
 | crash k =>
  simp only [pL] at h
  simp only [Ac.kind, Ac.sess, Ac.keep, Ac.data]
  unfold WU
  rw [zZa (by omega), zZa (by omega), zZa (by simp), zZa (by simp)]
 | start => rfl
def Eng.room (g : Eng) : Nat := g.replies.length + g.waiting.length
theorem eC (g : Eng) (r : Rep) : (g.reply r).room = g.room + 1 := by unfold Eng.room Eng.reply; simp; omega
theorem iY (g : Eng) (s : Nat) (t : Option Tx) : (g.setTxn s t).room = g.room := rfl
theorem IK (g : Eng) (s : Nat) (t : Tx) (r : Rd) (y : Rep) : (g.note s t r y).room = g.room + 1 := by
 unfold Eng.note; split
 ·exact eC _ _
 ·rw [eC, iY]
theorem FG : ∀ (l : List Nat) (n : Nat), (wU l n).length = l.length
  | [], _ => rfl
  | _ :: l, n => by simp [wU, FG l]
theorem Bf (g : Eng) (s k : Nat) (r : Rq) : (g.req s k r).room = g.room + 1 := by
 unfold Eng.req
 split
 ·exact eC _ _
 split
 ·exact eC _ _
 split
 ·split
  ·rw [eC, iY]
  ·exact eC _ _
 split
 ·exact eC _ _
 split
 ·rw [eC, iY]
 split
 ·unfold Eng.work
  split
  ·unfold Eng.look
   simp only
   split
   ·exact eC _ _
   ·exact IK _ _ _ _ _
  split
  ·unfold Eng.scan
   split
   ·exact eC _ _
   ·exact IK _ _ _ _ _
  split
  ·unfold Eng.commit
   split
   ·rw [eC, iY]
   split
   ·exact eC _ _
   split
   ·rw [eC, iY]
   split
   ·rw [eC, iY]
   ·unfold Eng.stand Eng.room; simp; omega
  ·unfold Eng.put
   split
   ·exact eC _ _
   ·rw [eC, iY]
 ·rw [eC, iY]
theorem Bg (g : Eng) (a : Ac) : (g.act a).room ≤ g.room + 1 := by
 cases a with
 | ask s b =>
  unfold Eng.act Eng.ask
  simp only
  split
  ·split
   ·exact Nat.le_of_eq (Bf _ _ _ _)
   ·exact Nat.le_of_eq (eC _ _)
  ·exact Nat.le_of_eq (eC _ _)
 | sync =>
  show g.sync.room ≤ _
  cases hu : g.up with
  | false => unfold Eng.sync; rw [hu]; simp
  | true => rw [sP hu]; unfold Eng.room; simp [FG]
 | crash k =>
  show (g.crash k).room ≤ _
  unfold Eng.crash
  split
  ·unfold Eng.room; simp; omega
  ·omega
 | start => exact Nat.le_succ _
theorem OL : ∀ (l : List Ac) (g : Eng), (l.foldl Eng.act g).room ≤ g.room + l.length
  | [], g => by simp
  | a :: l, g => by
    rw [List.foldl_cons]
    have h1 := OL l (g.act a)
    have h2 := Bg g a
    simp; omega
theorem FH (l : List Ac) : (dZ l).replies.length + (dZ l).waiting.length ≤ l.length := by
 have h : (dZ l).room ≤ 0 + l.length := OL l FC
 rw [Nat.zero_add] at h
 exact h
theorem OM (l : List Ac) (k : Nat) : fK (l.take k) ≤ fK l := by
 have e : fK l = fK (l.take k) + fK (l.drop k) := by unfold fK; rw [← List.sum_append, ← List.map_append, List.take_append_drop]
 omega
theorem XD {l : List Ac} {k : Nat} {a : Ac} (h : l[k]? = some a) : dZ (l.take (k + 1)) = (dZ (l.take k)).act a := by
 obtain ⟨hk, rfl⟩ := List.getElem?_eq_some_iff.1 h
 rw [List.take_succ_eq_append_getElem hk, lQ]; rfl
theorem ON {l : List Ac} (hl : fK l ≤ 149) (ha : ∀ a ∈ l, pL a) (k : Nat) : EngOk (fK (l.take k)) (dZ (l.take k)) ∧ fK (l.take k) ≤ 149 := by
 have := OM l k
 exact ⟨RR (by omega) (fun a h => ha a (List.mem_of_mem_take h)), by omega⟩
theorem GI (l : List Ac) (k : Nat) (h : l.length ≤ 100000) : (dZ (l.take k)).replies.length + (dZ (l.take k)).waiting.length ≤ 100000 := by
 have := FH (l.take k)
 rw [zZh] at this
 omega
end Go.Proofs.YtilgpdpooildcaaGreatDoor
