/- Rules, plain laws and walks: SV7 SV8 SV9 P16 SV10 SV11 P17 SV12 TW SV13 P20 SV14 SV15 -/
import Derived.Test.YtilgpdpooildcaaGreatDoorDB11
import Derived.Test.YtilgpdpooildcaaGreatDoorDB10
import Derived.Test.YtilgpdpooildcaaGreatDoorDB2
import Derived.Test.YtilgpdpooildcaaGreatDoorDB9
import Derived.Test.YtilgpdpooildcaaGreatDoorDB3
import Derived.Test.YtilgpdpooildcaaGreatDoorDB5
import Derived.Test.YtilgpdpooildcaaGreatDoorDB7
namespace Go.Proofs.YtilgpdpooildcaaGreatDoor
set_option maxHeartbeats 8000000
open Go.RowKit
set_option maxRecDepth 100000
set_option linter.unusedVariables false
set_option linter.unusedSimpArgs false
theorem DO (w : World) (n : Nat) (t : Int) (h1 : n ≤ 1000000) (h2 : 0 ≤ t) (h3 : t ≤ 1048576) {b : Bool} (h : Eng.keptB n t = b) : Calls Tryz.prog 80 #[.int .i64 ((n : Nat) : Int), .int .i64 t] w (cS w (.bool b)) := by
 subst h
 by_cases hk : 0 ≤ t ∧ t ≤ n ∧ (n : Int) - t < 6
 ·have e : Eng.keptB n t = true := by unfold Eng.keptB; simp [hk]
  rw [e]
  exact (UN n t w hk.1 hk.2.1 hk.2.2 (by omega)).mono fun e w' ⟨h, h'⟩ => by subst h'; exact ⟨h, Below.refl _ _⟩
 ·have e : Eng.keptB n t = false := by
   unfold Eng.keptB
   rw [← Bool.not_eq_true]
   simp only [Bool.and_eq_true, decide_eq_true_eq]
   intro h; exact hk ⟨h.1.1, h.1.2, h.2⟩
  rw [e]
  exact (YL n t w (by omega) (by omega) (by omega) (by omega) (by omega)).mono fun e w' ⟨h, h'⟩ => by subst h'; exact ⟨h, Below.refl _ _⟩
def uF : Prop := ∀ (w0 : World) (F0 : Fz) (w : World) (F : Fz) (n : Nat) (g : Eng) (L : List Blk) {m : Nat} (s : Nat) (u : Value) (r : Rq), EngM w0 F0 w F n g L → Tabs w0 → EngOk m g → AZ F u (8 : Nat) r.name r.key r.last r.value → RqOk 8 r → g.replies.length ≤ 100000 →
    Calls Tryz.prog 78 #[.pointer (some ⟨n, 0, none⟩), .int .i64 ((s : Nat) : Int), u] w (wC w0 F0 F n (g.prove s r) L)
theorem YM (w0 : World) (F0 : Fz) (w : World) (F : Fz) (n : Nat) (g : Eng) (L : List Blk) {m : Nat} (s : Nat) (hs8 : s < 8) (u : Value) (b : By) (hM : EngM w0 F0 w F n g L) (hh : Has w0) (hT : Tabs w0) (hg : EngOk m g) (hm : m ≤ 149) (hu : Bs F u b) (hP : wdE b = 0 → (wdR b).1 = 8 → uF) (hq : g.replies.length ≤ 100000) :
    Calls Tryz.prog 68 #[.pointer (some ⟨n, 0, none⟩), .int .i64 ((s : Nat) : Int), u] w (wC w0 F0 F n (g.ask s b) L) := by
 obtain ⟨da, dc, rfl, _⟩ := hu.shape
 have hd0 := hu
 obtain ⟨ad, cd, ac, cc, af, cf, aw, cw, ar, cr, pv, S, hd, ht⟩ := hM
 obtain ⟨⟨k, r⟩, hkr⟩ : ∃ p : Nat × Rq, wdR b = p := ⟨_, rfl⟩
 have hsy := hg.sync
 have hmy := hg.many
 go_enter Tryz.func68, Tryz.ntmps68
 refine aE fun K4 hK4 => ?_
 refine sk fun K5 hK5 => ?_
 refine dx ?_
 refine di ?_
 refine df (oT _ _) ?_
 simp only [pq]
 refine dl (gP _) S 0 ?_
 refine dr (.bool (!g.up)) (wM rfl rfl) ?_
 refine wn hK5 ?_
 refine wp_cond_split rfl (fun hc6 => ?_) (fun hc6 => ?_)
 refine sk fun K7 hK7 => ?_
 iterate 2 refine dx ?_
 simp only [pq]
 have hM8 : EngM _ _ _ _ n g _ := ⟨_, _, _, _, _, _, _, _, _, _, _, S, hd, ht⟩
 refine doC rfl (fn3 (kF _ _)) (gF _ _ _ _ _ _ _ s 13 hM8 hq) ?_
 rintro _ w9 ⟨rfl, ct, l0, l1⟩
 refine ⟨_, rfl, ?_⟩
 obtain ⟨y1, y2, y3, y4, y5, y6, y7, y8, y9, z0, z1, z2, l2, l3⟩ := l1
 refine wn hK7 ?_
 refine aN ?_
 try simp only [xt]
 refine bR (gY rfl) ?_
 have l4 : EngM _ _ _ _ n (g.reply (eZ s 13)) _ := ⟨_, _, _, _, _, _, _, _, _, _, _, z2, l2, l3⟩
 have he : g.ask s b = (g.reply (eZ s 13)) := by
  unfold Eng.ask
  rw [if_neg (by simpa using hc6)]
 rw [he]
 exact ⟨rfl, _, l0, l4⟩
 refine aH ?_
 refine hK4 _ _ ?_
 refine sk fun cu l5 => ?_
 refine dx ?_
 refine aY S rfl (fn1 (Af _ _)) (BA _ _ _ b (S).sat (hh.below S.gr.below) hd0 rfl hkr) ?_
 intro cv cx a7 z3 a0 z4
 obtain ⟨cy, rfl, z5⟩ := z4
 obtain ⟨cz, db, dd, dg, rfl, l6, l7, l8, l9⟩ := z5
 obtain ⟨c6, c7, rfl, _⟩ := l6.shape
 obtain ⟨c8, c9, rfl, _⟩ := l7.shape
 obtain ⟨d0, d1, rfl, _⟩ := l8.shape
 obtain ⟨d2, d3, rfl, _⟩ := l9.shape
 simp only [pq]
 refine dx ?_
 iterate 2 refine de ?_
 simp only [pq]
 refine sA z3 (EL _) fun k9 dh z6 => ?_
 refine sW 0 z6 (bM) fun dj a4 => ?_
 refine dy ?_
 simp only [pq]
 refine wn l5 ?_
 refine aE fun dk m0 => ?_
 refine sk fun dm d4 => ?_
 refine dx ?_
 simp only [pq]
 by_cases a2 : (wdE b) = (0 : Int)
 refine kU ?_
 refine wn d4 ?_
 refine aF ?_
 refine aH ?_
 refine m0 _ _ ?_
 refine aE fun dq m1 => ?_
 have ok : RqOk k r := by have := (JA a2).1; rwa [hkr] at this
 have hkk := ok.kind
 refine aB ?_
 iterate 2 refine dx ?_
 refine di ?_
 simp only [pq]
 refine df (vK _ _) ?_
 refine dr (pP n (6 + s * 2)) (UK (i := s) Tryz.underlying113 (zZ _) rfl rfl (hs8)) ?_
 refine dy ?_
 simp only [pq]
 refine wlK m1 ?_
 refine aM ?_
 refine sk fun ds d5 => ?_
 refine df (lF _ _) ?_
 refine dl (bL _) a4 0 ?_
 simp only [pq]
 by_cases a3 : k = 8
 refine jA ?_
 refine dy ?_
 refine wn d5 ?_
 refine aI ?_
 refine aB ?_
 iterate 2 refine dx ?_
 refine dR a4 0 Tryz.underlying27 (bM) ?_
 simp only [pq]
 have z7 := St.perm a4 (List.perm_middle (l₁ := [_]))
 have m2 : EngM _ _ _ _ n g _ := ⟨_, _, _, _, _, _, _, _, _, _, _, z7, (hd.mono a0), (dK ht a0)⟩
 refine doC rfl (cJ (vs := #[(pP n 0), (nI s), (.agg #[(nI k), (.slice c6 r.name.length c7), (.slice c8 r.key.length c9), (.slice d0 r.last.length d1), (.slice d2 r.value.length d3)])]) (GU rfl rfl rfl) rfl (Ag _ _)) ((hP a2 (by rw [hkr]; exact a3)) _ _ _ _ _ _ _ s _ r m2 hT hg ⟨_, _, _, _, (by rw [a3]), l6, l7, l8, l9⟩ (a3 ▸ ok) hq) ?_
 rintro _ du ⟨rfl, dv, m3, m4⟩
 refine ⟨_, rfl, ?_⟩
 obtain ⟨z8, z9, aa, ab, ae, ag, ah, ai, aj, ak, al, am, m5, m6⟩ := m4
 refine aG ?_
 try simp only [xt]
 refine bE (gY rfl) ?_
 have m7 : EngM _ _ _ _ n (g.prove s r) _ := ⟨_, _, _, _, _, _, _, _, _, _, _, am, m5, m6⟩
 have he : g.ask s b = (g.prove s r) := by
  unfold Eng.ask
  rw [if_pos (by simpa using hc6)]
  rw [if_pos a2, hkr]
  simp only
  unfold Eng.req
  rw [if_pos a3]
 rw [he]
 exact ⟨rfl, _, (a0.trans m3), (m7.drop (.cons _ (List.Sublist.refl _)))⟩
 refine gU ?_
 refine dy ?_
 refine wn d5 ?_
 refine aF ?_
 refine aE fun dw a8 => ?_
 cases hws : g.waits s with
 | true =>
  refine aQ a7 13 [] (by kernel_rfl) (by kernel_rfl) ?_
  simp only [cU]
  refine gm ?_
  simp only [pq]
  refine gi ?_
  refine gf (mX _ _) ?_
  refine gv _ (fun _ an => aD rfl (aR (gP _) (St.cell (St.tells a4 an) (i := 1) rfl ((nJ hs8).trans (congrArg some (congrArg Value.bool hws)))))) ?_
  simp only [pq]
  refine gm ?_
  simp only [pq]
  refine dG (bS rfl rfl rfl (c := true) rfl (by decide)) ?_
  simp only [pq]
  refine dG (bS rfl rfl rfl (c := true) rfl (by decide)) ?_
  simp only [pq]
  refine dG (bS rfl rfl rfl (c := true) rfl (by decide)) ?_
  simp only [pq]
  refine dG (bS rfl rfl rfl (c := true) rfl (by decide)) ?_
  simp only [pq]
  refine dG (bS rfl rfl rfl (c := true) rfl (by decide)) ?_
  simp only [pq]
  refine dG (bS rfl rfl rfl (c := true) rfl (by decide)) ?_
  simp only [pq]
  refine dG (bS rfl rfl rfl (c := true) rfl (by decide)) ?_
  simp only [pq]
  refine dG (bS rfl rfl rfl (c := true) rfl (by decide)) ?_
  refine bO ?_
  intro dz m8 m9
  clear m9
  have ao := St.tells a4 m8
  simp only [cV]
  refine nO ?_
  simp only [pq]
  refine dp ?_
  refine dy ?_
  refine wlK a8 ?_
  refine aI ?_
  refine aB ?_
  iterate 2 refine dx ?_
  simp only [pq]
  have ap := St.perm ao (List.perm_middle (l₁ := [_]))
  have n0 : EngM _ _ _ _ n g _ := ⟨_, _, _, _, _, _, _, _, _, _, _, ap, (hd.mono a0), (dK ht a0)⟩
  refine doC rfl (fn3 (kF _ _)) (gF _ _ _ _ _ _ _ s 6 n0 hq) ?_
  rintro _ ea ⟨rfl, eb, n1, n2⟩
  refine ⟨_, rfl, ?_⟩
  obtain ⟨aq, au, av, ax, ay, p6, p7, p8, p9, q0, q1, n3, d6, d7⟩ := n2
  refine aG ?_
  try simp only [xt]
  refine bE (gY rfl) ?_
  have d8 : EngM _ _ _ _ n (g.reply (eZ s 6)) _ := ⟨_, _, _, _, _, _, _, _, _, _, _, n3, d6, d7⟩
  have he : g.ask s b = (g.reply (eZ s 6)) := by
   unfold Eng.ask
   rw [if_pos (by simpa using hc6)]
   rw [if_pos a2, hkr]
   simp only
   unfold Eng.req
   rw [if_neg a3, if_pos hws]
  rw [he]
  exact ⟨rfl, _, (a0.trans n1), (d8.drop (.cons _ (List.Sublist.refl _)))⟩
 | false =>
  cases hts : g.txn s with
  | none =>
   have hp : pv s = .pointer none := by have := ht s hs8; rw [hts] at this; exact this
   by_cases h1 : k = 1
   refine aQ a7 13 [] (by kernel_rfl) (by kernel_rfl) ?_
   simp only [cU]
   refine gm ?_
   refine gi ?_
   refine gf (mX _ _) ?_
   simp only [pq]
   refine gv _ (fun _ b9 => aD rfl (aR (gP _) (St.cell (St.tells a4 b9) (i := 1) rfl ((nJ hs8).trans (congrArg some (congrArg Value.bool hws)))))) ?_
   iterate 2 refine gm ?_
   simp only [pq]
   refine gi ?_
   refine gf (dN _ _) ?_
   refine gv _ (fun _ b9 => aD rfl (aR (dQ _) (St.cell (St.tells a4 b9) (i := 1) rfl ((eA hs8).trans (congrArg some hp))))) ?_
   simp only [pq]
   refine gv bF (fun _ _ => yW (p := none) Tryz.underlying110 rfl rfl) ?_
   refine gf (lF _ _) ?_
   refine gl bL a4 0 ?_
   simp only [pq]
   refine gv bT (fun _ _ => cB (m := ((k : Nat) : Int)) (n := (1 : Int)) (b := true) rfl rfl (beq_iff_eq.2 (by omega))) ?_
   refine bO ?_
   intro az d9 e0
   clear e0
   have c0 := St.tells a4 d9
   simp only [cV]
   refine dr bF (nQ Tryz.underlying4 rfl rfl (rfl)) ?_
   refine dp ?_
   refine dy ?_
   simp only [pq]
   refine wlK a8 ?_
   refine aF ?_
   refine sk fun ba e1 => ?_
   refine df (lF _ _) ?_
   refine dl (bL _) c0 0 ?_
   refine jA ?_
   simp only [pq]
   refine dy ?_
   refine wn e1 ?_
   refine aI ?_
   refine sk fun bb e2 => ?_
   iterate 2 refine dx ?_
   refine di ?_
   simp only [pq]
   refine df (gQ _ _) ?_
   refine dl (bL _) c0 1 ?_
   refine dr (.agg #[(nI g.synced), Zn, Zn]) (aJ (dH rfl) (by kernel_rfl)) ?_
   simp only [pq]
   refine bB c0 (v := fun n => .pointer (aA n 0)) rfl (bQ (v := (.agg #[(nI g.synced), Zn, Zn])) rfl) (fun a6 n4 c1 => ?_)
   simp only [pq]
   have c1 : St w0 F0 n4 a7 (⟨a6, [(nI g.synced), Zn, Zn], 141⟩ :: ⟨k9, [(nI k), (.slice c6 r.name.length c7), (.slice c8 r.key.length c9), (.slice d0 r.last.length d1), (.slice d2 r.value.length d3)], 27⟩ :: ⟨n, lD g.up (.slice ad g.tape.data.length cd) g.tape.synced (.slice ac g.commits.length cc) (.slice af g.forests.length cf) g.synced pv g.waits (.slice aw g.waiting.length cw) (.slice ar g.replies.length cr), 115⟩ :: L) (nL w0.heap.size (.slice ac g.commits.length cc) g.commits (.slice af g.forests.length cf) g.forests (.slice aw g.waiting.length cw) g.waiting (.slice ar g.replies.length cr) g.replies) := c1
   refine di ?_
   refine df (dN _ _) ?_
   refine fI (i := 2) (v := (pP a6 0)) c1 rfl rfl rfl rfl (mW) (lI rfl) (by rw [kI]; simp only [Value.cells]; exact Nat.le_of_lt_succ (by simp only [List.size_toArray, List.length_cons, List.length_nil]; omega)) (fun e3 b1 => ?_)
   simp only [pq]
   have b1 : St w0 F0 e3 a7 (⟨a6, [(nI g.synced), Zn, Zn], 141⟩ :: ⟨k9, [(nI k), (.slice c6 r.name.length c7), (.slice c8 r.key.length c9), (.slice d0 r.last.length d1), (.slice d2 r.value.length d3)], 27⟩ :: ⟨n, bN (lD g.up (.slice ad g.tape.data.length cd) g.tape.synced (.slice ac g.commits.length cc) (.slice af g.forests.length cf) g.synced pv g.waits (.slice aw g.waiting.length cw) (.slice ar g.replies.length cr)) (6 + s * 2) [(pP a6 0)], 115⟩ :: L) (nL w0.heap.size (.slice ac g.commits.length cc) g.commits (.slice af g.forests.length cf) g.forests (.slice aw g.waiting.length cw) g.waiting (.slice ar g.replies.length cr) g.replies) := b1
   rw [nK hs8] at b1
   refine wn e2 ?_
   obtain ⟨e4, a9, b0⟩ := St.freezeBlk b1 (i := 0) rfl
   generalize addF a7 e3 a6 = bc at *
   have e5 := qN (x := .pointer (some ⟨a6, 0, none⟩)) (t := some (⟨g.synced, [], []⟩ : Tx)) (dK ht (a0.trans a9)) ⟨_, _, _, _, _, rfl, b0 0 _ rfl, b0 1 _ rfl, b0 2 _ rfl, Sl.nil _ _ _, Sl.nil _ _ _⟩ s
   refine aB ?_
   iterate 3 refine dx ?_
   simp only [pq]
   refine di ?_
   refine df (gQ _ _) ?_
   refine dl (bL _) e4 1 ?_
   simp only [pq]
   refine dr (.agg #[(nI s), (iI 0), (nI g.synced), bF, Zn, Zn, Zn, bF, Zn, Zn, Zn, bF, Zn, Zn, Zn]) (aJ (fF rfl rfl) (by kernel_rfl)) ?_
   simp only [pq]
   have n5 := St.perm e4 (List.perm_middle (l₁ := [_]))
   have e6 : EngM _ _ _ _ n (g.setTxn s (some (⟨g.synced, [], []⟩ : Tx))) _ := ⟨_, _, _, _, _, _, _, _, _, _, _, n5, (hd.mono (a0.trans a9)), e5⟩
   refine doC rfl (fn2 (qA _ _)) (jY _ _ _ _ _ _ _ _ _ e6 (RpV.turn _ s ((g.synced : Nat) : Int)) hq) ?_
   rintro _ bd ⟨rfl, be, e7, e8⟩
   refine ⟨_, rfl, ?_⟩
   obtain ⟨q2, q3, q4, q5, q6, q7, q8, q9, r0, r1, r2, n6, e9, f0⟩ := e8
   refine aG ?_
   try simp only [xt]
   refine bE (gY rfl) ?_
   have f1 : EngM _ _ _ _ n ((g.setTxn s (some (⟨g.synced, [], []⟩ : Tx))).reply (mD s g.synced)) _ := ⟨_, _, _, _, _, _, _, _, _, _, _, n6, e9, f0⟩
   have he : g.ask s b = ((g.setTxn s (some (⟨g.synced, [], []⟩ : Tx))).reply (mD s g.synced)) := by
    unfold Eng.ask
    rw [if_pos (by simpa using hc6)]
    rw [if_pos a2, hkr]
    simp only
    unfold Eng.req
    rw [if_neg a3, if_neg (by rw [hws]; decide), hts]
    simp only
    rw [if_pos h1]
   rw [he]
   exact ⟨rfl, _, ((a0.trans a9).trans e7), (f1.drop (.cons _ (List.Sublist.refl _)))⟩
   refine aQ a7 13 [] (by kernel_rfl) (by kernel_rfl) ?_
   simp only [cU]
   refine gm ?_
   refine gi ?_
   refine gf (mX _ _) ?_
   simp only [pq]
   refine gv _ (fun _ c2 => aD rfl (aR (gP _) (St.cell (St.tells a4 c2) (i := 1) rfl ((nJ hs8).trans (congrArg some (congrArg Value.bool hws)))))) ?_
   iterate 2 refine gm ?_
   simp only [pq]
   refine gi ?_
   refine gf (dN _ _) ?_
   refine gv _ (fun _ c2 => aD rfl (aR (dQ _) (St.cell (St.tells a4 c2) (i := 1) rfl ((eA hs8).trans (congrArg some hp))))) ?_
   simp only [pq]
   refine gv bF (fun _ _ => yW (p := none) Tryz.underlying110 rfl rfl) ?_
   refine gf (lF _ _) ?_
   refine gl bL a4 0 ?_
   simp only [pq]
   refine gv bF (fun _ _ => cB (m := ((k : Nat) : Int)) (n := (1 : Int)) (b := false) rfl rfl (beq_eq_false_iff_ne.2 (by omega))) ?_
   refine bO ?_
   intro bf f2 f3
   clear f3
   have n7 := St.tells a4 f2
   simp only [cV]
   refine dr bT (nQ Tryz.underlying4 rfl rfl (rfl)) ?_
   refine dp ?_
   refine dy ?_
   simp only [pq]
   refine wlK a8 ?_
   refine aI ?_
   refine aB ?_
   iterate 2 refine dx ?_
   simp only [pq]
   have n8 := St.perm n7 (List.perm_middle (l₁ := [_]))
   have f4 : EngM _ _ _ _ n g _ := ⟨_, _, _, _, _, _, _, _, _, _, _, n8, (hd.mono a0), (dK ht a0)⟩
   refine doC rfl (fn3 (kF _ _)) (gF _ _ _ _ _ _ _ s 6 f4 hq) ?_
   rintro _ bg ⟨rfl, bh, f5, f6⟩
   refine ⟨_, rfl, ?_⟩
   obtain ⟨r3, r4, r5, r6, r7, r8, r9, s0, s1, s2, s3, n9, f7, f8⟩ := f6
   refine aG ?_
   try simp only [xt]
   refine bE (gY rfl) ?_
   have f9 : EngM _ _ _ _ n (g.reply (eZ s 6)) _ := ⟨_, _, _, _, _, _, _, _, _, _, _, n9, f7, f8⟩
   have he : g.ask s b = (g.reply (eZ s 6)) := by
    unfold Eng.ask
    rw [if_pos (by simpa using hc6)]
    rw [if_pos a2, hkr]
    simp only
    unfold Eng.req
    rw [if_neg a3, if_neg (by rw [hws]; decide), hts]
    simp only
    rw [if_neg h1]
   rw [he]
   exact ⟨rfl, _, (a0.trans f5), (f9.drop (.cons _ (List.Sublist.refl _)))⟩
  | some t =>
   have b5 := ht s hs8
   rw [hts] at b5
   obtain ⟨g0, bi, bj, bk, bl, a5, g1, bm, bn, bo, bp⟩ := b5
   obtain ⟨htok, hlt⟩ := hg.txns s t hts
   by_cases h1 : k = 1
   refine aQ a7 13 [] (by kernel_rfl) (by kernel_rfl) ?_
   simp only [cU]
   refine gm ?_
   refine gi ?_
   refine gf (mX _ _) ?_
   simp only [pq]
   refine gv _ (fun _ c3 => aD rfl (aR (gP _) (St.cell (St.tells a4 c3) (i := 1) rfl ((nJ hs8).trans (congrArg some (congrArg Value.bool hws)))))) ?_
   iterate 2 refine gm ?_
   simp only [pq]
   refine gi ?_
   refine gf (dN _ _) ?_
   refine gv _ (fun _ c3 => aD rfl (aR (dQ _) (St.cell (St.tells a4 c3) (i := 1) rfl ((eA hs8).trans (congrArg some a5))))) ?_
   simp only [pq]
   refine gv bT (fun _ _ => yW (p := some ⟨g0, 0, none⟩) Tryz.underlying110 rfl rfl) ?_
   refine gf (lF _ _) ?_
   refine gl bL a4 0 ?_
   simp only [pq]
   refine gv bT (fun _ _ => cB (m := ((k : Nat) : Int)) (n := (1 : Int)) (b := true) rfl rfl (beq_iff_eq.2 (by omega))) ?_
   refine bO ?_
   intro bq g2 g3
   clear g3
   have o0 := St.tells a4 g2
   simp only [cV]
   refine dr bT (nQ Tryz.underlying4 rfl rfl (rfl)) ?_
   refine dp ?_
   refine dy ?_
   simp only [pq]
   refine wlK a8 ?_
   refine aI ?_
   refine aB ?_
   iterate 2 refine dx ?_
   simp only [pq]
   have o1 := St.perm o0 (List.perm_middle (l₁ := [_]))
   have g4 : EngM _ _ _ _ n g _ := ⟨_, _, _, _, _, _, _, _, _, _, _, o1, (hd.mono a0), (dK ht a0)⟩
   refine doC rfl (fn3 (kF _ _)) (gF _ _ _ _ _ _ _ s 6 g4 hq) ?_
   rintro _ br ⟨rfl, bs, g5, g6⟩
   refine ⟨_, rfl, ?_⟩
   obtain ⟨s4, s5, s6, s7, s8, s9, t0, t1, t2, t3, t4, o2, g7, g8⟩ := g6
   refine aG ?_
   try simp only [xt]
   refine bE (gY rfl) ?_
   have g9 : EngM _ _ _ _ n (g.reply (eZ s 6)) _ := ⟨_, _, _, _, _, _, _, _, _, _, _, o2, g7, g8⟩
   have he : g.ask s b = (g.reply (eZ s 6)) := by
    unfold Eng.ask
    rw [if_pos (by simpa using hc6)]
    rw [if_pos a2, hkr]
    simp only
    unfold Eng.req
    rw [if_neg a3, if_neg (by rw [hws]; decide), hts]
    simp only
    rw [if_pos h1]
   rw [he]
   exact ⟨rfl, _, (a0.trans g5), (g9.drop (.cons _ (List.Sublist.refl _)))⟩
   refine aQ a7 13 [] (by kernel_rfl) (by kernel_rfl) ?_
   simp only [cU]
   refine gm ?_
   refine gi ?_
   refine gf (mX _ _) ?_
   simp only [pq]
   refine gv _ (fun _ c4 => aD rfl (aR (gP _) (St.cell (St.tells a4 c4) (i := 1) rfl ((nJ hs8).trans (congrArg some (congrArg Value.bool hws)))))) ?_
   iterate 2 refine gm ?_
   simp only [pq]
   refine gi ?_
   refine gf (dN _ _) ?_
   refine gv _ (fun _ c4 => aD rfl (aR (dQ _) (St.cell (St.tells a4 c4) (i := 1) rfl ((eA hs8).trans (congrArg some a5))))) ?_
   simp only [pq]
   refine gv bT (fun _ _ => yW (p := some ⟨g0, 0, none⟩) Tryz.underlying110 rfl rfl) ?_
   refine gf (lF _ _) ?_
   refine gl bL a4 0 ?_
   simp only [pq]
   refine gv bF (fun _ _ => cB (m := ((k : Nat) : Int)) (n := (1 : Int)) (b := false) rfl rfl (beq_eq_false_iff_ne.2 (by omega))) ?_
   refine bO ?_
   intro bt h0 h2
   clear h2
   have a1 := St.tells a4 h0
   simp only [cV]
   refine dr bF (nQ Tryz.underlying4 rfl rfl (rfl)) ?_
   refine dp ?_
   refine dy ?_
   simp only [pq]
   refine wlK a8 ?_
   refine aF ?_
   refine sk fun bu h3 => ?_
   refine df (lF _ _) ?_
   refine dl (bL _) a1 0 ?_
   refine gU ?_
   simp only [pq]
   refine dy ?_
   refine wn h3 ?_
   refine aF ?_
   refine aE fun bw b6 => ?_
   by_cases h7 : k = 7
   refine aB ?_
   refine df (lF _ _) ?_
   refine dl (bL _) a1 0 ?_
   refine jA ?_
   simp only [pq]
   refine dy ?_
   refine wlK b6 ?_
   refine aI ?_
   refine sk fun bx h4 => ?_
   refine dx ?_
   refine di ?_
   refine df (dN _ _) ?_
   simp only [pq]
   refine fI (i := 1) (v := (.pointer none)) a1 rfl rfl rfl rfl (mW) (lI rfl) (by rw [kI]; simp only [Value.cells]; exact Nat.le_of_lt_succ (by simp only [List.size_toArray, List.length_cons, List.length_nil]; omega)) (fun o3 b2 => ?_)
   simp only [pq]
   have b2 : St w0 F0 o3 a7 (⟨k9, [(nI k), (.slice c6 r.name.length c7), (.slice c8 r.key.length c9), (.slice d0 r.last.length d1), (.slice d2 r.value.length d3)], 27⟩ :: ⟨n, bN (lD g.up (.slice ad g.tape.data.length cd) g.tape.synced (.slice ac g.commits.length cc) (.slice af g.forests.length cf) g.synced pv g.waits (.slice aw g.waiting.length cw) (.slice ar g.replies.length cr)) (6 + s * 2) [(.pointer none)], 115⟩ :: L) (nL w0.heap.size (.slice ac g.commits.length cc) g.commits (.slice af g.forests.length cf) g.forests (.slice aw g.waiting.length cw) g.waiting (.slice ar g.replies.length cr) g.replies) := b2
   rw [nK hs8] at b2
   refine wn h4 ?_
   have h5 := qN (x := .pointer none) (t := none) (dK ht a0) rfl s
   refine aB ?_
   iterate 2 refine dx ?_
   simp only [pq]
   have o4 := St.perm b2 (List.perm_middle (l₁ := [_]))
   have h6 : EngM _ _ _ _ n (g.setTxn s none) _ := ⟨_, _, _, _, _, _, _, _, _, _, _, o4, (hd.mono a0), h5⟩
   refine doC rfl (fn3 (kF _ _)) (gF _ _ _ _ _ _ _ s 0 h6 hq) ?_
   rintro _ bz ⟨rfl, ca, h8, h9⟩
   refine ⟨_, rfl, ?_⟩
   obtain ⟨t5, t6, t7, t8, t9, u0, u1, u2, u3, u4, u5, o5, i0, i1⟩ := h9
   refine aG ?_
   try simp only [xt]
   refine bE (gY rfl) ?_
   have i2 : EngM _ _ _ _ n ((g.setTxn s none).reply (eZ s 0)) _ := ⟨_, _, _, _, _, _, _, _, _, _, _, o5, i0, i1⟩
   have he : g.ask s b = ((g.setTxn s none).reply (eZ s 0)) := by
    unfold Eng.ask
    rw [if_pos (by simpa using hc6)]
    rw [if_pos a2, hkr]
    simp only
    unfold Eng.req
    rw [if_neg a3, if_neg (by rw [hws]; decide), hts]
    simp only
    rw [if_neg h1, if_pos h7]
   rw [he]
   exact ⟨rfl, _, (a0.trans h8), (i2.drop (.cons _ (List.Sublist.refl _)))⟩
   refine aB ?_
   refine df (lF _ _) ?_
   refine dl (bL _) a1 0 ?_
   refine gU ?_
   simp only [pq]
   refine dy ?_
   refine wlK b6 ?_
   refine aF ?_
   refine aE fun cb b7 => ?_
   cases hkp : Eng.keptB g.synced t.start with
   | true =>
    refine aQ a7 11 [] (by kernel_rfl) (by kernel_rfl) ?_
    simp only [cU]
    refine gm ?_
    refine gi ?_
    simp only [pq]
    refine gf (gQ _ _) ?_
    refine gl bL a1 1 ?_
    refine gm ?_
    simp only [pq]
    refine gi ?_
    refine gf (dN _ _) ?_
    refine gv _ (fun _ c5 => aD rfl (aR (dQ _) (St.cell (St.tells a1 c5) (i := 1) rfl ((eA hs8).trans (congrArg some a5))))) ?_
    simp only [pq]
    refine gi ?_
    refine gf (kE _ _) ?_
    refine gv _ (fun _ c5 => aD rfl (aR (bL _) (St.fz (St.tells a1 c5) (Le.cell a0 g1)))) ?_
    simp only [pq]
    refine bO ?_
    intro ce i3 i4
    clear i4
    have o6 := St.tells a1 i3
    simp only [cV]
    refine aK (v := bT) o6 rfl (fn2 (SG _ _)) (DO _ g.synced t.start (by omega) htok.start.1 htok.start.2 hkp) (fun cg i5 => ?_)
    simp only [pq]
    refine dt ?_
    refine dy ?_
    refine wlK b7 ?_
    refine aF ?_
    refine aB ?_
    iterate 3 refine dx ?_
    simp only [pq]
    refine dR i5 0 Tryz.underlying27 (bM) ?_
    simp only [pq]
    have o7 := St.perm i5 (List.perm_middle (l₁ := [_]))
    have i6 : EngM _ _ _ _ n g _ := ⟨_, _, _, _, _, _, _, _, _, _, _, o7, (hd.mono a0), (dK ht a0)⟩
    refine doC rfl (fn4 (Ah _ _)) (UR _ _ _ _ _ _ _ s hs8 _ t k r i6 hh hT hg hm hts ⟨_, _, _, _, rfl, l6, l7, l8, l9⟩ ok ⟨by omega, by omega, by omega⟩ hq) ?_
    rintro _ ch ⟨rfl, ci, i7, i8⟩
    refine ⟨_, rfl, ?_⟩
    obtain ⟨u6, u7, u8, u9, v0, v1, v2, v3, v4, v5, v6, o8, i9, j0⟩ := i8
    refine aG ?_
    try simp only [xt]
    refine bE (gY rfl) ?_
    have j1 : EngM _ _ _ _ n (g.work s t k r) _ := ⟨_, _, _, _, _, _, _, _, _, _, _, o8, i9, j0⟩
    have he : g.ask s b = (g.work s t k r) := by
     unfold Eng.ask
     rw [if_pos (by simpa using hc6)]
     rw [if_pos a2, hkr]
     simp only
     unfold Eng.req
     rw [if_neg a3, if_neg (by rw [hws]; decide), hts]
     simp only
     rw [if_neg h1, if_neg h7, if_pos hkp]
    rw [he]
    exact ⟨rfl, _, (a0.trans i7), (j1.drop (.cons _ (List.Sublist.refl _)))⟩
   | false =>
    refine aQ a7 11 [] (by kernel_rfl) (by kernel_rfl) ?_
    simp only [cU]
    refine gm ?_
    refine gi ?_
    refine gf (gQ _ _) ?_
    simp only [pq]
    refine gl bL a1 1 ?_
    refine gm ?_
    refine gi ?_
    simp only [pq]
    refine gA rfl rfl (pP n (6 + s * 2)) (fun cj b3 => aL (ef (dN _ _))) ?_
    refine gv _ (fun _ b3 => aD rfl (aR (dQ _) (St.cell (St.tells a1 b3) (i := 1) rfl ((eA hs8).trans (congrArg some a5))))) ?_
    refine gi ?_
    refine gf (kE _ _) ?_
    simp only [pq]
    refine gv _ (fun _ b3 => aD rfl (aR (bL _) (St.fz (St.tells a1 b3) (Le.cell a0 g1)))) ?_
    refine bO ?_
    intro ck j2 j3
    clear j3
    have o9 := St.tells a1 j2
    simp only [cV]
    refine aK (v := bF) o9 rfl (fn2 (SG _ _)) (DO _ g.synced t.start (by omega) htok.start.1 htok.start.2 hkp) (fun cl p0 => ?_)
    simp only [pq]
    refine dt ?_
    refine dy ?_
    refine wlK b7 ?_
    refine aI ?_
    refine sk fun cm j4 => ?_
    refine dx ?_
    refine di ?_
    refine df (dN _ _) ?_
    simp only [pq]
    refine fI (i := 1) (v := (.pointer none)) p0 rfl rfl rfl rfl (mW) (lI rfl) (by rw [kI]; simp only [Value.cells]; exact Nat.le_of_lt_succ (by simp only [List.size_toArray, List.length_cons, List.length_nil]; omega)) (fun p1 b4 => ?_)
    simp only [pq]
    have b4 : St w0 F0 p1 a7 (⟨k9, [(nI k), (.slice c6 r.name.length c7), (.slice c8 r.key.length c9), (.slice d0 r.last.length d1), (.slice d2 r.value.length d3)], 27⟩ :: ⟨n, bN (lD g.up (.slice ad g.tape.data.length cd) g.tape.synced (.slice ac g.commits.length cc) (.slice af g.forests.length cf) g.synced pv g.waits (.slice aw g.waiting.length cw) (.slice ar g.replies.length cr)) (6 + s * 2) [(.pointer none)], 115⟩ :: L) (nL w0.heap.size (.slice ac g.commits.length cc) g.commits (.slice af g.forests.length cf) g.forests (.slice aw g.waiting.length cw) g.waiting (.slice ar g.replies.length cr) g.replies) := b4
    rw [nK hs8] at b4
    refine wn j4 ?_
    have j5 := qN (x := .pointer none) (t := none) (dK ht a0) rfl s
    refine aB ?_
    iterate 2 refine dx ?_
    simp only [pq]
    have p2 := St.perm b4 (List.perm_middle (l₁ := [_]))
    have j6 : EngM _ _ _ _ n (g.setTxn s none) _ := ⟨_, _, _, _, _, _, _, _, _, _, _, p2, (hd.mono a0), j5⟩
    refine doC rfl (fn3 (kF _ _)) (gF _ _ _ _ _ _ _ s 10 j6 hq) ?_
    rintro _ cn ⟨rfl, co, j7, j8⟩
    refine ⟨_, rfl, ?_⟩
    obtain ⟨v7, v8, v9, w1, w2, w3, w4, w5, w6, w7, w8, p3, j9, k0⟩ := j8
    refine aG ?_
    try simp only [xt]
    refine bE (gY rfl) ?_
    have k1 : EngM _ _ _ _ n ((g.setTxn s none).reply (eZ s 10)) _ := ⟨_, _, _, _, _, _, _, _, _, _, _, p3, j9, k0⟩
    have he : g.ask s b = ((g.setTxn s none).reply (eZ s 10)) := by
     unfold Eng.ask
     rw [if_pos (by simpa using hc6)]
     rw [if_pos a2, hkr]
     simp only
     unfold Eng.req
     rw [if_neg a3, if_neg (by rw [hws]; decide), hts]
     simp only
     rw [if_neg h1, if_neg h7, if_neg (by rw [hkp]; decide)]
    rw [he]
    exact ⟨rfl, _, (a0.trans j7), (k1.drop (.cons _ (List.Sublist.refl _)))⟩
 refine lY ?_
 refine wn d4 ?_
 refine aI ?_
 refine sk fun cp k2 => ?_
 iterate 3 refine dx ?_
 simp only [pq]
 have p4 := St.perm a4 (List.perm_middle (l₁ := [_]))
 have k3 : EngM _ _ _ _ n g _ := ⟨_, _, _, _, _, _, _, _, _, _, _, p4, (hd.mono a0), (dK ht a0)⟩
 refine doC rfl (fn3 (kF _ _)) (gF _ _ _ _ _ _ _ s (wdE b) k3 hq) ?_
 rintro _ cq ⟨rfl, cs, k4, k5⟩
 refine ⟨_, rfl, ?_⟩
 obtain ⟨x0, x1, x2, x3, x4, x5, x6, x7, x8, x9, y0, p5, k6, k7⟩ := k5
 refine wn k2 ?_
 refine aN ?_
 try simp only [xt]
 refine bR (gY rfl) ?_
 have k8 : EngM _ _ _ _ n (g.reply (eZ s (wdE b))) _ := ⟨_, _, _, _, _, _, _, _, _, _, _, p5, k6, k7⟩
 have he : g.ask s b = (g.reply (eZ s (wdE b))) := by
  unfold Eng.ask
  rw [if_pos (by simpa using hc6)]
  rw [if_neg a2]
 rw [he]
 exact ⟨rfl, _, (a0.trans k4), (k8.drop (.cons _ (List.Sublist.refl _)))⟩
theorem St.permR {w0 w : World} {F0 F : Fz} {L : List Blk} {M M' : List RowP} (S : St w0 F0 w F L M) (h : M.Perm M') : St w0 F0 w F L M' := ⟨S.gr, S.blk, fun r hr => S.row r (h.mem_iff.2 hr), S.bb, fun r hr => S.rb r (h.mem_iff.2 hr), (h.pairwise_iff (fun hne g hs hr => hne g hr hs)).1 S.rr⟩
theorem St.nilW {w0 w : World} {F0 F : Fz} {L : List Blk} {b : Nat} {vc vf vw vr : Value} {cs : List Cm} {fs : List aS} {ws : List Nat} {rs : List Rep} (S : St w0 F0 w F L (nL b vc cs vf fs vw ws vr rs)) : St w0 F0 w F L (nL b vc cs vf fs (.slice none 0 0) [] vr rs) := by
 have S1 := (S.dropRow (.cons_cons _ (.cons_cons _ (.cons _ (List.Sublist.refl _))))).addNil 1 NtC NtC.mono 3 b
 exact S1.permR ((List.perm_middle (l₁ := [_, _])).symm)
theorem QP (l : List Nat) (s : Nat) (g : Eng) : Eng.told (l ++ [s]) g = { Eng.told l g with synced := (Eng.told l g).synced + 1, waits := qW (Eng.told l g).waits s false, replies := (Eng.told l g).replies ++ [mD s (((Eng.told l g).synced + 1 : Nat) : Int)] } := by
 induction l generalizing g with
 | nil => rfl
 | cons x l ih => rw [List.cons_append, Eng.told, ih]; rfl
theorem UT (w0 : World) (F0 : Fz) (w : World) (F : Fz) (n : Nat) (g : Eng) (L : List Blk) {m : Nat} (hM : EngM w0 F0 w F n g L) (hg : EngOk m g) (hm : m ≤ 149) (hq : g.replies.length + g.waiting.length ≤ 100000) :
    Calls Tryz.prog 69 #[.pointer (some ⟨n, 0, none⟩)] w (wC w0 F0 F n g.sync L) := by
 obtain ⟨ad, cd, ac, cc, af, cf, aw, cw, ar, cr, pv, S, hd, ht⟩ := hM
 have hsy := hg.sync
 have hmy := hg.many
 have htl : g.tape.data.length ≤ 90000 := by have := qJ hg.hist.ok; rw [hg.data]; omega
 have hts2 := hg.syn
 go_enter Tryz.func69, Tryz.ntmps69
 refine aE fun K4 hK4 => ?_
 refine sk fun K5 hK5 => ?_
 refine dx ?_
 refine di ?_
 refine df (oT _ _) ?_
 simp only [pq]
 refine dl (gP _) S 0 ?_
 refine dr (.bool (!g.up)) (wM rfl rfl) ?_
 refine wn hK5 ?_
 refine wp_cond_split rfl (fun hc6 => ?_) (fun hc6 => ?_)
 refine aN ?_
 try simp only [xt]
 refine bR (gY rfl) ?_
 have he : g.sync = g := by unfold Eng.sync; rw [if_neg (by simpa using hc6)]
 rw [he]
 exact ⟨rfl, _, Le.refl _, ⟨_, _, _, _, _, _, _, _, _, _, _, S, hd, ht⟩⟩
 refine aH ?_
 refine hK4 _ _ ?_
 refine sk fun K7 hK7 => ?_
 iterate 2 refine dx ?_
 refine di ?_
 simp only [pq]
 refine df (oU _ _) ?_
 refine dr _ (aD rfl (cP Tryz.underlying108 rfl (bJ) (St.range S (i := 0) rfl 1 [(.slice ad g.tape.data.length cd), (nI g.tape.synced)] (dX 1 rfl)))) ?_
 refine aY S rfl (fn1 (Ai _ _)) (QG _ _ _ g.tape (S).sat ⟨_, _, rfl, hd⟩ ⟨by omega, hts2⟩) ?_
 intro d9 w8 c3 S9 a3 c5
 obtain ⟨_, rfl, c6⟩ := c5
 obtain ⟨a1, a2, rfl, b0⟩ := c6
 have b0 : Bs _ (.slice a1 g.tape.data.length a2) g.tape.data := b0
 refine dx ?_
 iterate 2 refine de ?_
 simp only [pq]
 refine di ?_
 refine df (oU _ _) ?_
 refine sW 0 S9 (bJ) fun e0 c4 => ?_
 simp only [pq]
 refine wn hK7 ?_
 refine aE fun e1 b1 => ?_
 refine sk fun e2 b2 => ?_
 refine dx ?_
 refine di ?_
 refine df (rN _ _) ?_
 simp only [pq]
 refine dl (EF _) c4 0 ?_
 refine dn Tryz.underlying60 ?_
 refine dx ?_
 simp only [pq]
 refine wn b2 ?_
 refine aM ?_
 refine aW (fun mm aa c7 => ∃ (i : Nat) (sy : Nat) (wf : Nat → Bool) (ar2 : Option Addr) (cr2 : Nat) (rs : List Rep) (a4 : Fz) (a8 : Nat → Value), mm = g.waiting.length - i ∧ a8 = eC aa ∧ aa = ⟨([(pP n 0), undef, undef, (a8 3), (pP n 0), (pP n 0), (pP n 0), (.bool g.up), (.bool (!g.up)), (.tuple #[(.agg #[(.slice a1 g.tape.data.length a2), (nI g.tape.data.length)]), (iI 0)]), (pP n 0), (pP n 0), (pP n 0), (pP n 1), (.agg #[(.slice ad g.tape.data.length cd), (nI g.tape.synced)]), (.tuple #[(.agg #[(.slice a1 g.tape.data.length a2), (nI g.tape.data.length)]), (iI 0)]), (.agg #[(.slice a1 g.tape.data.length a2), (nI g.tape.data.length)]), (iI 0), (pP n 0), (pP n 1), (pP n 0), (pP n 0), (pP n 22), (.slice aw g.waiting.length cw), (nI g.waiting.length), (nI i)] ++ (usF a8 26 25 [undef, undef, undef])).toArray, []⟩ ∧ St w0 F0 c7 a4 (⟨n, lD g.up (.slice a1 g.tape.data.length a2) g.tape.data.length (.slice ac g.commits.length cc) (.slice af g.forests.length cf) sy pv wf (.slice aw g.waiting.length cw) (.slice ar2 rs.length cr2), 115⟩ :: L) (nL w0.heap.size (.slice ac g.commits.length cc) g.commits (.slice af g.forests.length cf) g.forests (.slice aw g.waiting.length cw) g.waiting (.slice ar2 rs.length cr2) rs) ∧ Le c3 a4 ∧ (i ≤ g.waiting.length) ∧ (Eng.told (g.waiting.take i) ({ g with tape := ⟨g.tape.data, g.tape.data.length⟩ } : Eng) = { ({ g with tape := ⟨g.tape.data, g.tape.data.length⟩ } : Eng) with synced := sy, waits := wf, replies := rs }) ∧ (rs.length + g.waiting.length ≤ 100000 + i) ∧ (sy = g.synced + i)) _ ⟨0, g.synced, g.waits, ar, cr, g.replies, c3, _, rfl, rfl, rfl, c4, Le.refl _, (by omega), rfl, (by omega), (by omega)⟩ ?_
 rintro e3 e4 e5 ⟨i, sy, wf, ar2, cr2, rs, a4, a8, rfl, -, hfr, a9, a0, hi, hin, hrs, hse⟩ e6 b3
 simp only [uzF, Nat.reduceAdd] at hfr; subst hfr
 refine sk fun e7 a5 => ?_
 by_cases a6 : i < g.waiting.length
 refine fA ?_
 refine wn a5 ?_
 refine aE fun e8 b4 => ?_
 refine aI ?_
 refine aH ?_
 refine b4 _ _ ?_
 refine aE fun e9 b5 => ?_
 refine aM ?_
 refine aE fun f0 b6 => ?_
 obtain ⟨x, hx⟩ : ∃ x, g.waiting[i]? = some x := ⟨g.waiting[i], List.getElem?_eq_getElem a6⟩
 have hx8 := hg.who x (List.mem_of_getElem? hx)
 obtain ⟨c8, b7, c9⟩ := Cd (a9.own (i := 2) rfl) hx
 refine aB ?_
 refine dr (pP c8 (0 + i * 1)) (bY (i := i) (sz := 1) Tryz.underlying60 (eI _) rfl b7 rfl (a6) rfl) ?_
 refine dr _ (aD rfl (aR (bL _) c9)) ?_
 refine dy ?_
 simp only [pq]
 refine wlK b6 ?_
 refine sk fun f1 b9 => ?_
 refine dx ?_
 refine di ?_
 refine df (gQ _ _) ?_
 simp only [pq]
 refine dl (bL _) a9 0 ?_
 refine cN (sy + 1) ?_
 refine di ?_
 simp only [pq]
 refine df (gQ _ _) ?_
 refine sW 0 a9 (KT) fun d0 c0 => ?_
 simp only [pq]
 have c0 : St w0 F0 d0 a4 (⟨n, lD g.up (.slice a1 g.tape.data.length a2) g.tape.data.length (.slice ac g.commits.length cc) (.slice af g.forests.length cf) (sy + 1) pv wf (.slice aw g.waiting.length cw) (.slice ar2 rs.length cr2), 115⟩ :: L) (nL w0.heap.size (.slice ac g.commits.length cc) g.commits (.slice af g.forests.length cf) g.forests (.slice aw g.waiting.length cw) g.waiting (.slice ar2 rs.length cr2) rs) := c0
 refine wn b9 ?_
 refine sk fun f2 c1 => ?_
 iterate 2 refine dx ?_
 refine di ?_
 simp only [pq]
 refine df (vK _ _) ?_
 refine dr (pP n (6 + x * 2)) (UK (i := x) Tryz.underlying113 (zZ _) rfl rfl (hx8)) ?_
 refine df (mX _ _) ?_
 simp only [pq]
 refine fI (i := 0) (v := bF) c0 rfl rfl rfl rfl (tU) (lI rfl) (by rw [kI]; simp only [Value.cells]; exact Nat.le_of_lt_succ (by simp only [List.size_toArray, List.length_cons, List.length_nil]; omega)) (fun d1 a7 => ?_)
 simp only [pq]
 have a7 : St w0 F0 d1 a4 (⟨n, bN (lD g.up (.slice a1 g.tape.data.length a2) g.tape.data.length (.slice ac g.commits.length cc) (.slice af g.forests.length cf) (sy + 1) pv wf (.slice aw g.waiting.length cw) (.slice ar2 rs.length cr2)) (6 + x * 2 + 1) [bF], 115⟩ :: L) (nL w0.heap.size (.slice ac g.commits.length cc) g.commits (.slice af g.forests.length cf) g.forests (.slice aw g.waiting.length cw) g.waiting (.slice ar2 rs.length cr2) rs) := a7
 rw [BC hx8] at a7
 refine wn c1 ?_
 refine aB ?_
 iterate 3 refine dx ?_
 simp only [pq]
 refine di ?_
 refine df (gQ _ _) ?_
 refine dl (bL _) a7 0 ?_
 simp only [pq]
 refine dr (.agg #[(nI x), (iI 0), (nI (sy + 1)), bF, Zn, Zn, Zn, bF, Zn, Zn, Zn, bF, Zn, Zn, Zn]) (aJ (fF rfl rfl) (by kernel_rfl)) ?_
 refine doC rfl (fn2 (qA _ _)) (JI _ _ _ _ _ _ _ _ _ _ _ _ _ _ _ _ _ _ _ _ _ _ (mD x ((sy + 1 : Nat) : Int)) a7 (RpV.turn _ x ((sy + 1 : Nat) : Int)) (by omega)) ?_
 rintro _ f3 ⟨rfl, d2, d3, d4, c2, d5⟩
 refine ⟨_, rfl, ?_⟩
 refine wlK b5 ?_
 refine aB ?_
 refine cN (i + 1) ?_
 refine dx ?_
 simp only [pq]
 refine aG ?_
 exact b3 _ _ _ (by omega) ⟨(i + 1), (sy + 1), (qW wf x false), d3, d4, (rs ++ [mD x ((sy + 1 : Nat) : Int)]), d2, _, rfl, rfl, rfl, d5, (a0.trans c2), (by omega), (by rw [fB hx, QP, hin]), (by rw [List.length_append]; simp only [List.length_singleton]; omega), (by omega)⟩
 refine eR ?_
 refine wn a5 ?_
 refine aE fun f4 d6 => ?_
 refine aF ?_
 refine cQ ?_
 refine b1 _ _ ?_
 have hall : g.waiting.take i = g.waiting := List.take_of_length_le (by omega)
 rw [hall] at hin
 refine aB ?_
 refine dx ?_
 refine di ?_
 refine df (rN _ _) ?_
 simp only [pq]
 refine sW 0 a9 (yI) fun f5 d7 => ?_
 refine aG ?_
 try simp only [xt]
 refine bE (gY rfl) ?_
 have d8 := St.nilW d7
 have he : g.sync = { ({ g with tape := ⟨g.tape.data, g.tape.data.length⟩ } : Eng) with synced := sy, waits := wf, replies := rs, waiting := [] } := by
  unfold Eng.sync
  rw [if_pos (by simpa using hc6), hin]
 rw [he]
 exact ⟨rfl, _, (a3.trans a0), ⟨_, _, _, _, _, _, _, _, _, _, _, d8, (b0.mono a0), dK ht (a3.trans a0)⟩⟩
theorem UU : (Tryz.prog.info? 113).map (·.size) = some 16 := by kernel_rfl
theorem QQ (F : Fz) (w : World) (v : Value) (t : Tp) (hs : Sat w F) (hT : Tabs w) (hv : TpV F v t) (ok : TpOk 100000 t) :
    Calls Tryz.prog 84 #[v] w fun e w' => ∃ v a c F', e = .returned (.tuple #[v, .agg #[.slice a (t.data.take (gS t.data).2).length c, .int .i64 ((min t.synced (gS t.data).2 : Nat))], .int .i64 0]) ∧ Gr w F w' F' ∧ Own 2 CmC 168 w.heap.size w' F' v (gS t.data).1 ∧ Bs F' (.slice a (t.data.take (gS t.data).2).length c) (t.data.take (gS t.data).2) :=
  (BZ F w v t hs hT hv ok).mono fun e w' ⟨v, a, c, F', he, g, ho, hb⟩ => by
    have hl := congrArg (fun z => Value.slice a z c) hb.len
    exact ⟨v, a, c, F', he.trans (by rw [hl]), g, ho, hl ▸ hb⟩
theorem St.setRow {w0 w : World} {F0 F : Fz} {L : List Blk} {M : List RowP} (S : St w0 F0 w F L M) {i : Nat} {r r' : RowP} (h : M[i]? = some r) (ho : r'.ob = r.ob) (hh : r'.holds w F) : St w0 F0 w F L (M.set i r') := by
 obtain ⟨hi, he⟩ := List.getElem?_eq_some_iff.1 h
 have hm : r ∈ M := by rw [← he]; exact List.getElem_mem hi
 have hmem : ∀ x ∈ M.set i r', x = r' ∨ x ∈ M := fun x hx => by
  rcases List.mem_or_eq_of_mem_set hx with h | h
  exact .inr h
  exact .inl h
 refine ⟨S.gr, S.blk, fun x hx => ?_, S.bb, fun x hx y hy => ?_, oP S.rr fun k hk hki g hg hc => ?_⟩
 rcases hmem x hx with rfl | hx
 exact ⟨hh, fun g hg => (S.row r hm).2 g (by rw [← ho]; exact hg)⟩
 exact S.row x hx
 rcases hmem x hx with rfl | hx
 rw [ho]; exact S.rb r hm y hy
 exact S.rb x hx y hy
 rw [ho] at hg
 have hp := List.pairwise_iff_getElem.1 S.rr
 rcases Nat.lt_or_gt_of_ne hki with h1 | h1
 have := hp k i hk hi h1 g hc; rw [he] at this; exact this hg
 have := hp i k hi hk h1 g (by rw [he]; exact hg); exact this hc
theorem tO {α : Type} {k : Nat} : ∀ {el : List (List α)} (m : Nat), (∀ x ∈ el, x.length = k) → (el.take m).flatten = el.flatten.take (m * k)
  | [], m, _ => by simp
  | x :: el, 0, _ => by simp
  | x :: el, m + 1, h => by
    have hx := h x (by simp)
    simp only [List.take_succ_cons, List.flatten_cons]
    rw [tO m (fun y hy => h y (by simp [hy])), Nat.add_mul, Nat.one_mul, List.take_append, hx, show m * k + k - k = m * k from by omega, List.take_of_length_le (show x.length ≤ m * k + k by omega)]
theorem Own.takeN {α : Type} {k E base : Nat} {R : Fz → List Value → α → Prop} {w : World} {F : Fz} {a : Option Addr} {n c m : Nat} {l : List α} (h : Own k R E base w F (.slice a n c) l) (hm : m ≤ l.length) : Own k R E base w F (.slice a m c) (l.take m) := by
 obtain ⟨⟨el, ⟨e1, e2⟩, h2, h3⟩, h4⟩ := h
 have hll := h2.len
 have hlm : (l.take m).length = m := by rw [List.length_take]; omega
 refine ⟨⟨el.take m, ⟨?_, ?_⟩, h2.take m, fun x hx => h3 x (List.mem_of_mem_take hx)⟩, fun g hg => ?_⟩
 rw [eV (fun x hx => h3 x (List.mem_of_mem_take hx)), List.length_take, hlm, Nat.min_eq_left (by omega)]
 rcases e2 with ⟨e2, e3⟩ | ⟨b, cap, cur, e2, q1, q2, q3, q4, q5, q6⟩
 left
 cases e2
 obtain rfl : m = 0 := by omega
 exact ⟨rfl, by simp⟩
 right
 cases e2
 refine ⟨b, c, cur, by rw [hlm], q1, q2, by omega, q4, q5, ?_⟩
 rw [tO m h3, ← q6, List.take_take, hlm, Nat.min_eq_left (Nat.mul_le_mul_right k hm)]
 cases a with
 | none => cases hg
 | some a => exact h4 g hg
theorem St.takeF {w0 w : World} {F0 F : Fz} {L : List Blk} {b : Nat} {vc vw vr : Value} {cs : List Cm} {fs : List aS} {ws : List Nat} {rs : List Rep} {a : Option Addr} {n c m k : Nat} (S : St w0 F0 w F L (nL b vc cs (.slice a n c) fs vw ws vr rs)) (hm : m ≤ fs.length) (hk : k = m) : St w0 F0 w F L (nL b vc cs (.slice a k c) (fs.take m) vw ws vr rs) := by
 subst hk
 have := S.setRow (i := 1) (r' := cI 1 FoC FoC.mono 24 b (.slice a k c) (fs.take k)) rfl (by cases a <;> rfl) ((S.own (i := 1) rfl).takeN hm)
 exact this
theorem YN {m : Nat} {g : Eng} (h : EngOk m g) (k : Nat) : (gS (g.tape.data.take (bW g.tape k))).1.length ≤ g.commits.length := by
 rw [h.data, IT h.hist (by rw [← h.data]; exact (tF h.syn k).2), List.length_take]
 exact Nat.min_le_right _ _
theorem QR (w0 : World) (F0 : Fz) (w : World) (F : Fz) (n : Nat) (g : Eng) (L : List Blk) {m : Nat} (k : Nat) (hM : EngM w0 F0 w F n g L) (hT : Tabs w0) (hg : EngOk m g) (hm : m ≤ 149) (hk : k ≤ 100000) :
    Calls Tryz.prog 70 #[.pointer (some ⟨n, 0, none⟩), .int .i64 ((k : Nat) : Int)] w (wC w0 F0 F n (g.crash k) L) := by
 obtain ⟨ad, cd, ac, cc, af, cf, aw, cw, ar, cr, pv, S, hd, ht⟩ := hM
 have hsy := hg.sync
 have hmy := hg.many
 have hst := hg.states
 have htl : g.tape.data.length ≤ 90000 := by have := qJ hg.hist.ok; rw [hg.data]; omega
 have hts2 := hg.syn
 have hxl := YN hg k
 have hcn := tF hg.syn k
 go_enter Tryz.func70, Tryz.ntmps70
 refine aE fun K4 hK4 => ?_
 refine sk fun K5 hK5 => ?_
 refine dx ?_
 refine di ?_
 refine df (oT _ _) ?_
 simp only [pq]
 refine dl (gP _) S 0 ?_
 refine dr (.bool (!g.up)) (wM rfl rfl) ?_
 refine wn hK5 ?_
 refine wp_cond_split rfl (fun hc6 => ?_) (fun hc6 => ?_)
 refine aN ?_
 try simp only [xt]
 refine bR (gY rfl) ?_
 have he : g.crash k = g := by unfold Eng.crash; rw [if_neg (by simpa using hc6)]
 rw [he]
 exact ⟨rfl, _, Le.refl _, ⟨_, _, _, _, _, _, _, _, _, _, _, S, hd, ht⟩⟩
 refine aH ?_
 refine hK4 _ _ ?_
 refine sk fun K7 hK7 => ?_
 refine dx ?_
 refine di ?_
 refine df (oU _ _) ?_
 simp only [pq]
 refine dr _ (aD rfl (cP Tryz.underlying108 rfl (bJ) (St.range S (i := 0) rfl 1 [(.slice ad g.tape.data.length cd), (nI g.tape.synced)] (dX 1 rfl)))) ?_
 refine dx ?_
 refine aY S rfl (fn2 (Aj _ _)) (LY _ _ _ g.tape k (S).sat ⟨_, _, rfl, hd⟩ ⟨by omega, hts2⟩ hk) ?_
 intro d8 w8 d9 S9 a5 c4
 obtain ⟨_, rfl, c5⟩ := c4
 obtain ⟨b5, b6, rfl, a6⟩ := c5
 have a6 : Bs _ (.slice b5 (g.tape.data.take (bW g.tape k)).length b6) (g.tape.data.take (bW g.tape k)) := a6
 refine dx ?_
 iterate 2 refine de ?_
 simp only [pq]
 refine sA S9 (iP _) fun c6 e0 c7 => ?_
 refine sW 0 c7 (bJ) fun e1 a1 => ?_
 refine dy ?_
 simp only [pq]
 refine wn hK7 ?_
 refine sk fun e2 a7 => ?_
 iterate 2 refine dx ?_
 refine dR a1 0 Tryz.underlying108 (bJ) ?_
 simp only [pq]
 refine doC rfl (fn1 (Ak _ _)) (QQ _ _ _ (⟨(g.tape.data.take (bW g.tape k)), bW g.tape k⟩ : Tp) (a1).sat (hT.at a1.gr.below) ⟨_, _, rfl, a6⟩ ⟨by simp only [List.length_take]; omega, by simp only [List.length_take]; omega⟩) ?_
 rintro _ e3 ⟨e4, b7, b9, c0, rfl, c1, a8, a0⟩
 refine ⟨_, rfl, ?_⟩
 have a9 := c1.le a1.sat
 have c2 := (a1.addRow (hR := CmC.mono) c1 a8).dropRow (.cons_cons _ (.cons _ (List.Sublist.refl _)))
 have a0 : Bs _ (.slice b7 ((g.tape.data.take (bW g.tape k)).take (gS (g.tape.data.take (bW g.tape k))).2).length b9) ((g.tape.data.take (bW g.tape k)).take (gS (g.tape.data.take (bW g.tape k))).2) := a0
 simp only [pq]
 obtain ⟨c8, a2, rfl, e5, c9⟩ := (c2.own (i := 0) rfl).shape
 unfold maxLen at c9
 refine dx ?_
 iterate 2 refine de ?_
 simp only [pq]
 refine de ?_
 refine di ?_
 refine df (gB _ _) ?_
 simp only [pq]
 refine sW 1 c2 (zU) fun e6 d0 => ?_
 refine di ?_
 refine df (oU _ _) ?_
 simp only [pq]
 refine sW 1 d0 (bJ) fun e7 a3 => ?_
 refine wn a7 ?_
 refine aE fun e8 b0 => ?_
 have hcf : g.forests.length ≤ cf := by have := (a3.own (i := 1) rfl).shape; obtain ⟨_, _, e, q, _⟩ := this; simp only [Value.slice.injEq] at e; omega
 refine aQ c0 12 [] (by kernel_rfl) (by kernel_rfl) ?_
 simp only [cU]
 iterate 2 refine gm ?_
 simp only [pq]
 refine gi ?_
 refine gf (mY _ _) ?_
 refine gl oS a3 1 ?_
 simp only [pq]
 refine gm ?_
 refine gi ?_
 refine gf (gB _ _) ?_
 simp only [pq]
 refine gl hJ a3 1 ?_
 refine gv (.int .i64 (((gS (g.tape.data.take (bW g.tape k))).1.length : Nat) : Int)) (fun _ _ => oH Tryz.underlying109 rfl) ?_
 refine gv (.int .i64 ((((gS (g.tape.data.take (bW g.tape k))).1.length + 1) : Nat) : Int)) (fun _ _ => fO (m := (((gS (g.tape.data.take (bW g.tape k))).1.length : Nat) : Int)) (n := (1 : Int)) (r := ((((gS (g.tape.data.take (bW g.tape k))).1.length + 1) : Nat) : Int)) rfl rfl (by omega) (by omega) (by omega)) ?_
 simp only [pq]
 refine gv (.slice af ((gS (g.tape.data.take (bW g.tape k))).1.length + 1) cf) (fun _ _ => aV (l := 0) (h := ((gS (g.tape.data.take (bW g.tape k))).1.length + 1)) (sz := 1) Tryz.underlying106 rfl (oR _) (.inl ⟨rfl, rfl⟩) (.inr ⟨_, rfl, rfl⟩) (by omega) (by omega) (eT)) ?_
 refine bO ?_
 intro e9 b1 b2
 clear b2
 have d1 := St.tells a3 b1
 simp only [cV]
 refine di ?_
 refine df (mY _ _) ?_
 simp only [pq]
 refine sW 1 d1 (zT) fun f0 d2 => ?_
 simp only [pq]
 have c3 := St.takeF (m := (gS (g.tape.data.take (bW g.tape k))).1.length + 1) d2 (by omega) rfl
 refine wlK b0 ?_
 refine sk fun f1 b3 => ?_
 iterate 2 refine dx ?_
 refine di ?_
 simp only [pq]
 refine df (gB _ _) ?_
 refine dl (hJ _) c3 1 ?_
 refine dn Tryz.underlying109 ?_
 simp only [pq]
 refine di ?_
 refine df (gQ _ _) ?_
 refine sW 1 c3 (KT) fun f2 d3 => ?_
 simp only [pq]
 refine wn b3 ?_
 refine sk fun f3 b4 => ?_
 iterate 2 refine dx ?_
 refine di ?_
 simp only [pq]
 refine df (oT _ _) ?_
 refine sW 1 d3 (tU) fun f4 d4 => ?_
 refine di ?_
 refine df (rN _ _) ?_
 simp only [pq]
 refine sW 1 d4 (yI) fun f5 d5 => ?_
 refine wn b4 ?_
 refine aB ?_
 refine dx ?_
 refine dr (.agg #[(.pointer none), bF, (.pointer none), bF, (.pointer none), bF, (.pointer none), bF, (.pointer none), bF, (.pointer none), bF, (.pointer none), bF, (.pointer none), bF]) (aJ (fZ) (by kernel_rfl)) ?_
 refine di ?_
 simp only [pq]
 refine df (vK _ _) ?_
 refine fI (i := 1) (v := (.agg #[(.pointer none), bF, (.pointer none), bF, (.pointer none), bF, (.pointer none), bF, (.pointer none), bF, (.pointer none), bF, (.pointer none), bF, (.pointer none), bF])) d5 rfl rfl rfl rfl (UU) (by simp only [Value.cells]; simp; refine ⟨rfl, rfl, rfl, rfl, rfl, rfl, rfl, rfl, rfl, rfl, rfl, rfl, rfl, rfl, rfl, rfl⟩) (Nat.le_of_ble_eq_true rfl) (fun f6 d6 => ?_)
 refine aG ?_
 try simp only [xt]
 refine bE (gY rfl) ?_
 have d7 := St.perm d6 (L' := (⟨n, lD false (.slice b7 ((g.tape.data.take (bW g.tape k)).take (gS (g.tape.data.take (bW g.tape k))).2).length b9) (min (bW g.tape k) (gS (g.tape.data.take (bW g.tape k))).2) (.slice c8 (gS (g.tape.data.take (bW g.tape k))).1.length a2) (.slice af ((gS (g.tape.data.take (bW g.tape k))).1.length + 1) cf) ((gS (g.tape.data.take (bW g.tape k))).1.length) (fun _ => Value.pointer none) (fun _ => false) (.slice none 0 0) (.slice ar g.replies.length cr), 115⟩ :: ⟨c6, [(.slice b5 (g.tape.data.take (bW g.tape k)).length b6), (.int .i64 ((bW g.tape k : Nat) : Int))], 108⟩ :: L)) (List.perm_middle (l₁ := [_]))
 have a4 := St.nilW d7
 have a4 := St.drop a4 (List.Sublist.cons_cons _ (.cons _ (List.Sublist.refl _)))
 have htl : ∀ i, i < 8 → TxB c0 ((fun _ => Value.pointer none) i) ((fun _ => (none : Option Tx)) i) := fun i hi => rfl
 have hfl : (g.forests.take ((gS (g.tape.data.take (bW g.tape k))).1.length + 1)).length = (gS (g.tape.data.take (bW g.tape k))).1.length + 1 := by rw [List.length_take]; omega
 have he : g.crash k = { g with up := false, tape := ⟨(g.tape.data.take (bW g.tape k)).take (gS (g.tape.data.take (bW g.tape k))).2, min (bW g.tape k) (gS (g.tape.data.take (bW g.tape k))).2⟩, commits := (gS (g.tape.data.take (bW g.tape k))).1, forests := g.forests.take ((gS (g.tape.data.take (bW g.tape k))).1.length + 1), synced := (gS (g.tape.data.take (bW g.tape k))).1.length, txn := fun _ => none, waits := fun _ => false, waiting := [] } := by
  unfold Eng.crash
  rw [if_pos (by simpa using hc6)]
 have hfv := congrArg (fun z => Value.slice af z cf) hfl
 rw [he]
 rw [← hfv] at a4
 exact ⟨rfl, _, (a5.trans a9), ⟨_, _, _, _, _, _, _, _, _, _, _, a4, a0, htl⟩⟩
def Ac.kind : Ac → Nat
  | .ask _ _ => 1
  | .sync => 2
  | .crash _ => 3
  | .start => 4
def Ac.sess : Ac → Nat
  | .ask s _ => s
  | _ => 0
def Ac.keep : Ac → Nat
  | .crash k => k
  | _ => 0
def Ac.data : Ac → By
  | .ask _ b => b
  | _ => []
def isP : Ac → Bool
  | .ask _ b => wdE b == 0 && (wdR b).1 == 8
  | _ => false
def isK : Ac → Bool
  | .crash _ => true
  | _ => false
theorem YO {a : Ac} (h : BB a) : QK (a.kind : Nat) (a.sess : Nat) (a.keep : Nat) a.data.length = 0 := by
 cases a with
 | ask s b =>
  obtain ⟨h1, h2⟩ := h
  simp only [Ac.kind, Ac.sess, Ac.keep, Ac.data]
  unfold QK
  rw [if_neg (by omega), if_neg (by omega), if_neg (by omega), if_neg (by omega)]
 | sync => rfl
 | crash k =>
  simp only [BB] at h
  simp only [Ac.kind, Ac.sess, Ac.keep, Ac.data]
  unfold QK
  rw [if_neg (by omega), if_neg (by omega), if_neg (by simp), if_neg (by simp)]
 | start => rfl
def Eng.room (g : Eng) : Nat := g.replies.length + g.waiting.length
theorem dF (g : Eng) (r : Rep) : (g.reply r).room = g.room + 1 := by unfold Eng.room Eng.reply; simp; omega
theorem gX (g : Eng) (s : Nat) (t : Option Tx) : (g.setTxn s t).room = g.room := rfl
theorem DP (g : Eng) (s : Nat) (t : Tx) (r : Rd) (y : Rep) : (g.note s t r y).room = g.room + 1 := by
 unfold Eng.note; split
 ·exact dF _ _
 ·rw [dF, gX]
theorem BG : ∀ (l : List Nat) (n : Nat), (uE l n).length = l.length
  | [], _ => rfl
  | _ :: l, n => by simp [uE, BG l]
theorem UV (g : Eng) (s k : Nat) (r : Rq) : (g.req s k r).room = g.room + 1 := by
 unfold Eng.req
 split
 ·exact dF _ _
 split
 ·exact dF _ _
 split
 ·split
  ·rw [dF, gX]
  ·exact dF _ _
 split
 ·exact dF _ _
 split
 ·rw [dF, gX]
 split
 ·unfold Eng.work
  split
  ·unfold Eng.look
   simp only
   split
   ·exact dF _ _
   ·exact DP _ _ _ _ _
  split
  ·unfold Eng.scan
   split
   ·exact dF _ _
   ·exact DP _ _ _ _ _
  split
  ·unfold Eng.commit
   split
   ·rw [dF, gX]
   split
   ·exact dF _ _
   split
   ·rw [dF, gX]
   split
   ·rw [dF, gX]
   ·unfold Eng.stand Eng.room; simp; omega
  ·unfold Eng.put
   split
   ·exact dF _ _
   ·rw [dF, gX]
 ·rw [dF, gX]
theorem UW (g : Eng) (a : Ac) : (g.act a).room ≤ g.room + 1 := by
 cases a with
 | ask s b =>
  unfold Eng.act Eng.ask
  simp only
  split
  ·split
   ·exact Nat.le_of_eq (UV _ _ _ _)
   ·exact Nat.le_of_eq (dF _ _)
  ·exact Nat.le_of_eq (dF _ _)
 | sync =>
  show g.sync.room ≤ _
  cases hu : g.up with
  | false => unfold Eng.sync; rw [hu]; simp
  | true => rw [OL hu]; unfold Eng.room; simp [BG]
 | crash k =>
  show (g.crash k).room ≤ _
  unfold Eng.crash
  split
  ·unfold Eng.room; simp; omega
  ·omega
 | start => exact Nat.le_succ _
theorem JJ : ∀ (l : List Ac) (g : Eng), (l.foldl Eng.act g).room ≤ g.room + l.length
  | [], g => by simp
  | a :: l, g => by
    rw [List.foldl_cons]
    have h1 := JJ l (g.act a)
    have h2 := UW g a
    simp; omega
theorem UX (l : List Ac) : (dP l).replies.length + (dP l).waiting.length ≤ l.length := by
 have h : (dP l).room ≤ 0 + l.length := JJ l yD
 rw [Nat.zero_add] at h
 exact h
theorem JK (l : List Ac) (k : Nat) : fV (l.take k) ≤ fV l := by
 have e : fV l = fV (l.take k) + fV (l.drop k) := by unfold fV; rw [← List.sum_append, ← List.map_append, List.take_append_drop]
 omega
theorem QS {l : List Ac} {k : Nat} {a : Ac} (h : l[k]? = some a) : dP (l.take (k + 1)) = (dP (l.take k)).act a := by
 obtain ⟨hk, rfl⟩ := List.getElem?_eq_some_iff.1 h
 rw [List.take_succ_eq_append_getElem hk, JF]; rfl
theorem JL {l : List Ac} (hl : fV l ≤ 149) (ha : ∀ a ∈ l, BB a) (k : Nat) : EngOk (fV (l.take k)) (dP (l.take k)) ∧ fV (l.take k) ≤ 149 := by
 have := JK l k
 exact ⟨MH (by omega) (fun a h => ha a (List.mem_of_mem_take h)), by omega⟩
theorem CC (l : List Ac) (k : Nat) (h : l.length ≤ 100000) : (dP (l.take k)).replies.length + (dP (l.take k)).waiting.length ≤ 100000 := by
 have := UX (l.take k)
 rw [List.length_take] at this
 omega
def AcC (F : Fz) (cs : List Value) (a : Ac) : Prop := ∃ x, cs = [.int .i64 ((a.kind : Nat) : Int), .int .i64 ((a.sess : Nat) : Int), .int .i64 ((a.keep : Nat) : Int), x] ∧ Bs F x a.data
theorem AcC.mono (F F' : Fz) (x : List Value) (p : Ac) (hl : Le F F') (h : AcC F x p) : AcC F' x p := by
 obtain ⟨v, e, h⟩ := h; exact ⟨v, e, h.mono hl⟩
theorem AcC.oneCell {F : Fz} {cs : List Value} {p : Ac} (h : AcC F cs p) : ∀ u ∈ cs, u.oneCell' = true := by
 obtain ⟨v, rfl, h⟩ := h
 intro u hu
 simp only [List.mem_cons, List.not_mem_nil, or_false] at hu
 rcases hu with rfl | rfl | rfl | rfl
 ·rfl
 ·rfl
 ·rfl
 ·exact h.oneCell
abbrev Acs (F : Fz) (v : Value) (l : List Ac) : Prop := Sl 4 AcC F v l
theorem Acs.mono {F F' : Fz} {v : Value} {l : List Ac} (h : Acs F v l) (hl : Le F F') : Acs F' v l := Sl.mono AcC.mono h hl
theorem UY : (madeCells (Value.slice none 0 0).cells (1 * 1)).toList = [Value.slice none 0 0] := by
 rw [show (Value.slice none 0 0).cells = #[.slice none 0 0] from rfl, toList_madeCells_one]; rfl
theorem Acs.get {F : Fz} {a : Option Addr} {n c : Nat} {l : List Ac} (h : Acs F (.slice a n c) l) {i : Nat} {p : Ac} (hp : l[i]? = some p) :
    ∃ b o, a = some ⟨b, o, none⟩ ∧ ∃ x y, bI F b (o + i * 4) = some (.int .i64 ((p.kind : Nat) : Int)) ∧ bI F b (o + i * 4 + 1) = some (.int .i64 ((p.sess : Nat) : Int)) ∧ bI F b (o + i * 4 + 2) = some (.int .i64 ((p.keep : Nat) : Int)) ∧ bI F b (o + i * 4 + 3) = some (.slice x p.data.length y) ∧ Bs F (.slice x p.data.length y) p.data := by
 obtain ⟨hi, rfl⟩ := List.getElem?_eq_some_iff.1 hp
 have hn := Sl.len h
 obtain ⟨b, o, e, h1⟩ := Sl.at h (by omega) (by omega)
 obtain ⟨cs, q1, ⟨a0, rfl, h0⟩, q3⟩ := h1 i hi
 obtain ⟨x, y, rfl, _⟩ := h0.shape
 exact ⟨b, o, e, x, y, by have := q3 0 (by simp); simpa [Nat.add_assoc] using this, by have := q3 1 (by simp); simpa [Nat.add_assoc] using this, by have := q3 2 (by simp); simpa [Nat.add_assoc] using this, by have := q3 3 (by simp); simpa [Nat.add_assoc] using this, h0⟩
def uG : Prop := ∀ (w0 : World) (F0 : Fz) (w : World) (F : Fz) (n : Nat) (g : Eng) (L : List Blk) {m : Nat} (k : Nat), EngM w0 F0 w F n g L → Tabs w0 → EngOk m g → m ≤ 149 → k ≤ 100000 →
    Calls Tryz.prog 70 #[.pointer (some ⟨n, 0, none⟩), .int .i64 ((k : Nat) : Int)] w (wC w0 F0 F n (g.crash k) L)
theorem QT (w0 : World) (F0 : Fz) (w : World) (F : Fz) (n : Nat) (g : Eng) (L : List Blk) {m : Nat} (hM : EngM w0 F0 w F n g L) (hh : Has w0) (hT : Tabs w0) (hg : EngOk m g) (hm : m ≤ 149) (hq : g.replies.length + g.waiting.length ≤ 100000) (s : Nat) (hs8 : s < 8) (b : By) {u : Value} (hu : Bs F u b) (hP : wdE b = 0 → (wdR b).1 = 8 → uF) :
    Calls Tryz.prog 52 #[.pointer (some ⟨n, 0, none⟩), .agg #[.int .i64 1, .int .i64 ((s : Nat) : Int), .int .i64 0, u]] w (wC w0 F0 F n (g.ask s b) L) := by
 obtain ⟨da, dc, rfl, _⟩ := hu.shape
 obtain ⟨ad, cd, ac, cc, af, cf, aw, cw, ar, cr, pv, S, hd, ht⟩ := hM
 go_enter Tryz.func52, Tryz.ntmps52
 refine sk fun K4 hK4 => ?_
 refine bB S (v := fun n => .pointer (aA n 0)) rfl (bQ (v := (.agg #[(iI 1), (nI s), (iI 0), (.slice da b.length dc)])) rfl) (fun n5 w6 S7 => ?_)
 refine wn hK4 ?_
 refine sk fun K8 hK8 => ?_
 refine aC ?_
 refine wn hK8 ?_
 refine aM ?_
 refine sk fun K9 hK9 => ?_
 refine dr bT (cB (b := true) rfl rfl (by decide)) ?_
 refine dy ?_
 simp only [pq]
 refine wn hK9 ?_
 refine aI ?_
 refine aB ?_
 refine aC ?_
 have a6 := St.perm S7 (List.perm_middle (l₁ := [_]))
 have a0 : EngM _ _ _ _ n g _ := ⟨_, _, _, _, _, _, _, _, _, _, _, a6, hd, ht⟩
 refine doC rfl (fn3 (Aa _ _)) (YM _ _ _ _ _ _ _ s hs8 _ b a0 hh hT hg hm hu hP (by omega)) ?_
 rintro _ c0 ⟨rfl, c1, a1, a2⟩
 refine ⟨_, rfl, ?_⟩
 obtain ⟨a7, a8, a9, b0, b1, b2, b3, b4, b5, b6, b7, b9, a3, a4⟩ := a2
 refine aG ?_
 try simp only [xt]
 refine bE (gY rfl) ?_
 have a5 : EngM _ _ _ _ n (g.ask s b) _ := ⟨_, _, _, _, _, _, _, _, _, _, _, b9, a3, a4⟩
 exact ⟨rfl, _, a1, (a5.drop (.cons _ (List.Sublist.refl _)))⟩
theorem ML (w0 : World) (F0 : Fz) (w : World) (F : Fz) (n : Nat) (g : Eng) (L : List Blk) {m : Nat} (hM : EngM w0 F0 w F n g L) (hh : Has w0) (hT : Tabs w0) (hg : EngOk m g) (hm : m ≤ 149) (hq : g.replies.length + g.waiting.length ≤ 100000) (u : Value) :
    Calls Tryz.prog 52 #[.pointer (some ⟨n, 0, none⟩), .agg #[.int .i64 2, .int .i64 0, .int .i64 0, u]] w (wC w0 F0 F n g.sync L) := by
 obtain ⟨ad, cd, ac, cc, af, cf, aw, cw, ar, cr, pv, S, hd, ht⟩ := hM
 go_enter Tryz.func52, Tryz.ntmps52
 refine sk fun K4 hK4 => ?_
 refine bB S (v := fun n => .pointer (aA n 0)) rfl (bQ (v := (.agg #[(iI 2), (iI 0), (iI 0), u])) rfl) (fun n5 w6 S7 => ?_)
 refine wn hK4 ?_
 refine sk fun K8 hK8 => ?_
 refine aC ?_
 refine wn hK8 ?_
 refine aM ?_
 refine sk fun K9 hK9 => ?_
 refine dr bF (cB (b := false) rfl rfl (by decide)) ?_
 refine dy ?_
 simp only [pq]
 refine wn hK9 ?_
 refine aF ?_
 refine sk fun c1 a0 => ?_
 refine dr bT (cB (b := true) rfl rfl (by decide)) ?_
 refine dy ?_
 refine wn a0 ?_
 refine aI ?_
 refine aB ?_
 refine dx ?_
 simp only [pq]
 have a7 := St.perm S7 (List.perm_middle (l₁ := [_]))
 have a1 : EngM _ _ _ _ n g _ := ⟨_, _, _, _, _, _, _, _, _, _, _, a7, hd, ht⟩
 refine doC rfl (fn1 (Ab _ _)) (UT _ _ _ _ _ _ _ a1 hg hm hq) ?_
 rintro _ c2 ⟨rfl, c3, a2, a3⟩
 refine ⟨_, rfl, ?_⟩
 obtain ⟨a8, a9, b0, b1, b2, b3, b4, b5, b6, b7, b9, c0, a4, a5⟩ := a3
 refine aG ?_
 try simp only [xt]
 refine bE (gY rfl) ?_
 have a6 : EngM _ _ _ _ n g.sync _ := ⟨_, _, _, _, _, _, _, _, _, _, _, c0, a4, a5⟩
 exact ⟨rfl, _, a2, (a6.drop (.cons _ (List.Sublist.refl _)))⟩
theorem JM (w0 : World) (F0 : Fz) (w : World) (F : Fz) (n : Nat) (g : Eng) (L : List Blk) {m : Nat} (hM : EngM w0 F0 w F n g L) (hh : Has w0) (hT : Tabs w0) (hg : EngOk m g) (hm : m ≤ 149) (hq : g.replies.length + g.waiting.length ≤ 100000) (u : Value) (k : Nat) (hk : k ≤ 100000) (hC : uG) :
    Calls Tryz.prog 52 #[.pointer (some ⟨n, 0, none⟩), .agg #[.int .i64 3, .int .i64 0, .int .i64 ((k : Nat) : Int), u]] w (wC w0 F0 F n (g.crash k) L) := by
 obtain ⟨ad, cd, ac, cc, af, cf, aw, cw, ar, cr, pv, S, hd, ht⟩ := hM
 go_enter Tryz.func52, Tryz.ntmps52
 refine sk fun K4 hK4 => ?_
 refine bB S (v := fun n => .pointer (aA n 0)) rfl (bQ (v := (.agg #[(iI 3), (iI 0), (nI k), u])) rfl) (fun n5 w6 S7 => ?_)
 refine wn hK4 ?_
 refine sk fun K8 hK8 => ?_
 refine aC ?_
 refine wn hK8 ?_
 refine aM ?_
 refine sk fun K9 hK9 => ?_
 refine dr bF (cB (b := false) rfl rfl (by decide)) ?_
 refine dy ?_
 simp only [pq]
 refine wn hK9 ?_
 refine aF ?_
 refine sk fun c2 a0 => ?_
 refine dr bF (cB (b := false) rfl rfl (by decide)) ?_
 refine dy ?_
 refine wn a0 ?_
 refine aF ?_
 refine sk fun c3 a1 => ?_
 refine dr bT (cB (b := true) rfl rfl (by decide)) ?_
 refine dy ?_
 simp only [pq]
 refine wn a1 ?_
 refine aI ?_
 refine aB ?_
 refine aC ?_
 have a8 := St.perm S7 (List.perm_middle (l₁ := [_]))
 have a2 : EngM _ _ _ _ n g _ := ⟨_, _, _, _, _, _, _, _, _, _, _, a8, hd, ht⟩
 refine doC rfl (fn2 (Ad _ _)) (hC _ _ _ _ _ _ _ k a2 hT hg hm hk) ?_
 rintro _ c4 ⟨rfl, c5, a3, a4⟩
 refine ⟨_, rfl, ?_⟩
 obtain ⟨a9, b0, b1, b2, b3, b4, b5, b6, b7, b9, c0, c1, a5, a6⟩ := a4
 refine aG ?_
 try simp only [xt]
 refine bE (gY rfl) ?_
 have a7 : EngM _ _ _ _ n (g.crash k) _ := ⟨_, _, _, _, _, _, _, _, _, _, _, c1, a5, a6⟩
 exact ⟨rfl, _, a3, (a7.drop (.cons _ (List.Sublist.refl _)))⟩
theorem JN (w0 : World) (F0 : Fz) (w : World) (F : Fz) (n : Nat) (g : Eng) (L : List Blk) {m : Nat} (hM : EngM w0 F0 w F n g L) (hh : Has w0) (hT : Tabs w0) (hg : EngOk m g) (hm : m ≤ 149) (hq : g.replies.length + g.waiting.length ≤ 100000) (u : Value) :
    Calls Tryz.prog 52 #[.pointer (some ⟨n, 0, none⟩), .agg #[.int .i64 4, .int .i64 0, .int .i64 0, u]] w (wC w0 F0 F n g.start L) := by
 obtain ⟨ad, cd, ac, cc, af, cf, aw, cw, ar, cr, pv, S, hd, ht⟩ := hM
 go_enter Tryz.func52, Tryz.ntmps52
 refine sk fun K4 hK4 => ?_
 refine bB S (v := fun n => .pointer (aA n 0)) rfl (bQ (v := (.agg #[(iI 4), (iI 0), (iI 0), u])) rfl) (fun n5 w6 S7 => ?_)
 refine wn hK4 ?_
 refine sk fun K8 hK8 => ?_
 refine aC ?_
 refine wn hK8 ?_
 refine aM ?_
 refine sk fun K9 hK9 => ?_
 refine dr bF (cB (b := false) rfl rfl (by decide)) ?_
 refine dy ?_
 simp only [pq]
 refine wn hK9 ?_
 refine aF ?_
 refine sk fun a5 a0 => ?_
 refine dr bF (cB (b := false) rfl rfl (by decide)) ?_
 refine dy ?_
 refine wn a0 ?_
 refine aF ?_
 refine sk fun a6 a1 => ?_
 refine dr bF (cB (b := false) rfl rfl (by decide)) ?_
 refine dy ?_
 simp only [pq]
 refine wn a1 ?_
 refine aF ?_
 refine aB ?_
 refine aC ?_
 refine sW 1 S7 (tU) fun a7 a3 => ?_
 refine aG ?_
 try simp only [xt]
 refine bE (gY rfl) ?_
 have a4 := St.perm a3 (List.perm_middle (l₁ := [_]))
 have a2 : EngM _ _ _ _ n g.start _ := ⟨_, _, _, _, _, _, _, _, _, _, _, a4, hd, ht⟩
 exact ⟨rfl, _, Le.refl _, (a2.drop (.cons _ (List.Sublist.refl _)))⟩
theorem Ay (w0 : World) (F0 : Fz) (w : World) (F : Fz) (n : Nat) (g : Eng) (L : List Blk) {m : Nat} (hM : EngM w0 F0 w F n g L) (hh : Has w0) (hT : Tabs w0) (hg : EngOk m g) (hm : m ≤ 149) (hq : g.replies.length + g.waiting.length ≤ 100000) {a : Ac} (ha : BB a) {u : Value} (hu : Bs F u a.data) (hP : isP a = true → uF) (hK : isK a = true → uG) :
    Calls Tryz.prog 52 #[.pointer (some ⟨n, 0, none⟩), .agg #[.int .i64 ((a.kind : Nat) : Int), .int .i64 ((a.sess : Nat) : Int), .int .i64 ((a.keep : Nat) : Int), u]] w (wC w0 F0 F n (g.act a) L) := by
 cases a with
 | ask s b => exact QT _ _ _ _ _ _ _ hM hh hT hg hm hq s ha.1 b hu (fun h1 h2 => hP (by unfold isP; simp [h1, h2]))
 | sync => exact ML _ _ _ _ _ _ _ hM hh hT hg hm hq u
 | crash k => exact JM _ _ _ _ _ _ _ hM hh hT hg hm hq u k ha (hK rfl)
 | start => exact JN _ _ _ _ _ _ _ hM hh hT hg hm hq u
theorem QU {w0 w : World} {F0 F : Fz} {n k : Nat} {L : List Blk} (S : St w0 F0 w F (⟨n, lD true (.slice none 0 0) 0 (.slice none 0 0) (.slice (some ⟨k, 0, none⟩) 1 1) 0 (fun _ => .pointer none) (fun _ => false) (.slice none 0 0) (.slice none 0 0), 115⟩ :: ⟨k, [.slice none 0 0], 24⟩ :: L) []) : EngM w0 F0 w F n yD L := by
 have hb := (S.blk ⟨k, [.slice none 0 0], 24⟩ (by simp)).2.2
 have S1 := S.perm (List.Perm.swap _ _ _)
 have S2 := St.blkRow (k := 1) (cap := 1) (hR := FoC.mono) (base := w0.heap.size) (l := [([] : aS)]) (el := [[.slice none 0 0]]) S1 rfl ⟨⟨_, rfl, Sl.nil _ _ _⟩, trivial⟩ (by simp) rfl (by simp) (by unfold maxLen; decide) hb
 have S3 := ((S2.addNil 2 CmC CmC.mono 168 w0.heap.size).addNil 1 NtC NtC.mono 3 w0.heap.size).addNil 15 RpC RpC.mono 54 w0.heap.size
 have S4 := S3.permR (M' := nL w0.heap.size (.slice none 0 0) [] (.slice (some ⟨k, 0, none⟩) 1 1) [[]] (.slice none 0 0) [] (.slice none 0 0) []) (by
  refine (List.perm_middle (l₁ := [_, _]) (l₂ := [_])).trans ?_
  refine List.Perm.cons _ ?_
  exact (List.perm_middle (l₁ := [_, _]) (l₂ := [])).trans (List.Perm.cons _ (List.Perm.swap _ _ _)))
 exact ⟨_, _, _, _, _, _, _, _, _, _, fun _ => .pointer none, S4, Bs.nil _, fun _ _ => rfl⟩
def Cf (F : Fz) (u : Value) (g : Eng) : Prop := ∃ a c b d, u = .agg #[.bool g.up, .int .i64 ((g.synced : Nat) : Int), .int .i64 ((g.waiting.length : Nat) : Int), .slice a (g.forest g.synced).length c, .slice b g.replies.length d] ∧ Tns F (.slice a (g.forest g.synced).length c) (g.forest g.synced) ∧ Rps F (.slice b g.replies.length d) g.replies
def Co (g : Eng) (F : Fz) (u : Value) : Prop := ∃ x, u = .tuple #[x, .int .i64 0] ∧ Cf F x g
theorem JO (F : Fz) (w : World) (v : Value) (l : List Ac) (hs : Sat w F) (hh : Has w) (hT : Tabs w) (hv : Acs F v l) (hok : ∀ a ∈ l, BB a) (hc : fV l ≤ 149) (hlen : l.length ≤ 100000) (hP : ∀ a ∈ l, isP a = true → uF) (hK : ∀ a ∈ l, isK a = true → uG) :
    Calls Tryz.prog 35 #[v] w (dI w F (Co (dP l))) := by
 obtain ⟨a, c, rfl, hc1, hc2⟩ := Sl.shape hv
 unfold maxLen at hc2
 obtain ⟨l7, e7, e8, e9, f0⟩ := info_parts OM
 have S := St.start hs
 go_enter Tryz.func35, Tryz.ntmps35
 refine sk fun K1 hK1 => ?_
 refine sA S (vL _) fun n2 w3 S4 => ?_
 refine dy ?_
 refine wn hK1 ?_
 refine aE fun K5 hK5 => ?_
 refine sk fun K6 hK6 => ?_
 refine aC ?_
 refine kT ?_
 simp only [pq]
 refine wn hK6 ?_
 refine aF ?_
 refine aH ?_
 refine hK5 _ _ ?_
 refine aE fun K7 hK7 => ?_
 refine sk fun K8 hK8 => ?_
 refine aC ?_
 refine wn hK8 ?_
 refine aM ?_
 refine aW (fun mm aa l8 => ∃ (i : Nat) (F9 : Fz) (a0 : Nat → Value), mm = l.length - i ∧ a0 = eC aa ∧ aa = ⟨#[(.slice a l.length c), undef, (pP n2 0), (a0 3), undef, (a0 5), (a0 6), undef, undef, undef, undef, undef, (.slice a l.length c), (nI l.length), bF, undef, (.slice a l.length c), (nI l.length), (nI i), (a0 19), (a0 20), (a0 21), (a0 22), (a0 23), (a0 24), (a0 25), (a0 26), (a0 27), (a0 28), undef, undef, undef, undef, undef, undef, undef, undef, undef, undef, undef, undef, undef, undef, undef, undef, undef, undef, undef, undef, undef, undef, undef, undef, undef, undef, undef, undef, undef, undef, undef, undef, undef, undef, undef, undef, undef, undef, undef, undef, undef, undef, undef, undef, undef, undef], []⟩ ∧ St w F l8 F9 [⟨n2, [bF, (iI 0), (iI 0), Zn, Zn], 43⟩] [] ∧ Le F F9 ∧ (i ≤ l.length)) _ ⟨0, F, _, rfl, rfl, rfl, S4, Le.refl _, (by omega)⟩ ?_
 rintro r8 r9 s0 ⟨i, F9, a0, rfl, -, rfl, b4, b2, hi⟩ s1 f1
 refine sk fun s2 b6 => ?_
 by_cases f2 : i < l.length
 refine fA ?_
 refine wn b6 ?_
 refine aE fun s3 f3 => ?_
 refine aI ?_
 refine aH ?_
 refine f3 _ _ ?_
 refine aE fun s4 f4 => ?_
 refine aM ?_
 refine aE fun s5 f5 => ?_
 obtain ⟨p, hp⟩ : ∃ p, l[i]? = some p := ⟨l[i], List.getElem?_eq_getElem f2⟩
 have hpo := hok p (List.mem_of_getElem? hp)
 obtain ⟨l9, m0, f6, m1, m2, m3, m4, m5, m6, s6⟩ := Acs.get (hv.mono b2) hp
 have hpo2 : p.data.length ≤ 4000 := by cases p <;> first | exact hpo.2 | exact Nat.zero_le _
 refine aB ?_
 refine dr (pP l9 (m0 + i * 4)) (bY (i := i) (sz := 4) Tryz.underlying23 (CT _) rfl f6 rfl (by omega) rfl) ?_
 refine dr _ (aD rfl (cP Tryz.underlying33 rfl (nX) (eD (St.fz b4 m3) (St.fz b4 m4) (St.fz b4 m5) (St.fz b4 m6)))) ?_
 simp only [pq]
 refine sA b4 (EK _) fun s7 s8 m7 => ?_
 refine sW 0 m7 (nX) fun s9 i9 => ?_
 refine wlK f5 ?_
 refine sk fun t0 f7 => ?_
 refine dR i9 0 Tryz.underlying33 (nX) ?_
 simp only [pq]
 refine aK (v := (iI 0)) i9 rfl (fn1 (ZV _ _)) (YO hpo ▸ CB _ _ _ _ _ _ _ (by have := hpo2; omega)) (fun t1 f8 => ?_)
 refine dy ?_
 refine wn f7 ?_
 refine sk fun t2 f9 => ?_
 refine dx ?_
 refine dr bF (bP (m := (0 : Int)) (n := (0 : Int)) (b := false) rfl rfl (bne_eq_false_iff_eq.2 (by simp))) ?_
 simp only [pq]
 refine wn f9 ?_
 refine aF ?_
 refine aH ?_
 refine f4 _ _ ?_
 refine aB ?_
 refine cN (i + 1) ?_
 refine dx ?_
 refine aG ?_
 have f8 := St.drop f8 (.cons _ (List.Sublist.refl _))
 exact f1 _ _ _ (by omega) ⟨(i + 1), F9, _, rfl, rfl, rfl, f8, b2, (by omega)⟩
 refine eR ?_
 simp only [pq]
 refine wn b6 ?_
 refine aE fun t3 m8 => ?_
 refine aF ?_
 refine cQ ?_
 refine hK7 _ _ ?_
 refine sk fun t4 g0 => ?_
 refine EC (k := 1) (n := 1) (m := 1) b4 rfl l7 Zn 24 Tryz.underlying106 e7 e8 e9 f0 rfl rfl (by omega) (by omega) (by omega) ?_
 intro e5 t5 j0
 rw [UY] at j0
 refine dr (.agg #[bT, Zn, (iI 0), Zn, (.slice (aA e5 0) 1 1), (iI 0), (.pointer none), bF, (.pointer none), bF, (.pointer none), bF, (.pointer none), bF, (.pointer none), bF, (.pointer none), bF, (.pointer none), bF, (.pointer none), bF, Zn, Zn]) (aJ (fF rfl rfl) (by kernel_rfl)) ?_
 refine bB j0 (v := fun n => .pointer (aA n 0)) rfl (bQ (v := (.agg #[bT, Zn, (iI 0), Zn, (.slice (aA e5 0) 1 1), (iI 0), (.pointer none), bF, (.pointer none), bF, (.pointer none), bF, (.pointer none), bF, (.pointer none), bF, (.pointer none), bF, (.pointer none), bF, (.pointer none), bF, Zn, Zn])) rfl) (fun b3 t6 m9 => ?_)
 simp only [pq]
 refine dy ?_
 refine wn g0 ?_
 refine aE fun t7 g1 => ?_
 refine sk fun t8 g2 => ?_
 refine aC ?_
 refine wn g2 ?_
 refine aM ?_
 have g3 := QU m9
 obtain ⟨n0, n1, n3, n4, n5, n6, n7, n8, n9, o0, o1, o2, g4, g5⟩ := g3
 have g6 : EngM _ _ _ _ b3 (dP (l.take 0)) _ := ⟨_, _, _, _, _, _, _, _, _, _, _, o2, g4, g5⟩
 refine aW (fun mm aa o3 => ∃ (j : Nat) (e6 : Fz) (a5 : Nat → Value), mm = l.length - j ∧ a5 = eC aa ∧ aa = ⟨#[(.slice a l.length c), undef, (pP n2 0), (a0 3), undef, (a0 5), (a0 6), (pP b3 0), undef, (a5 9), undef, undef, (.slice a l.length c), (nI l.length), bF, undef, (.slice a l.length c), (nI l.length), (nI i), bF, (a0 20), (a0 21), (a0 22), (a0 23), (a0 24), (a0 25), (a0 26), (a0 27), (a0 28), (.slice (aA e5 0) 1 1), (.agg #[bT, Zn, (iI 0), Zn, (.slice (aA e5 0) 1 1), (iI 0), (.pointer none), bF, (.pointer none), bF, (.pointer none), bF, (.pointer none), bF, (.pointer none), bF, (.pointer none), bF, (.pointer none), bF, (.pointer none), bF, Zn, Zn]), (pP b3 0), (.slice a l.length c), (nI l.length), (nI j), (a5 35), (a5 36), (a5 37), (a5 38), (a5 39), (a5 40), (a5 41), undef, undef, undef, undef, undef, undef, undef, undef, undef, undef, undef, undef, undef, undef, undef, undef, undef, undef, undef, undef, undef, undef, undef, undef, undef, undef, undef, undef, undef, undef, undef, undef, undef], []⟩ ∧ EngM w F o3 e6 b3 (dP (l.take j)) [⟨n2, [bF, (iI 0), (iI 0), Zn, Zn], 43⟩] ∧ Le F9 e6 ∧ (j ≤ l.length)) _ ⟨0, _, _, rfl, rfl, rfl, g6, Le.refl _, (by omega)⟩ ?_
 rintro t9 u0 u1 ⟨j, e6, a5, rfl, -, rfl, g7, b7, hj⟩ u2 g8
 obtain ⟨o4, o5, o6, o7, o8, o9, p0, p1, p2, p3, p4, b5, b9, c0⟩ := g7
 refine sk fun u3 c1 => ?_
 by_cases g9 : j < l.length
 refine fA ?_
 refine wn c1 ?_
 refine aE fun u4 h0 => ?_
 refine aI ?_
 refine aH ?_
 refine h0 _ _ ?_
 refine aE fun u5 h1 => ?_
 refine aM ?_
 refine aE fun u6 h2 => ?_
 obtain ⟨p, hp⟩ : ∃ p, l[j]? = some p := ⟨l[j], List.getElem?_eq_getElem g9⟩
 have hpo := hok p (List.mem_of_getElem? hp)
 obtain ⟨p5, p6, h3, c2, c3, p7, p8, p9, h4, h5⟩ := Acs.get (hv.mono (b2.trans b7)) hp
 have hgi := JL hc hok j
 have hri := CC l j hlen
 refine aB ?_
 refine dr (pP p5 (p6 + j * 4)) (bY (i := j) (sz := 4) Tryz.underlying23 (CT _) rfl h3 rfl (by omega) rfl) ?_
 refine dr _ (aD rfl (cP Tryz.underlying33 rfl (nX) (eD (St.fz b5 p7) (St.fz b5 p8) (St.fz b5 p9) (St.fz b5 h4)))) ?_
 simp only [pq]
 refine sA b5 (EK _) fun q0 q1 h6 => ?_
 refine sW 0 h6 (nX) fun q2 c4 => ?_
 refine wlK h2 ?_
 refine aB ?_
 refine dx ?_
 refine dR c4 0 Tryz.underlying33 (nX) ?_
 simp only [pq]
 have h7 := St.perm c4 (List.perm_middle (l₁ := [_]))
 have c5 : EngM _ _ _ _ b3 (dP (l.take j)) _ := ⟨_, _, _, _, _, _, _, _, _, _, _, h7, b9, c0⟩
 refine doC rfl (fn2 (ZW _ _)) (Ay _ _ _ _ _ _ _ c5 hh hT hgi.1 hgi.2 hri hpo (u := (.slice c2 p.data.length c3)) h5 (hP p (List.mem_of_getElem? hp)) (hK p (List.mem_of_getElem? hp))) ?_
 rintro _ q3 ⟨rfl, q4, c6, c7⟩
 refine ⟨_, rfl, ?_⟩
 obtain ⟨j1, j2, j3, j4, j5, j6, j7, j8, j9, k0, k1, h8, c8, c9⟩ := c7
 refine wlK h1 ?_
 refine aB ?_
 refine cN (j + 1) ?_
 refine dx ?_
 refine aG ?_
 have d0 : EngM _ _ _ _ b3 ((dP (l.take j)).act p) _ := ⟨_, _, _, _, _, _, _, _, _, _, _, h8, c8, c9⟩
 have a7 := d0.drop (.cons _ (List.Sublist.refl _))
 rw [(show (dP (l.take j)).act p = dP (l.take (j + 1)) from (QS hp).symm)] at a7
 exact g8 _ _ _ (by omega) ⟨(j + 1), _, _, rfl, rfl, rfl, a7, (b7.trans c6), (by omega)⟩
 refine eR ?_
 simp only [pq]
 refine wn c1 ?_
 refine aE fun q5 k2 => ?_
 refine aF ?_
 refine cQ ?_
 refine g1 _ _ ?_
 refine aE fun q6 d1 => ?_
 have hil : l.take j = l := List.take_of_length_le (by omega)
 have a8 : EngM _ _ _ _ b3 (dP (l.take j)) _ := ⟨_, _, _, _, _, _, _, _, _, _, _, b5, b9, c0⟩
 rw [hil] at a8
 obtain ⟨k3, k4, k5, k6, k7, k8, k9, l0, a9, b0, l1, a1, l2, l3⟩ := a8
 have hge := MH (l := l) (by omega) hok
 have hsy := hge.sync
 have hst := hge.states
 have hsl : (dP l).synced ≤ (dP l).commits.length := by omega
 have hfa := wX hge hsl
 have hfo := wY hge hsl
 obtain ⟨h9, d2, d3, d4, i0, i1⟩ := UL (a1.own (i := 1) rfl) hfa
 refine aQ e6 15 [(10, .made (fun F' u => SP ((dP l).forest (dP l).synced) 0 F' u)), (12, .made (fun F' u => Tns F' u ((dP l).forest (dP l).synced))), (13, .is (iI 0))] (by kernel_rfl) (by kernel_rfl) ?_
 simp only [cU]
 refine gm ?_
 refine gi ?_
 refine gf (mY _ _) ?_
 simp only [pq]
 refine gl oS a1 0 ?_
 refine gm ?_
 refine gi ?_
 simp only [pq]
 refine gf (gQ _ _) ?_
 refine gl bL a1 0 ?_
 refine gv (pP h9 (0 + ((dP l).synced) * 1)) (fun _ _ => bY (i := (dP l).synced) (sz := 1) Tryz.underlying106 (oR _) rfl d2 rfl (by omega) rfl) ?_
 simp only [pq]
 refine gv _ (fun _ a2 => aD rfl (aR (pX _) (sR a2 i0))) ?_
 simp only [pq]
 refine dZ rfl rfl (fun d5 a2 hF => bZ (cJ (vs := #[(.slice d3 ((dP l).forest (dP l).synced).length d4), Zn]) (iL rfl rfl) rfl (wN _ _)) (dC a1.sat a2 (vR ((St.tells a1 a2)).sat i1 (Sl.nil _ _ _) hfo (by simp) (show fQ ((dP l).forest (dP l).synced) [] = (0, ((dP l).forest (dP l).synced)) from rfl)))) (fun q7 => ?_)
 refine gm ?_
 simp only [pq]
 refine dZ rfl rfl (fun d5 a2 hF_ => ?_) (fun q8 => ?_)
 obtain ⟨i2, i3, _, rfl, d6⟩ := hF_.get 10 (by kernel_rfl) rfl rfl
 exact gR (bV rfl rfl) ⟨i2, i3, d6⟩ (Below.refl _ _)
 simp only [pq]
 refine iM rfl rfl (v := (iI 0)) (fun d5 a2 hF_ => ?_) ?_
 obtain ⟨q9, r0, _, rfl, l4⟩ := hF_.get 10 (by kernel_rfl) rfl rfl
 exact wD (bV rfl rfl)
 refine ga ?_
 refine bO ?_
 intro r1 l5 b1
 obtain ⟨i4, d7, i5⟩ := b1.get 12 rfl rfl
 have a3 := St.gives a1 d7
 have l6 : Le _ _ := d7.le a1.sat
 have a6 := i5
 generalize i4 = i6 at *
 obtain ⟨d8, d9, rfl, r2, r3⟩ := Sl.shape a6
 have a6 : Tns _ (.slice d8 ((dP l).forest (dP l).synced).length d9) ((dP l).forest (dP l).synced) := a6
 clear b1
 simp only [cV]
 refine dy ?_
 simp only [pq]
 refine wlK d1 ?_
 refine aE fun r4 e0 => ?_
 refine aQ i6 18 [] (by kernel_rfl) (by kernel_rfl) ?_
 simp only [cU]
 refine gm ?_
 refine gi ?_
 refine gf (oT _ _) ?_
 simp only [pq]
 refine gl gP a3 0 ?_
 refine gm ?_
 refine gi ?_
 simp only [pq]
 refine gf (gQ _ _) ?_
 refine gl bL a3 0 ?_
 refine gm ?_
 simp only [pq]
 refine gi ?_
 refine gf (rN _ _) ?_
 refine gl EF a3 0 ?_
 simp only [pq]
 refine gv (.int .i64 (((dP l).waiting.length : Nat) : Int)) (fun _ _ => oH Tryz.underlying60 rfl) ?_
 iterate 2 refine gm ?_
 simp only [pq]
 refine gi ?_
 refine gf (rO _ _) ?_
 refine gl yH a3 0 ?_
 simp only [pq]
 refine bO ?_
 intro r5 e1 e2
 clear e2
 have i7 := St.tells a3 e1
 simp only [cV]
 refine dr (.agg #[(.bool (dP l).up), (.int .i64 (((dP l).synced : Nat) : Int)), (.int .i64 (((dP l).waiting.length : Nat) : Int)), (.slice d8 ((dP l).forest (dP l).synced).length d9), (.slice a9 (dP l).replies.length b0)]) (aJ (Bj rfl rfl rfl rfl rfl) (by kernel_rfl)) ?_
 refine sW 1 i7 (nY) fun r6 e3 => ?_
 refine dy ?_
 simp only [pq]
 refine wlK e0 ?_
 refine aN ?_
 try simp only [xt]
 refine bR (cR rfl ⟨_, rfl, lR e3 1 Tryz.underlying43 (nY)⟩ (gD rfl)) ?_
 obtain ⟨r7, i8, e4, a4⟩ := St.freeze e3 (i := 3) rfl (Nat.le_refl _)
 have a4 : Rps _ (.slice a9 (dP l).replies.length b0) ((dP l).replies) := a4
 exact ⟨_, _, rfl, i8.gr, _, rfl, _, _, _, _, rfl, (a6.mono e4), a4⟩
def AcV (F : Fz) (u : Value) (a : Ac) : Prop := ∃ x y, u = .agg #[.int .i64 ((a.kind : Nat) : Int), .int .i64 ((a.sess : Nat) : Int), .int .i64 ((a.keep : Nat) : Int), .slice x a.data.length y] ∧ Bs F (.slice x a.data.length y) a.data
def Cg (g : Eng) (F : Fz) (u : Value) : Prop := ∃ x, u = .tuple #[x, .bool true] ∧ Cf F x g
theorem Rps.mono {F F' : Fz} {v : Value} {l : List Rep} (h : Rps F v l) (hl : Le F F') : Rps F' v l := Sl.mono RpC.mono h hl
theorem AcC.one (F : Fz) (cs : List Value) (p : Ac) (h : AcC F cs p) : ∀ u ∈ cs, u.oneCell' = true := h.oneCell
theorem oG (F : Fz) (w : World) (u : Value) (s k : Nat) (r : Rq) (hs : Sat w F) (hh : Has w) (hv : AZ F u k r.name r.key r.last r.value) (ok : RqOk k r) :
    Calls Tryz.prog 21 #[.int .i64 ((s : Nat) : Int), u] w (dI w F fun F' u => AcV F' u (.ask s (eO k r))) := by
 obtain ⟨_, _, _, _, rfl, q0, q1, q2, q3⟩ := hv
 obtain ⟨a0, c0, rfl, _⟩ := q0.shape
 obtain ⟨a1, c1, rfl, _⟩ := q1.shape
 obtain ⟨a2, c2, rfl, _⟩ := q2.shape
 obtain ⟨a3, c3, rfl, _⟩ := q3.shape
 have S := St.start hs
 go_enter Tryz.func21, Tryz.ntmps21
 refine sk fun K1 hK1 => ?_
 refine bB S (v := fun n => .pointer (aA n 0)) rfl (bQ (v := (.agg #[(nI k), (.slice a0 r.name.length c0), (.slice a1 r.key.length c1), (.slice a2 r.last.length c2), (.slice a3 r.value.length c3)])) rfl) (fun n2 w3 S4 => ?_)
 refine sA S4 (EK _) fun n5 w6 S7 => ?_
 refine wn hK1 ?_
 refine sk fun K8 hK8 => ?_
 refine dR S7 1 Tryz.underlying27 (bM) ?_
 refine aY S7 rfl (fn1 (ZQ _ _)) (yB _ _ _ k r (S7).sat (hh.below S7.gr.below) ⟨_, _, _, _, rfl, q0, q1, q2, q3⟩ ok) ?_
 intro b2 w9 b3 a9 b0 b1
 obtain ⟨_, rfl, a7⟩ := b1
 obtain ⟨a4, a5, rfl, _⟩ := a7.shape
 refine aC ?_
 refine wn hK8 ?_
 refine sk fun b4 a6 => ?_
 iterate 2 refine dx ?_
 refine dr (.agg #[(iI 1), (nI s), (iI 0), (.slice a4 (eO k r).length a5)]) (aJ (YW rfl rfl rfl) (by kernel_rfl)) ?_
 simp only [pq]
 refine sW 0 a9 (nX) fun b5 a8 => ?_
 refine wn a6 ?_
 refine aN ?_
 try simp only [xt]
 refine bR (MX rfl ⟨_, rfl, lR a8 0 Tryz.underlying33 (nX)⟩) ?_
 exact ⟨_, _, rfl, a8.gr, _, _, rfl, a7⟩
theorem UZ (F : Fz) (w : World) (v : Value) (l : List Ac) (hs : Sat w F) (hh : Has w) (hT : Tabs w) (hv : Acs F v l) (hok : ∀ a ∈ l, BB a) (hc : fV l ≤ 149) (hlen : l.length ≤ 100000) (hP : ∀ a ∈ l, isP a = true → uF) (hK : ∀ a ∈ l, isK a = true → uG) :
    Calls Tryz.prog 23 #[v] w (dI w F (Cg (dP l))) := by
 obtain ⟨a, c, rfl, hc1, hc2⟩ := Sl.shape hv
 have S := St.start hs
 go_enter Tryz.func23, Tryz.ntmps23
 refine sk fun K1 hK1 => ?_
 refine sA S (vL _) fun n2 w3 S4 => ?_
 refine dy ?_
 refine wn hK1 ?_
 refine sk fun K5 hK5 => ?_
 refine dx ?_
 simp only [pq]
 refine aY S4 rfl (fn1 (RZ _ _)) (JO _ _ _ l (S4).sat (hh.below S4.gr.below) (hT.at S4.gr.below) hv hok hc hlen hP hK) ?_
 intro d4 w6 F8 S7 le9 b7
 obtain ⟨_, rfl, b9⟩ := b7
 obtain ⟨a6, a7, a8, a9, rfl, c0, c1⟩ := b9
 refine aC ?_
 refine sA S7 (vL _) fun c2 d5 c3 => ?_
 refine sW 0 c3 (nY) fun d6 a4 => ?_
 refine dy ?_
 simp only [pq]
 refine wn hK5 ?_
 refine sk fun d7 b0 => ?_
 refine aY a4 rfl (fn1 (RZ _ _)) (JO _ _ _ [] (a4).sat (hh.below a4.gr.below) (hT.at a4.gr.below) (Sl.nil _ _ _) (by simp) (by decide) (by simp) (by simp) (by simp)) ?_
 intro d8 d9 c4 c5 a2 c6
 obtain ⟨_, rfl, c7⟩ := c6
 obtain ⟨e0, e1, e2, e3, rfl, e4, e5⟩ := c7
 refine aC ?_
 refine sA c5 (vL _) fun c8 e6 c9 => ?_
 refine sW 0 c9 (nY) fun b6 d0 => ?_
 refine dy ?_
 simp only [pq]
 refine wn b0 ?_
 refine aE fun e7 b1 => ?_
 obtain ⟨d1, a3, b2⟩ := St.freezeBlk d0 (i := 1) rfl
 generalize addF c4 b6 c2 = d2 at *
 obtain ⟨d3, a1, b3⟩ := St.freezeBlk d1 (i := 0) rfl
 generalize addF d2 b6 c8 = e8 at *
 refine fX d3 (by kernel_rfl) (fun e9 a0 => ?_)
 refine aU 0 rfl (.agg #[(.bool (dP l).up), (.int .i64 (((dP l).synced : Nat) : Int)), (.int .i64 (((dP l).waiting.length : Nat) : Int)), (.slice a6 ((dP l).forest (dP l).synced).length a7), (.slice a8 (dP l).replies.length a9)]) a0.sat (fun _ b4 => aD rfl (kC (cs := [(.bool (dP l).up), (.int .i64 (((dP l).synced : Nat) : Int)), (.int .i64 (((dP l).waiting.length : Nat) : Int)), (.slice a6 ((dP l).forest (dP l).synced).length a7), (.slice a8 (dP l).replies.length a9)]) Tryz.underlying43 rfl (nY) (BD (c := [(.bool (dP l).up), (.int .i64 (((dP l).synced : Nat) : Int)), (.int .i64 (((dP l).waiting.length : Nat) : Int)), (.slice a6 ((dP l).forest (dP l).synced).length a7), (.slice a8 (dP l).replies.length a9)]) (St.start b4).sat (Le.cells a1 b2)))) ?_
 simp only [pq]
 refine dL 1 rfl a0.sat ?_
 simp only [pq]
 refine aU 2 rfl bT a0.sat (fun _ _ => cB (b := true) rfl rfl (by decide)) ?_
 simp only [pq]
 refine dL 3 rfl a0.sat ?_
 simp only [pq]
 refine dL 4 rfl a0.sat ?_
 simp only [pq]
 refine aU 5 rfl bT a0.sat (fun _ _ => cB (b := true) rfl rfl (by decide)) ?_
 simp only [pq]
 refine aU 6 rfl bT a0.sat (fun _ _ => nP (b := true) rfl) ?_
 simp only [pq]
 refine dL 7 rfl a0.sat ?_
 simp only [pq]
 refine aU 8 rfl _ a0.sat (fun _ _ => ef (NE _ _)) ?_
 simp only [pq]
 refine aU 9 rfl _ a0.sat (fun _ b5 => aD rfl (aR (gP _) (St.fz (St.start b5) (b3 0 _ rfl)))) ?_
 simp only [pq]
 refine aU 10 rfl bT a0.sat (fun _ _ => nP (b := true) rfl) ?_
 simp only [pq]
 refine dD 11 (by kernel_rfl) rfl ?_
 refine sW 0 a0 (nY) fun f0 a5 => ?_
 refine aG (cO a5.sat ?_)
 refine fG 12 rfl a5.sat ?_
 simp only [pq]
 refine iH (by kernel_rfl) ?_
 refine b1 _ _ ?_
 refine aN ?_
 try simp only [xt]
 refine bR (cR rfl ⟨_, rfl, lR a5 0 Tryz.underlying43 (nY)⟩ (gD rfl)) ?_
 exact ⟨_, _, rfl, a5.gr, _, rfl, _, _, _, _, rfl, (c0.mono ((a2.trans a3).trans a1)), (c1.mono ((a2.trans a3).trans a1))⟩
structure ScrOk (l : List Ac) : Prop where
  ok : ∀ a ∈ l, BB a
  c : fV l ≤ 149
  len : l.length ≤ 100000
  P : ∀ a ∈ l, isP a = true → uF
  K : ∀ a ∈ l, isK a = true → uG
theorem MM (F : Fz) (w : World) (v : Value) (l : List Ac) {g : Eng} (hs : Sat w F) (hh : Has w) (hT : Tabs w) (hv : Acs F v l) (h : ScrOk l) (hg : dP l = g) :
    Calls Tryz.prog 23 #[v] w (dI w F (Cg g)) := hg ▸ UZ F w v l hs hh hT hv h.ok h.c h.len h.P h.K
def rq0 : Rq := ⟨[], [], [], []⟩
def iY (z : Int) : UInt8 := UInt8.ofNat (z % 256).toNat
theorem YP {g : Eng} {s k : Nat} {r : Rq} (ok : RqOk k r) : g.act (.ask s (eO k r)) = if g.up then g.req s k r else g.reply (eZ s 13) := by
 unfold Eng.act Eng.ask
 simp only [(tE ok).1, (tE ok).2]
 rfl
inductive Rc where
  | rq (s k : Nat) (r : Rq)
  | sync
  | crash (k : Nat)
  | start
def Rc.ac : Rc → Ac
  | .rq s k r => .ask s (eO k r)
  | .sync => .sync
  | .crash k => .crash k
  | .start => .start
def Eng.rc (g : Eng) : Rc → Eng
  | .rq s k r => if g.up then g.req s k r else g.reply (eZ s 13)
  | .sync => g.sync
  | .crash k => g.crash k
  | .start => g.start
def BH : Rc → Prop
  | .rq s k r => s < 8 ∧ RqOk k r
  | .crash k => k ≤ 100000
  | _ => True
theorem Az (g : Eng) {a : Rc} (h : BH a) : g.act a.ac = g.rc a := by
 cases a with
 | rq s k r => exact YP h.2
 | sync => rfl
 | crash k => rfl
 | start => rfl
theorem VA : ∀ (l : List Rc) (g : Eng), (∀ a ∈ l, BH a) → (l.map Rc.ac).foldl Eng.act g = l.foldl Eng.rc g
  | [], g, _ => rfl
  | a :: l, g, h => by
    rw [List.map_cons, List.foldl_cons, List.foldl_cons, Az g (h a (by simp)), VA l _ (fun x hx => h x (by simp [hx]))]
def yF (l : List Rc) : Eng := l.foldl Eng.rc yD
theorem OO {l : List Rc} (h : ∀ a ∈ l, BH a) : dP (l.map Rc.ac) = yF l := VA l yD h
def rcP : Rc → Bool
  | .rq _ k _ => k == 8
  | _ => false
def rcK : Rc → Bool
  | .crash _ => true
  | _ => false
def rcC : Rc → Bool
  | .rq _ k _ => k == 6
  | _ => false
theorem Ba {a : Rc} (h : BH a) : isP a.ac = rcP a := by
 cases a with
 | rq s k r => unfold Rc.ac isP rcP; simp only [(tE h.2).1, (tE h.2).2]; rfl
 | _ => rfl
theorem Bb (a : Rc) : isK a.ac = rcK a := by cases a <;> rfl
theorem Bc {a : Rc} (h : BH a) : isC a.ac = rcC a := by
 cases a with
 | rq s k r => unfold Rc.ac isC rcC; simp only [(tE h.2).1, (tE h.2).2]; rfl
 | _ => rfl
theorem OP {a : Rc} (h : BH a) : BB a.ac := by
 cases a with
 | rq s k r =>
  refine ⟨h.1, ?_⟩
  have := IZ h.2
  omega
 | sync => trivial
 | crash k => exact h
 | start => trivial
theorem DQ {l : List Rc} (h : ∀ a ∈ l, BH a) : fV (l.map Rc.ac) = (l.map fun a => if rcC a then 1 else 0).sum := by
 unfold fV
 rw [List.map_map]
 congr 1
 refine List.map_congr_left fun a ha => ?_
 simp only [Function.comp_apply, Bc (h a ha)]
theorem OQ (z : Int) (w : World) : (convert 3 5 (.int .i64 z)).run Tryz.prog w = .ok (.int .u8 (((iY z).toNat : Nat) : Int)) w := by
 have e : IntKind.u8.wrap z = (((iY z).toNat : Nat) : Int) := by
  rw [show IntKind.u8.wrap z = z % 256 from rfl]
  have h : (iY z).toNat = (z % 256).toNat := by
   have hm : (z % 256).toNat < 256 := by omega
   unfold iY
   simp only [UInt8.toNat_ofNat']
   exact Nat.mod_eq_of_lt hm
  rw [h]; omega
 rw [← e]
 go_simp
theorem Rps.get {F : Fz} {a : Option Addr} {n c : Nat} {l : List Rep} (h : Rps F (.slice a n c) l) {i : Nat} {r : Rep} (hp : l[i]? = some r) :
    ∃ b o, a = some ⟨b, o, none⟩ ∧ ∃ va vc pa pc ra rc, bI F b (o + i * 15) = some (.int .i64 ((r.s : Nat) : Int)) ∧ bI F b (o + i * 15 + 1) = some (.int .i64 r.code) ∧ bI F b (o + i * 15 + 2) = some (.int .i64 r.turn) ∧ bI F b (o + i * 15 + 3) = some (.bool r.found) ∧ bI F b (o + i * 15 + 4) = some (.slice va r.value.length vc) ∧ bI F b (o + i * 15 + 5) = some (.slice pa r.pairs.length pc) ∧ bI F b (o + i * 15 + 6) = some (.slice ra r.root.length rc) ∧ Bs F (.slice va r.value.length vc) r.value ∧ Prs F (.slice pa r.pairs.length pc) r.pairs ∧ Bs F (.slice ra r.root.length rc) r.root := by
 obtain ⟨hi, rfl⟩ := List.getElem?_eq_some_iff.1 hp
 have hn := Sl.len h
 obtain ⟨b, o, e, h1⟩ := Sl.at h (by omega) (by omega)
 obtain ⟨cs, q1, ⟨v, p, q, a1, a2, a3, b1, b2, b3, rfl, r1, r2, r3, _⟩, q3⟩ := h1 i hi
 obtain ⟨va, vc, rfl, _⟩ := r1.shape
 obtain ⟨pa, pc, rfl, _⟩ := Sl.shape r2
 obtain ⟨ra, rc, rfl, _⟩ := r3.shape
 refine ⟨b, o, e, va, vc, pa, pc, ra, rc, ?_, ?_, ?_, ?_, ?_, ?_, ?_, r1, r2, r3⟩
 have := q3 0 (by simp); simpa [Nat.add_assoc] using this
 have := q3 1 (by simp); simpa [Nat.add_assoc] using this
 have := q3 2 (by simp); simpa [Nat.add_assoc] using this
 have := q3 3 (by simp); simpa [Nat.add_assoc] using this
 have := q3 4 (by simp); simpa [Nat.add_assoc] using this
 have := q3 5 (by simp); simpa [Nat.add_assoc] using this
 have := q3 6 (by simp); simpa [Nat.add_assoc] using this
def rcB : Rc → Bool
  | .rq s k r => decide (s < 8) && decide (1 ≤ k) && decide (k ≤ 8) && (sF k r.name.length r.key.length r.last.length r.value.length == 0)
  | .crash k => decide (k ≤ 100000)
  | _ => true
theorem VB {a : Rc} (h : rcB a = true) : BH a := by
 cases a with
 | rq s k r =>
  simp only [rcB, Bool.and_eq_true, decide_eq_true_eq, beq_iff_eq] at h
  exact ⟨h.1.1.1, ⟨h.1.1.2, h.1.2⟩, h.2⟩
 | crash k => simpa [rcB, BH] using h
 | sync => trivial
 | start => trivial
def YQ (l : List Rc) : Bool := l.all rcB && decide ((l.map fun a => if rcC a then 1 else 0).sum ≤ 149) && decide (l.length ≤ 100000)
theorem Bd {l : List Rc} (h : YQ l = true) (hP : l.any rcP = true → uF) (hK : l.any rcK = true → uG) : ScrOk (l.map Rc.ac) := by
 simp only [YQ, Bool.and_eq_true, decide_eq_true_eq] at h
 have hok : ∀ a ∈ l, BH a := fun a ha => VB (List.all_eq_true.1 h.1.1 a ha)
 refine ⟨fun a ha => ?_, by rw [DQ hok]; exact h.1.2, by rw [List.length_map]; exact h.2, fun a ha hp => ?_, fun a ha hk => ?_⟩
 obtain ⟨x, hx, rfl⟩ := List.mem_map.1 ha; exact OP (hok x hx)
 obtain ⟨x, hx, rfl⟩ := List.mem_map.1 ha
 exact hP (List.any_eq_true.2 ⟨x, hx, by rw [← Ba (hok x hx)]; exact hp⟩)
 obtain ⟨x, hx, rfl⟩ := List.mem_map.1 ha
 exact hK (List.any_eq_true.2 ⟨x, hx, by rw [← Bb]; exact hk⟩)
theorem getD_some {α : Type} {l : List α} {i : Nat} {x : α} (h : l[i]? = some x) : i < l.length := (List.getElem?_eq_some_iff.1 h).1
open Go.ChangeShapes Go.WideShapes Go.ChangeAt Go.RowKit
abbrev DR : List (String × DataW Unit) := [("canopy/digest.rounds", Rows.laid_canopy_digest_rounds), ("canopy/digest.goes", Rows.laid_canopy_digest_goes), ("canopy/digest.turns", Rows.laid_canopy_digest_turns), ("canopy/wire.has", Rows.laid_canopy_wire_has)]
theorem VC {W : World} (h : laidMetH Tryz.prog DR W) : Tabs W := by
 have hr : Lib.TabIs Tryz.prog W "canopy/digest.rounds" .u64 OI :=
  vW (l := DR) h 0 _ _ _ rfl OJ JC Tryz.underlying218 Tryz.underlying215 MC GB
 have hg : Lib.TabIs Tryz.prog W "canopy/digest.goes" .i64 ZD :=
  vW (l := DR) h 1 _ _ _ rfl ZE QL Tryz.underlying235 Tryz.underlying3 UE MD
 have ht : Lib.TabIs Tryz.prog W "canopy/digest.turns" .i64 UF :=
  vW (l := DR) h 2 _ _ _ rfl UG ME Tryz.underlying235 Tryz.underlying3 QM JD
 refine ⟨fun i hi => ?_, fun i hi => ?_, fun i hi => ?_⟩
 rw [MG hg ZE (n := 24) rfl hi, UH i hi]
 rw [MG ht UG (n := 24) rfl hi, QN i hi]
 rw [MG hr OJ (n := 24) rfl hi, MF i hi]
theorem Ch : Tryz.prog.globalNamed "canopy/wire.has" = some 0 := by kernel_rfl
theorem VD : (Tryz.prog.globals[(0 : Nat)]?).map (·.type) = some 92 := by kernel_rfl
theorem QV : Tryz.prog.cellsOf 92 = 9 := by kernel_rfl
theorem VE : Tryz.prog.cellsOf 3 = 1 := by kernel_rfl
theorem VF {W : World} (h : laidMetH Tryz.prog DR W) : Has W := by
 have ht : Lib.TabIs Tryz.prog W "canopy/wire.has" .i64 MA :=
  vW (l := DR) h 3 _ _ _ rfl Ch VD Tryz.underlying92 Tryz.underlying3 VE QV
 intro i hi
 have := ht.cell Ch i hi
 rw [this]
 simp [List.getD, hi]
theorem YR {W : World} (h : laidMetH Tryz.prog [("canopy/digest.rounds", Rows.laid_canopy_digest_rounds), ("canopy/digest.goes", Rows.laid_canopy_digest_goes), ("canopy/digest.turns", Rows.laid_canopy_digest_turns), ("canopy/wire.has", Rows.laid_canopy_wire_has)] W) : Has W ∧ Tabs W := ⟨VF h, VC h⟩
noncomputable def BI (os : Os) : World := { JE os with heap := (JE os).heap.modify 0 (setCells #[.int .i64 0, .int .i64 0, .int .i64 3, .int .i64 7, .int .i64 11, .int .i64 3, .int .i64 0, .int .i64 0, .int .i64 3]) }
theorem Rps.row {F : Fz} {a : Option Addr} {n c : Nat} {l : List Rep} (h : Rps F (.slice a n c) l) {i : Nat} {r : Rep} (hp : l[i]? = some r) :
    ∃ b o, a = some ⟨b, o, none⟩ ∧ ∃ va vc pa pc ra rc a1 a2 a3 b1 b2 b3, (∀ (j : Nat) v, [Value.int .i64 ((r.s : Nat) : Int), .int .i64 r.code, .int .i64 r.turn, .bool r.found, .slice va r.value.length vc, .slice pa r.pairs.length pc, .slice ra r.root.length rc, .bool r.outer.empty, a1, a2, a3, .bool r.inner.empty, b1, b2, b3][j]? = some v → bI F b (o + i * 15 + j) = some v) ∧ (∀ u ∈ [a1, a2, a3, b1, b2, b3], u.oneCell' = true) ∧ Bs F (.slice va r.value.length vc) r.value ∧ Prs F (.slice pa r.pairs.length pc) r.pairs ∧ Bs F (.slice ra r.root.length rc) r.root := by
 obtain ⟨hi, rfl⟩ := List.getElem?_eq_some_iff.1 hp
 have hn := Sl.len h
 obtain ⟨b, o, e, h1⟩ := Sl.at h (by omega) (by omega)
 obtain ⟨cs, q1, hc, q3⟩ := h1 i hi
 have hone := RpC.oneCell hc
 obtain ⟨v, p, q, a1, a2, a3, b1, b2, b3, rfl, r1, r2, r3, _⟩ := hc
 obtain ⟨va, vc, rfl, _⟩ := r1.shape
 obtain ⟨pa, pc, rfl, _⟩ := Sl.shape r2
 obtain ⟨ra, rc, rfl, _⟩ := r3.shape
 refine ⟨b, o, e, va, vc, pa, pc, ra, rc, a1, a2, a3, b1, b2, b3, fun j v hv => ?_, fun u hu => hone u ?_, r1, r2, r3⟩
 obtain ⟨hj, e⟩ := List.getElem?_eq_some_iff.1 hv
 have := q3 j (by simpa using hj)
 rw [← e]; simpa [Nat.add_assoc] using this
 simp only [List.mem_cons, List.not_mem_nil, or_false] at hu ⊢
 rcases hu with h | h | h | h | h | h <;> simp [h]
theorem AcV.mono {F F' : Fz} {v : Value} {a : Ac} (h : AcV F v a) (hl : Le F F') : AcV F' v a := by
 obtain ⟨x, y, e, r⟩ := h
 exact ⟨x, y, e, r.mono hl⟩
def qS (v : UInt8) : List Rc := [.rq 0 1 rq0, .rq 0 4 ⟨[97], [107], [], [v]⟩, .rq 0 6 rq0]
def xR (v : UInt8) (k : Nat) : List Rc := qS v ++ [.crash k, .start, .sync, .rq 0 1 rq0]
theorem MN (v : UInt8) : let g := yF (qS v)
    g.up = true ∧ g.commits = [⟨1, [⟨[97], [107], false, [v]⟩]⟩] ∧ g.synced = 0 ∧ g.forests = [[], [([97], [([107], [v])])]] ∧ g.replies.length = 2 :=
  ⟨by kernel_rfl, by kernel_rfl, by kernel_rfl, by kernel_rfl, by kernel_rfl⟩
theorem BJ (v : UInt8) : ∀ a ∈ qS v, BH a := by
 intro a ha
 simp only [qS, List.mem_cons, List.not_mem_nil, or_false] at ha
 rcases ha with rfl | rfl | rfl
 ·exact ⟨by decide, by decide, by kernel_rfl⟩
 ·exact ⟨by decide, (by decide : 1 ≤ 4 ∧ 4 ≤ 8), by kernel_rfl⟩
 ·exact ⟨by decide, by decide, by kernel_rfl⟩
theorem VG (v : UInt8) (k : Nat) : let g := yF (xR v k)
    g.replies.length = 3 ∧ g.waiting.length = 0 ∧ g.replies[2]? = some (mD 0 g.synced) ∧ (g.synced = 0 ∧ g.forest g.synced = [] ∨ g.synced = 1 ∧ g.forest g.synced = [([97], [([107], [v])])]) := by
 have hok : EngOk (fV ((qS v).map Rc.ac)) (yF (qS v)) := by
  have := MH (l := (qS v).map Rc.ac) (by rw [DQ (BJ v)]; exact Nat.le_of_ble_eq_true (by kernel_rfl)) (fun a ha => by obtain ⟨x, hx, rfl⟩ := List.mem_map.1 ha; exact OP (BJ v x hx))
  rwa [OO (BJ v)] at this
 obtain ⟨h1, h2, h3, h4, h5⟩ := MN v
 have hg : yF (xR v k) = (((((yF (qS v)).crash k).start).sync).rc (.rq 0 1 rq0)) := by
  unfold yF xR
  rw [List.foldl_append, List.foldl_cons, List.foldl_cons, List.foldl_cons, List.foldl_cons, List.foldl_nil]
  rfl
 simp only
 have hl := hok.left_le k
 rw [JH hok h1] at hg
 rw [h2] at hl
 have hl2 : (yF (qS v)).left k = 0 ∨ (yF (qS v)).left k = 1 := by
  have : (yF (qS v)).left k ≤ 1 := hl.2
  omega
 generalize yF (qS v) = s at *
 rw [h2, h4] at hg
 rcases hl2 with e | e <;> rw [e] at hg <;> rw [hg]
 refine ⟨?_, rfl, ?_, .inl ⟨rfl, rfl⟩⟩
 show (s.replies ++ [_]).length = 3; simp [h5]
 show (s.replies ++ [_])[2]? = _
 rw [List.getElem?_append_right (by omega), h5]; rfl
 refine ⟨?_, rfl, ?_, .inr ⟨rfl, rfl⟩⟩
 show (s.replies ++ [_]).length = 3; simp [h5]
 show (s.replies ++ [_])[2]? = _
 rw [List.getElem?_append_right (by omega), h5]; rfl
theorem VH (n m : Int) (h : 1 ≤ m) : ∃ k : Nat, pick n m = ((k : Nat) : Int) ∧ ((k : Nat) : Int) < m := by
 have := VJ n m h
 exact ⟨(pick n m).toNat, by omega, by omega⟩
theorem JP (n m : Int) (w : World) (h1 : -9223372036854775808 ≤ n) (h2 : n ≤ 9223372036854775807) (hm : 1 ≤ m) (hm2 : m ≤ 10000000) :
    Calls Tryz.prog 20 #[.int .i64 n, .int .i64 m] w (cS w (.int .i64 (pick n m))) := by
 have S := St.start (Sat.whole w)
 go_enter Tryz.func20, Tryz.ntmps20
 refine sk fun K1 hK1 => ?_
 refine dy ?_
 refine wn hK1 ?_
 refine sk fun K2 hK2 => ?_
 refine aC ?_
 refine aK (v := (.int .i64 (pick n m))) S rfl (fn2 (ZP _ _)) (fE (GH n m _ h1 h2 hm hm2)) (fun w3 S4 => ?_)
 refine dy ?_
 refine wn hK2 ?_
 refine aN ?_
 try simp only [xt]
 refine bR (aZ rfl (gD rfl)) ?_
 exact ⟨rfl, S4.gr.below⟩
theorem Be : uG := fun w0 F0 w F n g L _ k hM hT hg hm hk => QR w0 F0 w F n g L k hM hT hg hm hk
end Go.Proofs.YtilgpdpooildcaaGreatDoor
