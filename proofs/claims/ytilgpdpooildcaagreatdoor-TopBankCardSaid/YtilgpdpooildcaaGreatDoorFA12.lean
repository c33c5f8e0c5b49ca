/- Rules, plain laws and walks: SV7 SV8 SV9 P16 SV10 SV11 P17 SV12 TW SV13 IN P22 P23 P24 S11 -/
import Derived.Test.YtilgpdpooildcaaGreatDoorFA11
import Derived.Test.YtilgpdpooildcaaGreatDoorFA10
import Derived.Test.YtilgpdpooildcaaGreatDoorFA2
import Derived.Test.YtilgpdpooildcaaGreatDoorFA9
import Derived.Test.YtilgpdpooildcaaGreatDoorFA3
import Derived.Test.YtilgpdpooildcaaGreatDoorFA5
import Derived.Test.YtilgpdpooildcaaGreatDoorFA7
namespace Go.Proofs.YtilgpdpooildcaaGreatDoor
set_option maxHeartbeats 8000000
open Go.RowKit
set_option maxRecDepth 100000
set_option linter.unusedVariables false
set_option linter.unusedSimpArgs false
theorem FG (w : World) (n : Nat) (t : Int) (h1 : n ≤ 1000000) (h2 : 0 ≤ t) (h3 : t ≤ 1048576) {b : Bool} (h : Eng.keptB n t = b) : Calls Tryz.prog 80 #[.int .i64 ((n : Nat) : Int), .int .i64 t] w (cY w (.bool b)) := by
 subst h
 by_cases hk : 0 ≤ t ∧ t ≤ n ∧ (n : Int) - t < 6
 ·have e : Eng.keptB n t = true := by unfold Eng.keptB; simp [hk]
  rw [e]
  exact (XH n t w hk.1 hk.2.1 hk.2.2 (by omega)).mono fun e w' ⟨h, h'⟩ => by subst h'; exact ⟨h, Below.refl _ _⟩
 ·have e : Eng.keptB n t = false := by
   unfold Eng.keptB
   rw [← Bool.not_eq_true]
   simp only [Bool.and_eq_true, decide_eq_true_eq]
   intro h; exact hk ⟨h.1.1, h.1.2, h.2⟩
  rw [e]
  exact (Bl n t w (by omega) (by omega) (by omega) (by omega) (by omega)).mono fun e w' ⟨h, h'⟩ => by subst h'; exact ⟨h, Below.refl _ _⟩
def vA : Prop := ∀ (w0 : World) (F0 : Fz) (w : World) (F : Fz) (n : Nat) (g : Eng) (L : List Blk) {m : Nat} (s : Nat) (u : Value) (r : Rq), EngM w0 F0 w F n g L → Tabs w0 → EngOk m g → CF F u (8 : Nat) r.name r.key r.last r.value → RqOk 8 r → g.replies.length ≤ 100000 →
    Calls Tryz.prog 78 #[.pointer (some ⟨n, 0, none⟩), .int .i64 ((s : Nat) : Int), u] w (xA w0 F0 F n (g.prove s r) L)
theorem Bm (w0 : World) (F0 : Fz) (w : World) (F : Fz) (n : Nat) (g : Eng) (L : List Blk) {m : Nat} (s : Nat) (hs8 : s < 8) (u : Value) (b : By) (hM : EngM w0 F0 w F n g L) (hh : Has w0) (hT : Tabs w0) (hg : EngOk m g) (hm : m ≤ 149) (hu : Bs F u b) (hP : wdE b = 0 → (wdR b).1 = 8 → vA) (hq : g.replies.length ≤ 100000) :
    Calls Tryz.prog 68 #[.pointer (some ⟨n, 0, none⟩), .int .i64 ((s : Nat) : Int), u] w (xA w0 F0 F n (g.ask s b) L) := by
 obtain ⟨da, dc, rfl, _⟩ := hu.shape
 have hd0 := hu
 obtain ⟨ad, cd, ac, cc, af, cf, aw, cw, ar, cr, pv, S, hd, ht⟩ := hM
 obtain ⟨⟨k, r⟩, hkr⟩ : ∃ p : Nat × Rq, wdR b = p := ⟨_, rfl⟩
 have hsy := hg.sync
 have hmy := hg.many
 go_enter Tryz.func68, Tryz.ntmps68
 refine aF fun K4 hK4 => ?_
 refine sk fun K5 hK5 => ?_
 refine dx ?_
 refine di ?_
 refine df (pV _ _) ?_
 simp only [pq]
 refine dl (iE _) S 0 ?_
 refine dr (.bool (!g.up)) (xO rfl rfl) ?_
 refine wn hK5 ?_
 refine wp_cond_split rfl (fun hc6 => ?_) (fun hc6 => ?_)
 refine sk fun K7 hK7 => ?_
 iterate 2 refine dx ?_
 simp only [pq]
 have hM8 : EngM _ _ _ _ n g _ := ⟨_, _, _, _, _, _, _, _, _, _, _, S, hd, ht⟩
 refine doC rfl (fn3 (kZ _ _)) (gU _ _ _ _ _ _ _ s 13 hM8 hq) ?_
 rintro _ w9 ⟨rfl, ct, l0, l1⟩
 refine ⟨_, rfl, ?_⟩
 obtain ⟨y1, y2, y3, y4, y5, y6, y7, y8, y9, z0, z1, z2, l2, l3⟩ := l1
 refine wn hK7 ?_
 refine aO ?_
 try simp only [xt]
 refine bR (iN rfl) ?_
 have l4 : EngM _ _ _ _ n (g.reply (cX s 13)) _ := ⟨_, _, _, _, _, _, _, _, _, _, _, z2, l2, l3⟩
 have he : g.ask s b = (g.reply (cX s 13)) := by
  unfold Eng.ask
  rw [if_neg (by simpa using hc6)]
 rw [he]
 exact ⟨rfl, _, l0, l4⟩
 refine aI ?_
 refine hK4 _ _ ?_
 refine sk fun cu l5 => ?_
 refine dx ?_
 refine aY S rfl (fn1 (Dm _ _)) (CG _ _ _ b (S).sat (hh.below S.gr.below) hd0 rfl hkr) ?_
 intro cv cx a7 z3 a0 z4
 obtain ⟨cy, rfl, z5⟩ := z4
 obtain ⟨cz, db, dd, dg, rfl, l6, l7, l8, l9⟩ := z5
 obtain ⟨c6, c7, rfl, _⟩ := l6.shape
 obtain ⟨c8, c9, rfl, _⟩ := l7.shape
 obtain ⟨d0, d1, rfl, _⟩ := l8.shape
 obtain ⟨d2, d3, rfl, _⟩ := l9.shape
 simp only [pq]
 refine dx ?_
 iterate 2 refine de ?_
 simp only [pq]
 refine sA z3 (GI _) fun k9 dh z6 => ?_
 refine sW 0 z6 (bP) fun dj a4 => ?_
 refine dy ?_
 simp only [pq]
 refine wn l5 ?_
 refine aF fun dk m0 => ?_
 refine sk fun dm d4 => ?_
 refine dx ?_
 simp only [pq]
 by_cases a2 : (wdE b) = (0 : Int)
 refine lQ ?_
 refine wn d4 ?_
 refine aG ?_
 refine aI ?_
 refine m0 _ _ ?_
 refine aF fun dq m1 => ?_
 have ok : RqOk k r := by have := (KU a2).1; rwa [hkr] at this
 have hkk := ok.kind
 refine aB ?_
 iterate 2 refine dx ?_
 refine di ?_
 simp only [pq]
 refine df (wI _ _) ?_
 refine dr (pP n (6 + s * 2)) (XE (i := s) Tryz.underlying113 (BE _) rfl rfl (hs8)) ?_
 refine dy ?_
 simp only [pq]
 refine wlK m1 ?_
 refine aM ?_
 refine sk fun ds d5 => ?_
 refine df (mB _ _) ?_
 refine dl (bU _) a4 0 ?_
 simp only [pq]
 by_cases a3 : k = 8
 refine iR ?_
 refine dy ?_
 refine wn d5 ?_
 refine aK ?_
 refine aB ?_
 iterate 2 refine dx ?_
 refine dR a4 0 Tryz.underlying27 (bP) ?_
 simp only [pq]
 have z7 := St.perm a4 (List.perm_middle (l₁ := [_]))
 have m2 : EngM _ _ _ _ n g _ := ⟨_, _, _, _, _, _, _, _, _, _, _, z7, (hd.mono a0), (dU ht a0)⟩
 refine doC rfl (cP (vs := #[(pP n 0), (nI s), (.agg #[(nI k), (.slice c6 r.name.length c7), (.slice c8 r.key.length c9), (.slice d0 r.last.length d1), (.slice d2 r.value.length d3)])]) (IU rfl rfl rfl) rfl (Dn _ _)) ((hP a2 (by rw [hkr]; exact a3)) _ _ _ _ _ _ _ s _ r m2 hT hg ⟨_, _, _, _, (by rw [a3]), l6, l7, l8, l9⟩ (a3 ▸ ok) hq) ?_
 rintro _ du ⟨rfl, dv, m3, m4⟩
 refine ⟨_, rfl, ?_⟩
 obtain ⟨z8, z9, aa, ab, ae, ag, ah, ai, aj, ak, al, am, m5, m6⟩ := m4
 refine aH ?_
 try simp only [xt]
 refine bE (iN rfl) ?_
 have m7 : EngM _ _ _ _ n (g.prove s r) _ := ⟨_, _, _, _, _, _, _, _, _, _, _, am, m5, m6⟩
 have he : g.ask s b = (g.prove s r) := by
  unfold Eng.ask
  rw [if_pos (by simpa using hc6)]
  rw [if_pos a2, hkr]
  simp only
  unfold Eng.req
  rw [if_pos a3]
 rw [he]
 exact ⟨rfl, _, (a0.trans m3), (m7.drop (.cons _ (List.Sublist.refl _)))⟩
 refine gL ?_
 refine dy ?_
 refine wn d5 ?_
 refine aG ?_
 refine aF fun dw a8 => ?_
 cases hws : g.waits s with
 | true =>
  refine aQ a7 13 [] (by kernel_rfl) (by kernel_rfl) ?_
  simp only [cV]
  refine gm ?_
  simp only [pq]
  refine gi ?_
  refine gf (nW _ _) ?_
  refine gv _ (fun _ an => aE rfl (aT (iE _) (St.cell (St.tells a4 an) (i := 1) rfl ((oH hs8).trans (congrArg some (congrArg Value.bool hws)))))) ?_
  simp only [pq]
  refine gm ?_
  simp only [pq]
  refine dN (bY rfl rfl rfl (c := true) rfl (by decide)) ?_
  simp only [pq]
  refine dN (bY rfl rfl rfl (c := true) rfl (by decide)) ?_
  simp only [pq]
  refine dN (bY rfl rfl rfl (c := true) rfl (by decide)) ?_
  simp only [pq]
  refine dN (bY rfl rfl rfl (c := true) rfl (by decide)) ?_
  simp only [pq]
  refine dN (bY rfl rfl rfl (c := true) rfl (by decide)) ?_
  simp only [pq]
  refine dN (bY rfl rfl rfl (c := true) rfl (by decide)) ?_
  simp only [pq]
  refine dN (bY rfl rfl rfl (c := true) rfl (by decide)) ?_
  simp only [pq]
  refine dN (bY rfl rfl rfl (c := true) rfl (by decide)) ?_
  refine bN ?_
  intro dz m8 m9
  clear m9
  have ao := St.tells a4 m8
  simp only [cW]
  refine nO ?_
  simp only [pq]
  refine dp ?_
  refine dy ?_
  refine wlK a8 ?_
  refine aK ?_
  refine aB ?_
  iterate 2 refine dx ?_
  simp only [pq]
  have ap := St.perm ao (List.perm_middle (l₁ := [_]))
  have n0 : EngM _ _ _ _ n g _ := ⟨_, _, _, _, _, _, _, _, _, _, _, ap, (hd.mono a0), (dU ht a0)⟩
  refine doC rfl (fn3 (kZ _ _)) (gU _ _ _ _ _ _ _ s 6 n0 hq) ?_
  rintro _ ea ⟨rfl, eb, n1, n2⟩
  refine ⟨_, rfl, ?_⟩
  obtain ⟨aq, au, av, ax, ay, p6, p7, p8, p9, q0, q1, n3, d6, d7⟩ := n2
  refine aH ?_
  try simp only [xt]
  refine bE (iN rfl) ?_
  have d8 : EngM _ _ _ _ n (g.reply (cX s 6)) _ := ⟨_, _, _, _, _, _, _, _, _, _, _, n3, d6, d7⟩
  have he : g.ask s b = (g.reply (cX s 6)) := by
   unfold Eng.ask
   rw [if_pos (by simpa using hc6)]
   rw [if_pos a2, hkr]
   simp only
   unfold Eng.req
   rw [if_neg a3, if_pos hws]
  rw [he]
  exact ⟨rfl, _, (a0.trans n1), (d8.drop (.cons _ (List.Sublist.refl _)))⟩
 | false =>
  cases hts : g.txn s with
  | none =>
   have hp : pv s = .pointer none := by have := ht s hs8; rw [hts] at this; exact this
   by_cases h1 : k = 1
   refine aQ a7 13 [] (by kernel_rfl) (by kernel_rfl) ?_
   simp only [cV]
   refine gm ?_
   refine gi ?_
   refine gf (nW _ _) ?_
   simp only [pq]
   refine gv _ (fun _ b9 => aE rfl (aT (iE _) (St.cell (St.tells a4 b9) (i := 1) rfl ((oH hs8).trans (congrArg some (congrArg Value.bool hws)))))) ?_
   iterate 2 refine gm ?_
   simp only [pq]
   refine gi ?_
   refine gf (dZ _ _) ?_
   refine gv _ (fun _ b9 => aE rfl (aT (eC _) (St.cell (St.tells a4 b9) (i := 1) rfl ((eI hs8).trans (congrArg some hp))))) ?_
   simp only [pq]
   refine gv bF (fun _ _ => zY (p := none) Tryz.underlying110 rfl rfl) ?_
   refine gf (mB _ _) ?_
   refine gl bU a4 0 ?_
   simp only [pq]
   refine gv bT (fun _ _ => cB (m := ((k : Nat) : Int)) (n := (1 : Int)) (b := true) rfl rfl (beq_iff_eq.2 (by omega))) ?_
   refine bN ?_
   intro az d9 e0
   clear e0
   have c0 := St.tells a4 d9
   simp only [cW]
   refine dr bF (oP Tryz.underlying4 rfl rfl (rfl)) ?_
   refine dp ?_
   refine dy ?_
   simp only [pq]
   refine wlK a8 ?_
   refine aG ?_
   refine sk fun ba e1 => ?_
   refine df (mB _ _) ?_
   refine dl (bU _) c0 0 ?_
   refine iR ?_
   simp only [pq]
   refine dy ?_
   refine wn e1 ?_
   refine aK ?_
   refine sk fun bb e2 => ?_
   iterate 2 refine dx ?_
   refine di ?_
   simp only [pq]
   refine df (iF _ _) ?_
   refine dl (bU _) c0 1 ?_
   refine dr (.agg #[(nI g.synced), Zn, Zn]) (aJ (cG rfl) (by kernel_rfl)) ?_
   simp only [pq]
   refine aZ c0 (v := fun n => .pointer (aA n 0)) rfl (bW (v := (.agg #[(nI g.synced), Zn, Zn])) rfl) (fun a6 n4 c1 => ?_)
   simp only [pq]
   have c1 : St w0 F0 n4 a7 (⟨a6, [(nI g.synced), Zn, Zn], 141⟩ :: ⟨k9, [(nI k), (.slice c6 r.name.length c7), (.slice c8 r.key.length c9), (.slice d0 r.last.length d1), (.slice d2 r.value.length d3)], 27⟩ :: ⟨n, lZ g.up (.slice ad g.tape.data.length cd) g.tape.synced (.slice ac g.commits.length cc) (.slice af g.forests.length cf) g.synced pv g.waits (.slice aw g.waiting.length cw) (.slice ar g.replies.length cr), 115⟩ :: L) (oJ w0.heap.size (.slice ac g.commits.length cc) g.commits (.slice af g.forests.length cf) g.forests (.slice aw g.waiting.length cw) g.waiting (.slice ar g.replies.length cr) g.replies) := c1
   refine di ?_
   refine df (dZ _ _) ?_
   refine fK (i := 2) (v := (pP a6 0)) c1 rfl rfl rfl rfl (nV) (mF rfl) (by rw [lC]; simp only [Value.cells]; exact Nat.le_of_lt_succ (by simp only [List.size_toArray, List.length_cons, List.length_nil]; omega)) (fun e3 b1 => ?_)
   simp only [pq]
   have b1 : St w0 F0 e3 a7 (⟨a6, [(nI g.synced), Zn, Zn], 141⟩ :: ⟨k9, [(nI k), (.slice c6 r.name.length c7), (.slice c8 r.key.length c9), (.slice d0 r.last.length d1), (.slice d2 r.value.length d3)], 27⟩ :: ⟨n, bQ (lZ g.up (.slice ad g.tape.data.length cd) g.tape.synced (.slice ac g.commits.length cc) (.slice af g.forests.length cf) g.synced pv g.waits (.slice aw g.waiting.length cw) (.slice ar g.replies.length cr)) (6 + s * 2) [(pP a6 0)], 115⟩ :: L) (oJ w0.heap.size (.slice ac g.commits.length cc) g.commits (.slice af g.forests.length cf) g.forests (.slice aw g.waiting.length cw) g.waiting (.slice ar g.replies.length cr) g.replies) := b1
   rw [oI hs8] at b1
   refine wn e2 ?_
   obtain ⟨e4, a9, b0⟩ := St.freezeBlk b1 (i := 0) rfl
   generalize addF a7 e3 a6 = bc at *
   have e5 := rJ (x := .pointer (some ⟨a6, 0, none⟩)) (t := some (⟨g.synced, [], []⟩ : Tx)) (dU ht (a0.trans a9)) ⟨_, _, _, _, _, rfl, b0 0 _ rfl, b0 1 _ rfl, b0 2 _ rfl, Sl.nil _ _ _, Sl.nil _ _ _⟩ s
   refine aB ?_
   iterate 3 refine dx ?_
   simp only [pq]
   refine di ?_
   refine df (iF _ _) ?_
   refine dl (bU _) e4 1 ?_
   simp only [pq]
   refine dr (.agg #[(nI s), (iI 0), (nI g.synced), bF, Zn, Zn, Zn, bF, Zn, Zn, Zn, bF, Zn, Zn, Zn]) (aJ (eZ rfl rfl) (by kernel_rfl)) ?_
   simp only [pq]
   have n5 := St.perm e4 (List.perm_middle (l₁ := [_]))
   have e6 : EngM _ _ _ _ n (g.setTxn s (some (⟨g.synced, [], []⟩ : Tx))) _ := ⟨_, _, _, _, _, _, _, _, _, _, _, n5, (hd.mono (a0.trans a9)), e5⟩
   refine doC rfl (fn2 (qX _ _)) (kS _ _ _ _ _ _ _ _ _ e6 (RpV.turn _ s ((g.synced : Nat) : Int)) hq) ?_
   rintro _ bd ⟨rfl, be, e7, e8⟩
   refine ⟨_, rfl, ?_⟩
   obtain ⟨q2, q3, q4, q5, q6, q7, q8, q9, r0, r1, r2, n6, e9, f0⟩ := e8
   refine aH ?_
   try simp only [xt]
   refine bE (iN rfl) ?_
   have f1 : EngM _ _ _ _ n ((g.setTxn s (some (⟨g.synced, [], []⟩ : Tx))).reply (mX s g.synced)) _ := ⟨_, _, _, _, _, _, _, _, _, _, _, n6, e9, f0⟩
   have he : g.ask s b = ((g.setTxn s (some (⟨g.synced, [], []⟩ : Tx))).reply (mX s g.synced)) := by
    unfold Eng.ask
    rw [if_pos (by simpa using hc6)]
    rw [if_pos a2, hkr]
    simp only
    unfold Eng.req
    rw [if_neg a3, if_neg (by rw [hws]; decide), hts]
    simp only
    rw [if_pos h1]
   rw [he]
   exact ⟨rfl, _, ((a0.trans a9).trans e7), (f1.drop (.cons _ (List.Sublist.refl _)))⟩
   refine aQ a7 13 [] (by kernel_rfl) (by kernel_rfl) ?_
   simp only [cV]
   refine gm ?_
   refine gi ?_
   refine gf (nW _ _) ?_
   simp only [pq]
   refine gv _ (fun _ c2 => aE rfl (aT (iE _) (St.cell (St.tells a4 c2) (i := 1) rfl ((oH hs8).trans (congrArg some (congrArg Value.bool hws)))))) ?_
   iterate 2 refine gm ?_
   simp only [pq]
   refine gi ?_
   refine gf (dZ _ _) ?_
   refine gv _ (fun _ c2 => aE rfl (aT (eC _) (St.cell (St.tells a4 c2) (i := 1) rfl ((eI hs8).trans (congrArg some hp))))) ?_
   simp only [pq]
   refine gv bF (fun _ _ => zY (p := none) Tryz.underlying110 rfl rfl) ?_
   refine gf (mB _ _) ?_
   refine gl bU a4 0 ?_
   simp only [pq]
   refine gv bF (fun _ _ => cB (m := ((k : Nat) : Int)) (n := (1 : Int)) (b := false) rfl rfl (beq_eq_false_iff_ne.2 (by omega))) ?_
   refine bN ?_
   intro bf f2 f3
   clear f3
   have n7 := St.tells a4 f2
   simp only [cW]
   refine dr bT (oP Tryz.underlying4 rfl rfl (rfl)) ?_
   refine dp ?_
   refine dy ?_
   simp only [pq]
   refine wlK a8 ?_
   refine aK ?_
   refine aB ?_
   iterate 2 refine dx ?_
   simp only [pq]
   have n8 := St.perm n7 (List.perm_middle (l₁ := [_]))
   have f4 : EngM _ _ _ _ n g _ := ⟨_, _, _, _, _, _, _, _, _, _, _, n8, (hd.mono a0), (dU ht a0)⟩
   refine doC rfl (fn3 (kZ _ _)) (gU _ _ _ _ _ _ _ s 6 f4 hq) ?_
   rintro _ bg ⟨rfl, bh, f5, f6⟩
   refine ⟨_, rfl, ?_⟩
   obtain ⟨r3, r4, r5, r6, r7, r8, r9, s0, s1, s2, s3, n9, f7, f8⟩ := f6
   refine aH ?_
   try simp only [xt]
   refine bE (iN rfl) ?_
   have f9 : EngM _ _ _ _ n (g.reply (cX s 6)) _ := ⟨_, _, _, _, _, _, _, _, _, _, _, n9, f7, f8⟩
   have he : g.ask s b = (g.reply (cX s 6)) := by
    unfold Eng.ask
    rw [if_pos (by simpa using hc6)]
    rw [if_pos a2, hkr]
    simp only
    unfold Eng.req
    rw [if_neg a3, if_neg (by rw [hws]; decide), hts]
    simp only
    rw [if_neg h1]
   rw [he]
   exact ⟨rfl, _, (a0.trans f5), (f9.drop (.cons _ (List.Sublist.refl _)))⟩
  | some t =>
   have b5 := ht s hs8
   rw [hts] at b5
   obtain ⟨g0, bi, bj, bk, bl, a5, g1, bm, bn, bo, bp⟩ := b5
   obtain ⟨htok, hlt⟩ := hg.txns s t hts
   by_cases h1 : k = 1
   refine aQ a7 13 [] (by kernel_rfl) (by kernel_rfl) ?_
   simp only [cV]
   refine gm ?_
   refine gi ?_
   refine gf (nW _ _) ?_
   simp only [pq]
   refine gv _ (fun _ c3 => aE rfl (aT (iE _) (St.cell (St.tells a4 c3) (i := 1) rfl ((oH hs8).trans (congrArg some (congrArg Value.bool hws)))))) ?_
   iterate 2 refine gm ?_
   simp only [pq]
   refine gi ?_
   refine gf (dZ _ _) ?_
   refine gv _ (fun _ c3 => aE rfl (aT (eC _) (St.cell (St.tells a4 c3) (i := 1) rfl ((eI hs8).trans (congrArg some a5))))) ?_
   simp only [pq]
   refine gv bT (fun _ _ => zY (p := some ⟨g0, 0, none⟩) Tryz.underlying110 rfl rfl) ?_
   refine gf (mB _ _) ?_
   refine gl bU a4 0 ?_
   simp only [pq]
   refine gv bT (fun _ _ => cB (m := ((k : Nat) : Int)) (n := (1 : Int)) (b := true) rfl rfl (beq_iff_eq.2 (by omega))) ?_
   refine bN ?_
   intro bq g2 g3
   clear g3
   have o0 := St.tells a4 g2
   simp only [cW]
   refine dr bT (oP Tryz.underlying4 rfl rfl (rfl)) ?_
   refine dp ?_
   refine dy ?_
   simp only [pq]
   refine wlK a8 ?_
   refine aK ?_
   refine aB ?_
   iterate 2 refine dx ?_
   simp only [pq]
   have o1 := St.perm o0 (List.perm_middle (l₁ := [_]))
   have g4 : EngM _ _ _ _ n g _ := ⟨_, _, _, _, _, _, _, _, _, _, _, o1, (hd.mono a0), (dU ht a0)⟩
   refine doC rfl (fn3 (kZ _ _)) (gU _ _ _ _ _ _ _ s 6 g4 hq) ?_
   rintro _ br ⟨rfl, bs, g5, g6⟩
   refine ⟨_, rfl, ?_⟩
   obtain ⟨s4, s5, s6, s7, s8, s9, t0, t1, t2, t3, t4, o2, g7, g8⟩ := g6
   refine aH ?_
   try simp only [xt]
   refine bE (iN rfl) ?_
   have g9 : EngM _ _ _ _ n (g.reply (cX s 6)) _ := ⟨_, _, _, _, _, _, _, _, _, _, _, o2, g7, g8⟩
   have he : g.ask s b = (g.reply (cX s 6)) := by
    unfold Eng.ask
    rw [if_pos (by simpa using hc6)]
    rw [if_pos a2, hkr]
    simp only
    unfold Eng.req
    rw [if_neg a3, if_neg (by rw [hws]; decide), hts]
    simp only
    rw [if_pos h1]
   rw [he]
   exact ⟨rfl, _, (a0.trans g5), (g9.drop (.cons _ (List.Sublist.refl _)))⟩
   refine aQ a7 13 [] (by kernel_rfl) (by kernel_rfl) ?_
   simp only [cV]
   refine gm ?_
   refine gi ?_
   refine gf (nW _ _) ?_
   simp only [pq]
   refine gv _ (fun _ c4 => aE rfl (aT (iE _) (St.cell (St.tells a4 c4) (i := 1) rfl ((oH hs8).trans (congrArg some (congrArg Value.bool hws)))))) ?_
   iterate 2 refine gm ?_
   simp only [pq]
   refine gi ?_
   refine gf (dZ _ _) ?_
   refine gv _ (fun _ c4 => aE rfl (aT (eC _) (St.cell (St.tells a4 c4) (i := 1) rfl ((eI hs8).trans (congrArg some a5))))) ?_
   simp only [pq]
   refine gv bT (fun _ _ => zY (p := some ⟨g0, 0, none⟩) Tryz.underlying110 rfl rfl) ?_
   refine gf (mB _ _) ?_
   refine gl bU a4 0 ?_
   simp only [pq]
   refine gv bF (fun _ _ => cB (m := ((k : Nat) : Int)) (n := (1 : Int)) (b := false) rfl rfl (beq_eq_false_iff_ne.2 (by omega))) ?_
   refine bN ?_
   intro bt h0 h2
   clear h2
   have a1 := St.tells a4 h0
   simp only [cW]
   refine dr bF (oP Tryz.underlying4 rfl rfl (rfl)) ?_
   refine dp ?_
   refine dy ?_
   simp only [pq]
   refine wlK a8 ?_
   refine aG ?_
   refine sk fun bu h3 => ?_
   refine df (mB _ _) ?_
   refine dl (bU _) a1 0 ?_
   refine gL ?_
   simp only [pq]
   refine dy ?_
   refine wn h3 ?_
   refine aG ?_
   refine aF fun bw b6 => ?_
   by_cases h7 : k = 7
   refine aB ?_
   refine df (mB _ _) ?_
   refine dl (bU _) a1 0 ?_
   refine iR ?_
   simp only [pq]
   refine dy ?_
   refine wlK b6 ?_
   refine aK ?_
   refine sk fun bx h4 => ?_
   refine dx ?_
   refine di ?_
   refine df (dZ _ _) ?_
   simp only [pq]
   refine fK (i := 1) (v := (.pointer none)) a1 rfl rfl rfl rfl (nV) (mF rfl) (by rw [lC]; simp only [Value.cells]; exact Nat.le_of_lt_succ (by simp only [List.size_toArray, List.length_cons, List.length_nil]; omega)) (fun o3 b2 => ?_)
   simp only [pq]
   have b2 : St w0 F0 o3 a7 (⟨k9, [(nI k), (.slice c6 r.name.length c7), (.slice c8 r.key.length c9), (.slice d0 r.last.length d1), (.slice d2 r.value.length d3)], 27⟩ :: ⟨n, bQ (lZ g.up (.slice ad g.tape.data.length cd) g.tape.synced (.slice ac g.commits.length cc) (.slice af g.forests.length cf) g.synced pv g.waits (.slice aw g.waiting.length cw) (.slice ar g.replies.length cr)) (6 + s * 2) [(.pointer none)], 115⟩ :: L) (oJ w0.heap.size (.slice ac g.commits.length cc) g.commits (.slice af g.forests.length cf) g.forests (.slice aw g.waiting.length cw) g.waiting (.slice ar g.replies.length cr) g.replies) := b2
   rw [oI hs8] at b2
   refine wn h4 ?_
   have h5 := rJ (x := .pointer none) (t := none) (dU ht a0) rfl s
   refine aB ?_
   iterate 2 refine dx ?_
   simp only [pq]
   have o4 := St.perm b2 (List.perm_middle (l₁ := [_]))
   have h6 : EngM _ _ _ _ n (g.setTxn s none) _ := ⟨_, _, _, _, _, _, _, _, _, _, _, o4, (hd.mono a0), h5⟩
   refine doC rfl (fn3 (kZ _ _)) (gU _ _ _ _ _ _ _ s 0 h6 hq) ?_
   rintro _ bz ⟨rfl, ca, h8, h9⟩
   refine ⟨_, rfl, ?_⟩
   obtain ⟨t5, t6, t7, t8, t9, u0, u1, u2, u3, u4, u5, o5, i0, i1⟩ := h9
   refine aH ?_
   try simp only [xt]
   refine bE (iN rfl) ?_
   have i2 : EngM _ _ _ _ n ((g.setTxn s none).reply (cX s 0)) _ := ⟨_, _, _, _, _, _, _, _, _, _, _, o5, i0, i1⟩
   have he : g.ask s b = ((g.setTxn s none).reply (cX s 0)) := by
    unfold Eng.ask
    rw [if_pos (by simpa using hc6)]
    rw [if_pos a2, hkr]
    simp only
    unfold Eng.req
    rw [if_neg a3, if_neg (by rw [hws]; decide), hts]
    simp only
    rw [if_neg h1, if_pos h7]
   rw [he]
   exact ⟨rfl, _, (a0.trans h8), (i2.drop (.cons _ (List.Sublist.refl _)))⟩
   refine aB ?_
   refine df (mB _ _) ?_
   refine dl (bU _) a1 0 ?_
   refine gL ?_
   simp only [pq]
   refine dy ?_
   refine wlK b6 ?_
   refine aG ?_
   refine aF fun cb b7 => ?_
   cases hkp : Eng.keptB g.synced t.start with
   | true =>
    refine aQ a7 11 [] (by kernel_rfl) (by kernel_rfl) ?_
    simp only [cV]
    refine gm ?_
    refine gi ?_
    simp only [pq]
    refine gf (iF _ _) ?_
    refine gl bU a1 1 ?_
    refine gm ?_
    simp only [pq]
    refine gi ?_
    refine gf (dZ _ _) ?_
    refine gv _ (fun _ c5 => aE rfl (aT (eC _) (St.cell (St.tells a1 c5) (i := 1) rfl ((eI hs8).trans (congrArg some a5))))) ?_
    simp only [pq]
    refine gi ?_
    refine gf (kY _ _) ?_
    refine gv _ (fun _ c5 => aE rfl (aT (bU _) (St.fz (St.tells a1 c5) (Le.cell a0 g1)))) ?_
    simp only [pq]
    refine bN ?_
    intro ce i3 i4
    clear i4
    have o6 := St.tells a1 i3
    simp only [cW]
    refine aL (v := bT) o6 rfl (fn2 (VC _ _)) (FG _ g.synced t.start (by omega) htok.start.1 htok.start.2 hkp) (fun cg i5 => ?_)
    simp only [pq]
    refine dt ?_
    refine dy ?_
    refine wlK b7 ?_
    refine aG ?_
    refine aB ?_
    iterate 3 refine dx ?_
    simp only [pq]
    refine dR i5 0 Tryz.underlying27 (bP) ?_
    simp only [pq]
    have o7 := St.perm i5 (List.perm_middle (l₁ := [_]))
    have i6 : EngM _ _ _ _ n g _ := ⟨_, _, _, _, _, _, _, _, _, _, _, o7, (hd.mono a0), (dU ht a0)⟩
    refine doC rfl (fn4 (Do _ _)) (XL _ _ _ _ _ _ _ s hs8 _ t k r i6 hh hT hg hm hts ⟨_, _, _, _, rfl, l6, l7, l8, l9⟩ ok ⟨by omega, by omega, by omega⟩ hq) ?_
    rintro _ ch ⟨rfl, ci, i7, i8⟩
    refine ⟨_, rfl, ?_⟩
    obtain ⟨u6, u7, u8, u9, v0, v1, v2, v3, v4, v5, v6, o8, i9, j0⟩ := i8
    refine aH ?_
    try simp only [xt]
    refine bE (iN rfl) ?_
    have j1 : EngM _ _ _ _ n (g.work s t k r) _ := ⟨_, _, _, _, _, _, _, _, _, _, _, o8, i9, j0⟩
    have he : g.ask s b = (g.work s t k r) := by
     unfold Eng.ask
     rw [if_pos (by simpa using hc6)]
     rw [if_pos a2, hkr]
     simp only
     unfold Eng.req
     rw [if_neg a3, if_neg (by rw [hws]; decide), hts]
     simp only
     rw [if_neg h1, if_neg h7, if_pos hkp]
    rw [he]
    exact ⟨rfl, _, (a0.trans i7), (j1.drop (.cons _ (List.Sublist.refl _)))⟩
   | false =>
    refine aQ a7 11 [] (by kernel_rfl) (by kernel_rfl) ?_
    simp only [cV]
    refine gm ?_
    refine gi ?_
    refine gf (iF _ _) ?_
    simp only [pq]
    refine gl bU a1 1 ?_
    refine gm ?_
    refine gi ?_
    simp only [pq]
    refine gQ rfl rfl (pP n (6 + s * 2)) (fun cj b3 => aN (ef (dZ _ _))) ?_
    refine gv _ (fun _ b3 => aE rfl (aT (eC _) (St.cell (St.tells a1 b3) (i := 1) rfl ((eI hs8).trans (congrArg some a5))))) ?_
    refine gi ?_
    refine gf (kY _ _) ?_
    simp only [pq]
    refine gv _ (fun _ b3 => aE rfl (aT (bU _) (St.fz (St.tells a1 b3) (Le.cell a0 g1)))) ?_
    refine bN ?_
    intro ck j2 j3
    clear j3
    have o9 := St.tells a1 j2
    simp only [cW]
    refine aL (v := bF) o9 rfl (fn2 (VC _ _)) (FG _ g.synced t.start (by omega) htok.start.1 htok.start.2 hkp) (fun cl p0 => ?_)
    simp only [pq]
    refine dt ?_
    refine dy ?_
    refine wlK b7 ?_
    refine aK ?_
    refine sk fun cm j4 => ?_
    refine dx ?_
    refine di ?_
    refine df (dZ _ _) ?_
    simp only [pq]
    refine fK (i := 1) (v := (.pointer none)) p0 rfl rfl rfl rfl (nV) (mF rfl) (by rw [lC]; simp only [Value.cells]; exact Nat.le_of_lt_succ (by simp only [List.size_toArray, List.length_cons, List.length_nil]; omega)) (fun p1 b4 => ?_)
    simp only [pq]
    have b4 : St w0 F0 p1 a7 (⟨k9, [(nI k), (.slice c6 r.name.length c7), (.slice c8 r.key.length c9), (.slice d0 r.last.length d1), (.slice d2 r.value.length d3)], 27⟩ :: ⟨n, bQ (lZ g.up (.slice ad g.tape.data.length cd) g.tape.synced (.slice ac g.commits.length cc) (.slice af g.forests.length cf) g.synced pv g.waits (.slice aw g.waiting.length cw) (.slice ar g.replies.length cr)) (6 + s * 2) [(.pointer none)], 115⟩ :: L) (oJ w0.heap.size (.slice ac g.commits.length cc) g.commits (.slice af g.forests.length cf) g.forests (.slice aw g.waiting.length cw) g.waiting (.slice ar g.replies.length cr) g.replies) := b4
    rw [oI hs8] at b4
    refine wn j4 ?_
    have j5 := rJ (x := .pointer none) (t := none) (dU ht a0) rfl s
    refine aB ?_
    iterate 2 refine dx ?_
    simp only [pq]
    have p2 := St.perm b4 (List.perm_middle (l₁ := [_]))
    have j6 : EngM _ _ _ _ n (g.setTxn s none) _ := ⟨_, _, _, _, _, _, _, _, _, _, _, p2, (hd.mono a0), j5⟩
    refine doC rfl (fn3 (kZ _ _)) (gU _ _ _ _ _ _ _ s 10 j6 hq) ?_
    rintro _ cn ⟨rfl, co, j7, j8⟩
    refine ⟨_, rfl, ?_⟩
    obtain ⟨v7, v8, v9, w1, w2, w3, w4, w5, w6, w7, w8, p3, j9, k0⟩ := j8
    refine aH ?_
    try simp only [xt]
    refine bE (iN rfl) ?_
    have k1 : EngM _ _ _ _ n ((g.setTxn s none).reply (cX s 10)) _ := ⟨_, _, _, _, _, _, _, _, _, _, _, p3, j9, k0⟩
    have he : g.ask s b = ((g.setTxn s none).reply (cX s 10)) := by
     unfold Eng.ask
     rw [if_pos (by simpa using hc6)]
     rw [if_pos a2, hkr]
     simp only
     unfold Eng.req
     rw [if_neg a3, if_neg (by rw [hws]; decide), hts]
     simp only
     rw [if_neg h1, if_neg h7, if_neg (by rw [hkp]; decide)]
    rw [he]
    exact ⟨rfl, _, (a0.trans j7), (k1.drop (.cons _ (List.Sublist.refl _)))⟩
 refine mS ?_
 refine wn d4 ?_
 refine aK ?_
 refine sk fun cp k2 => ?_
 iterate 3 refine dx ?_
 simp only [pq]
 have p4 := St.perm a4 (List.perm_middle (l₁ := [_]))
 have k3 : EngM _ _ _ _ n g _ := ⟨_, _, _, _, _, _, _, _, _, _, _, p4, (hd.mono a0), (dU ht a0)⟩
 refine doC rfl (fn3 (kZ _ _)) (gU _ _ _ _ _ _ _ s (wdE b) k3 hq) ?_
 rintro _ cq ⟨rfl, cs, k4, k5⟩
 refine ⟨_, rfl, ?_⟩
 obtain ⟨x0, x1, x2, x3, x4, x5, x6, x7, x8, x9, y0, p5, k6, k7⟩ := k5
 refine wn k2 ?_
 refine aO ?_
 try simp only [xt]
 refine bR (iN rfl) ?_
 have k8 : EngM _ _ _ _ n (g.reply (cX s (wdE b))) _ := ⟨_, _, _, _, _, _, _, _, _, _, _, p5, k6, k7⟩
 have he : g.ask s b = (g.reply (cX s (wdE b))) := by
  unfold Eng.ask
  rw [if_pos (by simpa using hc6)]
  rw [if_neg a2]
 rw [he]
 exact ⟨rfl, _, (a0.trans k4), (k8.drop (.cons _ (List.Sublist.refl _)))⟩
theorem St.permR {w0 w : World} {F0 F : Fz} {L : List Blk} {M M' : List RowP} (S : St w0 F0 w F L M) (h : M.Perm M') : St w0 F0 w F L M' := ⟨S.gr, S.blk, fun r hr => S.row r (h.mem_iff.2 hr), S.bb, fun r hr => S.rb r (h.mem_iff.2 hr), (h.pairwise_iff (fun hne g hs hr => hne g hr hs)).1 S.rr⟩
theorem St.nilW {w0 w : World} {F0 F : Fz} {L : List Blk} {b : Nat} {vc vf vw vr : Value} {cs : List Cm} {fs : List aP} {ws : List Nat} {rs : List Rep} (S : St w0 F0 w F L (oJ b vc cs vf fs vw ws vr rs)) : St w0 F0 w F L (oJ b vc cs vf fs (.slice none 0 0) [] vr rs) := by
 have S1 := (S.dropRow (.cons_cons _ (.cons_cons _ (.cons _ (List.Sublist.refl _))))).addNil 1 NtC NtC.mono 3 b
 exact S1.permR ((List.perm_middle (l₁ := [_, _])).symm)
theorem SV (l : List Nat) (s : Nat) (g : Eng) : Eng.told (l ++ [s]) g = { Eng.told l g with synced := (Eng.told l g).synced + 1, waits := iJ (Eng.told l g).waits s false, replies := (Eng.told l g).replies ++ [mX s (((Eng.told l g).synced + 1 : Nat) : Int)] } := by
 induction l generalizing g with
 | nil => rfl
 | cons x l ih => rw [List.cons_append, Eng.told, ih]; rfl
theorem XM (w0 : World) (F0 : Fz) (w : World) (F : Fz) (n : Nat) (g : Eng) (L : List Blk) {m : Nat} (hM : EngM w0 F0 w F n g L) (hg : EngOk m g) (hm : m ≤ 149) (hq : g.replies.length + g.waiting.length ≤ 100000) :
    Calls Tryz.prog 69 #[.pointer (some ⟨n, 0, none⟩)] w (xA w0 F0 F n g.sync L) := by
 obtain ⟨ad, cd, ac, cc, af, cf, aw, cw, ar, cr, pv, S, hd, ht⟩ := hM
 have hsy := hg.sync
 have hmy := hg.many
 have htl : g.tape.data.length ≤ 90000 := by have := rG hg.hist.ok; rw [hg.data]; omega
 have hts2 := hg.syn
 go_enter Tryz.func69, Tryz.ntmps69
 refine aF fun K4 hK4 => ?_
 refine sk fun K5 hK5 => ?_
 refine dx ?_
 refine di ?_
 refine df (pV _ _) ?_
 simp only [pq]
 refine dl (iE _) S 0 ?_
 refine dr (.bool (!g.up)) (xO rfl rfl) ?_
 refine wn hK5 ?_
 refine wp_cond_split rfl (fun hc6 => ?_) (fun hc6 => ?_)
 refine aO ?_
 try simp only [xt]
 refine bR (iN rfl) ?_
 have he : g.sync = g := by unfold Eng.sync; rw [if_neg (by simpa using hc6)]
 rw [he]
 exact ⟨rfl, _, Le.refl _, ⟨_, _, _, _, _, _, _, _, _, _, _, S, hd, ht⟩⟩
 refine aI ?_
 refine hK4 _ _ ?_
 refine sk fun K7 hK7 => ?_
 iterate 2 refine dx ?_
 refine di ?_
 simp only [pq]
 refine df (pW _ _) ?_
 refine dr _ (aE rfl (cU Tryz.underlying108 rfl (bL) (St.range S (i := 0) rfl 1 [(.slice ad g.tape.data.length cd), (nI g.tape.synced)] (eF 1 rfl)))) ?_
 refine aY S rfl (fn1 (Dp _ _)) (SK _ _ _ g.tape (S).sat ⟨_, _, rfl, hd⟩ ⟨by omega, hts2⟩) ?_
 intro d9 w8 c3 S9 a3 c5
 obtain ⟨_, rfl, c6⟩ := c5
 obtain ⟨a1, a2, rfl, b0⟩ := c6
 have b0 : Bs _ (.slice a1 g.tape.data.length a2) g.tape.data := b0
 refine dx ?_
 iterate 2 refine de ?_
 simp only [pq]
 refine di ?_
 refine df (pW _ _) ?_
 refine sW 0 S9 (bL) fun e0 c4 => ?_
 simp only [pq]
 refine wn hK7 ?_
 refine aF fun e1 b1 => ?_
 refine sk fun e2 b2 => ?_
 refine dx ?_
 refine di ?_
 refine df (sE _ _) ?_
 simp only [pq]
 refine dl (GC _) c4 0 ?_
 refine dn Tryz.underlying60 ?_
 refine dx ?_
 simp only [pq]
 refine wn b2 ?_
 refine aM ?_
 refine aW (fun mm aa c7 => ∃ (i : Nat) (sy : Nat) (wf : Nat → Bool) (ar2 : Option Addr) (cr2 : Nat) (rs : List Rep) (a4 : Fz) (a8 : Nat → Value), mm = g.waiting.length - i ∧ a8 = dY aa ∧ aa = ⟨([(pP n 0), undef, undef, (a8 3), (pP n 0), (pP n 0), (pP n 0), (.bool g.up), (.bool (!g.up)), (.tuple #[(.agg #[(.slice a1 g.tape.data.length a2), (nI g.tape.data.length)]), (iI 0)]), (pP n 0), (pP n 0), (pP n 0), (pP n 1), (.agg #[(.slice ad g.tape.data.length cd), (nI g.tape.synced)]), (.tuple #[(.agg #[(.slice a1 g.tape.data.length a2), (nI g.tape.data.length)]), (iI 0)]), (.agg #[(.slice a1 g.tape.data.length a2), (nI g.tape.data.length)]), (iI 0), (pP n 0), (pP n 1), (pP n 0), (pP n 0), (pP n 22), (.slice aw g.waiting.length cw), (nI g.waiting.length), (nI i)] ++ (usF a8 26 25 [undef, undef, undef])).toArray, []⟩ ∧ St w0 F0 c7 a4 (⟨n, lZ g.up (.slice a1 g.tape.data.length a2) g.tape.data.length (.slice ac g.commits.length cc) (.slice af g.forests.length cf) sy pv wf (.slice aw g.waiting.length cw) (.slice ar2 rs.length cr2), 115⟩ :: L) (oJ w0.heap.size (.slice ac g.commits.length cc) g.commits (.slice af g.forests.length cf) g.forests (.slice aw g.waiting.length cw) g.waiting (.slice ar2 rs.length cr2) rs) ∧ Le c3 a4 ∧ (i ≤ g.waiting.length) ∧ (Eng.told (g.waiting.take i) ({ g with tape := ⟨g.tape.data, g.tape.data.length⟩ } : Eng) = { ({ g with tape := ⟨g.tape.data, g.tape.data.length⟩ } : Eng) with synced := sy, waits := wf, replies := rs }) ∧ (rs.length + g.waiting.length ≤ 100000 + i) ∧ (sy = g.synced + i)) _ ⟨0, g.synced, g.waits, ar, cr, g.replies, c3, _, rfl, rfl, rfl, c4, Le.refl _, (by omega), rfl, (by omega), (by omega)⟩ ?_
 rintro e3 e4 e5 ⟨i, sy, wf, ar2, cr2, rs, a4, a8, rfl, -, hfr, a9, a0, hi, hin, hrs, hse⟩ e6 b3
 simp only [uzF, Nat.reduceAdd] at hfr; subst hfr
 refine sk fun e7 a5 => ?_
 by_cases a6 : i < g.waiting.length
 refine fA ?_
 refine wn a5 ?_
 refine aF fun e8 b4 => ?_
 refine aK ?_
 refine aI ?_
 refine b4 _ _ ?_
 refine aF fun e9 b5 => ?_
 refine aM ?_
 refine aF fun f0 b6 => ?_
 obtain ⟨x, hx⟩ : ∃ x, g.waiting[i]? = some x := ⟨g.waiting[i], List.getElem?_eq_getElem a6⟩
 have hx8 := hg.who x (List.mem_of_getElem? hx)
 obtain ⟨c8, b7, c9⟩ := Fj (a9.own (i := 2) rfl) hx
 refine aB ?_
 refine dr (pP c8 (0 + i * 1)) (bK (i := i) (sz := 1) Tryz.underlying60 (eR _) rfl b7 rfl (a6) rfl) ?_
 refine dr _ (aE rfl (aT (bU _) c9)) ?_
 refine dy ?_
 simp only [pq]
 refine wlK b6 ?_
 refine sk fun f1 b9 => ?_
 refine dx ?_
 refine di ?_
 refine df (iF _ _) ?_
 simp only [pq]
 refine dl (bU _) a9 0 ?_
 refine cD (sy + 1) ?_
 refine di ?_
 simp only [pq]
 refine df (iF _ _) ?_
 refine sW 0 a9 (MU) fun d0 c0 => ?_
 simp only [pq]
 have c0 : St w0 F0 d0 a4 (⟨n, lZ g.up (.slice a1 g.tape.data.length a2) g.tape.data.length (.slice ac g.commits.length cc) (.slice af g.forests.length cf) (sy + 1) pv wf (.slice aw g.waiting.length cw) (.slice ar2 rs.length cr2), 115⟩ :: L) (oJ w0.heap.size (.slice ac g.commits.length cc) g.commits (.slice af g.forests.length cf) g.forests (.slice aw g.waiting.length cw) g.waiting (.slice ar2 rs.length cr2) rs) := c0
 refine wn b9 ?_
 refine sk fun f2 c1 => ?_
 iterate 2 refine dx ?_
 refine di ?_
 simp only [pq]
 refine df (wI _ _) ?_
 refine dr (pP n (6 + x * 2)) (XE (i := x) Tryz.underlying113 (BE _) rfl rfl (hx8)) ?_
 refine df (nW _ _) ?_
 simp only [pq]
 refine fK (i := 0) (v := bF) c0 rfl rfl rfl rfl (uO) (mF rfl) (by rw [lC]; simp only [Value.cells]; exact Nat.le_of_lt_succ (by simp only [List.size_toArray, List.length_cons, List.length_nil]; omega)) (fun d1 a7 => ?_)
 simp only [pq]
 have a7 : St w0 F0 d1 a4 (⟨n, bQ (lZ g.up (.slice a1 g.tape.data.length a2) g.tape.data.length (.slice ac g.commits.length cc) (.slice af g.forests.length cf) (sy + 1) pv wf (.slice aw g.waiting.length cw) (.slice ar2 rs.length cr2)) (6 + x * 2 + 1) [bF], 115⟩ :: L) (oJ w0.heap.size (.slice ac g.commits.length cc) g.commits (.slice af g.forests.length cf) g.forests (.slice aw g.waiting.length cw) g.waiting (.slice ar2 rs.length cr2) rs) := a7
 rw [CI hx8] at a7
 refine wn c1 ?_
 refine aB ?_
 iterate 3 refine dx ?_
 simp only [pq]
 refine di ?_
 refine df (iF _ _) ?_
 refine dl (bU _) a7 0 ?_
 simp only [pq]
 refine dr (.agg #[(nI x), (iI 0), (nI (sy + 1)), bF, Zn, Zn, Zn, bF, Zn, Zn, Zn, bF, Zn, Zn, Zn]) (aJ (eZ rfl rfl) (by kernel_rfl)) ?_
 refine doC rfl (fn2 (qX _ _)) (LC _ _ _ _ _ _ _ _ _ _ _ _ _ _ _ _ _ _ _ _ _ _ (mX x ((sy + 1 : Nat) : Int)) a7 (RpV.turn _ x ((sy + 1 : Nat) : Int)) (by omega)) ?_
 rintro _ f3 ⟨rfl, d2, d3, d4, c2, d5⟩
 refine ⟨_, rfl, ?_⟩
 refine wlK b5 ?_
 refine aB ?_
 refine cD (i + 1) ?_
 refine dx ?_
 simp only [pq]
 refine aH ?_
 exact b3 _ _ _ (by omega) ⟨(i + 1), (sy + 1), (iJ wf x false), d3, d4, (rs ++ [mX x ((sy + 1 : Nat) : Int)]), d2, _, rfl, rfl, rfl, d5, (a0.trans c2), (by omega), (by rw [fL hx, SV, hin]), (by rw [List.length_append]; simp only [List.length_singleton]; omega), (by omega)⟩
 refine eM ?_
 refine wn a5 ?_
 refine aF fun f4 d6 => ?_
 refine aG ?_
 refine cS ?_
 refine b1 _ _ ?_
 have hall : g.waiting.take i = g.waiting := List.take_of_length_le (by omega)
 rw [hall] at hin
 refine aB ?_
 refine dx ?_
 refine di ?_
 refine df (sE _ _) ?_
 simp only [pq]
 refine sW 0 a9 (zJ) fun f5 d7 => ?_
 refine aH ?_
 try simp only [xt]
 refine bE (iN rfl) ?_
 have d8 := St.nilW d7
 have he : g.sync = { ({ g with tape := ⟨g.tape.data, g.tape.data.length⟩ } : Eng) with synced := sy, waits := wf, replies := rs, waiting := [] } := by
  unfold Eng.sync
  rw [if_pos (by simpa using hc6), hin]
 rw [he]
 exact ⟨rfl, _, (a3.trans a0), ⟨_, _, _, _, _, _, _, _, _, _, _, d8, (b0.mono a0), dU ht (a3.trans a0)⟩⟩
theorem XN : (Tryz.prog.info? 113).map (·.size) = some 16 := by kernel_rfl
theorem SW (F : Fz) (w : World) (v : Value) (t : Tp) (hs : Sat w F) (hT : Tabs w) (hv : TpV F v t) (ok : TpOk 100000 t) :
    Calls Tryz.prog 84 #[v] w fun e w' => ∃ v a c F', e = .returned (.tuple #[v, .agg #[.slice a (t.data.take (iH t.data).2).length c, .int .i64 ((min t.synced (iH t.data).2 : Nat))], .int .i64 0]) ∧ Gr w F w' F' ∧ Own 2 CmC 168 w.heap.size w' F' v (iH t.data).1 ∧ Bs F' (.slice a (t.data.take (iH t.data).2).length c) (t.data.take (iH t.data).2) :=
  (DF F w v t hs hT hv ok).mono fun e w' ⟨v, a, c, F', he, g, ho, hb⟩ => by
    have hl := congrArg (fun z => Value.slice a z c) hb.len
    exact ⟨v, a, c, F', he.trans (by rw [hl]), g, ho, hl ▸ hb⟩
theorem St.setRow {w0 w : World} {F0 F : Fz} {L : List Blk} {M : List RowP} (S : St w0 F0 w F L M) {i : Nat} {r r' : RowP} (h : M[i]? = some r) (ho : r'.ob = r.ob) (hh : r'.holds w F) : St w0 F0 w F L (M.set i r') := by
 obtain ⟨hi, he⟩ := List.getElem?_eq_some_iff.1 h
 have hm : r ∈ M := by rw [← he]; exact List.getElem_mem hi
 have hmem : ∀ x ∈ M.set i r', x = r' ∨ x ∈ M := fun x hx => by
  rcases List.mem_or_eq_of_mem_set hx with h | h
  exact .inr h
  exact .inl h
 refine ⟨S.gr, S.blk, fun x hx => ?_, S.bb, fun x hx y hy => ?_, pO S.rr fun k hk hki g hg hc => ?_⟩
 rcases hmem x hx with rfl | hx
 exact ⟨hh, fun g hg => (S.row r hm).2 g (by rw [← ho]; exact hg)⟩
 exact S.row x hx
 rcases hmem x hx with rfl | hx
 rw [ho]; exact S.rb r hm y hy
 exact S.rb x hx y hy
 rw [ho] at hg
 have hp := List.pairwise_iff_getElem.1 S.rr
 rcases Nat.lt_or_gt_of_ne hki with h1 | h1
 have := hp k i hk hi h1 g hc; rw [he] at this; exact this hg
 have := hp i k hi hk h1 g (by rw [he]; exact hg); exact this hc
theorem uJ {α : Type} {k : Nat} : ∀ {el : List (List α)} (m : Nat), (∀ x ∈ el, x.length = k) → (el.take m).flatten = el.flatten.take (m * k)
  | [], m, _ => by simp
  | x :: el, 0, _ => by simp
  | x :: el, m + 1, h => by
    have hx := h x (by simp)
    simp only [List.take_succ_cons, List.flatten_cons]
    rw [uJ m (fun y hy => h y (by simp [hy])), Nat.add_mul, Nat.one_mul, List.take_append, hx, show m * k + k - k = m * k from by omega, List.take_of_length_le (show x.length ≤ m * k + k by omega)]
theorem Own.takeN {α : Type} {k E base : Nat} {R : Fz → List Value → α → Prop} {w : World} {F : Fz} {a : Option Addr} {n c m : Nat} {l : List α} (h : Own k R E base w F (.slice a n c) l) (hm : m ≤ l.length) : Own k R E base w F (.slice a m c) (l.take m) := by
 obtain ⟨⟨el, ⟨e1, e2⟩, h2, h3⟩, h4⟩ := h
 have hll := h2.len
 have hlm : (l.take m).length = m := by rw [List.length_take]; omega
 refine ⟨⟨el.take m, ⟨?_, ?_⟩, h2.take m, fun x hx => h3 x (List.mem_of_mem_take hx)⟩, fun g hg => ?_⟩
 rw [eY (fun x hx => h3 x (List.mem_of_mem_take hx)), List.length_take, hlm, Nat.min_eq_left (by omega)]
 rcases e2 with ⟨e2, e3⟩ | ⟨b, cap, cur, e2, q1, q2, q3, q4, q5, q6⟩
 left
 cases e2
 obtain rfl : m = 0 := by omega
 exact ⟨rfl, by simp⟩
 right
 cases e2
 refine ⟨b, c, cur, by rw [hlm], q1, q2, by omega, q4, q5, ?_⟩
 rw [uJ m h3, ← q6, List.take_take, hlm, Nat.min_eq_left (Nat.mul_le_mul_right k hm)]
 cases a with
 | none => cases hg
 | some a => exact h4 g hg
theorem St.takeF {w0 w : World} {F0 F : Fz} {L : List Blk} {b : Nat} {vc vw vr : Value} {cs : List Cm} {fs : List aP} {ws : List Nat} {rs : List Rep} {a : Option Addr} {n c m k : Nat} (S : St w0 F0 w F L (oJ b vc cs (.slice a n c) fs vw ws vr rs)) (hm : m ≤ fs.length) (hk : k = m) : St w0 F0 w F L (oJ b vc cs (.slice a k c) (fs.take m) vw ws vr rs) := by
 subst hk
 have := S.setRow (i := 1) (r' := bV 1 FoC FoC.mono 24 b (.slice a k c) (fs.take k)) rfl (by cases a <;> rfl) ((S.own (i := 1) rfl).takeN hm)
 exact this
theorem Bn {m : Nat} {g : Eng} (h : EngOk m g) (k : Nat) : (iH (g.tape.data.take (cE g.tape k))).1.length ≤ g.commits.length := by
 rw [h.data, KN h.hist (by rw [← h.data]; exact (uA h.syn k).2), List.length_take]
 exact Nat.min_le_right _ _
theorem SX (w0 : World) (F0 : Fz) (w : World) (F : Fz) (n : Nat) (g : Eng) (L : List Blk) {m : Nat} (k : Nat) (hM : EngM w0 F0 w F n g L) (hT : Tabs w0) (hg : EngOk m g) (hm : m ≤ 149) (hk : k ≤ 100000) :
    Calls Tryz.prog 70 #[.pointer (some ⟨n, 0, none⟩), .int .i64 ((k : Nat) : Int)] w (xA w0 F0 F n (g.crash k) L) := by
 obtain ⟨ad, cd, ac, cc, af, cf, aw, cw, ar, cr, pv, S, hd, ht⟩ := hM
 have hsy := hg.sync
 have hmy := hg.many
 have hst := hg.states
 have htl : g.tape.data.length ≤ 90000 := by have := rG hg.hist.ok; rw [hg.data]; omega
 have hts2 := hg.syn
 have hxl := Bn hg k
 have hcn := uA hg.syn k
 go_enter Tryz.func70, Tryz.ntmps70
 refine aF fun K4 hK4 => ?_
 refine sk fun K5 hK5 => ?_
 refine dx ?_
 refine di ?_
 refine df (pV _ _) ?_
 simp only [pq]
 refine dl (iE _) S 0 ?_
 refine dr (.bool (!g.up)) (xO rfl rfl) ?_
 refine wn hK5 ?_
 refine wp_cond_split rfl (fun hc6 => ?_) (fun hc6 => ?_)
 refine aO ?_
 try simp only [xt]
 refine bR (iN rfl) ?_
 have he : g.crash k = g := by unfold Eng.crash; rw [if_neg (by simpa using hc6)]
 rw [he]
 exact ⟨rfl, _, Le.refl _, ⟨_, _, _, _, _, _, _, _, _, _, _, S, hd, ht⟩⟩
 refine aI ?_
 refine hK4 _ _ ?_
 refine sk fun K7 hK7 => ?_
 refine dx ?_
 refine di ?_
 refine df (pW _ _) ?_
 simp only [pq]
 refine dr _ (aE rfl (cU Tryz.underlying108 rfl (bL) (St.range S (i := 0) rfl 1 [(.slice ad g.tape.data.length cd), (nI g.tape.synced)] (eF 1 rfl)))) ?_
 refine dx ?_
 refine aY S rfl (fn2 (Dq _ _)) (NZ _ _ _ g.tape k (S).sat ⟨_, _, rfl, hd⟩ ⟨by omega, hts2⟩ hk) ?_
 intro d8 w8 d9 S9 a5 c4
 obtain ⟨_, rfl, c5⟩ := c4
 obtain ⟨b5, b6, rfl, a6⟩ := c5
 have a6 : Bs _ (.slice b5 (g.tape.data.take (cE g.tape k)).length b6) (g.tape.data.take (cE g.tape k)) := a6
 refine dx ?_
 iterate 2 refine de ?_
 simp only [pq]
 refine sA S9 (jF _) fun c6 e0 c7 => ?_
 refine sW 0 c7 (bL) fun e1 a1 => ?_
 refine dy ?_
 simp only [pq]
 refine wn hK7 ?_
 refine sk fun e2 a7 => ?_
 iterate 2 refine dx ?_
 refine dR a1 0 Tryz.underlying108 (bL) ?_
 simp only [pq]
 refine doC rfl (fn1 (Dr _ _)) (SW _ _ _ (⟨(g.tape.data.take (cE g.tape k)), cE g.tape k⟩ : Tp) (a1).sat (hT.at a1.gr.below) ⟨_, _, rfl, a6⟩ ⟨by simp only [List.length_take]; omega, by simp only [List.length_take]; omega⟩) ?_
 rintro _ e3 ⟨e4, b7, b9, c0, rfl, c1, a8, a0⟩
 refine ⟨_, rfl, ?_⟩
 have a9 := c1.le a1.sat
 have c2 := (a1.addRow (hR := CmC.mono) c1 a8).dropRow (.cons_cons _ (.cons _ (List.Sublist.refl _)))
 have a0 : Bs _ (.slice b7 ((g.tape.data.take (cE g.tape k)).take (iH (g.tape.data.take (cE g.tape k))).2).length b9) ((g.tape.data.take (cE g.tape k)).take (iH (g.tape.data.take (cE g.tape k))).2) := a0
 simp only [pq]
 obtain ⟨c8, a2, rfl, e5, c9⟩ := (c2.own (i := 0) rfl).shape
 unfold maxLen at c9
 refine dx ?_
 iterate 2 refine de ?_
 simp only [pq]
 refine de ?_
 refine di ?_
 refine df (gR _ _) ?_
 simp only [pq]
 refine sW 1 c2 (AZ) fun e6 d0 => ?_
 refine di ?_
 refine df (pW _ _) ?_
 simp only [pq]
 refine sW 1 d0 (bL) fun e7 a3 => ?_
 refine wn a7 ?_
 refine aF fun e8 b0 => ?_
 have hcf : g.forests.length ≤ cf := by have := (a3.own (i := 1) rfl).shape; obtain ⟨_, _, e, q, _⟩ := this; simp only [Value.slice.injEq] at e; omega
 refine aQ c0 12 [] (by kernel_rfl) (by kernel_rfl) ?_
 simp only [cV]
 iterate 2 refine gm ?_
 simp only [pq]
 refine gi ?_
 refine gf (nX _ _) ?_
 refine gl pU a3 1 ?_
 simp only [pq]
 refine gm ?_
 refine gi ?_
 refine gf (gR _ _) ?_
 simp only [pq]
 refine gl iS a3 1 ?_
 refine gv (.int .i64 (((iH (g.tape.data.take (cE g.tape k))).1.length : Nat) : Int)) (fun _ _ => qR Tryz.underlying109 rfl) ?_
 refine gv (.int .i64 ((((iH (g.tape.data.take (cE g.tape k))).1.length + 1) : Nat) : Int)) (fun _ _ => fW (m := (((iH (g.tape.data.take (cE g.tape k))).1.length : Nat) : Int)) (n := (1 : Int)) (r := ((((iH (g.tape.data.take (cE g.tape k))).1.length + 1) : Nat) : Int)) rfl rfl (by omega) (by omega) (by omega)) ?_
 simp only [pq]
 refine gv (.slice af ((iH (g.tape.data.take (cE g.tape k))).1.length + 1) cf) (fun _ _ => bA (l := 0) (h := ((iH (g.tape.data.take (cE g.tape k))).1.length + 1)) (sz := 1) Tryz.underlying106 rfl (pT _) (.inl ⟨rfl, rfl⟩) (.inr ⟨_, rfl, rfl⟩) (by omega) (by omega) (fE)) ?_
 refine bN ?_
 intro e9 b1 b2
 clear b2
 have d1 := St.tells a3 b1
 simp only [cW]
 refine di ?_
 refine df (nX _ _) ?_
 simp only [pq]
 refine sW 1 d1 (AY) fun f0 d2 => ?_
 simp only [pq]
 have c3 := St.takeF (m := (iH (g.tape.data.take (cE g.tape k))).1.length + 1) d2 (by omega) rfl
 refine wlK b0 ?_
 refine sk fun f1 b3 => ?_
 iterate 2 refine dx ?_
 refine di ?_
 simp only [pq]
 refine df (gR _ _) ?_
 refine dl (iS _) c3 1 ?_
 refine dn Tryz.underlying109 ?_
 simp only [pq]
 refine di ?_
 refine df (iF _ _) ?_
 refine sW 1 c3 (MU) fun f2 d3 => ?_
 simp only [pq]
 refine wn b3 ?_
 refine sk fun f3 b4 => ?_
 iterate 2 refine dx ?_
 refine di ?_
 simp only [pq]
 refine df (pV _ _) ?_
 refine sW 1 d3 (uO) fun f4 d4 => ?_
 refine di ?_
 refine df (sE _ _) ?_
 simp only [pq]
 refine sW 1 d4 (zJ) fun f5 d5 => ?_
 refine wn b4 ?_
 refine aB ?_
 refine dx ?_
 refine dr (.agg #[(.pointer none), bF, (.pointer none), bF, (.pointer none), bF, (.pointer none), bF, (.pointer none), bF, (.pointer none), bF, (.pointer none), bF, (.pointer none), bF]) (aJ (gP) (by kernel_rfl)) ?_
 refine di ?_
 simp only [pq]
 refine df (wI _ _) ?_
 refine fK (i := 1) (v := (.agg #[(.pointer none), bF, (.pointer none), bF, (.pointer none), bF, (.pointer none), bF, (.pointer none), bF, (.pointer none), bF, (.pointer none), bF, (.pointer none), bF])) d5 rfl rfl rfl rfl (XN) (by simp only [Value.cells]; simp; refine ⟨rfl, rfl, rfl, rfl, rfl, rfl, rfl, rfl, rfl, rfl, rfl, rfl, rfl, rfl, rfl, rfl⟩) (Nat.le_of_ble_eq_true rfl) (fun f6 d6 => ?_)
 refine aH ?_
 try simp only [xt]
 refine bE (iN rfl) ?_
 have d7 := St.perm d6 (L' := (⟨n, lZ false (.slice b7 ((g.tape.data.take (cE g.tape k)).take (iH (g.tape.data.take (cE g.tape k))).2).length b9) (min (cE g.tape k) (iH (g.tape.data.take (cE g.tape k))).2) (.slice c8 (iH (g.tape.data.take (cE g.tape k))).1.length a2) (.slice af ((iH (g.tape.data.take (cE g.tape k))).1.length + 1) cf) ((iH (g.tape.data.take (cE g.tape k))).1.length) (fun _ => Value.pointer none) (fun _ => false) (.slice none 0 0) (.slice ar g.replies.length cr), 115⟩ :: ⟨c6, [(.slice b5 (g.tape.data.take (cE g.tape k)).length b6), (.int .i64 ((cE g.tape k : Nat) : Int))], 108⟩ :: L)) (List.perm_middle (l₁ := [_]))
 have a4 := St.nilW d7
 have a4 := St.drop a4 (List.Sublist.cons_cons _ (.cons _ (List.Sublist.refl _)))
 have htl : ∀ i, i < 8 → TxB c0 ((fun _ => Value.pointer none) i) ((fun _ => (none : Option Tx)) i) := fun i hi => rfl
 have hfl : (g.forests.take ((iH (g.tape.data.take (cE g.tape k))).1.length + 1)).length = (iH (g.tape.data.take (cE g.tape k))).1.length + 1 := by rw [List.length_take]; omega
 have he : g.crash k = { g with up := false, tape := ⟨(g.tape.data.take (cE g.tape k)).take (iH (g.tape.data.take (cE g.tape k))).2, min (cE g.tape k) (iH (g.tape.data.take (cE g.tape k))).2⟩, commits := (iH (g.tape.data.take (cE g.tape k))).1, forests := g.forests.take ((iH (g.tape.data.take (cE g.tape k))).1.length + 1), synced := (iH (g.tape.data.take (cE g.tape k))).1.length, txn := fun _ => none, waits := fun _ => false, waiting := [] } := by
  unfold Eng.crash
  rw [if_pos (by simpa using hc6)]
 have hfv := congrArg (fun z => Value.slice af z cf) hfl
 rw [he]
 rw [← hfv] at a4
 exact ⟨rfl, _, (a5.trans a9), ⟨_, _, _, _, _, _, _, _, _, _, _, a4, a0, htl⟩⟩
def Ac.kind : Ac → Nat
  | .ask _ _ => 1
  | .sync => 2
  | .crash _ => 3
  | .start => 4
def Ac.sess : Ac → Nat
  | .ask s _ => s
  | _ => 0
def Ac.keep : Ac → Nat
  | .crash k => k
  | _ => 0
def Ac.data : Ac → By
  | .ask _ b => b
  | _ => []
def isP : Ac → Bool
  | .ask _ b => wdE b == 0 && (wdR b).1 == 8
  | _ => false
def isK : Ac → Bool
  | .crash _ => true
  | _ => false
theorem Bo {a : Ac} (h : CH a) : SP (a.kind : Nat) (a.sess : Nat) (a.keep : Nat) a.data.length = 0 := by
 cases a with
 | ask s b =>
  obtain ⟨h1, h2⟩ := h
  simp only [Ac.kind, Ac.sess, Ac.keep, Ac.data]
  unfold SP
  rw [if_neg (by omega), if_neg (by omega), if_neg (by omega), if_neg (by omega)]
 | sync => rfl
 | crash k =>
  simp only [CH] at h
  simp only [Ac.kind, Ac.sess, Ac.keep, Ac.data]
  unfold SP
  rw [if_neg (by omega), if_neg (by omega), if_neg (by simp), if_neg (by simp)]
 | start => rfl
def Eng.room (g : Eng) : Nat := g.replies.length + g.waiting.length
theorem dL (g : Eng) (r : Rep) : (g.reply r).room = g.room + 1 := by unfold Eng.room Eng.reply; simp; omega
theorem iM (g : Eng) (s : Nat) (t : Option Tx) : (g.setTxn s t).room = g.room := rfl
theorem FH (g : Eng) (s : Nat) (t : Tx) (r : Rd) (y : Rep) : (g.note s t r y).room = g.room + 1 := by
 unfold Eng.note; split
 ·exact dL _ _
 ·rw [dL, iM]
theorem CM : ∀ (l : List Nat) (n : Nat), (uZ l n).length = l.length
  | [], _ => rfl
  | _ :: l, n => by simp [uZ, CM l]
theorem XO (g : Eng) (s k : Nat) (r : Rq) : (g.req s k r).room = g.room + 1 := by
 unfold Eng.req
 split
 ·exact dL _ _
 split
 ·exact dL _ _
 split
 ·split
  ·rw [dL, iM]
  ·exact dL _ _
 split
 ·exact dL _ _
 split
 ·rw [dL, iM]
 split
 ·unfold Eng.work
  split
  ·unfold Eng.look
   simp only
   split
   ·exact dL _ _
   ·exact FH _ _ _ _ _
  split
  ·unfold Eng.scan
   split
   ·exact dL _ _
   ·exact FH _ _ _ _ _
  split
  ·unfold Eng.commit
   split
   ·rw [dL, iM]
   split
   ·exact dL _ _
   split
   ·rw [dL, iM]
   split
   ·rw [dL, iM]
   ·unfold Eng.stand Eng.room; simp; omega
  ·unfold Eng.put
   split
   ·exact dL _ _
   ·rw [dL, iM]
 ·rw [dL, iM]
theorem XP (g : Eng) (a : Ac) : (g.act a).room ≤ g.room + 1 := by
 cases a with
 | ask s b =>
  unfold Eng.act Eng.ask
  simp only
  split
  ·split
   ·exact Nat.le_of_eq (XO _ _ _ _)
   ·exact Nat.le_of_eq (dL _ _)
  ·exact Nat.le_of_eq (dL _ _)
 | sync =>
  show g.sync.room ≤ _
  cases hu : g.up with
  | false => unfold Eng.sync; rw [hu]; simp
  | true => rw [wZ hu]; unfold Eng.room; simp [CM]
 | crash k =>
  show (g.crash k).room ≤ _
  unfold Eng.crash
  split
  ·unfold Eng.room; simp; omega
  ·omega
 | start => exact Nat.le_succ _
theorem LD : ∀ (l : List Ac) (g : Eng), (l.foldl Eng.act g).room ≤ g.room + l.length
  | [], g => by simp
  | a :: l, g => by
    rw [List.foldl_cons]
    have h1 := LD l (g.act a)
    have h2 := XP g a
    simp; omega
theorem LE (l : List Ac) : (dW l).replies.length + (dW l).waiting.length ≤ l.length := by
 have h : (dW l).room ≤ 0 + l.length := LD l wY
 rw [Nat.zero_add] at h
 exact h
theorem LF (l : List Ac) (k : Nat) : gM (l.take k) ≤ gM l := by
 have e : gM l = gM (l.take k) + gM (l.drop k) := by unfold gM; rw [← List.sum_append, ← List.map_append, List.take_append_drop]
 omega
theorem SY {l : List Ac} {k : Nat} {a : Ac} (h : l[k]? = some a) : dW (l.take (k + 1)) = (dW (l.take k)).act a := by
 obtain ⟨hk, rfl⟩ := List.getElem?_eq_some_iff.1 h
 rw [List.take_succ_eq_append_getElem hk, KZ]; rfl
theorem LG {l : List Ac} (hl : gM l ≤ 149) (ha : ∀ a ∈ l, CH a) (k : Nat) : EngOk (gM (l.take k)) (dW (l.take k)) ∧ gM (l.take k) ≤ 149 := by
 have := LF l k
 exact ⟨OI (by omega) (fun a h => ha a (List.mem_of_mem_take h)), by omega⟩
theorem DI (l : List Ac) (k : Nat) (h : l.length ≤ 100000) : (dW (l.take k)).replies.length + (dW (l.take k)).waiting.length ≤ 100000 := by
 have := LE (l.take k)
 rw [List.length_take] at this
 omega
def AcC (F : Fz) (cs : List Value) (a : Ac) : Prop := ∃ x, cs = [.int .i64 ((a.kind : Nat) : Int), .int .i64 ((a.sess : Nat) : Int), .int .i64 ((a.keep : Nat) : Int), x] ∧ Bs F x a.data
theorem AcC.mono (F F' : Fz) (x : List Value) (p : Ac) (hl : Le F F') (h : AcC F x p) : AcC F' x p := by
 obtain ⟨v, e, h⟩ := h; exact ⟨v, e, h.mono hl⟩
theorem AcC.oneCell {F : Fz} {cs : List Value} {p : Ac} (h : AcC F cs p) : ∀ u ∈ cs, u.oneCell' = true := by
 obtain ⟨v, rfl, h⟩ := h
 intro u hu
 simp only [List.mem_cons, List.not_mem_nil, or_false] at hu
 rcases hu with rfl | rfl | rfl | rfl
 ·rfl
 ·rfl
 ·rfl
 ·exact h.oneCell
abbrev Acs (F : Fz) (v : Value) (l : List Ac) : Prop := Sl 4 AcC F v l
theorem Acs.mono {F F' : Fz} {v : Value} {l : List Ac} (h : Acs F v l) (hl : Le F F') : Acs F' v l := Sl.mono AcC.mono h hl
theorem XQ : (madeCells (Value.slice none 0 0).cells (1 * 1)).toList = [Value.slice none 0 0] := by
 rw [show (Value.slice none 0 0).cells = #[.slice none 0 0] from rfl, toList_madeCells_one]; rfl
theorem Acs.get {F : Fz} {a : Option Addr} {n c : Nat} {l : List Ac} (h : Acs F (.slice a n c) l) {i : Nat} {p : Ac} (hp : l[i]? = some p) :
    ∃ b o, a = some ⟨b, o, none⟩ ∧ ∃ x y, bH F b (o + i * 4) = some (.int .i64 ((p.kind : Nat) : Int)) ∧ bH F b (o + i * 4 + 1) = some (.int .i64 ((p.sess : Nat) : Int)) ∧ bH F b (o + i * 4 + 2) = some (.int .i64 ((p.keep : Nat) : Int)) ∧ bH F b (o + i * 4 + 3) = some (.slice x p.data.length y) ∧ Bs F (.slice x p.data.length y) p.data := by
 obtain ⟨hi, rfl⟩ := List.getElem?_eq_some_iff.1 hp
 have hn := Sl.len h
 obtain ⟨b, o, e, h1⟩ := Sl.at h (by omega) (by omega)
 obtain ⟨cs, q1, ⟨a0, rfl, h0⟩, q3⟩ := h1 i hi
 obtain ⟨x, y, rfl, _⟩ := h0.shape
 exact ⟨b, o, e, x, y, by have := q3 0 (by simp); simpa [Nat.add_assoc] using this, by have := q3 1 (by simp); simpa [Nat.add_assoc] using this, by have := q3 2 (by simp); simpa [Nat.add_assoc] using this, by have := q3 3 (by simp); simpa [Nat.add_assoc] using this, h0⟩
def vB : Prop := ∀ (w0 : World) (F0 : Fz) (w : World) (F : Fz) (n : Nat) (g : Eng) (L : List Blk) {m : Nat} (k : Nat), EngM w0 F0 w F n g L → Tabs w0 → EngOk m g → m ≤ 149 → k ≤ 100000 →
    Calls Tryz.prog 70 #[.pointer (some ⟨n, 0, none⟩), .int .i64 ((k : Nat) : Int)] w (xA w0 F0 F n (g.crash k) L)
theorem TA (w0 : World) (F0 : Fz) (w : World) (F : Fz) (n : Nat) (g : Eng) (L : List Blk) {m : Nat} (hM : EngM w0 F0 w F n g L) (hh : Has w0) (hT : Tabs w0) (hg : EngOk m g) (hm : m ≤ 149) (hq : g.replies.length + g.waiting.length ≤ 100000) (s : Nat) (hs8 : s < 8) (b : By) {u : Value} (hu : Bs F u b) (hP : wdE b = 0 → (wdR b).1 = 8 → vA) :
    Calls Tryz.prog 52 #[.pointer (some ⟨n, 0, none⟩), .agg #[.int .i64 1, .int .i64 ((s : Nat) : Int), .int .i64 0, u]] w (xA w0 F0 F n (g.ask s b) L) := by
 obtain ⟨da, dc, rfl, _⟩ := hu.shape
 obtain ⟨ad, cd, ac, cc, af, cf, aw, cw, ar, cr, pv, S, hd, ht⟩ := hM
 go_enter Tryz.func52, Tryz.ntmps52
 refine sk fun K4 hK4 => ?_
 refine aZ S (v := fun n => .pointer (aA n 0)) rfl (bW (v := (.agg #[(iI 1), (nI s), (iI 0), (.slice da b.length dc)])) rfl) (fun n5 w6 S7 => ?_)
 refine wn hK4 ?_
 refine sk fun K8 hK8 => ?_
 refine aC ?_
 refine wn hK8 ?_
 refine aM ?_
 refine sk fun K9 hK9 => ?_
 refine dr bT (cB (b := true) rfl rfl (by decide)) ?_
 refine dy ?_
 simp only [pq]
 refine wn hK9 ?_
 refine aK ?_
 refine aB ?_
 refine aC ?_
 have a6 := St.perm S7 (List.perm_middle (l₁ := [_]))
 have a0 : EngM _ _ _ _ n g _ := ⟨_, _, _, _, _, _, _, _, _, _, _, a6, hd, ht⟩
 refine doC rfl (fn3 (Di _ _)) (Bm _ _ _ _ _ _ _ s hs8 _ b a0 hh hT hg hm hu hP (by omega)) ?_
 rintro _ c0 ⟨rfl, c1, a1, a2⟩
 refine ⟨_, rfl, ?_⟩
 obtain ⟨a7, a8, a9, b0, b1, b2, b3, b4, b5, b6, b7, b9, a3, a4⟩ := a2
 refine aH ?_
 try simp only [xt]
 refine bE (iN rfl) ?_
 have a5 : EngM _ _ _ _ n (g.ask s b) _ := ⟨_, _, _, _, _, _, _, _, _, _, _, b9, a3, a4⟩
 exact ⟨rfl, _, a1, (a5.drop (.cons _ (List.Sublist.refl _)))⟩
theorem OM (w0 : World) (F0 : Fz) (w : World) (F : Fz) (n : Nat) (g : Eng) (L : List Blk) {m : Nat} (hM : EngM w0 F0 w F n g L) (hh : Has w0) (hT : Tabs w0) (hg : EngOk m g) (hm : m ≤ 149) (hq : g.replies.length + g.waiting.length ≤ 100000) (u : Value) :
    Calls Tryz.prog 52 #[.pointer (some ⟨n, 0, none⟩), .agg #[.int .i64 2, .int .i64 0, .int .i64 0, u]] w (xA w0 F0 F n g.sync L) := by
 obtain ⟨ad, cd, ac, cc, af, cf, aw, cw, ar, cr, pv, S, hd, ht⟩ := hM
 go_enter Tryz.func52, Tryz.ntmps52
 refine sk fun K4 hK4 => ?_
 refine aZ S (v := fun n => .pointer (aA n 0)) rfl (bW (v := (.agg #[(iI 2), (iI 0), (iI 0), u])) rfl) (fun n5 w6 S7 => ?_)
 refine wn hK4 ?_
 refine sk fun K8 hK8 => ?_
 refine aC ?_
 refine wn hK8 ?_
 refine aM ?_
 refine sk fun K9 hK9 => ?_
 refine dr bF (cB (b := false) rfl rfl (by decide)) ?_
 refine dy ?_
 simp only [pq]
 refine wn hK9 ?_
 refine aG ?_
 refine sk fun c1 a0 => ?_
 refine dr bT (cB (b := true) rfl rfl (by decide)) ?_
 refine dy ?_
 refine wn a0 ?_
 refine aK ?_
 refine aB ?_
 refine dx ?_
 simp only [pq]
 have a7 := St.perm S7 (List.perm_middle (l₁ := [_]))
 have a1 : EngM _ _ _ _ n g _ := ⟨_, _, _, _, _, _, _, _, _, _, _, a7, hd, ht⟩
 refine doC rfl (fn1 (Dj _ _)) (XM _ _ _ _ _ _ _ a1 hg hm hq) ?_
 rintro _ c2 ⟨rfl, c3, a2, a3⟩
 refine ⟨_, rfl, ?_⟩
 obtain ⟨a8, a9, b0, b1, b2, b3, b4, b5, b6, b7, b9, c0, a4, a5⟩ := a3
 refine aH ?_
 try simp only [xt]
 refine bE (iN rfl) ?_
 have a6 : EngM _ _ _ _ n g.sync _ := ⟨_, _, _, _, _, _, _, _, _, _, _, c0, a4, a5⟩
 exact ⟨rfl, _, a2, (a6.drop (.cons _ (List.Sublist.refl _)))⟩
theorem LH (w0 : World) (F0 : Fz) (w : World) (F : Fz) (n : Nat) (g : Eng) (L : List Blk) {m : Nat} (hM : EngM w0 F0 w F n g L) (hh : Has w0) (hT : Tabs w0) (hg : EngOk m g) (hm : m ≤ 149) (hq : g.replies.length + g.waiting.length ≤ 100000) (u : Value) (k : Nat) (hk : k ≤ 100000) (hC : vB) :
    Calls Tryz.prog 52 #[.pointer (some ⟨n, 0, none⟩), .agg #[.int .i64 3, .int .i64 0, .int .i64 ((k : Nat) : Int), u]] w (xA w0 F0 F n (g.crash k) L) := by
 obtain ⟨ad, cd, ac, cc, af, cf, aw, cw, ar, cr, pv, S, hd, ht⟩ := hM
 go_enter Tryz.func52, Tryz.ntmps52
 refine sk fun K4 hK4 => ?_
 refine aZ S (v := fun n => .pointer (aA n 0)) rfl (bW (v := (.agg #[(iI 3), (iI 0), (nI k), u])) rfl) (fun n5 w6 S7 => ?_)
 refine wn hK4 ?_
 refine sk fun K8 hK8 => ?_
 refine aC ?_
 refine wn hK8 ?_
 refine aM ?_
 refine sk fun K9 hK9 => ?_
 refine dr bF (cB (b := false) rfl rfl (by decide)) ?_
 refine dy ?_
 simp only [pq]
 refine wn hK9 ?_
 refine aG ?_
 refine sk fun c2 a0 => ?_
 refine dr bF (cB (b := false) rfl rfl (by decide)) ?_
 refine dy ?_
 refine wn a0 ?_
 refine aG ?_
 refine sk fun c3 a1 => ?_
 refine dr bT (cB (b := true) rfl rfl (by decide)) ?_
 refine dy ?_
 simp only [pq]
 refine wn a1 ?_
 refine aK ?_
 refine aB ?_
 refine aC ?_
 have a8 := St.perm S7 (List.perm_middle (l₁ := [_]))
 have a2 : EngM _ _ _ _ n g _ := ⟨_, _, _, _, _, _, _, _, _, _, _, a8, hd, ht⟩
 refine doC rfl (fn2 (Dk _ _)) (hC _ _ _ _ _ _ _ k a2 hT hg hm hk) ?_
 rintro _ c4 ⟨rfl, c5, a3, a4⟩
 refine ⟨_, rfl, ?_⟩
 obtain ⟨a9, b0, b1, b2, b3, b4, b5, b6, b7, b9, c0, c1, a5, a6⟩ := a4
 refine aH ?_
 try simp only [xt]
 refine bE (iN rfl) ?_
 have a7 : EngM _ _ _ _ n (g.crash k) _ := ⟨_, _, _, _, _, _, _, _, _, _, _, c1, a5, a6⟩
 exact ⟨rfl, _, a3, (a7.drop (.cons _ (List.Sublist.refl _)))⟩
theorem LI (w0 : World) (F0 : Fz) (w : World) (F : Fz) (n : Nat) (g : Eng) (L : List Blk) {m : Nat} (hM : EngM w0 F0 w F n g L) (hh : Has w0) (hT : Tabs w0) (hg : EngOk m g) (hm : m ≤ 149) (hq : g.replies.length + g.waiting.length ≤ 100000) (u : Value) :
    Calls Tryz.prog 52 #[.pointer (some ⟨n, 0, none⟩), .agg #[.int .i64 4, .int .i64 0, .int .i64 0, u]] w (xA w0 F0 F n g.start L) := by
 obtain ⟨ad, cd, ac, cc, af, cf, aw, cw, ar, cr, pv, S, hd, ht⟩ := hM
 go_enter Tryz.func52, Tryz.ntmps52
 refine sk fun K4 hK4 => ?_
 refine aZ S (v := fun n => .pointer (aA n 0)) rfl (bW (v := (.agg #[(iI 4), (iI 0), (iI 0), u])) rfl) (fun n5 w6 S7 => ?_)
 refine wn hK4 ?_
 refine sk fun K8 hK8 => ?_
 refine aC ?_
 refine wn hK8 ?_
 refine aM ?_
 refine sk fun K9 hK9 => ?_
 refine dr bF (cB (b := false) rfl rfl (by decide)) ?_
 refine dy ?_
 simp only [pq]
 refine wn hK9 ?_
 refine aG ?_
 refine sk fun a5 a0 => ?_
 refine dr bF (cB (b := false) rfl rfl (by decide)) ?_
 refine dy ?_
 refine wn a0 ?_
 refine aG ?_
 refine sk fun a6 a1 => ?_
 refine dr bF (cB (b := false) rfl rfl (by decide)) ?_
 refine dy ?_
 simp only [pq]
 refine wn a1 ?_
 refine aG ?_
 refine aB ?_
 refine aC ?_
 refine sW 1 S7 (uO) fun a7 a3 => ?_
 refine aH ?_
 try simp only [xt]
 refine bE (iN rfl) ?_
 have a4 := St.perm a3 (List.perm_middle (l₁ := [_]))
 have a2 : EngM _ _ _ _ n g.start _ := ⟨_, _, _, _, _, _, _, _, _, _, _, a4, hd, ht⟩
 exact ⟨rfl, _, Le.refl _, (a2.drop (.cons _ (List.Sublist.refl _)))⟩
theorem Ef (w0 : World) (F0 : Fz) (w : World) (F : Fz) (n : Nat) (g : Eng) (L : List Blk) {m : Nat} (hM : EngM w0 F0 w F n g L) (hh : Has w0) (hT : Tabs w0) (hg : EngOk m g) (hm : m ≤ 149) (hq : g.replies.length + g.waiting.length ≤ 100000) {a : Ac} (ha : CH a) {u : Value} (hu : Bs F u a.data) (hP : isP a = true → vA) (hK : isK a = true → vB) :
    Calls Tryz.prog 52 #[.pointer (some ⟨n, 0, none⟩), .agg #[.int .i64 ((a.kind : Nat) : Int), .int .i64 ((a.sess : Nat) : Int), .int .i64 ((a.keep : Nat) : Int), u]] w (xA w0 F0 F n (g.act a) L) := by
 cases a with
 | ask s b => exact TA _ _ _ _ _ _ _ hM hh hT hg hm hq s ha.1 b hu (fun h1 h2 => hP (by unfold isP; simp [h1, h2]))
 | sync => exact OM _ _ _ _ _ _ _ hM hh hT hg hm hq u
 | crash k => exact LH _ _ _ _ _ _ _ hM hh hT hg hm hq u k ha (hK rfl)
 | start => exact LI _ _ _ _ _ _ _ hM hh hT hg hm hq u
theorem TB {w0 w : World} {F0 F : Fz} {n k : Nat} {L : List Blk} (S : St w0 F0 w F (⟨n, lZ true (.slice none 0 0) 0 (.slice none 0 0) (.slice (some ⟨k, 0, none⟩) 1 1) 0 (fun _ => .pointer none) (fun _ => false) (.slice none 0 0) (.slice none 0 0), 115⟩ :: ⟨k, [.slice none 0 0], 24⟩ :: L) []) : EngM w0 F0 w F n wY L := by
 have hb := (S.blk ⟨k, [.slice none 0 0], 24⟩ (by simp)).2.2
 have S1 := S.perm (List.Perm.swap _ _ _)
 have S2 := St.blkRow (k := 1) (cap := 1) (hR := FoC.mono) (base := w0.heap.size) (l := [([] : aP)]) (el := [[.slice none 0 0]]) S1 rfl ⟨⟨_, rfl, Sl.nil _ _ _⟩, trivial⟩ (by simp) rfl (by simp) (by unfold maxLen; decide) hb
 have S3 := ((S2.addNil 2 CmC CmC.mono 168 w0.heap.size).addNil 1 NtC NtC.mono 3 w0.heap.size).addNil 15 RpC RpC.mono 54 w0.heap.size
 have S4 := S3.permR (M' := oJ w0.heap.size (.slice none 0 0) [] (.slice (some ⟨k, 0, none⟩) 1 1) [[]] (.slice none 0 0) [] (.slice none 0 0) []) (by
  refine (List.perm_middle (l₁ := [_, _]) (l₂ := [_])).trans ?_
  refine List.Perm.cons _ ?_
  exact (List.perm_middle (l₁ := [_, _]) (l₂ := [])).trans (List.Perm.cons _ (List.Perm.swap _ _ _)))
 exact ⟨_, _, _, _, _, _, _, _, _, _, fun _ => .pointer none, S4, Bs.nil _, fun _ _ => rfl⟩
def Fl (F : Fz) (u : Value) (g : Eng) : Prop := ∃ a c b d, u = .agg #[.bool g.up, .int .i64 ((g.synced : Nat) : Int), .int .i64 ((g.waiting.length : Nat) : Int), .slice a (g.forest g.synced).length c, .slice b g.replies.length d] ∧ Tns F (.slice a (g.forest g.synced).length c) (g.forest g.synced) ∧ Rps F (.slice b g.replies.length d) g.replies
def Ga (g : Eng) (F : Fz) (u : Value) : Prop := ∃ x, u = .tuple #[x, .int .i64 0] ∧ Fl F x g
theorem LJ (F : Fz) (w : World) (v : Value) (l : List Ac) (hs : Sat w F) (hh : Has w) (hT : Tabs w) (hv : Acs F v l) (hok : ∀ a ∈ l, CH a) (hc : gM l ≤ 149) (hlen : l.length ≤ 100000) (hP : ∀ a ∈ l, isP a = true → vA) (hK : ∀ a ∈ l, isK a = true → vB) :
    Calls Tryz.prog 35 #[v] w (dO w F (Ga (dW l))) := by
 obtain ⟨a, c, rfl, hc1, hc2⟩ := Sl.shape hv
 unfold maxLen at hc2
 obtain ⟨l7, e7, e8, e9, f0⟩ := info_parts QO
 have S := St.start hs
 go_enter Tryz.func35, Tryz.ntmps35
 refine sk fun K1 hK1 => ?_
 refine sA S (tM _) fun n2 w3 S4 => ?_
 refine dy ?_
 refine wn hK1 ?_
 refine aF fun K5 hK5 => ?_
 refine sk fun K6 hK6 => ?_
 refine aC ?_
 refine lF ?_
 simp only [pq]
 refine wn hK6 ?_
 refine aG ?_
 refine aI ?_
 refine hK5 _ _ ?_
 refine aF fun K7 hK7 => ?_
 refine sk fun K8 hK8 => ?_
 refine aC ?_
 refine wn hK8 ?_
 refine aM ?_
 refine aW (fun mm aa l8 => ∃ (i : Nat) (F9 : Fz) (a0 : Nat → Value), mm = l.length - i ∧ a0 = dY aa ∧ aa = ⟨#[(.slice a l.length c), undef, (pP n2 0), (a0 3), undef, (a0 5), (a0 6), undef, undef, undef, undef, undef, (.slice a l.length c), (nI l.length), bF, undef, (.slice a l.length c), (nI l.length), (nI i), (a0 19), (a0 20), (a0 21), (a0 22), (a0 23), (a0 24), (a0 25), (a0 26), (a0 27), (a0 28), undef, undef, undef, undef, undef, undef, undef, undef, undef, undef, undef, undef, undef, undef, undef, undef, undef, undef, undef, undef, undef, undef, undef, undef, undef, undef, undef, undef, undef, undef, undef, undef, undef, undef, undef, undef, undef, undef, undef, undef, undef, undef, undef, undef, undef, undef], []⟩ ∧ St w F l8 F9 [⟨n2, [bF, (iI 0), (iI 0), Zn, Zn], 43⟩] [] ∧ Le F F9 ∧ (i ≤ l.length)) _ ⟨0, F, _, rfl, rfl, rfl, S4, Le.refl _, (by omega)⟩ ?_
 rintro r8 r9 s0 ⟨i, F9, a0, rfl, -, rfl, b4, b2, hi⟩ s1 f1
 refine sk fun s2 b6 => ?_
 by_cases f2 : i < l.length
 refine fA ?_
 refine wn b6 ?_
 refine aF fun s3 f3 => ?_
 refine aK ?_
 refine aI ?_
 refine f3 _ _ ?_
 refine aF fun s4 f4 => ?_
 refine aM ?_
 refine aF fun s5 f5 => ?_
 obtain ⟨p, hp⟩ : ∃ p, l[i]? = some p := ⟨l[i], List.getElem?_eq_getElem f2⟩
 have hpo := hok p (List.mem_of_getElem? hp)
 obtain ⟨l9, m0, f6, m1, m2, m3, m4, m5, m6, s6⟩ := Acs.get (hv.mono b2) hp
 have hpo2 : p.data.length ≤ 4000 := by cases p <;> first | exact hpo.2 | exact Nat.zero_le _
 refine aB ?_
 refine dr (pP l9 (m0 + i * 4)) (bK (i := i) (sz := 4) Tryz.underlying23 (EI _) rfl f6 rfl (by omega) rfl) ?_
 refine dr _ (aE rfl (cU Tryz.underlying33 rfl (oV) (eL (St.fz b4 m3) (St.fz b4 m4) (St.fz b4 m5) (St.fz b4 m6)))) ?_
 simp only [pq]
 refine sA b4 (GH _) fun s7 s8 m7 => ?_
 refine sW 0 m7 (oV) fun s9 i9 => ?_
 refine wlK f5 ?_
 refine sk fun t0 f7 => ?_
 refine dR i9 0 Tryz.underlying33 (oV) ?_
 simp only [pq]
 refine aL (v := (iI 0)) i9 rfl (fn1 (Dd _ _)) (Bo hpo ▸ DH _ _ _ _ _ _ _ (by have := hpo2; omega)) (fun t1 f8 => ?_)
 refine dy ?_
 refine wn f7 ?_
 refine sk fun t2 f9 => ?_
 refine dx ?_
 refine dr bF (cC (m := (0 : Int)) (n := (0 : Int)) (b := false) rfl rfl (bne_eq_false_iff_eq.2 (by simp))) ?_
 simp only [pq]
 refine wn f9 ?_
 refine aG ?_
 refine aI ?_
 refine f4 _ _ ?_
 refine aB ?_
 refine cD (i + 1) ?_
 refine dx ?_
 refine aH ?_
 have f8 := St.drop f8 (.cons _ (List.Sublist.refl _))
 exact f1 _ _ _ (by omega) ⟨(i + 1), F9, _, rfl, rfl, rfl, f8, b2, (by omega)⟩
 refine eM ?_
 simp only [pq]
 refine wn b6 ?_
 refine aF fun t3 m8 => ?_
 refine aG ?_
 refine cS ?_
 refine hK7 _ _ ?_
 refine sk fun t4 g0 => ?_
 refine FY (k := 1) (n := 1) (m := 1) b4 rfl l7 Zn 24 Tryz.underlying106 e7 e8 e9 f0 rfl rfl (by omega) (by omega) (by omega) ?_
 intro e5 t5 j0
 rw [XQ] at j0
 refine dr (.agg #[bT, Zn, (iI 0), Zn, (.slice (aA e5 0) 1 1), (iI 0), (.pointer none), bF, (.pointer none), bF, (.pointer none), bF, (.pointer none), bF, (.pointer none), bF, (.pointer none), bF, (.pointer none), bF, (.pointer none), bF, Zn, Zn]) (aJ (eZ rfl rfl) (by kernel_rfl)) ?_
 refine aZ j0 (v := fun n => .pointer (aA n 0)) rfl (bW (v := (.agg #[bT, Zn, (iI 0), Zn, (.slice (aA e5 0) 1 1), (iI 0), (.pointer none), bF, (.pointer none), bF, (.pointer none), bF, (.pointer none), bF, (.pointer none), bF, (.pointer none), bF, (.pointer none), bF, (.pointer none), bF, Zn, Zn])) rfl) (fun b3 t6 m9 => ?_)
 simp only [pq]
 refine dy ?_
 refine wn g0 ?_
 refine aF fun t7 g1 => ?_
 refine sk fun t8 g2 => ?_
 refine aC ?_
 refine wn g2 ?_
 refine aM ?_
 have g3 := TB m9
 obtain ⟨n0, n1, n3, n4, n5, n6, n7, n8, n9, o0, o1, o2, g4, g5⟩ := g3
 have g6 : EngM _ _ _ _ b3 (dW (l.take 0)) _ := ⟨_, _, _, _, _, _, _, _, _, _, _, o2, g4, g5⟩
 refine aW (fun mm aa o3 => ∃ (j : Nat) (e6 : Fz) (a5 : Nat → Value), mm = l.length - j ∧ a5 = dY aa ∧ aa = ⟨#[(.slice a l.length c), undef, (pP n2 0), (a0 3), undef, (a0 5), (a0 6), (pP b3 0), undef, (a5 9), undef, undef, (.slice a l.length c), (nI l.length), bF, undef, (.slice a l.length c), (nI l.length), (nI i), bF, (a0 20), (a0 21), (a0 22), (a0 23), (a0 24), (a0 25), (a0 26), (a0 27), (a0 28), (.slice (aA e5 0) 1 1), (.agg #[bT, Zn, (iI 0), Zn, (.slice (aA e5 0) 1 1), (iI 0), (.pointer none), bF, (.pointer none), bF, (.pointer none), bF, (.pointer none), bF, (.pointer none), bF, (.pointer none), bF, (.pointer none), bF, (.pointer none), bF, Zn, Zn]), (pP b3 0), (.slice a l.length c), (nI l.length), (nI j), (a5 35), (a5 36), (a5 37), (a5 38), (a5 39), (a5 40), (a5 41), undef, undef, undef, undef, undef, undef, undef, undef, undef, undef, undef, undef, undef, undef, undef, undef, undef, undef, undef, undef, undef, undef, undef, undef, undef, undef, undef, undef, undef, undef, undef, undef, undef], []⟩ ∧ EngM w F o3 e6 b3 (dW (l.take j)) [⟨n2, [bF, (iI 0), (iI 0), Zn, Zn], 43⟩] ∧ Le F9 e6 ∧ (j ≤ l.length)) _ ⟨0, _, _, rfl, rfl, rfl, g6, Le.refl _, (by omega)⟩ ?_
 rintro t9 u0 u1 ⟨j, e6, a5, rfl, -, rfl, g7, b7, hj⟩ u2 g8
 obtain ⟨o4, o5, o6, o7, o8, o9, p0, p1, p2, p3, p4, b5, b9, c0⟩ := g7
 refine sk fun u3 c1 => ?_
 by_cases g9 : j < l.length
 refine fA ?_
 refine wn c1 ?_
 refine aF fun u4 h0 => ?_
 refine aK ?_
 refine aI ?_
 refine h0 _ _ ?_
 refine aF fun u5 h1 => ?_
 refine aM ?_
 refine aF fun u6 h2 => ?_
 obtain ⟨p, hp⟩ : ∃ p, l[j]? = some p := ⟨l[j], List.getElem?_eq_getElem g9⟩
 have hpo := hok p (List.mem_of_getElem? hp)
 obtain ⟨p5, p6, h3, c2, c3, p7, p8, p9, h4, h5⟩ := Acs.get (hv.mono (b2.trans b7)) hp
 have hgi := LG hc hok j
 have hri := DI l j hlen
 refine aB ?_
 refine dr (pP p5 (p6 + j * 4)) (bK (i := j) (sz := 4) Tryz.underlying23 (EI _) rfl h3 rfl (by omega) rfl) ?_
 refine dr _ (aE rfl (cU Tryz.underlying33 rfl (oV) (eL (St.fz b5 p7) (St.fz b5 p8) (St.fz b5 p9) (St.fz b5 h4)))) ?_
 simp only [pq]
 refine sA b5 (GH _) fun q0 q1 h6 => ?_
 refine sW 0 h6 (oV) fun q2 c4 => ?_
 refine wlK h2 ?_
 refine aB ?_
 refine dx ?_
 refine dR c4 0 Tryz.underlying33 (oV) ?_
 simp only [pq]
 have h7 := St.perm c4 (List.perm_middle (l₁ := [_]))
 have c5 : EngM _ _ _ _ b3 (dW (l.take j)) _ := ⟨_, _, _, _, _, _, _, _, _, _, _, h7, b9, c0⟩
 refine doC rfl (fn2 (De _ _)) (Ef _ _ _ _ _ _ _ c5 hh hT hgi.1 hgi.2 hri hpo (u := (.slice c2 p.data.length c3)) h5 (hP p (List.mem_of_getElem? hp)) (hK p (List.mem_of_getElem? hp))) ?_
 rintro _ q3 ⟨rfl, q4, c6, c7⟩
 refine ⟨_, rfl, ?_⟩
 obtain ⟨j1, j2, j3, j4, j5, j6, j7, j8, j9, k0, k1, h8, c8, c9⟩ := c7
 refine wlK h1 ?_
 refine aB ?_
 refine cD (j + 1) ?_
 refine dx ?_
 refine aH ?_
 have d0 : EngM _ _ _ _ b3 ((dW (l.take j)).act p) _ := ⟨_, _, _, _, _, _, _, _, _, _, _, h8, c8, c9⟩
 have a7 := d0.drop (.cons _ (List.Sublist.refl _))
 rw [(show (dW (l.take j)).act p = dW (l.take (j + 1)) from (SY hp).symm)] at a7
 exact g8 _ _ _ (by omega) ⟨(j + 1), _, _, rfl, rfl, rfl, a7, (b7.trans c6), (by omega)⟩
 refine eM ?_
 simp only [pq]
 refine wn c1 ?_
 refine aF fun q5 k2 => ?_
 refine aG ?_
 refine cS ?_
 refine g1 _ _ ?_
 refine aF fun q6 d1 => ?_
 have hil : l.take j = l := List.take_of_length_le (by omega)
 have a8 : EngM _ _ _ _ b3 (dW (l.take j)) _ := ⟨_, _, _, _, _, _, _, _, _, _, _, b5, b9, c0⟩
 rw [hil] at a8
 obtain ⟨k3, k4, k5, k6, k7, k8, k9, l0, a9, b0, l1, a1, l2, l3⟩ := a8
 have hge := OI (l := l) (by omega) hok
 have hsy := hge.sync
 have hst := hge.states
 have hsl : (dW l).synced ≤ (dW l).commits.length := by omega
 have hfa := xZ hge hsl
 have hfo := yA hge hsl
 obtain ⟨h9, d2, d3, d4, i0, i1⟩ := XF (a1.own (i := 1) rfl) hfa
 refine aQ e6 15 [(10, .made (fun F' u => VK ((dW l).forest (dW l).synced) 0 F' u)), (12, .made (fun F' u => Tns F' u ((dW l).forest (dW l).synced))), (13, .is (iI 0))] (by kernel_rfl) (by kernel_rfl) ?_
 simp only [cV]
 refine gm ?_
 refine gi ?_
 refine gf (nX _ _) ?_
 simp only [pq]
 refine gl pU a1 0 ?_
 refine gm ?_
 refine gi ?_
 simp only [pq]
 refine gf (iF _ _) ?_
 refine gl bU a1 0 ?_
 refine gv (pP h9 (0 + ((dW l).synced) * 1)) (fun _ _ => bK (i := (dW l).synced) (sz := 1) Tryz.underlying106 (pT _) rfl d2 rfl (by omega) rfl) ?_
 simp only [pq]
 refine gv _ (fun _ a2 => aE rfl (aT (tJ _) (nH a2 i0))) ?_
 simp only [pq]
 refine dJ rfl rfl (fun d5 a2 hF => bX (cP (vs := #[(.slice d3 ((dW l).forest (dW l).synced).length d4), Zn]) (iX rfl rfl) rfl (xP _ _)) (dI a1.sat a2 (wN ((St.tells a1 a2)).sat i1 (Sl.nil _ _ _) hfo (by simp) (show fZ ((dW l).forest (dW l).synced) [] = (0, ((dW l).forest (dW l).synced)) from rfl)))) (fun q7 => ?_)
 refine gm ?_
 simp only [pq]
 refine dJ rfl rfl (fun d5 a2 hF_ => ?_) (fun q8 => ?_)
 obtain ⟨i2, i3, _, rfl, d6⟩ := hF_.get 10 (by kernel_rfl) rfl rfl
 exact fY (cA rfl rfl) ⟨i2, i3, d6⟩ (Below.refl _ _)
 simp only [pq]
 refine jC rfl rfl (v := (iI 0)) (fun d5 a2 hF_ => ?_) ?_
 obtain ⟨q9, r0, _, rfl, l4⟩ := hF_.get 10 (by kernel_rfl) rfl rfl
 exact xB (cA rfl rfl)
 refine ga ?_
 refine bN ?_
 intro r1 l5 b1
 obtain ⟨i4, d7, i5⟩ := b1.get 12 rfl rfl
 have a3 := St.gives a1 d7
 have l6 : Le _ _ := d7.le a1.sat
 have a6 := i5
 generalize i4 = i6 at *
 obtain ⟨d8, d9, rfl, r2, r3⟩ := Sl.shape a6
 have a6 : Tns _ (.slice d8 ((dW l).forest (dW l).synced).length d9) ((dW l).forest (dW l).synced) := a6
 clear b1
 simp only [cW]
 refine dy ?_
 simp only [pq]
 refine wlK d1 ?_
 refine aF fun r4 e0 => ?_
 refine aQ i6 18 [] (by kernel_rfl) (by kernel_rfl) ?_
 simp only [cV]
 refine gm ?_
 refine gi ?_
 refine gf (pV _ _) ?_
 simp only [pq]
 refine gl iE a3 0 ?_
 refine gm ?_
 refine gi ?_
 simp only [pq]
 refine gf (iF _ _) ?_
 refine gl bU a3 0 ?_
 refine gm ?_
 simp only [pq]
 refine gi ?_
 refine gf (sE _ _) ?_
 refine gl GC a3 0 ?_
 simp only [pq]
 refine gv (.int .i64 (((dW l).waiting.length : Nat) : Int)) (fun _ _ => qR Tryz.underlying60 rfl) ?_
 iterate 2 refine gm ?_
 simp only [pq]
 refine gi ?_
 refine gf (sF _ _) ?_
 refine gl zI a3 0 ?_
 simp only [pq]
 refine bN ?_
 intro r5 e1 e2
 clear e2
 have i7 := St.tells a3 e1
 simp only [cW]
 refine dr (.agg #[(.bool (dW l).up), (.int .i64 (((dW l).synced : Nat) : Int)), (.int .i64 (((dW l).waiting.length : Nat) : Int)), (.slice d8 ((dW l).forest (dW l).synced).length d9), (.slice a9 (dW l).replies.length b0)]) (aJ (Es rfl rfl rfl rfl rfl) (by kernel_rfl)) ?_
 refine sW 1 i7 (nD) fun r6 e3 => ?_
 refine dy ?_
 simp only [pq]
 refine wlK e0 ?_
 refine aO ?_
 try simp only [xt]
 refine bR (cZ rfl ⟨_, rfl, lR e3 1 Tryz.underlying43 (nD)⟩ (gD rfl)) ?_
 obtain ⟨r7, i8, e4, a4⟩ := St.freeze e3 (i := 3) rfl (Nat.le_refl _)
 have a4 : Rps _ (.slice a9 (dW l).replies.length b0) ((dW l).replies) := a4
 exact ⟨_, _, rfl, i8.gr, _, rfl, _, _, _, _, rfl, (a6.mono e4), a4⟩
def AcV (F : Fz) (u : Value) (a : Ac) : Prop := ∃ x y, u = .agg #[.int .i64 ((a.kind : Nat) : Int), .int .i64 ((a.sess : Nat) : Int), .int .i64 ((a.keep : Nat) : Int), .slice x a.data.length y] ∧ Bs F (.slice x a.data.length y) a.data
def Fm (g : Eng) (F : Fz) (u : Value) : Prop := ∃ x, u = .tuple #[x, .bool true] ∧ Fl F x g
theorem Rps.mono {F F' : Fz} {v : Value} {l : List Rep} (h : Rps F v l) (hl : Le F F') : Rps F' v l := Sl.mono RpC.mono h hl
theorem AcC.one (F : Fz) (cs : List Value) (p : Ac) (h : AcC F cs p) : ∀ u ∈ cs, u.oneCell' = true := h.oneCell
theorem fT (F : Fz) (w : World) (u : Value) (s k : Nat) (r : Rq) (hs : Sat w F) (hh : Has w) (hv : CF F u k r.name r.key r.last r.value) (ok : RqOk k r) :
    Calls Tryz.prog 21 #[.int .i64 ((s : Nat) : Int), u] w (dO w F fun F' u => AcV F' u (.ask s (cH k r))) := by
 obtain ⟨_, _, _, _, rfl, q0, q1, q2, q3⟩ := hv
 obtain ⟨a0, c0, rfl, _⟩ := q0.shape
 obtain ⟨a1, c1, rfl, _⟩ := q1.shape
 obtain ⟨a2, c2, rfl, _⟩ := q2.shape
 obtain ⟨a3, c3, rfl, _⟩ := q3.shape
 have S := St.start hs
 go_enter Tryz.func21, Tryz.ntmps21
 refine sk fun K1 hK1 => ?_
 refine aZ S (v := fun n => .pointer (aA n 0)) rfl (bW (v := (.agg #[(nI k), (.slice a0 r.name.length c0), (.slice a1 r.key.length c1), (.slice a2 r.last.length c2), (.slice a3 r.value.length c3)])) rfl) (fun n2 w3 S4 => ?_)
 refine sA S4 (GH _) fun n5 w6 S7 => ?_
 refine wn hK1 ?_
 refine sk fun K8 hK8 => ?_
 refine dR S7 1 Tryz.underlying27 (bP) ?_
 refine aY S7 rfl (fn1 (Cz _ _)) (zD _ _ _ k r (S7).sat (hh.below S7.gr.below) ⟨_, _, _, _, rfl, q0, q1, q2, q3⟩ ok) ?_
 intro b2 w9 b3 a9 b0 b1
 obtain ⟨_, rfl, a7⟩ := b1
 obtain ⟨a4, a5, rfl, _⟩ := a7.shape
 refine aC ?_
 refine wn hK8 ?_
 refine sk fun b4 a6 => ?_
 iterate 2 refine dx ?_
 refine dr (.agg #[(iI 1), (nI s), (iI 0), (.slice a4 (cH k r).length a5)]) (aJ (PD rfl rfl rfl) (by kernel_rfl)) ?_
 simp only [pq]
 refine sW 0 a9 (oV) fun b5 a8 => ?_
 refine wn a6 ?_
 refine aO ?_
 try simp only [xt]
 refine bR (PA rfl ⟨_, rfl, lR a8 0 Tryz.underlying33 (oV)⟩) ?_
 exact ⟨_, _, rfl, a8.gr, _, _, rfl, a7⟩
theorem XR (F : Fz) (w : World) (v : Value) (l : List Ac) (hs : Sat w F) (hh : Has w) (hT : Tabs w) (hv : Acs F v l) (hok : ∀ a ∈ l, CH a) (hc : gM l ≤ 149) (hlen : l.length ≤ 100000) (hP : ∀ a ∈ l, isP a = true → vA) (hK : ∀ a ∈ l, isK a = true → vB) :
    Calls Tryz.prog 23 #[v] w (dO w F (Fm (dW l))) := by
 obtain ⟨a, c, rfl, hc1, hc2⟩ := Sl.shape hv
 have S := St.start hs
 go_enter Tryz.func23, Tryz.ntmps23
 refine sk fun K1 hK1 => ?_
 refine sA S (tM _) fun n2 w3 S4 => ?_
 refine dy ?_
 refine wn hK1 ?_
 refine sk fun K5 hK5 => ?_
 refine dx ?_
 simp only [pq]
 refine aY S4 rfl (fn1 (UV _ _)) (LJ _ _ _ l (S4).sat (hh.below S4.gr.below) (hT.at S4.gr.below) hv hok hc hlen hP hK) ?_
 intro d4 w6 F8 S7 le9 b7
 obtain ⟨_, rfl, b9⟩ := b7
 obtain ⟨a6, a7, a8, a9, rfl, c0, c1⟩ := b9
 refine aC ?_
 refine sA S7 (tM _) fun c2 d5 c3 => ?_
 refine sW 0 c3 (nD) fun d6 a4 => ?_
 refine dy ?_
 simp only [pq]
 refine wn hK5 ?_
 refine sk fun d7 b0 => ?_
 refine aY a4 rfl (fn1 (UV _ _)) (LJ _ _ _ [] (a4).sat (hh.below a4.gr.below) (hT.at a4.gr.below) (Sl.nil _ _ _) (by simp) (by decide) (by simp) (by simp) (by simp)) ?_
 intro d8 d9 c4 c5 a2 c6
 obtain ⟨_, rfl, c7⟩ := c6
 obtain ⟨e0, e1, e2, e3, rfl, e4, e5⟩ := c7
 refine aC ?_
 refine sA c5 (tM _) fun c8 e6 c9 => ?_
 refine sW 0 c9 (nD) fun b6 d0 => ?_
 refine dy ?_
 simp only [pq]
 refine wn b0 ?_
 refine aF fun e7 b1 => ?_
 obtain ⟨d1, a3, b2⟩ := St.freezeBlk d0 (i := 1) rfl
 generalize addF c4 b6 c2 = d2 at *
 obtain ⟨d3, a1, b3⟩ := St.freezeBlk d1 (i := 0) rfl
 generalize addF d2 b6 c8 = e8 at *
 refine iG d3 (by kernel_rfl) (fun e9 a0 => ?_)
 refine bM 0 rfl (.agg #[(.bool (dW l).up), (.int .i64 (((dW l).synced : Nat) : Int)), (.int .i64 (((dW l).waiting.length : Nat) : Int)), (.slice a6 ((dW l).forest (dW l).synced).length a7), (.slice a8 (dW l).replies.length a9)]) a0.sat (fun _ b4 => aE rfl (kW (cs := [(.bool (dW l).up), (.int .i64 (((dW l).synced : Nat) : Int)), (.int .i64 (((dW l).waiting.length : Nat) : Int)), (.slice a6 ((dW l).forest (dW l).synced).length a7), (.slice a8 (dW l).replies.length a9)]) Tryz.underlying43 rfl (nD) (CJ (c := [(.bool (dW l).up), (.int .i64 (((dW l).synced : Nat) : Int)), (.int .i64 (((dW l).waiting.length : Nat) : Int)), (.slice a6 ((dW l).forest (dW l).synced).length a7), (.slice a8 (dW l).replies.length a9)]) (St.start b4).sat (Le.cells a1 b2)))) ?_
 simp only [pq]
 refine eD 1 rfl a0.sat ?_
 simp only [pq]
 refine bM 2 rfl bT a0.sat (fun _ _ => cB (b := true) rfl rfl (by decide)) ?_
 simp only [pq]
 refine eD 3 rfl a0.sat ?_
 simp only [pq]
 refine eD 4 rfl a0.sat ?_
 simp only [pq]
 refine bM 5 rfl bT a0.sat (fun _ _ => cB (b := true) rfl rfl (by decide)) ?_
 simp only [pq]
 refine bM 6 rfl bT a0.sat (fun _ _ => tG (b := true) rfl) ?_
 simp only [pq]
 refine eD 7 rfl a0.sat ?_
 simp only [pq]
 refine bM 8 rfl _ a0.sat (fun _ _ => ef (PI _ _)) ?_
 simp only [pq]
 refine bM 9 rfl _ a0.sat (fun _ b5 => aE rfl (aT (iE _) (St.fz (St.start b5) (b3 0 _ rfl)))) ?_
 simp only [pq]
 refine bM 10 rfl bT a0.sat (fun _ _ => tG (b := true) rfl) ?_
 simp only [pq]
 refine dQ 11 (by kernel_rfl) rfl ?_
 refine sW 0 a0 (nD) fun f0 a5 => ?_
 refine aH (dB a5.sat ?_)
 refine gA 12 rfl a5.sat ?_
 simp only [pq]
 refine jP (by kernel_rfl) ?_
 refine b1 _ _ ?_
 refine aO ?_
 try simp only [xt]
 refine bR (cZ rfl ⟨_, rfl, lR a5 0 Tryz.underlying43 (nD)⟩ (gD rfl)) ?_
 exact ⟨_, _, rfl, a5.gr, _, rfl, _, _, _, _, rfl, (c0.mono ((a2.trans a3).trans a1)), (c1.mono ((a2.trans a3).trans a1))⟩
structure ScrOk (l : List Ac) : Prop where
  ok : ∀ a ∈ l, CH a
  c : gM l ≤ 149
  len : l.length ≤ 100000
  P : ∀ a ∈ l, isP a = true → vA
  K : ∀ a ∈ l, isK a = true → vB
theorem CN (F : Fz) (w : World) (v : Value) (l : List Ac) {g : Eng} (hs : Sat w F) (hh : Has w) (hT : Tabs w) (hv : Acs F v l) (h : ScrOk l) (hg : dW l = g) :
    Calls Tryz.prog 23 #[v] w (dO w F (Fm g)) := hg ▸ XR F w v l hs hh hT hv h.ok h.c h.len h.P h.K
def rq0 : Rq := ⟨[], [], [], []⟩
def bG (z : Int) : UInt8 := UInt8.ofNat (z % 256).toNat
theorem Bp {g : Eng} {s k : Nat} {r : Rq} (ok : RqOk k r) : g.act (.ask s (cH k r)) = if g.up then g.req s k r else g.reply (cX s 13) := by
 unfold Eng.act Eng.ask
 simp only [(tZ ok).1, (tZ ok).2]
 rfl
inductive Rc where
  | rq (s k : Nat) (r : Rq)
  | sync
  | crash (k : Nat)
  | start
def Rc.ac : Rc → Ac
  | .rq s k r => .ask s (cH k r)
  | .sync => .sync
  | .crash k => .crash k
  | .start => .start
def Eng.rc (g : Eng) : Rc → Eng
  | .rq s k r => if g.up then g.req s k r else g.reply (cX s 13)
  | .sync => g.sync
  | .crash k => g.crash k
  | .start => g.start
def DJ : Rc → Prop
  | .rq s k r => s < 8 ∧ RqOk k r
  | .crash k => k ≤ 100000
  | _ => True
theorem XS (g : Eng) {a : Rc} (h : DJ a) : g.act a.ac = g.rc a := by
 cases a with
 | rq s k r => exact Bp h.2
 | sync => rfl
 | crash k => rfl
 | start => rfl
theorem XT : ∀ (l : List Rc) (g : Eng), (∀ a ∈ l, DJ a) → (l.map Rc.ac).foldl Eng.act g = l.foldl Eng.rc g
  | [], g, _ => rfl
  | a :: l, g, h => by
    rw [List.map_cons, List.foldl_cons, List.foldl_cons, XS g (h a (by simp)), XT l _ (fun x hx => h x (by simp [hx]))]
def hH (l : List Rc) : Eng := l.foldl Eng.rc wY
theorem QQ {l : List Rc} (h : ∀ a ∈ l, DJ a) : dW (l.map Rc.ac) = hH l := XT l wY h
def rcP : Rc → Bool
  | .rq _ k _ => k == 8
  | _ => false
def rcK : Rc → Bool
  | .crash _ => true
  | _ => false
def rcC : Rc → Bool
  | .rq _ k _ => k == 6
  | _ => false
theorem Eg {a : Rc} (h : DJ a) : isP a.ac = rcP a := by
 cases a with
 | rq s k r => unfold Rc.ac isP rcP; simp only [(tZ h.2).1, (tZ h.2).2]; rfl
 | _ => rfl
theorem Eh (a : Rc) : isK a.ac = rcK a := by cases a <;> rfl
theorem XU {a : Rc} (h : DJ a) : isC a.ac = rcC a := by
 cases a with
 | rq s k r => unfold Rc.ac isC rcC; simp only [(tZ h.2).1, (tZ h.2).2]; rfl
 | _ => rfl
theorem QR {a : Rc} (h : DJ a) : CH a.ac := by
 cases a with
 | rq s k r =>
  refine ⟨h.1, ?_⟩
  have := KT h.2
  omega
 | sync => trivial
 | crash k => exact h
 | start => trivial
theorem FI {l : List Rc} (h : ∀ a ∈ l, DJ a) : gM (l.map Rc.ac) = (l.map fun a => if rcC a then 1 else 0).sum := by
 unfold gM
 rw [List.map_map]
 congr 1
 refine List.map_congr_left fun a ha => ?_
 simp only [Function.comp_apply, XU (h a ha)]
theorem xD (z : Int) (w : World) : (convert 3 5 (.int .i64 z)).run Tryz.prog w = .ok (.int .u8 (((bG z).toNat : Nat) : Int)) w := by
 have e : IntKind.u8.wrap z = (((bG z).toNat : Nat) : Int) := by
  rw [show IntKind.u8.wrap z = z % 256 from rfl]
  have h : (bG z).toNat = (z % 256).toNat := by
   have hm : (z % 256).toNat < 256 := by omega
   unfold bG
   simp only [UInt8.toNat_ofNat']
   exact Nat.mod_eq_of_lt hm
  rw [h]; omega
 rw [← e]
 go_simp
theorem Rps.get {F : Fz} {a : Option Addr} {n c : Nat} {l : List Rep} (h : Rps F (.slice a n c) l) {i : Nat} {r : Rep} (hp : l[i]? = some r) :
    ∃ b o, a = some ⟨b, o, none⟩ ∧ ∃ va vc pa pc ra rc, bH F b (o + i * 15) = some (.int .i64 ((r.s : Nat) : Int)) ∧ bH F b (o + i * 15 + 1) = some (.int .i64 r.code) ∧ bH F b (o + i * 15 + 2) = some (.int .i64 r.turn) ∧ bH F b (o + i * 15 + 3) = some (.bool r.found) ∧ bH F b (o + i * 15 + 4) = some (.slice va r.value.length vc) ∧ bH F b (o + i * 15 + 5) = some (.slice pa r.pairs.length pc) ∧ bH F b (o + i * 15 + 6) = some (.slice ra r.root.length rc) ∧ Bs F (.slice va r.value.length vc) r.value ∧ Prs F (.slice pa r.pairs.length pc) r.pairs ∧ Bs F (.slice ra r.root.length rc) r.root := by
 obtain ⟨hi, rfl⟩ := List.getElem?_eq_some_iff.1 hp
 have hn := Sl.len h
 obtain ⟨b, o, e, h1⟩ := Sl.at h (by omega) (by omega)
 obtain ⟨cs, q1, ⟨v, p, q, a1, a2, a3, b1, b2, b3, rfl, r1, r2, r3, _⟩, q3⟩ := h1 i hi
 obtain ⟨va, vc, rfl, _⟩ := r1.shape
 obtain ⟨pa, pc, rfl, _⟩ := Sl.shape r2
 obtain ⟨ra, rc, rfl, _⟩ := r3.shape
 refine ⟨b, o, e, va, vc, pa, pc, ra, rc, ?_, ?_, ?_, ?_, ?_, ?_, ?_, r1, r2, r3⟩
 have := q3 0 (by simp); simpa [Nat.add_assoc] using this
 have := q3 1 (by simp); simpa [Nat.add_assoc] using this
 have := q3 2 (by simp); simpa [Nat.add_assoc] using this
 have := q3 3 (by simp); simpa [Nat.add_assoc] using this
 have := q3 4 (by simp); simpa [Nat.add_assoc] using this
 have := q3 5 (by simp); simpa [Nat.add_assoc] using this
 have := q3 6 (by simp); simpa [Nat.add_assoc] using this
def rcB : Rc → Bool
  | .rq s k r => decide (s < 8) && decide (1 ≤ k) && decide (k ≤ 8) && (rM k r.name.length r.key.length r.last.length r.value.length == 0)
  | .crash k => decide (k ≤ 100000)
  | _ => true
theorem CO {a : Rc} (h : rcB a = true) : DJ a := by
 cases a with
 | rq s k r =>
  simp only [rcB, Bool.and_eq_true, decide_eq_true_eq, beq_iff_eq] at h
  exact ⟨h.1.1.1, ⟨h.1.1.2, h.1.2⟩, h.2⟩
 | crash k => simpa [rcB, DJ] using h
 | sync => trivial
 | start => trivial
def TC (l : List Rc) : Bool := l.all rcB && decide ((l.map fun a => if rcC a then 1 else 0).sum ≤ 149) && decide (l.length ≤ 100000)
theorem XV {l : List Rc} (h : TC l = true) (hP : l.any rcP = true → vA) (hK : l.any rcK = true → vB) : ScrOk (l.map Rc.ac) := by
 simp only [TC, Bool.and_eq_true, decide_eq_true_eq] at h
 have hok : ∀ a ∈ l, DJ a := fun a ha => CO (List.all_eq_true.1 h.1.1 a ha)
 refine ⟨fun a ha => ?_, by rw [FI hok]; exact h.1.2, by rw [List.length_map]; exact h.2, fun a ha hp => ?_, fun a ha hk => ?_⟩
 obtain ⟨x, hx, rfl⟩ := List.mem_map.1 ha; exact QR (hok x hx)
 obtain ⟨x, hx, rfl⟩ := List.mem_map.1 ha
 exact hP (List.any_eq_true.2 ⟨x, hx, by rw [← Eg (hok x hx)]; exact hp⟩)
 obtain ⟨x, hx, rfl⟩ := List.mem_map.1 ha
 exact hK (List.any_eq_true.2 ⟨x, hx, by rw [← Eh]; exact hk⟩)
theorem Ei {l : List Rc} (h : (TC l && !l.any rcP && !l.any rcK) = true) : ScrOk (l.map Rc.ac) ∧ dW (l.map Rc.ac) = hH l := by
 simp only [Bool.and_eq_true, Bool.not_eq_true'] at h
 have h1 := h.1.1
 simp only [TC, Bool.and_eq_true, decide_eq_true_eq] at h1
 exact ⟨XV h.1.1 (fun k => by rw [h.1.2] at k; cases k) (fun k => by rw [h.2] at k; cases k), QQ fun a ha => CO (List.all_eq_true.1 h1.1.1 a ha)⟩
theorem getD_some {α : Type} {l : List α} {i : Nat} {x : α} (h : l[i]? = some x) : i < l.length := (List.getElem?_eq_some_iff.1 h).1
open Go.ChangeShapes Go.WideShapes Go.ChangeAt Go.RowKit
abbrev FJ : List (String × DataW Unit) := [("canopy/digest.rounds", Rows.laid_canopy_digest_rounds), ("canopy/digest.goes", Rows.laid_canopy_digest_goes), ("canopy/digest.turns", Rows.laid_canopy_digest_turns), ("canopy/wire.has", Rows.laid_canopy_wire_has)]
theorem XW {W : World} (h : laidMetH Tryz.prog FJ W) : Tabs W := by
 have hr : Lib.TabIs Tryz.prog W "canopy/digest.rounds" .u64 QL :=
  wS (l := FJ) h 0 _ _ _ rfl QM KW Tryz.underlying218 Tryz.underlying215 OD HX
 have hg : Lib.TabIs Tryz.prog W "canopy/digest.goes" .i64 Co :=
  wS (l := FJ) h 1 _ _ _ rfl Cp SQ Tryz.underlying235 Tryz.underlying3 WY OE
 have ht : Lib.TabIs Tryz.prog W "canopy/digest.turns" .i64 WZ :=
  wS (l := FJ) h 2 _ _ _ rfl XA OF Tryz.underlying235 Tryz.underlying3 SR KX
 refine ⟨fun i hi => ?_, fun i hi => ?_, fun i hi => ?_⟩
 rw [OH hg Cp (n := 24) rfl hi, XB i hi]
 rw [OH ht XA (n := 24) rfl hi, SS i hi]
 rw [OH hr QM (n := 24) rfl hi, OG i hi]
theorem Fn : Tryz.prog.globalNamed "canopy/wire.has" = some 0 := by kernel_rfl
theorem XX : (Tryz.prog.globals[(0 : Nat)]?).map (·.type) = some 92 := by kernel_rfl
theorem TD : Tryz.prog.cellsOf 92 = 9 := by kernel_rfl
theorem XY : Tryz.prog.cellsOf 3 = 1 := by kernel_rfl
theorem XZ {W : World} (h : laidMetH Tryz.prog FJ W) : Has W := by
 have ht : Lib.TabIs Tryz.prog W "canopy/wire.has" .i64 OB :=
  wS (l := FJ) h 3 _ _ _ rfl Fn XX Tryz.underlying92 Tryz.underlying3 XY TD
 intro i hi
 have := ht.cell Fn i hi
 rw [this]
 simp [List.getD, hi]
theorem Bq {W : World} (h : laidMetH Tryz.prog [("canopy/digest.rounds", Rows.laid_canopy_digest_rounds), ("canopy/digest.goes", Rows.laid_canopy_digest_goes), ("canopy/digest.turns", Rows.laid_canopy_digest_turns), ("canopy/wire.has", Rows.laid_canopy_wire_has)] W) : Has W ∧ Tabs W := ⟨XZ h, XW h⟩
noncomputable def CP (os : Os) : World := { KY os with heap := (KY os).heap.modify 0 (setCells #[.int .i64 0, .int .i64 0, .int .i64 3, .int .i64 7, .int .i64 11, .int .i64 3, .int .i64 0, .int .i64 0, .int .i64 3]) }
theorem Rps.row {F : Fz} {a : Option Addr} {n c : Nat} {l : List Rep} (h : Rps F (.slice a n c) l) {i : Nat} {r : Rep} (hp : l[i]? = some r) :
    ∃ b o, a = some ⟨b, o, none⟩ ∧ ∃ va vc pa pc ra rc a1 a2 a3 b1 b2 b3, (∀ (j : Nat) v, [Value.int .i64 ((r.s : Nat) : Int), .int .i64 r.code, .int .i64 r.turn, .bool r.found, .slice va r.value.length vc, .slice pa r.pairs.length pc, .slice ra r.root.length rc, .bool r.outer.empty, a1, a2, a3, .bool r.inner.empty, b1, b2, b3][j]? = some v → bH F b (o + i * 15 + j) = some v) ∧ (∀ u ∈ [a1, a2, a3, b1, b2, b3], u.oneCell' = true) ∧ Bs F (.slice va r.value.length vc) r.value ∧ Prs F (.slice pa r.pairs.length pc) r.pairs ∧ Bs F (.slice ra r.root.length rc) r.root := by
 obtain ⟨hi, rfl⟩ := List.getElem?_eq_some_iff.1 hp
 have hn := Sl.len h
 obtain ⟨b, o, e, h1⟩ := Sl.at h (by omega) (by omega)
 obtain ⟨cs, q1, hc, q3⟩ := h1 i hi
 have hone := RpC.oneCell hc
 obtain ⟨v, p, q, a1, a2, a3, b1, b2, b3, rfl, r1, r2, r3, _⟩ := hc
 obtain ⟨va, vc, rfl, _⟩ := r1.shape
 obtain ⟨pa, pc, rfl, _⟩ := Sl.shape r2
 obtain ⟨ra, rc, rfl, _⟩ := r3.shape
 refine ⟨b, o, e, va, vc, pa, pc, ra, rc, a1, a2, a3, b1, b2, b3, fun j v hv => ?_, fun u hu => hone u ?_, r1, r2, r3⟩
 obtain ⟨hj, e⟩ := List.getElem?_eq_some_iff.1 hv
 have := q3 j (by simpa using hj)
 rw [← e]; simpa [Nat.add_assoc] using this
 simp only [List.mem_cons, List.not_mem_nil, or_false] at hu ⊢
 rcases hu with h | h | h | h | h | h <;> simp [h]
theorem FK {P : Program} {o : Oper} {a : Act} {W w : World} {F F1 : Fz} {b : UInt8} {E : TypeId} (g : Gr W F w F1)
    (hr : (execOp a.eval o).run P w = .ok (.value (.slice (some ⟨w.heap.size, 0, none⟩) 1 1)) (w.alloc (.cells #[bv b] E))) : kU P o a w (jZ (Made W F fun F' u => Bs F' u [b]) w) := by
 have h := sI (R := ByC) (hR := ByC.mono) (p := b) (cs := [bv b]) (k := 1) g rfl rfl hr
 unfold kU at h ⊢
 rw [hr] at h ⊢
 obtain ⟨⟨F', h2, h3⟩, h4⟩ := h
 exact ⟨⟨F', h2, eA h3⟩, h4⟩
def ReqR (F : Fz) (v : Value) (p : Nat × Rq) : Prop := ∃ a c a1 c1 a2 c2 a3 c3, v = .agg #[.int .i64 ((p.1 : Nat) : Int), .slice a p.2.name.length c, .slice a1 p.2.key.length c1, .slice a2 p.2.last.length c2, .slice a3 p.2.value.length c3] ∧ Bs F (.slice a p.2.name.length c) p.2.name ∧ Bs F (.slice a1 p.2.key.length c1) p.2.key ∧ Bs F (.slice a2 p.2.last.length c2) p.2.last ∧ Bs F (.slice a3 p.2.value.length c3) p.2.value
theorem AcV.mono {F F' : Fz} {v : Value} {a : Ac} (h : AcV F v a) (hl : Le F F') : AcV F' v a := by
 obtain ⟨x, y, e, r⟩ := h
 exact ⟨x, y, e, r.mono hl⟩
open Go.ChangeShapes Go.WideShapes Go.ChangeAt Go.RowKit Go.Deep
def I64 (z : Int) : Prop := -9223372036854775808 ≤ z ∧ z ≤ 9223372036854775807
def IntC (F : Fz) (cs : List Value) (z : Int) : Prop := cs = [.int .i64 z] ∧ I64 z
theorem IntC.mono (F F' : Fz) (x : List Value) (p : Int) (hl : Le F F') (h : IntC F x p) : IntC F' x p := h
def Ints (F : Fz) (v : Value) (l : List Int) : Prop := Sl 1 IntC F v l
theorem Ints.mono {F F' : Fz} {v : Value} {l : List Int} (h : Ints F v l) (hl : Le F F') : Ints F' v l := Sl.mono IntC.mono h hl
theorem Ints.get {F : Fz} {a : Option Addr} {n c : Nat} {l : List Int} (h : Ints F (.slice a n c) l) {i : Nat} {z : Int} (hz : l[i]? = some z) :
    ∃ b o, a = some ⟨b, o, none⟩ ∧ bH F b (o + i * 1) = some (.int .i64 z) ∧ I64 z := by
 obtain ⟨hi, rfl⟩ := List.getElem?_eq_some_iff.1 hz
 have hn := h.len
 obtain ⟨b, o, e, h1⟩ := Sl.at h (by omega) (by omega)
 obtain ⟨cs, q1, ⟨rfl, r1⟩, q4⟩ := h1 i hi
 exact ⟨b, o, e, by have := q4 0 (by simp); simpa using this, r1⟩
structure Ge where
  kind : Int
  session : Int
  name : Int
  key : Int
  value : Int
def Fp (g : Ge) : Prop := I64 g.kind ∧ I64 g.session ∧ I64 g.name ∧ I64 g.key ∧ I64 g.value
def GeC (F : Fz) (cs : List Value) (g : Ge) : Prop := cs = [.int .i64 g.kind, .int .i64 g.session, .int .i64 g.name, .int .i64 g.key, .int .i64 g.value] ∧ Fp g
theorem GeC.mono (F F' : Fz) (x : List Value) (p : Ge) (hl : Le F F') (h : GeC F x p) : GeC F' x p := h
def Ges (F : Fz) (v : Value) (l : List Ge) : Prop := Sl 5 GeC F v l
theorem Ges.mono {F F' : Fz} {v : Value} {l : List Ge} (h : Ges F v l) (hl : Le F F') : Ges F' v l := Sl.mono GeC.mono h hl
theorem Ges.get {F : Fz} {a : Option Addr} {n c : Nat} {l : List Ge} (h : Ges F (.slice a n c) l) {i : Nat} {g : Ge} (hz : l[i]? = some g) :
    ∃ b o, a = some ⟨b, o, none⟩ ∧ (∀ (j : Nat) v, [Value.int .i64 g.kind, .int .i64 g.session, .int .i64 g.name, .int .i64 g.key, .int .i64 g.value][j]? = some v → bH F b (o + i * 5 + j) = some v) ∧ Fp g := by
 obtain ⟨hi, rfl⟩ := List.getElem?_eq_some_iff.1 hz
 have hn := h.len
 obtain ⟨b, o, e, h1⟩ := Sl.at h (by omega) (by omega)
 obtain ⟨cs, q1, ⟨rfl, r1⟩, q4⟩ := h1 i hi
 refine ⟨b, o, e, fun j v hv => ?_, r1⟩
 obtain ⟨hj, e⟩ := List.getElem?_eq_some_iff.1 hv
 have := q4 j (by simpa using hj)
 rw [← e]; simpa [Nat.add_assoc] using this
section
variable {H : Type} {enc : TypeId × Value → H} {P : Program} {w : World}
theorem Fq {α : Type} {cs : List α} (h : cs.length = 5) : ∃ a b c d e, cs = [a, b, c, d, e] := by
 match cs, h with
 | [a, b, c, d, e], _ => exact ⟨a, b, c, d, e, rfl⟩
theorem YA {t e it : TypeId} {f0 f1 f2 f3 f4 : Field} {fuel : Nat} {v : Value} {x : DataW H × List MemPlace} (ht : P.underlying t = some (.slice e)) (hs : P.underlying e = some (.struct #[f0, f1, f2, f3, f4])) (hone : oneCellFields P #[f0, f1, f2, f3, f4] = true) (hC : P.cellsOf e = 5)
    (e0 : f0.type = it) (e1 : f1.type = it) (e2 : f2.type = it) (e3 : f3.type = it) (e4 : f4.type = it) (hi : P.underlying it = some (.int .i64))
    (h : DataW.trod enc P w 0 (fun _ => true) true fuel t [v] = some x) : ∃ l : List Ge, Ges (whole w) v l :=
  TL (α := Ge) (k := 5) (R := GeC) ht hC (by omega) h (fun n cs y hl hy => by
    obtain ⟨c0, c1, c2, c3, c4, rfl⟩ := Fq hl
    obtain ⟨xs, m, _, _, _, hlen, hf⟩ := DataW.trod_struct hs hy
    obtain ⟨o0, k0⟩ := hone_of hone 0 f0 rfl
    obtain ⟨o1, k1⟩ := hone_of hone 1 f1 rfl
    obtain ⟨o2, k2⟩ := hone_of hone 2 f2 rfl
    obtain ⟨o3, k3⟩ := hone_of hone 3 f3 rfl
    obtain ⟨o4, k4⟩ := hone_of hone 4 f4 rfl
    match xs, hlen with
    | [y0, y1, y2, y3, y4], _ =>
      have h0 := hf 0 f0 rfl
      have h1 := hf 1 f1 rfl
      have h2 := hf 2 f2 rfl
      have h3 := hf 3 f3 rfl
      have h4 := hf 4 f4 rfl
      rw [o0, k0] at h0
      rw [o1, k1] at h1
      rw [o2, k2] at h2
      rw [o3, k3] at h3
      rw [o4, k4] at h4
      simp only [List.drop_zero, List.drop_succ_cons, List.take_succ_cons, List.take_zero] at h0 h1 h2 h3 h4
      rw [e0] at h0
      rw [e1] at h1
      rw [e2] at h2
      rw [e3] at h3
      rw [e4] at h4
      have one : ∀ {n c y}, DataW.trod enc P w 0 (fun _ => true) true n it [c] = some y → ∃ z, c = .int .i64 z ∧ I64 z := fun h => by
        obtain ⟨z, hz, _, hwf⟩ := DataW.trod_int hi h
        have hb := bounds_i64 hwf
        exact ⟨z, by simpa using hz, by omega, by omega⟩
      obtain ⟨z0, rfl, b0⟩ := one h0
      obtain ⟨z1, rfl, b1⟩ := one h1
      obtain ⟨z2, rfl, b2⟩ := one h2
      obtain ⟨z3, rfl, b3⟩ := one h3
      obtain ⟨z4, rfl, b4⟩ := one h4
      exact ⟨⟨z0, z1, z2, z3, z4⟩, rfl, b0, b1, b2, b3, b4⟩)
end
def aD (n : Int) (m : Nat) : Nat := (pick n m).toNat
theorem YB (n : Int) {m : Nat} (h : 1 ≤ m) : pick n m = ((aD n m : Nat) : Int) := by have := OV n m (by omega); unfold aD; omega
theorem gE (n : Int) {m : Nat} (h : 1 ≤ m) : aD n m < m := by have := OV n m (by omega); unfold aD; omega
theorem FL : ∀ (l S : List By), l.Nodup → (∀ x ∈ l, x ∈ S) → l.length ≤ S.length
  | [], S, _, _ => Nat.zero_le _
  | x :: l, S, hn, hs => by
    have hx := hs x (by simp)
    rw [List.nodup_cons] at hn
    have := FL l (S.erase x) hn.2 (fun y hy => (List.mem_erase_of_ne (by rintro rfl; exact hn.1 hy)).2 (hs y (by simp [hy])))
    rw [List.length_erase_of_mem hx] at this
    have := List.length_pos_of_mem hx
    simp; omega
def Few (S : List By) (f : aP) : Prop := ∀ n, dD f n ≠ [] → n ∈ S
theorem Few.nil (S : List By) : Few S [] := fun n h => absurd rfl h
theorem Few.write {S : List By} {f g : aP} {w : Wr} (h : Few S f) (hr : fO f) (hw : w.name ∈ S) (e : eH f w = some g) : Few S g := by
 intro n hn
 rw [vP hr e n] at hn
 by_cases c : w.name = n
 ·rw [← c]; exact hw
 ·rw [if_neg c] at hn; exact h n hn
theorem Few.len {S : List By} {m : Nat} {f : aP} (h : Few S f) (ok : ForestOk m f) : f.length ≤ S.length := by
 have := FL (f.map (·.1)) S (by
  rw [List.nodup_iff_pairwise_ne, List.pairwise_map]
  exact ok.rise.imp fun hlt => tE hlt) (fun x hx => by
  obtain ⟨t, ht, rfl⟩ := List.mem_map.1 hx
  refine h t.1 ?_
  have hg := AM ok.rise ht
  unfold dD
  rw [hg]
  exact ok.some t ht)
 simpa using this
theorem Few.room {S : List By} {m : Nat} {f : aP} {w : Wr} (h : Few S f) (ok : ForestOk m f) (hS : S.length < 8) (hm : m < 60) (hw : WrOk w) : ∃ g, eH f w = some g := by
 cases e : eH f w with
 | some g => exact ⟨g, rfl⟩
 | none => have := (oM ok hw hm e).1; have := h.len ok; omega
def rcW (q : Nat × Rq) : Wr := ⟨q.2.name, q.2.key, q.1 == 5, q.2.value⟩
def HY (q : Nat × Rq) : List Rc := [.rq 0 1 rq0, .rq 0 q.1 q.2, .rq 0 6 rq0, .sync]
structure Rnd (n : Nat) (f : aP) (g : Eng) : Prop where
  up : g.up = true
  txn : g.txn 0 = none
  waits : g.waits 0 = false
  waiting : g.waiting = []
  synced : g.synced = n
  commits : g.commits.length = n
  states : g.forests.length = n + 1
  forest : g.forest n = f
theorem Rnd.nil : Rnd 0 [] wY := ⟨rfl, rfl, rfl, rfl, rfl, rfl, rfl, rfl⟩
theorem ON (t : Int) (cs : List Cm) : jR t [] cs = false := by
 unfold jR
 rw [List.any_eq_false]
 intro c _
 simp
theorem Rnd.step {n : Nat} {f f' : aP} {g : Eng} (h : Rnd n f g) (hn : n < 300) {q : Nat × Rq} (hk : q.1 = 4 ∨ q.1 = 5) (hf : eH f (rcW q) = some f') :
    Rnd (n + 1) f' ((HY q).foldl Eng.rc g) ∧ ((HY q).foldl Eng.rc g).replies = g.replies ++ [mX 0 n, cX 0 0, mX 0 ((n + 1 : Nat) : Int)] := by
 have e1 : g.rc (.rq 0 1 rq0) = (g.setTxn 0 (some ⟨n, [], []⟩)).reply (mX 0 n) := by
  unfold Eng.rc
  simp only
  rw [if_pos h.up]
  unfold Eng.req
  rw [if_neg (by decide), h.waits, if_neg (by decide), h.txn]
  simp only
  rw [if_pos trivial, h.synced]
 have e2 : ∀ z : Eng, z.up = true → z.waits 0 = false → z.synced = n → z.txn 0 = some ⟨n, [], []⟩ → z.rc (.rq 0 q.1 q.2) = (z.setTxn 0 (some ⟨n, [], [rcW q]⟩)).reply (cX 0 0) := by
  intro z h1 h2 h3 h4
  unfold Eng.rc
  simp only
  rw [if_pos h1]
  unfold Eng.req
  rw [if_neg (by omega), h2, if_neg (by decide), h4]
  simp only
  rw [if_neg (by omega), if_neg (by omega), h3, if_pos (by unfold Eng.keptB; simp)]
  unfold Eng.work
  rw [if_neg (by omega), if_neg (by omega), if_neg (by omega)]
  rfl
 have e3 : ∀ z : Eng, z.up = true → z.waits 0 = false → z.synced = n → z.commits.length = n → z.forest n = f → z.txn 0 = some ⟨n, [], [rcW q]⟩ → z.rc (.rq 0 6 rq0) = z.stand 0 ⟨n, [], [rcW q]⟩ f' := by
  intro z h1 h2 h3 h4 h5 h6
  unfold Eng.rc
  simp only
  rw [if_pos h1]
  unfold Eng.req
  rw [if_neg (by decide), h2, if_neg (by decide), h6]
  simp only
  rw [if_neg (by decide), if_neg (by decide), h3, if_pos (by unfold Eng.keptB; simp)]
  unfold Eng.work
  rw [if_neg (by decide), if_neg (by decide), if_pos rfl]
  unfold Eng.commit
  rw [if_neg (by simp), if_neg (by omega), ON, if_neg (by decide), h4, h5, uR, hf]
 have hr : (HY q).foldl Eng.rc g = (((((g.setTxn 0 (some ⟨n, [], []⟩)).reply (mX 0 n)).setTxn 0 (some ⟨n, [], [rcW q]⟩)).reply (cX 0 0)).stand 0 ⟨n, [], [rcW q]⟩ f').sync := by
  unfold HY
  rw [List.foldl_cons, List.foldl_cons, List.foldl_cons, List.foldl_cons, List.foldl_nil, e1, e2 _ (by exact h.up) (by exact h.waits) (by exact h.synced) (by show iJ g.txn 0 _ 0 = _; exact dV _ _ _), e3 _ (by exact h.up) (by exact h.waits) (by exact h.synced) (by exact h.commits) (by exact h.forest) (by show iJ (iJ g.txn 0 (some ⟨n, [], []⟩)) 0 (some ⟨n, [], [rcW q]⟩) 0 = _; exact dV _ _ _)]
  rfl
 rw [hr, wZ (by exact h.up)]
 have hw : (((((g.setTxn 0 (some ⟨n, [], []⟩)).reply (mX 0 n)).setTxn 0 (some ⟨n, [], [rcW q]⟩)).reply (cX 0 0)).stand 0 ⟨n, [], [rcW q]⟩ f').waiting = [0] := by
  show g.waiting ++ [0] = [0]
  rw [h.waiting]; rfl
 rw [hw]
 refine ⟨⟨h.up, ?_, ?_, rfl, ?_, ?_, ?_, ?_⟩, ?_⟩
 rfl
 simp
 show g.synced + 1 = n + 1
 rw [h.synced]
 show (g.commits ++ [_]).length = n + 1
 simp [h.commits]
 show (g.forests ++ [f']).length = n + 2
 simp [h.states]
 show (g.forests ++ [f']).getD (n + 1) [] = f'
 rw [List.getD_eq_getElem?_getD, List.getElem?_append_right (by rw [h.states]; exact Nat.le_refl _), h.states]
 simp
 show ((g.replies ++ [_]) ++ [_]) ++ [mX 0 ((g.synced + 1 : Nat) : Int)] = _
 rw [h.synced]
 simp
def vC (v : Nat) : Wr := ⟨[99], [110], false, [bG ((v : Nat) : Int)]⟩
def LK (k : Nat) : List Cm := (List.range k).map fun i => ⟨i + 1, [vC (i + 1)]⟩
def vD (k : Nat) : aP := if k = 0 then [] else [([99], [([110], [bG ((k : Nat) : Int)])])]
def lJ : Rd := ⟨[99], [110], false, []⟩
theorem CQ (k : Nat) : (LK k).length = k := by simp [LK]
theorem TE (k : Nat) : LK (k + 1) = LK k ++ [⟨k + 1, [vC (k + 1)]⟩] := by simp [LK, List.range_succ]
theorem TF (y k : Nat) : jR (y : Int) [lJ] (LK k) = decide (y < k) := by
 have ht : ∀ v, dM lJ (vC v) = true := fun v => rfl
 by_cases h : y < k
 rw [decide_eq_true h]
 unfold jR
 rw [List.any_eq_true]
 refine ⟨⟨y + 1, [vC (y + 1)]⟩, List.mem_map.2 ⟨y, List.mem_range.2 h, rfl⟩, ?_⟩
 simp [ht]; omega
 rw [decide_eq_false h]
 unfold jR
 rw [List.any_eq_false]
 intro c hc
 obtain ⟨i, hi, rfl⟩ := List.mem_map.1 hc
 have := List.mem_range.1 hi
 simp; omega
theorem TG (k : Nat) : gJ (vD k) [vC (k + 1)] = some (vD (k + 1)) := by
 unfold vD
 by_cases h : k = 0
 ·subst h; kernel_rfl
 ·rw [if_neg h, if_neg (by omega)]; kernel_rfl
theorem Br (k : Nat) : jV (vD k) [99] [110] = if k = 0 then none else some [bG ((k : Nat) : Int)] := by
 unfold vD
 by_cases h : k = 0
 ·rw [if_pos h, if_pos h]; rfl
 ·rw [if_neg h, if_neg h]; kernel_rfl
structure Ctr (k y : Nat) (g : Eng) : Prop where
  up : g.up = true
  txn : ∀ s, g.txn s = none
  com : g.commits = LK k
  len : g.forests.length = k + 1
  fo : ∀ m, m ≤ k → g.forest m = vD m
  syn : g.synced = y
  wait : (g.waiting = [] ∧ y = k ∧ ∀ s, g.waits s = false) ∨ (∃ s0, g.waiting = [s0] ∧ k = y + 1 ∧ ∀ s, g.waits s = decide (s = s0))
theorem Ctr.nil : Ctr 0 0 wY := by
 refine ⟨rfl, fun _ => rfl, rfl, rfl, fun m hm => ?_, rfl, .inl ⟨rfl, rfl, fun _ => rfl⟩⟩
 obtain rfl : m = 0 := Nat.le_zero.1 hm
 rfl
theorem Ctr.le {k y : Nat} {g : Eng} (h : Ctr k y g) : y ≤ k := by rcases h.wait with h | ⟨_, h⟩ <;> omega
def OO (s y : Nat) : Rep := ⟨s, 0, y, decide (1 ≤ y), if y = 0 then [] else [bG ((y : Nat) : Int)], [], [], gZ, gZ⟩
def Fr (s : Nat) : List Rc := [.rq s 1 rq0, .rq s 2 ⟨[99], [110], [], []⟩]
def Ej (s v : Nat) : List Rc := [.rq s 4 ⟨[99], [110], [], [bG ((v : Nat) : Int)]⟩, .rq s 6 rq0]
theorem Ctr.reply {k y : Nat} {g : Eng} (h : Ctr k y g) (r : Rep) : Ctr k y (g.reply r) := ⟨h.up, h.txn, h.com, h.len, h.fo, h.syn, h.wait⟩
def Eng.ctr1 (g : Eng) (s y : Nat) : Eng := (((g.setTxn s (some ⟨y, [], []⟩)).reply (mX s y)).setTxn s (some ⟨y, [lJ], []⟩)).reply (OO s y)
theorem Ctr.free {k y : Nat} {g : Eng} (h : Ctr k y g) {s : Nat} (hs : g.waits s = false) : (Fr s).foldl Eng.rc g = g.ctr1 s y := by
 have e1 : g.rc (.rq s 1 rq0) = (g.setTxn s (some ⟨y, [], []⟩)).reply (mX s y) := by
  unfold Eng.rc
  simp only
  rw [if_pos h.up]
  unfold Eng.req
  rw [if_neg (by decide), hs, if_neg (by decide), h.txn]
  simp only
  rw [if_pos trivial, h.syn]
 have e2 : ∀ z : Eng, z.up = true → z.waits s = false → z.synced = y → z.forest y = vD y → z.txn s = some ⟨y, [], []⟩ → z.rc (.rq s 2 ⟨[99], [110], [], []⟩) = (z.setTxn s (some ⟨y, [lJ], []⟩)).reply (OO s y) := by
  intro z h1 h2 h3 h4 h5
  unfold Eng.rc
  simp only
  rw [if_pos h1]
  unfold Eng.req
  rw [if_neg (by decide), h2, if_neg (by decide), h5]
  simp only
  rw [if_neg (by decide), if_neg (by decide), h3, if_pos (by unfold Eng.keptB; simp)]
  unfold Eng.work
  rw [if_pos rfl]
  unfold Eng.look
  simp only [Int.toNat_natCast, h4]
  have hl : cJ (vD y) ⟨y, [], []⟩ [99] [110] = (jV (vD y) [99] [110], false) := rfl
  rw [hl]
  simp only
  rw [if_neg (by decide), Br]
  unfold Eng.note
  have hn : gH ⟨y, [], []⟩ ⟨[99], [110], false, []⟩ = some ⟨y, [lJ], []⟩ := rfl
  rw [hn]
  simp only
  unfold OO
  by_cases c : y = 0
  ·subst c; rfl
  ·rw [if_neg c, if_neg c, decide_eq_true (by omega)]; rfl
 unfold Fr
 rw [List.foldl_cons, List.foldl_cons, List.foldl_nil, e1, e2 _ (by exact h.up) (by exact hs) (by exact h.syn) (by exact h.fo y h.le) (by show iJ g.txn s (some ⟨y, [], []⟩) s = _; exact dV _ _ _)]
 rfl
theorem Ctr.commit {k y : Nat} {g : Eng} (h : Ctr k y g) (hk : k < 300) {s : Nat} (hs : g.waits s = false) : ∃ k', k ≤ k' ∧ k' ≤ k + 1 ∧ (y = k → k' = k + 1) ∧ Ctr k' y ((Ej s (y + 1)).foldl Eng.rc (g.ctr1 s y)) := by
 have hle := h.le
 have e3 : ∀ z : Eng, z.up = true → z.waits s = false → z.synced = y → z.txn s = some ⟨y, [lJ], []⟩ → z.rc (.rq s 4 ⟨[99], [110], [], [bG ((y + 1 : Nat) : Int)]⟩) = (z.setTxn s (some ⟨y, [lJ], [vC (y + 1)]⟩)).reply (cX s 0) := by
  intro z h1 h2 h3 h4
  unfold Eng.rc
  simp only
  rw [if_pos h1]
  unfold Eng.req
  rw [if_neg (by decide), h2, if_neg (by decide), h4]
  simp only
  rw [if_neg (by decide), if_neg (by decide), h3, if_pos (by unfold Eng.keptB; simp)]
  unfold Eng.work
  rw [if_neg (by decide), if_neg (by decide), if_neg (by decide)]
  rfl
 have e4 : ∀ z : Eng, z.up = true → z.waits s = false → z.synced = y → z.commits = LK k → z.forest k = vD k → z.txn s = some ⟨y, [lJ], [vC (y + 1)]⟩ → z.rc (.rq s 6 rq0) = if y < k then (z.setTxn s none).reply (cX s 9) else z.stand s ⟨y, [lJ], [vC (y + 1)]⟩ (vD (k + 1)) := by
  intro z h1 h2 h3 h4 h5 h6
  unfold Eng.rc
  simp only
  rw [if_pos h1]
  unfold Eng.req
  rw [if_neg (by decide), h2, if_neg (by decide), h6]
  simp only
  rw [if_neg (by decide), if_neg (by decide), h3, if_pos (by unfold Eng.keptB; simp)]
  unfold Eng.work
  rw [if_neg (by decide), if_neg (by decide), if_pos rfl]
  unfold Eng.commit
  have hw : k = y ∨ k = y + 1 := by rcases h.wait with h | ⟨_, h⟩ <;> omega
  rw [if_neg (by simp), if_neg (by rw [h4, CQ, h3]; omega), h4]
  simp only
  rw [TF]
  by_cases c : y < k
  rw [if_pos (by exact decide_eq_true c), if_pos c]
  have : y = k := by omega
  subst this
  rw [if_neg (by simp), if_neg c, CQ, h5, TG]
 have z1 : (g.ctr1 s y).up = true := h.up
 have z2 : (g.ctr1 s y).waits = g.waits := rfl
 have z3 : (g.ctr1 s y).synced = g.synced := rfl
 have z4 : (g.ctr1 s y).commits = g.commits := rfl
 have z5 : (g.ctr1 s y).forests = g.forests := rfl
 have z6 : (g.ctr1 s y).waiting = g.waiting := rfl
 have z7 : (g.ctr1 s y).txn s = some ⟨y, [lJ], []⟩ := by
  show iJ (iJ g.txn s (some ⟨y, [], []⟩)) s (some ⟨y, [lJ], []⟩) s = _
  exact dV _ _ _
 have z8 : ∀ i, i ≠ s → (g.ctr1 s y).txn i = none := by
  intro i hi
  show iJ (iJ g.txn s (some ⟨y, [], []⟩)) s (some ⟨y, [lJ], []⟩) i = _
  rw [iP _ hi, iP _ hi]; exact h.txn i
 generalize g.ctr1 s y = z at *
 have hf : z.forest k = vD k := by unfold Eng.forest; rw [z5]; exact h.fo k (Nat.le_refl _)
 have hr : (Ej s (y + 1)).foldl Eng.rc z = if y < k then (((z.setTxn s (some ⟨y, [lJ], [vC (y + 1)]⟩)).reply (cX s 0)).setTxn s none).reply (cX s 9) else ((z.setTxn s (some ⟨y, [lJ], [vC (y + 1)]⟩)).reply (cX s 0)).stand s ⟨y, [lJ], [vC (y + 1)]⟩ (vD (k + 1)) := by
  have y1 := e3 z z1 (by rw [z2]; exact hs) (by rw [z3]; exact h.syn) z7
  have y2 := e4 ((z.setTxn s (some ⟨y, [lJ], [vC (y + 1)]⟩)).reply (cX s 0)) z1 (by show z.waits s = false; rw [z2]; exact hs) (by show z.synced = y; rw [z3]; exact h.syn) (by show z.commits = _; rw [z4]; exact h.com) hf (by show iJ z.txn s (some ⟨y, [lJ], [vC (y + 1)]⟩) s = _; exact dV _ _ _)
  unfold Ej
  rw [List.foldl_cons, List.foldl_cons, List.foldl_nil, y1, y2]
 rw [hr]
 have htx : ∀ i, iJ (iJ z.txn s (some ⟨y, [lJ], [vC (y + 1)]⟩)) s none i = none := by
  intro i
  by_cases c : i = s
  subst c; exact dV _ _ _
  rw [iP _ c, iP _ c]; exact z8 i c
 by_cases c : y < k
 rw [if_pos c]
 refine ⟨k, Nat.le_refl _, by omega, fun e => by omega, z1, htx, by show z.commits = _; rw [z4]; exact h.com, by show z.forests.length = _; rw [z5]; exact h.len, fun m hm => ?_, by show z.synced = _; rw [z3]; exact h.syn, ?_⟩
 show z.forests.getD m [] = _
 rw [z5]; exact h.fo m hm
 show (z.waiting = [] ∧ y = k ∧ ∀ s, z.waits s = false) ∨ (∃ s0, z.waiting = [s0] ∧ k = y + 1 ∧ ∀ s, z.waits s = decide (s = s0))
 rw [z6, z2]; exact h.wait
 have e : y = k := by omega
 subst e
 rw [if_neg c]
 have hw : g.waiting = [] ∧ ∀ s, g.waits s = false := by
  rcases h.wait with h | ⟨_, h⟩
  exact ⟨h.1, h.2.2⟩
  omega
 refine ⟨y + 1, by omega, by omega, fun _ => rfl, z1, htx, ?_, ?_, fun m hm => ?_, by show z.synced = _; rw [z3]; exact h.syn, .inr ⟨s, ?_, rfl, fun i => ?_⟩⟩
 show z.commits ++ [⟨z.commits.length + 1, [vC (y + 1)]⟩] = _
 rw [z4, h.com, CQ, TE]
 show (z.forests ++ [_]).length = _
 rw [z5]; simp [h.len]
 show (z.forests ++ [vD (y + 1)]).getD m [] = vD m
 rw [z5]
 by_cases c2 : m = y + 1
 subst c2
 rw [List.getD_eq_getElem?_getD, List.getElem?_append_right (by rw [h.len]; exact Nat.le_refl _), h.len]
 simp
 rw [List.getD_eq_getElem?_getD, List.getElem?_append_left (by rw [h.len]; omega), ← List.getD_eq_getElem?_getD]
 exact h.fo m (by omega)
 show z.waiting ++ [s] = [s]
 rw [z6, hw.1]; rfl
 show iJ z.waits s true i = _
 rw [z2]
 by_cases c2 : i = s
 subst c2; rw [dV]; simp
 rw [iP _ c2, hw.2, decide_eq_false c2]
theorem Ctr.sync {k y : Nat} {g : Eng} (h : Ctr k y g) : Ctr k k g.sync := by
 rw [wZ h.up]
 have hle := h.le
 refine ⟨h.up, h.txn, h.com, h.len, h.fo, ?_, .inl ⟨rfl, rfl, fun i => ?_⟩⟩
 show g.synced + g.waiting.length = k
 rcases h.wait with ⟨a, b, _⟩ | ⟨s0, a, b, _⟩ <;> rw [a, h.syn] <;> simp <;> omega
 show (if i ∈ g.waiting then false else g.waits i) = false
 rcases h.wait with ⟨a, _, b⟩ | ⟨s0, a, _, b⟩
 rw [b]; simp
 rw [a, b]
 by_cases c : i = s0
 simp [c]
 simp [c]
theorem vE {n : Nat} (h : n < 256) : (bG ((n : Nat) : Int)).toNat = n := by
 unfold bG
 rw [show ((n : Int) % 256).toNat = n by omega]
 simp
 omega
section
variable {P : Program} {w0 w w' : World} {F0 F : Fz} {L : List Blk} {M : List RowP} {α : Type} {k E : Nat} {R : Fz → List Value → α → Prop} {hR : ∀ F F' x p, Le F F' → R F x p → R F' x p} {v : Value} {l : List α}
end
theorem FM {α : Type} {F F' : Fz} {R : Fz → List Value → α → Prop} (hR : ∀ F F' x p, Le F F' → R F x p → R F' x p) (hl : Le F F') : ∀ {el : List (List Value)} {l : List α}, AllR (R F) el l → AllR (R F') el l
  | [], [], _ => trivial
  | _ :: _, _ :: _, h => ⟨hR _ _ _ _ hl h.1, FM hR hl h.2⟩
theorem TH {P : Program} {o : Oper} {a : Act} {W w : World} {F F1 : Fz} {α : Type} {k : Nat} {R : Fz → List Value → α → Prop} (hR : ∀ F F' x p, Le F F' → R F x p → R F' x p) {el : List (List Value)} {l : List α} {E : TypeId} (g : Gr W F w F1) (hp : AllR (R F1) el l) (hk : ∀ x ∈ el, x.length = k) (hl : l.length ≤ maxLen)
    (hr : (execOp a.eval o).run P w = .ok (.value (.slice (some ⟨w.heap.size, 0, none⟩) l.length l.length)) (w.alloc (.cells el.flatten.toArray E))) : kU P o a w (jZ (Made W F fun F' u => Sl k R F' u l) w) := by
 unfold kU
 rw [hr]
 have g2 := g.new (.cells el.flatten.toArray E)
 have g3 := g2.add (g := w.heap.size) g.below.size
 have hle : Le F1 (addF F1 (w.alloc (.cells el.flatten.toArray E)) w.heap.size) := fun b o hb => qG _ _ _ _ _ hb
 refine ⟨⟨_, g3, fS (R := R) (l := l) (c := el.flatten) (el := el) (fun j v hj => ?_) rfl (FM hR hle hp) hk hl⟩, (Below.refl _ _).alloc (Nat.le_refl _) _⟩
 unfold bH addF
 rw [g.sat.out (Nat.le_refl _)]
 simp only [if_true, heap_alloc_new]
 simpa using hj
end Go.Proofs.YtilgpdpooildcaaGreatDoor
