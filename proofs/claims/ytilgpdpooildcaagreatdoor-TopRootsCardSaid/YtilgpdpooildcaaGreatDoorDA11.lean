/- Rules, plain laws and walks: SV3 SV4 SV5 SV6 -/
import Derived.Test.YtilgpdpooildcaaGreatDoorDA10
import Derived.Test.YtilgpdpooildcaaGreatDoorDA2
import Derived.Test.YtilgpdpooildcaaGreatDoorDA3
import Derived.Test.YtilgpdpooildcaaGreatDoorDA6
import Derived.Test.YtilgpdpooildcaaGreatDoorDA9
import Derived.Test.YtilgpdpooildcaaGreatDoorDA5
import Derived.Test.YtilgpdpooildcaaGreatDoorDA7
import Derived.Test.YtilgpdpooildcaaGreatDoorDA8
namespace Go.Proofs.YtilgpdpooildcaaGreatDoor
set_option maxHeartbeats 8000000
open Go.RowKit
set_option maxRecDepth 100000
set_option linter.unusedVariables false
set_option linter.unusedSimpArgs false
theorem EQ (F : Fz) (w : World) (v u : Value) (t : Tx) (r : Rd) (hs : Sat w F) (hv : TxV F v t) (hu : RdV F u r) (ht : TxOk t) (hr : RdOk r) (e : jB t r = none) :
    Calls Tryz.prog 106 #[v, u] w (dB w F fun F' u => TxE F' u jT 11) := by
 have := xT F w v u t r hs hv hu (fun x hx => (ht.writes x hx).small)
 obtain ⟨h1, h2⟩ := SA ht hr e
 rwa [h1, h2] at this
theorem AW (F : Fz) (w : World) (v u : Value) (t : Tx) (r : Wr) (hs : Sat w F) (hv : TxV F v t) (hu : WrV F u r) (ht : TxOk t) (hr : WrOk r) (e : gS t r = none) :
    Calls Tryz.prog 94 #[v, u] w (dB w F fun F' u => TxE F' u jT 11) := by
 have := uC F w v u t r hs hv hu (fun x hx => (ht.writes x hx).small) hr.small
 obtain ⟨h1, h2⟩ := AE ht hr e
 rwa [h1, h2] at this
def Kd (w0 : World) (F0 F : Fz) (n : Nat) (g : Eng) (L : List Blk) (s : Nat) (o : Option Tx) (e : Ending) (w' : World) : Prop := ∃ F', Le F F' ∧ match o with
  | none => e = .returned (.bool false) ∧ EngM w0 F0 w' F' n (g.reply (eF s 11)) L
  | some u => e = .returned (.bool true) ∧ EngM w0 F0 w' F' n (g.setTxn s (some u)) L
theorem ER (w0 : World) (F0 : Fz) (w : World) (F : Fz) (n : Nat) (g : Eng) (L : List Blk) (s : Nat) (hs8 : s < 8) (u : Value) (k : Nat) (r : Rq) (b_ : Bool) (t : Tx) (hM : EngM w0 F0 w F n g L) (hh : Has w0) (hv : AT F u k r.name r.key r.last r.value) (ok : RqOk k r) (hk : (k = 2 ∧ b_ = false) ∨ (k = 3 ∧ b_ = true)) (hts : g.txn s = some t) (htok : TxOk t) (hq : g.replies.length ≤ 100000) :
    Calls Tryz.prog 90 #[.pointer (some ⟨n, 0, none⟩), .int .i64 ((s : Nat) : Int), .pointer (some ⟨n, 6 + s * 2, none⟩), u] w (Kd w0 F0 F n g L s (jB t ⟨r.name, r.key, b_, r.last⟩)) := by
 obtain ⟨_, _, _, _, rfl, q0, q1, q2, q3⟩ := hv
 obtain ⟨a0, c0, rfl, _⟩ := q0.shape
 obtain ⟨a1, c1, rfl, _⟩ := q1.shape
 obtain ⟨a2, c2, rfl, _⟩ := q2.shape
 obtain ⟨a3, c3, rfl, _⟩ := q3.shape
 obtain ⟨ad, cd, ac, cc, af, cf, aw, cw, ar, cr, pv, S, hd, ht⟩ := hM
 have hb := ht s hs8
 rw [hts] at hb
 obtain ⟨b, x0, y0, x1, y1, hp, b0, b1, b2, r0, r1⟩ := hb
 go_enter Tryz.func90, Tryz.ntmps90
 refine sk fun K4 hK4 => ?_
 refine bD S (v := fun n => .pointer (aA n 0)) rfl (cB (v := (.agg #[(nI k), (.slice a0 r.name.length c0), (.slice a1 r.key.length c1), (.slice a2 r.last.length c2), (.slice a3 r.value.length c3)])) rfl) (fun n5 w6 S7 => ?_)
 refine dy ?_
 refine wn hK4 ?_
 refine sk fun K8 hK8 => ?_
 refine dR S7 0 Tryz.underlying27 (aY) ?_
 refine aR S7 rfl (fn1 (Fb _ _)) (LU _ _ _ k r (S7).sat (hh.below S7.gr.below) ⟨_, _, _, _, rfl, q0, q1, q2, q3⟩ ok hk) ?_
 intro m8 w9 h9 i9 a4 j0
 obtain ⟨_, rfl, j1⟩ := j0
 obtain ⟨a5, a6, a7, a8, a9, b3, rfl, i0, i1, i2⟩ := j1
 refine aC ?_
 refine sA i9 (tN _) fun i3 m9 j2 => ?_
 refine sW 0 j2 (dI) fun i4 b4 => ?_
 refine dy ?_
 simp only [pq]
 refine wn hK8 ?_
 refine aE fun n0 e2 => ?_
 cases hn : jB t (⟨r.name, r.key, b_, r.last⟩ : Rd) with
 | none =>
  refine kX h9 [0, 1, 2, 3, 4, 5, 6, 7, 8, 9, 11] 10 12 [13] [(7, .made (fun F' u => TxE F' u jT 11)), (9, .made (fun F' u => TxV F' u jT)), (11, .rel (NewAt i4 [(iI 0), Zn, Zn] 141) (NewAt.stable _ _ _)), (10, .is (iI 11))] (by kernel_rfl) (by kernel_rfl) rfl rfl rfl rfl ?_
  simp only [jH, List.getElem?_cons_succ, List.getElem?_cons_zero, List.map_cons, List.map_nil]
  refine bQ rfl rfl (pP n (6 + s * 2)) (fun c4 b5 => aK (fF _)) ?_
  simp only [pq]
  refine bQ rfl rfl (pP n (6 + s * 2)) (fun c4 b5 => aK (lX rfl)) ?_
  simp only [pq]
  refine bQ rfl rfl (pP n (6 + s * 2)) (fun c4 b5 => aK (ef (eJ _ _))) ?_
  simp only [pq]
  refine bQ rfl rfl (pP b 0) (fun c4 b5 => aK (aD rfl (aW (eM _) (St.cell (St.tells b4 b5) (i := 2) rfl ((eO hs8).trans (congrArg some hp)))))) ?_
  simp only [pq]
  refine bQ rfl rfl (pP b 0) (fun c4 b5 => aK (lX rfl)) ?_
  simp only [pq]
  refine bQ rfl rfl (.agg #[(.int .i64 t.start), (.slice x0 t.reads.length y0), (.slice x1 t.writes.length y1)]) (fun c4 b5 => aK (aD rfl (jD (cs := [(.int .i64 t.start), (.slice x0 t.reads.length y0), (.slice x1 t.writes.length y1)]) Tryz.underlying141 rfl (aZ) (rT (St.fz (St.tells b4 b5) (Le.cell a4 b0)) (St.fz (St.tells b4 b5) (Le.cell a4 b1)) (St.fz (St.tells b4 b5) (Le.cell a4 b2)))))) ?_
  simp only [pq]
  refine bQ rfl rfl (.agg #[(.slice a5 r.name.length a6), (.slice a7 r.key.length a8), (.bool b_), (.slice a9 r.last.length b3)]) (fun c4 b5 => aK (aD rfl (jD (cs := [(.slice a5 r.name.length a6), (.slice a7 r.key.length a8), (.bool b_), (.slice a9 r.last.length b3)]) Tryz.underlying179 rfl (dI) (St.range (St.tells b4 b5) (i := 0) rfl 0 [(.slice a5 r.name.length a6), (.slice a7 r.key.length a8), (.bool b_), (.slice a9 r.last.length b3)] (dC 0 rfl))))) ?_
  simp only [pq]
  refine kS rfl rfl (fun c4 b5 hF => bO (cK (vs := #[(.agg #[(.int .i64 t.start), (.slice x0 t.reads.length y0), (.slice x1 t.writes.length y1)]), (.agg #[(.slice a5 r.name.length a6), (.slice a7 r.key.length a8), (.bool b_), (.slice a9 r.last.length b3)])]) (iD rfl rfl) rfl (BH _ _)) (cS b4.sat b5 (EQ _ _ _ _ t (⟨r.name, r.key, b_, r.last⟩ : Rd) ((St.tells b4 b5)).sat ⟨_, _, _, _, rfl, (r0.mono a4), (r1.mono a4)⟩ ⟨_, _, _, _, _, _, rfl, i0, i1, i2⟩ htok (VC ok hk) hn))) (fun j3 => ?_)
  simp only [pq]
  refine bQ rfl rfl j3 (fun c4 b5 => aK (fF _)) ?_
  simp only [pq]
  refine kS rfl rfl (fun c4 b5 hF_ => ?_) (fun n1 => ?_)
  obtain ⟨j4, j5, _, rfl, f4⟩ := hF_.get 7 (by kernel_rfl) rfl rfl
  exact hJ (bV rfl rfl) ⟨j4, j5, f4⟩ (Below.refl _ _)
  simp only [pq]
  refine kS rfl rfl (fun c4 b5 _ => iX (cs := [(iI 0), Zn, Zn]) (gM _) rfl b5) (fun n2 => ?_)
  simp only [pq]
  refine zD (IK rfl rfl (v := (iI 11)) (fun c4 b5 hF_ => ?_) ?_)
  obtain ⟨n3, n4, _, rfl, j6⟩ := hF_.get 7 (by kernel_rfl) rfl rfl
  exact fun w1 => aK (bV rfl rfl)
  intro n6 j7 d7
  obtain ⟨j8, rfl, e3, e4⟩ := d7.getR 11 rfl rfl
  have d8 : ∀ u ∈ [(.int .i64 0), (.slice none 0 0), (.slice none 0 0)], ∀ x, u ≠ bv x := by intro u hu x; simp only [List.mem_cons, List.not_mem_nil, or_false] at hu; rcases hu with rfl | rfl | rfl <;> (unfold bv; simp)
  obtain ⟨j9, i5, k0⟩ := d7.get 9 rfl rfl
  have i6 := i5.dropF b4.sat e3
  have k1 := TxV.dropT i5.sat e4 d8 k0
  have k2 := St.addBlk (cs := [(.int .i64 0), (.slice none 0 0), (.slice none 0 0)]) b4 i6 e3 (mP _ _) e4
  have d9 : Le _ _ := i6.le b4.sat
  have k3 := k1
  generalize (dropF j9 j8) = n7 at *
  obtain ⟨f5, f6, f7, f8, rfl, n8, n9⟩ := k3
  clear d7
  refine zF (i := 0) (v := (.agg #[(.int .i64 jT.start), (.slice f5 jT.reads.length f6), (.slice f7 jT.writes.length f8)])) k2 rfl rfl rfl (aZ) (TN rfl rfl rfl) (Nat.le_of_ble_eq_true rfl) (fun o0 k4 => ?_)
  refine dy ?_
  simp only [pq]
  refine wlK e2 ?_
  refine aE fun o1 k5 => ?_
  refine sk fun o2 f9 => ?_
  refine dx ?_
  refine dr bT (cG (b := true) rfl rfl (by decide)) ?_
  refine wn f9 ?_
  refine aJ ?_
  refine sk fun o3 g0 => ?_
  refine aC ?_
  have k6 := St.perm k4 (List.perm_middle (l₁ := [_, _, _]))
  have g1 : EngM _ _ _ _ n g _ := ⟨_, _, _, _, _, _, _, _, _, _, _, k6, (hd.mono (a4.trans d9)), (dW ht (a4.trans d9))⟩
  refine doC rfl (fn3 (lK _ _)) (hY _ _ _ _ _ _ _ s 11 g1 hq) ?_
  rintro _ o4 ⟨rfl, o5, g2, g3⟩
  refine ⟨_, rfl, ?_⟩
  obtain ⟨k7, k8, k9, l0, l1, l2, l3, l4, l5, l6, l7, l8, g4, g5⟩ := g3
  refine wn g0 ?_
  refine sk fun o6 g6 => ?_
  refine dy ?_
  refine wn g6 ?_
  refine aP ?_
  try simp only [xt]
  refine bR (bK rfl (gD rfl)) ?_
  have g7 : EngM _ _ _ _ n (g.reply (eF s 11)) _ := ⟨_, _, _, _, _, _, _, _, _, _, _, l8, g4, g5⟩
  refine ⟨_, ((a4.trans d9).trans g2), ?_⟩
  rw [hn]
  exact ⟨rfl, (g7.drop (.cons _ (.cons _ (.cons _ (List.Sublist.refl _)))))⟩
 | some nx =>
  refine kX h9 [0, 1, 2, 3, 4, 5, 6, 7, 8, 9, 11] 10 12 [13] [(7, .made (fun F' u => TxE F' u nx 0)), (9, .made (fun F' u => TxV F' u nx)), (11, .rel (NewAt i4 [(iI 0), Zn, Zn] 141) (NewAt.stable _ _ _)), (10, .is (iI 0))] (by kernel_rfl) (by kernel_rfl) rfl rfl rfl rfl ?_
  simp only [jH, List.getElem?_cons_succ, List.getElem?_cons_zero, List.map_cons, List.map_nil]
  refine bQ rfl rfl (pP n (6 + s * 2)) (fun c5 b6 => aK (fF _)) ?_
  simp only [pq]
  refine bQ rfl rfl (pP n (6 + s * 2)) (fun c5 b6 => aK (lX rfl)) ?_
  simp only [pq]
  refine bQ rfl rfl (pP n (6 + s * 2)) (fun c5 b6 => aK (ef (eJ _ _))) ?_
  simp only [pq]
  refine bQ rfl rfl (pP b 0) (fun c5 b6 => aK (aD rfl (aW (eM _) (St.cell (St.tells b4 b6) (i := 2) rfl ((eO hs8).trans (congrArg some hp)))))) ?_
  simp only [pq]
  refine bQ rfl rfl (pP b 0) (fun c5 b6 => aK (lX rfl)) ?_
  simp only [pq]
  refine bQ rfl rfl (.agg #[(.int .i64 t.start), (.slice x0 t.reads.length y0), (.slice x1 t.writes.length y1)]) (fun c5 b6 => aK (aD rfl (jD (cs := [(.int .i64 t.start), (.slice x0 t.reads.length y0), (.slice x1 t.writes.length y1)]) Tryz.underlying141 rfl (aZ) (rT (St.fz (St.tells b4 b6) (Le.cell a4 b0)) (St.fz (St.tells b4 b6) (Le.cell a4 b1)) (St.fz (St.tells b4 b6) (Le.cell a4 b2)))))) ?_
  simp only [pq]
  refine bQ rfl rfl (.agg #[(.slice a5 r.name.length a6), (.slice a7 r.key.length a8), (.bool b_), (.slice a9 r.last.length b3)]) (fun c5 b6 => aK (aD rfl (jD (cs := [(.slice a5 r.name.length a6), (.slice a7 r.key.length a8), (.bool b_), (.slice a9 r.last.length b3)]) Tryz.underlying179 rfl (dI) (St.range (St.tells b4 b6) (i := 0) rfl 0 [(.slice a5 r.name.length a6), (.slice a7 r.key.length a8), (.bool b_), (.slice a9 r.last.length b3)] (dC 0 rfl))))) ?_
  simp only [pq]
  refine kS rfl rfl (fun c5 b6 hF => bO (cK (vs := #[(.agg #[(.int .i64 t.start), (.slice x0 t.reads.length y0), (.slice x1 t.writes.length y1)]), (.agg #[(.slice a5 r.name.length a6), (.slice a7 r.key.length a8), (.bool b_), (.slice a9 r.last.length b3)])]) (iD rfl rfl) rfl (BH _ _)) (cS b4.sat b6 (oT _ _ _ _ t (⟨r.name, r.key, b_, r.last⟩ : Rd) nx ((St.tells b4 b6)).sat ⟨_, _, _, _, rfl, (r0.mono a4), (r1.mono a4)⟩ ⟨_, _, _, _, _, _, rfl, i0, i1, i2⟩ htok (VC ok hk) hn))) (fun l9 => ?_)
  simp only [pq]
  refine bQ rfl rfl l9 (fun c5 b6 => aK (fF _)) ?_
  simp only [pq]
  refine kS rfl rfl (fun c5 b6 hF_ => ?_) (fun o7 => ?_)
  obtain ⟨m0, m1, _, rfl, g8⟩ := hF_.get 7 (by kernel_rfl) rfl rfl
  exact hJ (bV rfl rfl) ⟨m0, m1, g8⟩ (Below.refl _ _)
  simp only [pq]
  refine kS rfl rfl (fun c5 b6 _ => iX (cs := [(iI 0), Zn, Zn]) (gM _) rfl b6) (fun o8 => ?_)
  simp only [pq]
  refine zD (IK rfl rfl (v := (iI 0)) (fun c5 b6 hF_ => ?_) ?_)
  obtain ⟨o9, p0, _, rfl, i7⟩ := hF_.get 7 (by kernel_rfl) rfl rfl
  exact fun w1 => aK (bV rfl rfl)
  intro m2 i8 c6
  obtain ⟨b9, rfl, d5, d6⟩ := c6.getR 11 rfl rfl
  have d3 : ∀ u ∈ [(.int .i64 0), (.slice none 0 0), (.slice none 0 0)], ∀ x, u ≠ bv x := by intro u hu x; simp only [List.mem_cons, List.not_mem_nil, or_false] at hu; rcases hu with rfl | rfl | rfl <;> (unfold bv; simp)
  obtain ⟨g9, e5, h0⟩ := c6.get 9 rfl rfl
  have e6 := e5.dropF b4.sat d5
  have h1 := TxV.dropT e5.sat d6 d3 h0
  have h2 := St.addBlk (cs := [(.int .i64 0), (.slice none 0 0), (.slice none 0 0)]) b4 e6 d5 (mP _ _) d6
  have c7 : Le _ _ := e6.le b4.sat
  have h3 := h1
  generalize (dropF g9 b9) = e0 at *
  obtain ⟨c8, c9, d0, d1, rfl, h4, h5⟩ := h3
  clear c6
  refine zF (i := 0) (v := (.agg #[(.int .i64 nx.start), (.slice c8 nx.reads.length c9), (.slice d0 nx.writes.length d1)])) h2 rfl rfl rfl (aZ) (TN rfl rfl rfl) (Nat.le_of_ble_eq_true rfl) (fun h6 e1 => ?_)
  have e1 : St w0 F0 h6 e0 (⟨b9, [(.int .i64 nx.start), (.slice c8 nx.reads.length c9), (.slice d0 nx.writes.length d1)], 141⟩ :: ⟨i3, [(.slice a5 r.name.length a6), (.slice a7 r.key.length a8), (.bool b_), (.slice a9 r.last.length b3)], 179⟩ :: ⟨n5, [(nI k), (.slice a0 r.name.length c0), (.slice a1 r.key.length c1), (.slice a2 r.last.length c2), (.slice a3 r.value.length c3)], 27⟩ :: ⟨n, mU g.up (.slice ad g.tape.data.length cd) g.tape.synced (.slice ac g.commits.length cc) (.slice af g.forests.length cf) g.synced pv g.waits (.slice aw g.waiting.length cw) (.slice ar g.replies.length cr), 115⟩ :: L) (qE w0.heap.size (.slice ac g.commits.length cc) g.commits (.slice af g.forests.length cf) g.forests (.slice aw g.waiting.length cw) g.waiting (.slice ar g.replies.length cr) g.replies) := e1
  refine dy ?_
  simp only [pq]
  refine wlK e2 ?_
  refine aE fun m3 e7 => ?_
  refine sk fun m4 e8 => ?_
  refine dx ?_
  refine dr bF (cG (b := false) rfl rfl (by decide)) ?_
  refine wn e8 ?_
  refine aF ?_
  refine aH ?_
  refine e7 _ _ ?_
  refine sk fun m5 e9 => ?_
  refine aC ?_
  refine fL (i := 3) (v := (pP b9 0)) e1 rfl rfl rfl rfl (oL) (lS rfl) (by rw [lM]; simp only [Value.cells]; exact Nat.le_of_lt_succ (by simp only [List.size_toArray, List.length_cons, List.length_nil]; omega)) (fun f0 d4 => ?_)
  simp only [pq]
  have d4 : St w0 F0 f0 e0 (⟨b9, [(.int .i64 nx.start), (.slice c8 nx.reads.length c9), (.slice d0 nx.writes.length d1)], 141⟩ :: ⟨i3, [(.slice a5 r.name.length a6), (.slice a7 r.key.length a8), (.bool b_), (.slice a9 r.last.length b3)], 179⟩ :: ⟨n5, [(nI k), (.slice a0 r.name.length c0), (.slice a1 r.key.length c1), (.slice a2 r.last.length c2), (.slice a3 r.value.length c3)], 27⟩ :: ⟨n, cA (mU g.up (.slice ad g.tape.data.length cd) g.tape.synced (.slice ac g.commits.length cc) (.slice af g.forests.length cf) g.synced pv g.waits (.slice aw g.waiting.length cw) (.slice ar g.replies.length cr)) (6 + s * 2) [(pP b9 0)], 115⟩ :: L) (qE w0.heap.size (.slice ac g.commits.length cc) g.commits (.slice af g.forests.length cf) g.forests (.slice aw g.waiting.length cw) g.waiting (.slice ar g.replies.length cr) g.replies) := d4
  rw [oY hs8] at d4
  refine wn e9 ?_
  refine sk fun m6 f1 => ?_
  refine dy ?_
  refine wn f1 ?_
  refine aP ?_
  try simp only [xt]
  refine bR (bK rfl (gD rfl)) ?_
  obtain ⟨h7, b7, d2⟩ := St.freezeBlk d4 (i := 0) rfl
  generalize addF e0 f0 b9 = m7 at *
  have f2 := sL (x := .pointer (some ⟨b9, 0, none⟩)) (t := some nx) (dW ht ((a4.trans c7).trans b7)) ⟨_, _, _, _, _, rfl, d2 0 _ rfl, d2 1 _ rfl, d2 2 _ rfl, (h4.mono b7), (h5.mono b7)⟩ s
  have h8 := St.perm h7 (List.perm_middle (l₁ := [_, _]))
  have f3 : EngM _ _ _ _ n (g.setTxn s (some nx)) _ := ⟨_, _, _, _, _, _, _, _, _, _, _, h8, (hd.mono ((a4.trans c7).trans b7)), f2⟩
  refine ⟨_, ((a4.trans c7).trans b7), ?_⟩
  rw [hn]
  exact ⟨rfl, (f3.drop (.cons _ (.cons _ (List.Sublist.refl _))))⟩
theorem vQ {w0 w : World} {F0 F : Fz} {L : List Blk} {M : List RowP} {hR : ∀ F F' x p, Le F F' → CmC F x p → CmC F' x p} {E base i : Nat} {v u : Value} {t : Tx} {cs : List Cm} {b : Bool} (S : St w0 F0 w F L M) (h : M[i]? = some (bZ 2 CmC hR E base u cs)) (hv : TxV F v t) (ht : TxOk t) (hcs : ∀ c ∈ cs, CmOk c) (hb : oH t.start t.reads cs = b) :
    Calls Tryz.prog 109 #[v, u] w (cU w (.tuple #[.bool b, .int .i64 0])) := by
 obtain ⟨F', h1, h2, h3⟩ := oK S h
 have := SB F' w v u t cs h1 (hv.mono h2) h3 (fun c hc => by have := (hcs c hc).some.2; omega) (fun r hr => (ht.writes r hr).small)
 rwa [EC, if_neg (by rw [nD.2 ht]; decide), hb, nD.2 ht] at this
theorem SX {f g : aO} {ws : List Wr} (hw : ∀ w ∈ ws, WrOk w) (hl : ws.length ≤ 10) (h : fW f ws = some g) : iT f ws = (0, g) := by
 unfold iT; rw [if_neg (by omega), qZ hw, h]
theorem XT {f : aO} {ws : List Wr} (hw : ∀ w ∈ ws, WrOk w) (hl : ws.length ≤ 10) (h : fW f ws = none) : iT f ws = (11, []) := by
 unfold iT; rw [if_neg (by omega), qZ hw, h]
theorem vE {m : Nat} {g : Eng} (h : EngOk m g) {k : Nat} (hk : k ≤ g.commits.length) : g.forests[k]? = some (g.forest k) := by
 have := h.states
 unfold Eng.forest
 rw [List.getD_eq_getElem?_getD, List.getElem?_eq_getElem (by omega)]
 rfl
theorem vF {m : Nat} {g : Eng} (h : EngOk m g) {k : Nat} (hk : k ≤ g.commits.length) : ForestOk 60 (g.forest k) := by rw [h.state k hk]; exact h.ok k hk
theorem SY (w0 : World) (F0 : Fz) (w : World) (F : Fz) (n : Nat) (g : Eng) (L : List Blk) {m : Nat} (s : Nat) (hs8 : s < 8) (t : Tx) (hM : EngM w0 F0 w F n g L) (hT : Tabs w0) (hg : EngOk m g) (hm : m ≤ 149) (hts : g.txn s = some t) (hq : g.replies.length ≤ 100000) :
    Calls Tryz.prog 92 #[.pointer (some ⟨n, 0, none⟩), .int .i64 ((s : Nat) : Int), .pointer (some ⟨n, 6 + s * 2, none⟩)] w (yE w0 F0 F n (g.commit s t) L) := by
 obtain ⟨ad, cd, ac, cc, af, cf, aw, cw, ar, cr, pv, S, hd, ht⟩ := hM
 have hb := ht s hs8
 rw [hts] at hb
 obtain ⟨b, x0, y0, x1, y1, hp, b0, b1, b2, r0, r1⟩ := hb
 have htok := (hg.txns s t hts).1
 have hsy := hg.sync
 have hmy := hg.many
 have hst := hg.states
 have hx1 := htok.nw
 have hx2 := htok.nr
 have htl : g.tape.data.length ≤ 90000 := by have := yB hg.hist.ok; rw [hg.data]; omega
 have hts2 := hg.syn
 obtain ⟨i3, hi3, hz3, hs3, hb3⟩ := info_parts Jc
 obtain ⟨u0, f6, f7, f8, f9⟩ := info_parts VG
 obtain ⟨g0, d4, d5, d6, d7⟩ := info_parts ZL
 go_enter Tryz.func92, Tryz.ntmps92
 refine sk fun K4 hK4 => ?_
 refine aC ?_
 refine dr _ (aD rfl (aW (eM _) (St.cell S (i := 0) rfl ((eO hs8).trans (congrArg some hp))))) ?_
 refine di ?_
 refine dr _ (aD rfl (cN Tryz.underlying141 rfl (aZ) (rT (St.fz S b0) (St.fz S b1) (St.fz S b2)))) ?_
 simp only [pq]
 refine sA S (gM _) fun n5 w6 S7 => ?_
 refine sW 0 S7 (aZ) fun w8 S9 => ?_
 refine wn hK4 ?_
 refine aE fun fb l8 => ?_
 refine sk fun fc g1 => ?_
 refine aC ?_
 by_cases g2 : t.writes.length = 0
 refine iQ ?_
 refine wn g1 ?_
 refine aJ ?_
 refine sk fun fd l9 => ?_
 refine aC ?_
 refine fL (i := 1) (v := (.pointer none)) S9 rfl rfl rfl rfl (oL) (lS rfl) (by rw [lM]; simp only [Value.cells]; exact Nat.le_of_lt_succ (by simp only [List.size_toArray, List.length_cons, List.length_nil]; omega)) (fun x3 l6 => ?_)
 simp only [pq]
 have l6 : St w0 F0 x3 F (⟨n5, [(.int .i64 t.start), (.slice x0 t.reads.length y0), (.slice x1 t.writes.length y1)], 141⟩ :: ⟨n, cA (mU g.up (.slice ad g.tape.data.length cd) g.tape.synced (.slice ac g.commits.length cc) (.slice af g.forests.length cf) g.synced pv g.waits (.slice aw g.waiting.length cw) (.slice ar g.replies.length cr)) (6 + s * 2) [(.pointer none)], 115⟩ :: L) (qE w0.heap.size (.slice ac g.commits.length cc) g.commits (.slice af g.forests.length cf) g.forests (.slice aw g.waiting.length cw) g.waiting (.slice ar g.replies.length cr) g.replies) := l6
 rw [oY hs8] at l6
 refine wn l9 ?_
 refine aE fun fe m0 => ?_
 have m1 := sL (x := .pointer none) (t := none) ht rfl s
 refine aB ?_
 refine aC ?_
 refine dr (.agg #[(nI s), (iI 0), (.int .i64 t.start), bF, Zn, Zn, Zn, bF, Zn, Zn, Zn, bF, Zn, Zn, Zn]) (aL (fY rfl rfl) (by kernel_rfl)) ?_
 simp only [pq]
 have x4 := St.perm l6 (List.perm_middle (l₁ := [_]))
 have m2 : EngM _ _ _ _ n (g.setTxn s none) _ := ⟨_, _, _, _, _, _, _, _, _, _, _, x4, hd, m1⟩
 refine doC rfl (fn2 (qA _ _)) (kB _ _ _ _ _ _ _ _ _ m2 (RpV.turn _ s t.start) hq) ?_
 rintro _ ff ⟨rfl, fg, m3, m4⟩
 refine ⟨_, rfl, ?_⟩
 obtain ⟨x5, x6, x7, x8, x9, y2, y3, y4, y5, y6, y7, y8, m5, m6⟩ := m4
 refine wlK m0 ?_
 refine aP ?_
 try simp only [xt]
 refine bR (jE rfl) ?_
 have m7 : EngM _ _ _ _ n ((g.setTxn s none).reply (pB s t.start)) _ := ⟨_, _, _, _, _, _, _, _, _, _, _, y8, m5, m6⟩
 rw [show g.commit s t = ((g.setTxn s none).reply (pB s t.start)) from by unfold Eng.commit; rw [if_pos (List.eq_nil_of_length_eq_zero (by omega))]]
 exact ⟨rfl, _, m3, (m7.drop (.cons _ (List.Sublist.refl _)))⟩
 refine gB ?_
 refine wn g1 ?_
 refine aF ?_
 refine aH ?_
 refine l8 _ _ ?_
 refine aE fun fh m8 => ?_
 refine aE fun fi g3 => ?_
 have hw : t.writes ≠ [] := by intro e; rw [e] at g2; exact g2 rfl
 by_cases h6 : g.commits.length - g.synced = 6
 refine aT F 9 [] (by kernel_rfl) (by kernel_rfl) ?_
 simp only [dD]
 refine gm ?_
 refine gi ?_
 simp only [pq]
 refine gf (jQ _ _) ?_
 refine gl kG S9 1 ?_
 refine gv (nI g.commits.length) (fun _ _ => pW Tryz.underlying109 rfl) ?_
 simp only [pq]
 refine gm ?_
 refine gi ?_
 refine gf (gZ _ _) ?_
 simp only [pq]
 refine gl bN S9 1 ?_
 refine bY ?_
 intro fj m9 n0
 clear n0
 have y9 := St.tells S9 m9
 simp only [dE]
 refine WC (((g.commits.length - g.synced) : Nat) : Int) ?_
 refine iQ ?_
 refine aC ?_
 refine wlK g3 ?_
 refine aJ ?_
 refine sk fun fk n1 => ?_
 refine aC ?_
 have z0 := St.perm y9 (List.perm_middle (l₁ := [_]))
 have n2 : EngM _ _ _ _ n g _ := ⟨_, _, _, _, _, _, _, _, _, _, _, z0, hd, ht⟩
 refine doC rfl (fn3 (lK _ _)) (hY _ _ _ _ _ _ _ s 11 n2 hq) ?_
 rintro _ fl ⟨rfl, fm, n3, n4⟩
 refine ⟨_, rfl, ?_⟩
 obtain ⟨z1, z2, z3, z4, z5, z6, z7, z8, z9, aa, ab, ae, n6, n7⟩ := n4
 refine wn n1 ?_
 refine aP ?_
 try simp only [xt]
 refine bR (jE rfl) ?_
 have n8 : EngM _ _ _ _ n (g.reply (eF s 11)) _ := ⟨_, _, _, _, _, _, _, _, _, _, _, ae, n6, n7⟩
 rw [show g.commit s t = (g.reply (eF s 11)) from by unfold Eng.commit; rw [if_neg hw, if_pos (.inl h6)]]
 exact ⟨rfl, _, n3, (n8.drop (.cons _ (List.Sublist.refl _)))⟩
 refine aT F 9 [] (by kernel_rfl) (by kernel_rfl) ?_
 simp only [dD]
 refine gm ?_
 refine gi ?_
 refine gf (jQ _ _) ?_
 simp only [pq]
 refine gl kG S9 1 ?_
 refine gv (nI g.commits.length) (fun _ _ => pW Tryz.underlying109 rfl) ?_
 refine gm ?_
 simp only [pq]
 refine gi ?_
 refine gf (gZ _ _) ?_
 refine gl bN S9 1 ?_
 simp only [pq]
 refine bY ?_
 intro fn n9 o0
 clear o0
 have ag := St.tells S9 n9
 simp only [dE]
 refine WC (((g.commits.length - g.synced) : Nat) : Int) ?_
 refine gB ?_
 refine aC ?_
 refine gB ?_
 simp only [pq]
 refine dp ?_
 refine wlK g3 ?_
 refine aF ?_
 refine aH ?_
 refine m8 _ _ ?_
 refine aE fun fo o1 => ?_
 have hno : ¬ (g.commits.length - g.synced = 6 ∨ g.commits.length = 300) := by omega
 refine aB ?_
 refine aC ?_
 refine fL (i := 1) (v := (.pointer none)) ag rfl rfl rfl rfl (oL) (lS rfl) (by rw [lM]; simp only [Value.cells]; exact Nat.le_of_lt_succ (by simp only [List.size_toArray, List.length_cons, List.length_nil]; omega)) (fun ah c1 => ?_)
 simp only [pq]
 have c1 : St w0 F0 ah F (⟨n5, [(.int .i64 t.start), (.slice x0 t.reads.length y0), (.slice x1 t.writes.length y1)], 141⟩ :: ⟨n, cA (mU g.up (.slice ad g.tape.data.length cd) g.tape.synced (.slice ac g.commits.length cc) (.slice af g.forests.length cf) g.synced pv g.waits (.slice aw g.waiting.length cw) (.slice ar g.replies.length cr)) (6 + s * 2) [(.pointer none)], 115⟩ :: L) (qE w0.heap.size (.slice ac g.commits.length cc) g.commits (.slice af g.forests.length cf) g.forests (.slice aw g.waiting.length cw) g.waiting (.slice ar g.replies.length cr) g.replies) := c1
 rw [oY hs8] at c1
 refine wlK o1 ?_
 refine aE fun fp o2 => ?_
 refine aE fun fq g4 => ?_
 have c6 := sL (x := .pointer none) (t := none) ht rfl s
 cases hcl : oH t.start t.reads g.commits with
 | true =>
  refine aT F 10 [(5, .is (.tuple #[bT, (iI 0)]))] (by kernel_rfl) (by kernel_rfl) ?_
  simp only [dD]
  refine gv _ (fun _ o3 => aD rfl (cN Tryz.underlying141 rfl (aZ) (St.range (St.tells c1 o3) (i := 0) rfl 0 [(.int .i64 t.start), (.slice x0 t.reads.length y0), (.slice x1 t.writes.length y1)] (dC 0 rfl)))) ?_
  refine gm ?_
  refine gi ?_
  simp only [pq]
  refine gf (jQ _ _) ?_
  refine gl kG c1 1 ?_
  simp only [pq]
  refine gY rfl rfl (v := (.tuple #[bT, (iI 0)])) (fun fr o3 _ => bO (cK (vs := #[(.agg #[(.int .i64 t.start), (.slice x0 t.reads.length y0), (.slice x1 t.writes.length y1)]), (.slice ac g.commits.length cc)]) (iD rfl rfl) rfl (UA _ _)) (iB (vQ (i := 0) (t := t) (b := true) (St.tells c1 o3) rfl ⟨_, _, _, _, rfl, r0, r1⟩ htok hg.hist.ok hcl))) ?_
  refine gm ?_
  refine gv bT (fun _ _ => bV rfl rfl) ?_
  refine gv (iI 0) (fun _ _ => bV rfl rfl) ?_
  simp only [pq]
  refine ga ?_
  refine bY ?_
  intro fs o4 o5
  clear o5
  have ai := St.tells c1 o4
  simp only [dE]
  refine dy ?_
  refine wlK g4 ?_
  refine sk fun ft o6 => ?_
  refine dx ?_
  simp only [pq]
  refine wn o6 ?_
  refine aJ ?_
  refine sk fun fu o7 => ?_
  refine aC ?_
  have aj := St.perm ai (List.perm_middle (l₁ := [_]))
  have o8 : EngM _ _ _ _ n (g.setTxn s none) _ := ⟨_, _, _, _, _, _, _, _, _, _, _, aj, hd, c6⟩
  refine doC rfl (fn3 (lK _ _)) (hY _ _ _ _ _ _ _ s 9 o8 hq) ?_
  rintro _ fv ⟨rfl, fw, o9, p0⟩
  refine ⟨_, rfl, ?_⟩
  obtain ⟨ak, al, am, an, ao, ap, aq, au, av, u1, u2, p1, g5, g6⟩ := p0
  refine wn o7 ?_
  refine aP ?_
  try simp only [xt]
  refine bR (jE rfl) ?_
  have g7 : EngM _ _ _ _ n ((g.setTxn s none).reply (eF s 9)) _ := ⟨_, _, _, _, _, _, _, _, _, _, _, p1, g5, g6⟩
  rw [show g.commit s t = ((g.setTxn s none).reply (eF s 9)) from by unfold Eng.commit; rw [if_neg hw, if_neg hno, if_pos hcl]]
  exact ⟨rfl, _, o9, (g7.drop (.cons _ (List.Sublist.refl _)))⟩
 | false =>
  refine aT F 10 [(5, .is (.tuple #[bF, (iI 0)]))] (by kernel_rfl) (by kernel_rfl) ?_
  simp only [dD]
  refine gv _ (fun _ e9 => aD rfl (cN Tryz.underlying141 rfl (aZ) (St.range (St.tells c1 e9) (i := 0) rfl 0 [(.int .i64 t.start), (.slice x0 t.reads.length y0), (.slice x1 t.writes.length y1)] (dC 0 rfl)))) ?_
  refine gm ?_
  refine gi ?_
  simp only [pq]
  refine gf (jQ _ _) ?_
  refine gl kG c1 1 ?_
  simp only [pq]
  refine gY rfl rfl (v := (.tuple #[bF, (iI 0)])) (fun ax e9 _ => bO (cK (vs := #[(.agg #[(.int .i64 t.start), (.slice x0 t.reads.length y0), (.slice x1 t.writes.length y1)]), (.slice ac g.commits.length cc)]) (iD rfl rfl) rfl (UA _ _)) (iB (vQ (i := 0) (t := t) (b := false) (St.tells c1 e9) rfl ⟨_, _, _, _, rfl, r0, r1⟩ htok hg.hist.ok hcl))) ?_
  refine gm ?_
  refine gv bF (fun _ _ => bV rfl rfl) ?_
  refine gv (iI 0) (fun _ _ => bV rfl rfl) ?_
  simp only [pq]
  refine ga ?_
  refine bY ?_
  intro p2 g8 g9
  clear g9
  have c2 := St.tells c1 g8
  simp only [dE]
  refine dy ?_
  refine wlK g4 ?_
  refine sk fun ay h0 => ?_
  refine dx ?_
  simp only [pq]
  refine wn h0 ?_
  refine aF ?_
  refine aH ?_
  refine o2 _ _ ?_
  refine aE fun az h1 => ?_
  refine aT F 10 [(9, .rel (NewAt p2 [(iI 0), Zn] 168) (NewAt.stable _ _ _))] (by kernel_rfl) (by kernel_rfl) ?_
  simp only [dD]
  refine gm ?_
  refine gi ?_
  refine gf (jQ _ _) ?_
  simp only [pq]
  refine gl kG c2 1 ?_
  refine gv (nI g.commits.length) (fun _ _ => pW Tryz.underlying109 rfl) ?_
  refine gv (nI (g.commits.length + 1)) (fun _ _ => iC (m := ((g.commits.length : Nat) : Int)) (n := (1 : Int)) (r := (((g.commits.length + 1) : Nat) : Int)) rfl rfl (by omega) (by omega) (by omega)) ?_
  simp only [pq]
  refine gf (xH _ _) ?_
  refine gl xD c2 0 ?_
  refine gv (.agg #[(nI (g.commits.length + 1)), (.slice x1 t.writes.length y1)]) (fun _ _ => aL (ps := #[(0, (nI (g.commits.length + 1))), (1, (.slice x1 t.writes.length y1))]) (fY rfl rfl) (by kernel_rfl)) ?_
  simp only [pq]
  refine dF rfl rfl (fun ba p3 _ => iX (cs := [(iI 0), Zn]) (OB _) rfl p3) (fun bb => ?_)
  refine bY ?_
  intro bc h2 d8
  obtain ⟨f0, rfl, d9, h3⟩ := d8.getR 9 rfl rfl
  have l7 : ∀ u ∈ [(.int .i64 0), (.slice none 0 0)], ∀ x, u ≠ bv x := by intro u hu x; simp only [List.mem_cons, List.not_mem_nil, or_false] at hu; rcases hu with rfl | rfl <;> (unfold bv; simp)
  clear d8
  have p4 := St.addBlk (cs := [(.int .i64 0), (.slice none 0 0)]) c2 (Gr.of_below c2.sat h2) d9 (c2.sat.out d9) h3
  simp only [dE]
  refine sW 0 p4 (oM) fun bd a3 => ?_
  simp only [pq]
  refine wlK h1 ?_
  refine aE fun be e0 => ?_
  have hfa := vE hg (Nat.le_refl _)
  have hfo := vF hg (Nat.le_refl _)
  obtain ⟨h4, e1, e2, e3, h5, h7⟩ := VH (a3.own (i := 1) rfl) hfa
  cases hap : fW (g.forest g.commits.length) t.writes with
  | none =>
   refine aT F 18 [(13, .made (fun F' u => Ai [] 11 F' u)), (15, .made (fun F' u => Tns F' u [])), (16, .is (iI 11))] (by kernel_rfl) (by kernel_rfl) ?_
   simp only [dD]
   refine gm ?_
   refine gi ?_
   refine gf (qW _ _) ?_
   simp only [pq]
   refine gl qU a3 2 ?_
   refine gm ?_
   refine gi ?_
   simp only [pq]
   refine gf (jQ _ _) ?_
   refine gl kG a3 2 ?_
   refine gv (nI g.commits.length) (fun _ _ => pW Tryz.underlying109 rfl) ?_
   simp only [pq]
   refine gv (pP h4 (0 + g.commits.length * 1)) (fun _ _ => bP (i := g.commits.length) (sz := 1) Tryz.underlying106 (qT _) rfl e1 rfl (by omega) rfl) ?_
   refine gv _ (fun _ b6 => aD rfl (aW (uR _) (qY b6 h5))) ?_
   refine gf (DD _ _) ?_
   simp only [pq]
   refine gl xD a3 0 ?_
   simp only [pq]
   refine dF rfl rfl (fun h8 b6 hF => bO (cK (vs := #[(.slice e2 (g.forest g.commits.length).length e3), (.slice x1 t.writes.length y1)]) (iD rfl rfl) rfl (DI _ _)) (cS a3.sat b6 (xR ((St.tells a3 b6)).sat h7 r1 hfo htok.writes (XT htok.writes htok.nw hap)))) (fun bf => ?_)
   refine gm ?_
   simp only [pq]
   refine dF rfl rfl (fun h8 b6 hF_ => ?_) (fun bg => ?_)
   obtain ⟨p5, p6, _, rfl, h9⟩ := hF_.get 13 (by kernel_rfl) rfl rfl
   exact hJ (bV rfl rfl) ⟨p5, p6, h9⟩ (Below.refl _ _)
   simp only [pq]
   refine gY rfl rfl (v := (iI 11)) (fun h8 b6 hF_ => ?_) ?_
   obtain ⟨bh, bi, _, rfl, u3⟩ := hF_.get 13 (by kernel_rfl) rfl rfl
   exact yF (bV rfl rfl)
   refine ga ?_
   refine bY ?_
   intro bj u4 e4
   obtain ⟨p7, i0, p8⟩ := e4.get 15 rfl rfl
   have p9 := St.gives a3 i0
   have c3 : Le _ _ := i0.le a3.sat
   have f1 := p8
   generalize p7 = bk at *
   obtain ⟨q0, q1, rfl, bl, bm⟩ := Sl.shape f1
   have f1 : Tns _ (.slice q0 ([] : aO).length q1) [] := f1
   clear e4
   simp only [dE]
   refine dy ?_
   simp only [pq]
   refine wlK e0 ?_
   refine aE fun bn u5 => ?_
   refine sk fun bo i1 => ?_
   refine dx ?_
   refine dr bT (cG (b := true) rfl rfl (by decide)) ?_
   refine wn i1 ?_
   refine aJ ?_
   refine sk fun bp i2 => ?_
   refine aC ?_
   have q2 := St.perm p9 (List.perm_middle (l₁ := [_, _]))
   have i4 : EngM _ _ _ _ n (g.setTxn s none) _ := ⟨_, _, _, _, _, _, _, _, _, _, _, q2, (hd.mono c3), (dW c6 c3)⟩
   refine doC rfl (fn3 (lK _ _)) (hY _ _ _ _ _ _ _ s 11 i4 hq) ?_
   rintro _ bq ⟨rfl, br, i5, i6⟩
   refine ⟨_, rfl, ?_⟩
   obtain ⟨u6, u7, u8, u9, v0, v1, v2, v3, v4, v5, v6, q3, i7, i8⟩ := i6
   refine wn i2 ?_
   refine aP ?_
   try simp only [xt]
   refine bR (jE rfl) ?_
   have i9 : EngM _ _ _ _ n ((g.setTxn s none).reply (eF s 11)) _ := ⟨_, _, _, _, _, _, _, _, _, _, _, q3, i7, i8⟩
   rw [show g.commit s t = ((g.setTxn s none).reply (eF s 11)) from by unfold Eng.commit; rw [if_neg hw, if_neg hno, if_neg (by rw [hcl]; decide), hap]]
   exact ⟨rfl, _, (c3.trans i5), (i9.drop (.cons _ (.cons _ (List.Sublist.refl _))))⟩
  | some f =>
   refine aT F 18 [(13, .made (fun F' u => Ai f 0 F' u)), (15, .made (fun F' u => Tns F' u f)), (16, .is (iI 0))] (by kernel_rfl) (by kernel_rfl) ?_
   simp only [dD]
   refine gm ?_
   refine gi ?_
   refine gf (qW _ _) ?_
   simp only [pq]
   refine gl qU a3 2 ?_
   refine gm ?_
   refine gi ?_
   simp only [pq]
   refine gf (jQ _ _) ?_
   refine gl kG a3 2 ?_
   refine gv (nI g.commits.length) (fun _ _ => pW Tryz.underlying109 rfl) ?_
   simp only [pq]
   refine gv (pP h4 (0 + g.commits.length * 1)) (fun _ _ => bP (i := g.commits.length) (sz := 1) Tryz.underlying106 (qT _) rfl e1 rfl (by omega) rfl) ?_
   refine gv _ (fun _ b7 => aD rfl (aW (uR _) (qY b7 h5))) ?_
   refine gf (DD _ _) ?_
   simp only [pq]
   refine gl xD a3 0 ?_
   simp only [pq]
   refine dF rfl rfl (fun j0 b7 hF => bO (cK (vs := #[(.slice e2 (g.forest g.commits.length).length e3), (.slice x1 t.writes.length y1)]) (iD rfl rfl) rfl (DI _ _)) (cS a3.sat b7 (xR ((St.tells a3 b7)).sat h7 r1 hfo htok.writes (SX htok.writes htok.nw hap)))) (fun bs => ?_)
   refine gm ?_
   simp only [pq]
   refine dF rfl rfl (fun j0 b7 hF_ => ?_) (fun bt => ?_)
   obtain ⟨q4, q5, _, rfl, j1⟩ := hF_.get 13 (by kernel_rfl) rfl rfl
   exact hJ (bV rfl rfl) ⟨q4, q5, j1⟩ (Below.refl _ _)
   simp only [pq]
   refine gY rfl rfl (v := (iI 0)) (fun j0 b7 hF_ => ?_) ?_
   obtain ⟨bu, bw, _, rfl, v7⟩ := hF_.get 13 (by kernel_rfl) rfl rfl
   exact yF (bV rfl rfl)
   refine ga ?_
   refine bY ?_
   intro q6 v8 e5
   obtain ⟨q7, j2, q8⟩ := e5.get 15 rfl rfl
   have a7 := St.gives a3 j2
   have a2 : Le _ _ := j2.le a3.sat
   have a8 := q8
   generalize q7 = q9 at *
   obtain ⟨a9, b3, rfl, bx, bz⟩ := Sl.shape a8
   have a8 : Tns _ (.slice a9 f.length b3) f := a8
   clear e5
   simp only [dE]
   refine dy ?_
   simp only [pq]
   refine wlK e0 ?_
   refine aE fun ca j3 => ?_
   refine sk fun cb j4 => ?_
   refine dx ?_
   refine dr bF (cG (b := false) rfl rfl (by decide)) ?_
   refine wn j4 ?_
   refine aF ?_
   refine aH ?_
   refine j3 _ _ ?_
   refine aE fun ce j5 => ?_
   have hcm : CmOk (⟨g.commits.length + 1, t.writes⟩ : Cm) := ⟨⟨by simp, by simp only; omega⟩, ⟨Cd htok hw, htok.nw⟩, htok.writes⟩
   refine kX q9 [0, 1, 2, 3, 4, 5, 6, 7, 9] 8 10 [11] [(5, .made (fun F' u => Jb (⟨g.tape.data ++ bU (⟨(g.commits.length + 1), t.writes⟩ : Cm), g.tape.synced⟩ : Tp) 0 F' u)), (7, .made (fun F' u => TpV F' u (⟨g.tape.data ++ bU (⟨(g.commits.length + 1), t.writes⟩ : Cm), g.tape.synced⟩ : Tp))), (9, .rel (NewAt q6 [Zn, (iI 0)] 108) (NewAt.stable _ _ _)), (8, .is (iI 0))] (by kernel_rfl) (by kernel_rfl) rfl rfl rfl rfl ?_
   simp only [jH, List.getElem?_cons_succ, List.getElem?_cons_zero, List.map_cons, List.map_nil]
   refine bQ rfl rfl (pP n 0) (fun a5 a4 => aK (fF _)) ?_
   simp only [pq]
   refine bQ rfl rfl (pP n 0) (fun a5 a4 => aK (lX rfl)) ?_
   simp only [pq]
   refine bQ rfl rfl (pP n 1) (fun a5 a4 => aK (ef (xL _ _))) ?_
   simp only [pq]
   refine bQ rfl rfl (.agg #[(.slice ad g.tape.data.length cd), (nI g.tape.synced)]) (fun a5 a4 => aK (aD rfl (jD (cs := [(.slice ad g.tape.data.length cd), (nI g.tape.synced)]) Tryz.underlying108 rfl (fH) (St.range (St.tells a7 a4) (i := 2) rfl 1 [(.slice ad g.tape.data.length cd), (nI g.tape.synced)] (dC 1 rfl))))) ?_
   simp only [pq]
   refine bQ rfl rfl (.agg #[(nI (g.commits.length + 1)), (.slice x1 t.writes.length y1)]) (fun a5 a4 => aK (aD rfl (jD (cs := [(nI (g.commits.length + 1)), (.slice x1 t.writes.length y1)]) Tryz.underlying168 rfl (oM) (St.range (St.tells a7 a4) (i := 0) rfl 0 [(nI (g.commits.length + 1)), (.slice x1 t.writes.length y1)] (dC 0 rfl))))) ?_
   simp only [pq]
   refine kS rfl rfl (fun a5 a4 hF => bO (cK (vs := #[(.agg #[(.slice ad g.tape.data.length cd), (nI g.tape.synced)]), (.agg #[(nI (g.commits.length + 1)), (.slice x1 t.writes.length y1)])]) (iD rfl rfl) rfl (Fd _ _)) (cS a7.sat a4 (PR _ _ _ _ (⟨g.tape.data, g.tape.synced⟩ : Tp) (⟨(g.commits.length + 1), t.writes⟩ : Cm) ((St.tells a7 a4)).sat (hT.at (St.tells a7 a4).gr.below) ⟨_, _, rfl, (hd.mono a2)⟩ ⟨_, _, rfl, (r1.mono a2)⟩ (⟨by simp only; omega, by simp only; omega⟩) hcm))) (fun r2 => ?_)
   simp only [pq]
   refine bQ rfl rfl r2 (fun a5 a4 => aK (fF _)) ?_
   simp only [pq]
   refine kS rfl rfl (fun a5 a4 hF_ => ?_) (fun cg => ?_)
   obtain ⟨r3, r4, _, rfl, j6⟩ := hF_.get 5 (by kernel_rfl) rfl rfl
   exact hJ (bV rfl rfl) ⟨r3, r4, j6⟩ (Below.refl _ _)
   simp only [pq]
   refine kS rfl rfl (fun a5 a4 _ => iX (cs := [Zn, (iI 0)]) (qV _) rfl a4) (fun ch => ?_)
   simp only [pq]
   refine zD (IK rfl rfl (v := (iI 0)) (fun a5 a4 hF_ => ?_) ?_)
   obtain ⟨ci, cj, _, rfl, v9⟩ := hF_.get 5 (by kernel_rfl) rfl rfl
   exact fun w1 => aK (bV rfl rfl)
   intro ck w2 c4
   obtain ⟨f2, rfl, e6, e7⟩ := c4.getR 9 rfl rfl
   have c7 : ∀ u ∈ [(.slice none 0 0), (.int .i64 0)], ∀ x, u ≠ bv x := by intro u hu x; simp only [List.mem_cons, List.not_mem_nil, or_false] at hu; rcases hu with rfl | rfl <;> (unfold bv; simp)
   obtain ⟨r5, j7, r6⟩ := c4.get 7 rfl rfl
   have j8 := j7.dropF a7.sat e6
   have r7 := TpV.dropT j7.sat e7 c7 r6
   have r8 := St.addBlk (cs := [(.slice none 0 0), (.int .i64 0)]) a7 j8 e6 (mP _ _) e7
   have a1 : Le _ _ := j8.le a7.sat
   have r9 := r7
   generalize (dropF r5 f2) = f3 at *
   obtain ⟨b9, c0, rfl, c8⟩ := r9
   have c8 : Bs _ (.slice b9 (g.tape.data ++ bU (⟨(g.commits.length + 1), t.writes⟩ : Cm)).length c0) (g.tape.data ++ bU (⟨(g.commits.length + 1), t.writes⟩ : Cm)) := c8
   clear c4
   refine zF (i := 0) (v := (.agg #[(.slice b9 (g.tape.data ++ bU (⟨(g.commits.length + 1), t.writes⟩ : Cm)).length c0), (nI g.tape.synced)])) r8 rfl rfl rfl (fH) (Hk rfl rfl) (Nat.le_of_ble_eq_true rfl) (fun cl j9 => ?_)
   refine dy ?_
   simp only [pq]
   refine wlK j5 ?_
   refine aE fun cm k0 => ?_
   refine sk fun cn k1 => ?_
   refine dx ?_
   refine dr bF (cG (b := false) rfl rfl (by decide)) ?_
   refine wn k1 ?_
   refine aF ?_
   refine aH ?_
   refine k0 _ _ ?_
   refine sk fun co k2 => ?_
   iterate 2 refine dx ?_
   refine dR j9 0 Tryz.underlying108 (fH) ?_
   refine aC ?_
   refine sW 3 j9 (fH) fun s0 f4 => ?_
   simp only [pq]
   have f4 : St w0 F0 s0 f3 (⟨f2, [(.slice b9 (g.tape.data ++ bU (⟨(g.commits.length + 1), t.writes⟩ : Cm)).length c0), (nI g.tape.synced)], 108⟩ :: ⟨f0, [(nI (g.commits.length + 1)), (.slice x1 t.writes.length y1)], 168⟩ :: ⟨n5, [(.int .i64 t.start), (.slice x0 t.reads.length y0), (.slice x1 t.writes.length y1)], 141⟩ :: ⟨n, mU g.up (.slice b9 (g.tape.data ++ bU (⟨(g.commits.length + 1), t.writes⟩ : Cm)).length c0) g.tape.synced (.slice ac g.commits.length cc) (.slice af g.forests.length cf) g.synced (lA pv s (.pointer none)) g.waits (.slice aw g.waiting.length cw) (.slice ar g.replies.length cr), 115⟩ :: L) (qE w0.heap.size (.slice ac g.commits.length cc) g.commits (.slice af g.forests.length cf) g.forests (.slice aw g.waiting.length cw) g.waiting (.slice ar g.replies.length cr) g.replies) := f4
   refine aC ?_
   refine fL (i := 3) (v := bT) f4 rfl rfl rfl rfl (JT) (lS rfl) (by rw [lM]; simp only [Value.cells]; exact Nat.le_of_lt_succ (by simp only [List.size_toArray, List.length_cons, List.length_nil]; omega)) (fun k3 c9 => ?_)
   simp only [pq]
   have c9 : St w0 F0 k3 f3 (⟨f2, [(.slice b9 (g.tape.data ++ bU (⟨(g.commits.length + 1), t.writes⟩ : Cm)).length c0), (nI g.tape.synced)], 108⟩ :: ⟨f0, [(nI (g.commits.length + 1)), (.slice x1 t.writes.length y1)], 168⟩ :: ⟨n5, [(.int .i64 t.start), (.slice x0 t.reads.length y0), (.slice x1 t.writes.length y1)], 141⟩ :: ⟨n, cA (mU g.up (.slice b9 (g.tape.data ++ bU (⟨(g.commits.length + 1), t.writes⟩ : Cm)).length c0) g.tape.synced (.slice ac g.commits.length cc) (.slice af g.forests.length cf) g.synced (lA pv s (.pointer none)) g.waits (.slice aw g.waiting.length cw) (.slice ar g.replies.length cr)) (6 + s * 2 + 1) [bT], 115⟩ :: L) (qE w0.heap.size (.slice ac g.commits.length cc) g.commits (.slice af g.forests.length cf) g.forests (.slice aw g.waiting.length cw) g.waiting (.slice ar g.replies.length cr) g.replies) := c9
   rw [EO hs8] at c9
   refine wn k2 ?_
   refine aE fun cp e8 => ?_
   obtain ⟨s1, a0, k4⟩ := St.freezeBlk c9 (i := 1) rfl
   generalize addF f3 k3 f0 = cq at *
   refine jY s1 (by kernel_rfl) (fun ct a6 => ?_)
   refine gT 0 rfl a6.sat ?_
   simp only [pq]
   refine gT 1 rfl a6.sat ?_
   simp only [pq]
   refine IL 2 rfl a6.sat ?_
   simp only [pq]
   refine dJ 3 rfl _ a6.sat (fun _ _ => ef (jQ _ _)) ?_
   simp only [pq]
   refine dJ 5 rfl (.agg #[(nI (g.commits.length + 1)), (.slice x1 t.writes.length y1)]) a6.sat (fun _ k5 => aD rfl (jD (cs := [(nI (g.commits.length + 1)), (.slice x1 t.writes.length y1)]) Tryz.underlying168 rfl (oM) (EP (c := [(nI (g.commits.length + 1)), (.slice x1 t.writes.length y1)]) (St.start k5).sat k4))) ?_
   simp only [pq]
   refine LR 4 6 (by kernel_rfl) rfl rfl ?_ ?_
   refine dl (kG _) a6 2 ?_
   refine aG (cW a6.sat ?_)
   refine eB 6 (by kernel_rfl) rfl ?_
   refine bD a6 (v := fun n => .slice (aA n 0) 1 1) rfl (bS (ps := #[(0, (.agg #[(nI (g.commits.length + 1)), (.slice x1 t.writes.length y1)]))]) (cells := #[(nI (g.commits.length + 1)), (.slice x1 t.writes.length y1)]) (E := 168) (cH rfl) (fun w => by kernel_rfl)) (fun cu cv f5 => ?_)
   refine aG (cW f5.sat ?_)
   refine eB 7 (by kernel_rfl) rfl ?_
   refine eN (i := 0) (r := 0) (p := (⟨g.commits.length + 1, t.writes⟩ : Cm)) (cs := [(nI (g.commits.length + 1)), (.slice x1 t.writes.length y1)]) f5 rfl g0 (.agg #[(iI 0), Zn]) 32 Tryz.underlying109 d4 d5 d6 d7 rfl (by decide) rfl rfl rfl rfl rfl (CmC.oneCell (p := (⟨g.commits.length + 1, t.writes⟩ : Cm)) ⟨_, _, rfl, rfl, (r1.mono ((a2.trans a1).trans a0))⟩) (⟨_, _, rfl, rfl, (r1.mono ((a2.trans a1).trans a0))⟩) (Nat.le_refl _) f5.gr.below.size (by unfold maxLen; omega) (by omega) ?_
   intro cx cy b4 w3
   simp only [pq]
   have b4 := St.drop b4 (.cons _ (List.Sublist.refl _))
   obtain ⟨cz, s2, rfl, db, s3⟩ := (b4.own (i := 0) rfl).shape
   unfold maxLen at s3
   refine aG (cW b4.sat ?_)
   refine IL 8 rfl b4.sat ?_
   simp only [pq]
   refine dJ 9 rfl _ b4.sat (fun _ _ => ef (jQ _ _)) ?_
   simp only [pq]
   refine eB 10 (by kernel_rfl) rfl ?_
   refine sW 2 b4 (NY) fun dc k6 => ?_
   refine aG (cW k6.sat ?_)
   refine kA (by kernel_rfl) ?_
   refine e8 _ _ ?_
   refine sk fun dd k7 => ?_
   refine aC ?_
   refine bD k6 (v := fun n => .slice (aA n 0) 1 1) rfl (bS (ps := #[(0, (.slice a9 f.length b3))]) (cells := #[(.slice a9 f.length b3)]) (E := 24) (cH rfl) (fun w => by kernel_rfl)) (fun dg dh k8 => ?_)
   refine eN (i := 0) (r := 1) (p := f) (cs := [(.slice a9 f.length b3)]) k8 rfl u0 Zn 24 Tryz.underlying106 f6 f7 f8 f9 rfl (by decide) rfl rfl rfl rfl rfl (FoC.oneCell (p := f) ⟨_, rfl, (a8.mono (a1.trans a0))⟩) (⟨_, rfl, (a8.mono (a1.trans a0))⟩) (Nat.le_refl _) k8.gr.below.size (by unfold maxLen; omega) (by omega) ?_
   intro dj dk d0 w4
   simp only [pq]
   have d0 := St.drop d0 (.cons _ (List.Sublist.refl _))
   obtain ⟨dm, s4, rfl, dq, s5⟩ := (d0.own (i := 1) rfl).shape
   unfold maxLen at s5
   refine aC ?_
   refine sW 2 d0 (NX) fun ds s6 => ?_
   simp only [pq]
   refine wn k7 ?_
   refine aB ?_
   refine aC ?_
   refine bD s6 (v := fun n => .slice (aA n 0) 1 1) rfl (bS (ps := #[(0, (nI s))]) (cells := #[(nI s)]) (E := 3) (cH rfl) (fun w => by kernel_rfl)) (fun du dv k9 => ?_)
   refine eN (i := 0) (r := 2) (p := s) (cs := [(nI s)]) k9 rfl i3 (iI 0) 8 Tryz.underlying60 hi3 hz3 hs3 hb3 rfl (by decide) rfl rfl rfl rfl rfl (NtC.oneCell (F := F) (p := s) rfl) (rfl) (Nat.le_refl _) k9.gr.below.size (by unfold maxLen; omega) (by omega) ?_
   intro dw dz d1 w5
   simp only [pq]
   have d1 := St.drop d1 (.cons _ (List.Sublist.refl _))
   obtain ⟨ea, s7, rfl, eb, s8⟩ := (d1.own (i := 2) rfl).shape
   unfold maxLen at s8
   refine aC ?_
   refine sW 2 d1 (JW) fun ec s9 => ?_
   simp only [pq]
   refine aG ?_
   try simp only [xt]
   refine bE (jE rfl) ?_
   have t0 := St.perm s9 (List.perm_middle (l₁ := [_, _]))
   have l0 : EngM _ _ _ _ n (g.stand s t f) _ := ⟨_, _, _, _, _, _, _, _, _, _, _, t0, (c8.mono a0), (dW c6 ((a2.trans a1).trans a0))⟩
   rw [show g.commit s t = (g.stand s t f) from by unfold Eng.commit; rw [if_neg hw, if_neg hno, if_neg (by rw [hcl]; decide), hap]]
   exact ⟨rfl, _, ((a2.trans a1).trans a0), (l0.drop (.cons _ (.cons _ (List.Sublist.refl _))))⟩
   refine bD a6 (v := fun n => .slice (aA n 0) 1 1) rfl (bS (ps := #[(0, (.agg #[(nI (g.commits.length + 1)), (.slice x1 t.writes.length y1)]))]) (cells := #[(nI (g.commits.length + 1)), (.slice x1 t.writes.length y1)]) (E := 168) (cH rfl) (fun w => by kernel_rfl)) (fun ed ee c5 => ?_)
   refine aG (cW c5.sat ?_)
   refine eB 4 (by kernel_rfl) rfl ?_
   refine dl (kG _) c5 3 ?_
   refine aG (cW c5.sat ?_)
   refine eB 7 (by kernel_rfl) rfl ?_
   refine eN (i := 0) (r := 0) (p := (⟨g.commits.length + 1, t.writes⟩ : Cm)) (cs := [(nI (g.commits.length + 1)), (.slice x1 t.writes.length y1)]) c5 rfl g0 (.agg #[(iI 0), Zn]) 32 Tryz.underlying109 d4 d5 d6 d7 rfl (by decide) rfl rfl rfl rfl rfl (CmC.oneCell (p := (⟨g.commits.length + 1, t.writes⟩ : Cm)) ⟨_, _, rfl, rfl, (r1.mono ((a2.trans a1).trans a0))⟩) (⟨_, _, rfl, rfl, (r1.mono ((a2.trans a1).trans a0))⟩) (Nat.le_refl _) c5.gr.below.size (by unfold maxLen; omega) (by omega) ?_
   intro eg eh b5 w7
   simp only [pq]
   have b5 := St.drop b5 (.cons _ (List.Sublist.refl _))
   obtain ⟨ei, t1, rfl, ej, t2⟩ := (b5.own (i := 0) rfl).shape
   unfold maxLen at t2
   refine aG (cW b5.sat ?_)
   refine IL 8 rfl b5.sat ?_
   simp only [pq]
   refine dJ 9 rfl _ b5.sat (fun _ _ => ef (jQ _ _)) ?_
   simp only [pq]
   refine eB 10 (by kernel_rfl) rfl ?_
   refine sW 2 b5 (NY) fun ek l1 => ?_
   refine aG (cW l1.sat ?_)
   refine kA (by kernel_rfl) ?_
   refine e8 _ _ ?_
   refine sk fun el l2 => ?_
   refine aC ?_
   refine bD l1 (v := fun n => .slice (aA n 0) 1 1) rfl (bS (ps := #[(0, (.slice a9 f.length b3))]) (cells := #[(.slice a9 f.length b3)]) (E := 24) (cH rfl) (fun w => by kernel_rfl)) (fun em en l3 => ?_)
   refine eN (i := 0) (r := 1) (p := f) (cs := [(.slice a9 f.length b3)]) l3 rfl u0 Zn 24 Tryz.underlying106 f6 f7 f8 f9 rfl (by decide) rfl rfl rfl rfl rfl (FoC.oneCell (p := f) ⟨_, rfl, (a8.mono (a1.trans a0))⟩) (⟨_, rfl, (a8.mono (a1.trans a0))⟩) (Nat.le_refl _) l3.gr.below.size (by unfold maxLen; omega) (by omega) ?_
   intro eo ep d2 w9
   simp only [pq]
   have d2 := St.drop d2 (.cons _ (List.Sublist.refl _))
   obtain ⟨eq, t3, rfl, er, t4⟩ := (d2.own (i := 1) rfl).shape
   unfold maxLen at t4
   refine aC ?_
   refine sW 2 d2 (NX) fun es t5 => ?_
   simp only [pq]
   refine wn l2 ?_
   refine aB ?_
   refine aC ?_
   refine bD t5 (v := fun n => .slice (aA n 0) 1 1) rfl (bS (ps := #[(0, (nI s))]) (cells := #[(nI s)]) (E := 3) (cH rfl) (fun w => by kernel_rfl)) (fun et eu l4 => ?_)
   refine eN (i := 0) (r := 2) (p := s) (cs := [(nI s)]) l4 rfl i3 (iI 0) 8 Tryz.underlying60 hi3 hz3 hs3 hb3 rfl (by decide) rfl rfl rfl rfl rfl (NtC.oneCell (F := F) (p := s) rfl) (rfl) (Nat.le_refl _) l4.gr.below.size (by unfold maxLen; omega) (by omega) ?_
   intro ew ex d3 x2
   simp only [pq]
   have d3 := St.drop d3 (.cons _ (List.Sublist.refl _))
   obtain ⟨ey, t6, rfl, ez, t7⟩ := (d3.own (i := 2) rfl).shape
   unfold maxLen at t7
   refine aC ?_
   refine sW 2 d3 (JW) fun fa t8 => ?_
   simp only [pq]
   refine aG ?_
   try simp only [xt]
   refine bE (jE rfl) ?_
   have t9 := St.perm t8 (List.perm_middle (l₁ := [_, _]))
   have l5 : EngM _ _ _ _ n (g.stand s t f) _ := ⟨_, _, _, _, _, _, _, _, _, _, _, t9, (c8.mono a0), (dW c6 ((a2.trans a1).trans a0))⟩
   rw [show g.commit s t = (g.stand s t f) from by unfold Eng.commit; rw [if_neg hw, if_neg hno, if_neg (by rw [hcl]; decide), hap]]
   exact ⟨rfl, _, ((a2.trans a1).trans a0), (l5.drop (.cons _ (.cons _ (List.Sublist.refl _))))⟩
theorem pV (F : Fz) (w : World) (u v y z : Value) (l : aO) (t : Tx) (n k : By) {b : Bool} (hs : Sat w F) (hl : Tns F u l) (hv : TxV F v t) (hn : Bs F y n) (hk : Bs F z k) (hf : ForestOk 60 l) (ht : TxOk t) (hnn : 1 ≤ n.length ∧ n.length ≤ 8) (hkk : 1 ≤ k.length ∧ k.length ≤ 16) (h : (cM l t n k).2 = b) :
    Calls Tryz.prog 89 #[u, v, y, z] w (dB w F (Hm (cM l t n k).1 b 0)) := by
 subst h; exact WN F w u v y z l t n k hs hl hv hn hk hf ht hnn hkk
theorem AI (F : Fz) (w : World) (u v y z x : Value) (l : aO) (t : Tx) (n k j : By) {o : Option (List Pr)} (hs : Sat w F) (hl : Tns F u l) (hv : TxV F v t) (hn : Bs F y n) (hk : Bs F z k) (hj : Bs F x j) (hf : ForestOk 60 l) (ht : TxOk t) (hnn : 1 ≤ n.length ∧ n.length ≤ 8) (hkk : 1 ≤ k.length ∧ k.length ≤ 16) (hjj : 1 ≤ j.length ∧ j.length ≤ 16) (h : NP l t n k j = o) :
    Calls Tryz.prog 91 #[u, v, y, z, x] w (dB w F (PrsE (o.getD []) (if o.isSome then 0 else 11))) := by
 have := SC F w u v y z x l t n k j hs hl hv hn hk hj hf ht hnn hkk hjj
 rw [h] at this
 cases o <;> exact this
theorem Cl {m : Nat} {g : Eng} (h : EngOk m g) {s : Nat} {t : Tx} (ht : g.txn s = some t) : ∃ k : Nat, t.start = (k : Int) ∧ k ≤ g.commits.length ∧ t.start.toNat = k := by
 obtain ⟨h1, h2⟩ := h.txns s t ht
 have := h.sync
 have := h1.start
 exact ⟨t.start.toNat, by omega, by omega, rfl⟩
theorem Cn {F : Fz} {b : Nat} {z : Int} {k : Nat} (h : bM F b 0 = some (.int .i64 z)) (e : z = (k : Int)) : bM F b 0 = some (.int .i64 ((k : Nat) : Int)) := by rw [← e]; exact h
theorem Co {k : Nat} {r : Rq} {j : Nat} (ok : RqOk k r) (hk : k = j) (hj : j = 2 ∨ j = 3 := by decide) : (1 ≤ r.name.length ∧ r.name.length ≤ 8) ∧ (1 ≤ r.key.length ∧ r.key.length ≤ 16) ∧ (j = 3 → 1 ≤ r.last.length ∧ r.last.length ≤ 16) := by
 subst hk
 obtain ⟨h1, h2, h3, h4, h5, h6⟩ := Bv ok (by omega)
 exact ⟨h1, h2, h5⟩
theorem Cp (w0 : World) (F0 : Fz) (w : World) (F : Fz) (n : Nat) (g : Eng) (L : List Blk) {m : Nat} (s : Nat) (hs8 : s < 8) (u : Value) (t : Tx) (k : Nat) (r : Rq) (hM : EngM w0 F0 w F n g L) (hh : Has w0) (hT : Tabs w0) (hg : EngOk m g) (hm : m ≤ 149) (hts : g.txn s = some t) (hv : AT F u k r.name r.key r.last r.value) (ok : RqOk k r) (hk1 : k ≠ 1 ∧ k ≠ 7 ∧ k ≠ 8) (hq : g.replies.length ≤ 100000) :
    Calls Tryz.prog 81 #[.pointer (some ⟨n, 0, none⟩), .int .i64 ((s : Nat) : Int), .pointer (some ⟨n, 6 + s * 2, none⟩), u] w (yE w0 F0 F n (g.work s t k r) L) := by
 obtain ⟨_, _, _, _, rfl, q0, q1, q2, q3⟩ := hv
 obtain ⟨a0, c0, rfl, _⟩ := q0.shape
 obtain ⟨a1, c1, rfl, _⟩ := q1.shape
 obtain ⟨a2, c2, rfl, _⟩ := q2.shape
 obtain ⟨a3, c3, rfl, _⟩ := q3.shape
 obtain ⟨ad, cd, ac, cc, af, cf, aw, cw, ar, cr, pv, S, hd, ht⟩ := hM
 have hb := ht s hs8
 rw [hts] at hb
 obtain ⟨b, x0, y0, x1, y1, hp, b0, b1, b2, r0, r1⟩ := hb
 have htok := (hg.txns s t hts).1
 have hsy := hg.sync
 have hst := hg.states
 go_enter Tryz.func81, Tryz.ntmps81
 refine sk fun K4 hK4 => ?_
 refine bD S (v := fun n => .pointer (aA n 0)) rfl (cB (v := (.agg #[(nI k), (.slice a0 r.name.length c0), (.slice a1 r.key.length c1), (.slice a2 r.last.length c2), (.slice a3 r.value.length c3)])) rfl) (fun n5 w6 S7 => ?_)
 refine wn hK4 ?_
 refine aE fun K8 hK8 => ?_
 obtain ⟨st, hst1, hst2, hst3⟩ := Cl hg hts
 have hfa := vE hg hst2
 have hfo := vF hg hst2
 have b0n := Cn b0 hst1
 obtain ⟨g9, aa, k9, l0, ma, k7⟩ := VH (S7.own (i := 1) rfl) hfa
 refine aT F 11 [] (by kernel_rfl) (by kernel_rfl) ?_
 simp only [dD]
 refine gm ?_
 refine gi ?_
 refine gf (qW _ _) ?_
 simp only [pq]
 refine gl qU S7 1 ?_
 refine gm ?_
 refine gi ?_
 simp only [pq]
 refine gf (eJ _ _) ?_
 refine gv _ (fun _ ab => aD rfl (aW (eM _) (St.cell (St.tells S7 ab) (i := 1) rfl ((eO hs8).trans (congrArg some hp))))) ?_
 refine gi ?_
 simp only [pq]
 refine gf (lI _ _) ?_
 refine gv _ (fun _ ab => aD rfl (aW (bN _) (St.fz (St.tells S7 ab) b0n))) ?_
 refine bY ?_
 intro mb l1 ae
 clear ae
 have c7 := St.tells S7 l1
 simp only [dE]
 refine dr (pP g9 (0 + st * 1)) (bP (i := st) (sz := 1) Tryz.underlying106 (qT _) rfl aa rfl (by omega) rfl) ?_
 refine dr _ (aD rfl (aW (uR _) (qY l1 ma))) ?_
 refine dy ?_
 simp only [pq]
 refine wlK hK8 ?_
 refine aE fun rz ag => ?_
 subst hst3
 refine aB ?_
 refine aC ?_
 refine wlK ag ?_
 refine aM ?_
 refine aE fun sa g0 => ?_
 rcases (by have := ok.kind; omega : k = 2 ∨ k = 3 ∨ k = 6 ∨ (k = 4 ∨ k = 5)) with hk | hk | hk | hk
 have hq4 := Co ok hk
 refine aB ?_
 refine iQ ?_
 refine dy ?_
 simp only [pq]
 refine wlK g0 ?_
 refine aJ ?_
 refine aE fun sb g1 => ?_
 obtain ⟨em, a4, d8⟩ := St.freezeBlk c7 (i := 0) rfl
 generalize addF F mb n5 = sd at *
 cases hlk : (cM (g.forest t.start.toNat) t r.name r.key).2 with
 | true =>
  refine JB (i := 0) em rfl (by kernel_rfl) (fun se d7 => ?_)
  refine uK 0 rfl (fE (i := 0) d7 (Le.refl _) rfl) ?_
  simp only [pq]
  refine uK 1 rfl (fE (i := 0) d7 (Le.refl _) rfl) ?_
  simp only [pq]
  refine VI 2 rfl (fE (i := 0) d7 (Le.refl _) rfl) ?_
  simp only [pq]
  refine lN 3 rfl _ (fE (i := 0) d7 (Le.refl _) rfl) (fun _ _ => ef (eJ _ _)) ?_
  simp only [pq]
  refine lN 4 rfl _ (fE (i := 0) d7 (Le.refl _) rfl) (fun _ ah => aD rfl (aW (eM _) (Hp ah.2 ((eO hs8).trans (congrArg some hp))))) ?_
  simp only [pq]
  refine VI 5 rfl (fE (i := 0) d7 (Le.refl _) rfl) ?_
  simp only [pq]
  refine lN 6 rfl (.agg #[(.int .i64 t.start), (.slice x0 t.reads.length y0), (.slice x1 t.writes.length y1)]) (fE (i := 0) d7 (Le.refl _) rfl) (fun _ j4 => aD rfl (jD (cs := [(.int .i64 t.start), (.slice x0 t.reads.length y0), (.slice x1 t.writes.length y1)]) Tryz.underlying141 rfl (aZ) (rT (St.fz (St.start j4.1) (Le.cell a4 b0)) (St.fz (St.start j4.1) (Le.cell a4 b1)) (St.fz (St.start j4.1) (Le.cell a4 b2))))) ?_
  simp only [pq]
  refine lN 7 rfl _ (fE (i := 0) d7 (Le.refl _) rfl) (fun _ _ => ef (xI _ _)) ?_
  simp only [pq]
  refine lN 8 rfl _ (fE (i := 0) d7 (Le.refl _) rfl) (fun _ ai => aD rfl (aW (bI _) (St.fz (St.start ai.1) (d8 1 _ rfl)))) ?_
  simp only [pq]
  refine lN 9 rfl _ (fE (i := 0) d7 (Le.refl _) rfl) (fun _ _ => ef (xJ _ _)) ?_
  simp only [pq]
  refine lN 10 rfl _ (fE (i := 0) d7 (Le.refl _) rfl) (fun _ aj => aD rfl (aW (bI _) (St.fz (St.start aj.1) (d8 2 _ rfl)))) ?_
  simp only [pq]
  refine Cj 11 16 (by kernel_rfl) rfl rfl ?_ ?_
  refine aR d7 rfl (fn4 (KT _ _)) (pV _ _ _ _ _ _ (g.forest t.start.toNat) t r.name r.key (b := true) (d7).sat (k7.mono a4) ⟨_, _, _, _, rfl, (r0.mono a4), (r1.mono a4)⟩ (q0.mono a4) (q1.mono a4) hfo htok hq4.1 hq4.2.1 hlk) ?_
  intro sf sg mc k8 c8 md
  obtain ⟨_, rfl, me⟩ := md
  obtain ⟨z8, z9, rfl, ak⟩ := me
  have ak : Bs _ (.slice z8 ((cM (g.forest t.start.toNat) t r.name r.key).1.getD []).length z9) ((cM (g.forest t.start.toNat) t r.name r.key).1.getD []) := ak
  refine aG (kM (fE (i := 0) k8 c8 rfl) ?_)
  refine uK 12 rfl (fE (i := 0) k8 c8 rfl) ?_
  simp only [pq]
  refine sU 13 rfl (fE (i := 0) k8 c8 rfl) ?_
  simp only [pq]
  refine sU 14 rfl (fE (i := 0) k8 c8 rfl) ?_
  simp only [pq]
  refine sU 15 rfl (fE (i := 0) k8 c8 rfl) ?_
  simp only [pq]
  refine pU 16 (by kernel_rfl) rfl ?_
  refine sA k8 (kL _) fun sh si en => ?_
  refine aG (kM (fE (i := 1) en c8 rfl) ?_)
  refine pU 17 (by kernel_rfl) rfl ?_
  refine sW 0 en (fT) fun sj h6 => ?_
  refine aG (kM (fE (i := 1) h6 c8 rfl) ?_)
  refine mV 18 rfl (fE (i := 1) h6 c8 rfl) ?_
  simp only [pq]
  refine mV 19 rfl (fE (i := 1) h6 c8 rfl) ?_
  simp only [pq]
  refine BT (by kernel_rfl) ?_
  refine g1 _ _ ?_
  refine aE fun sl al => ?_
  refine sk fun sm am => ?_
  refine aC ?_
  refine wn am ?_
  refine aF ?_
  refine aH ?_
  refine al _ _ ?_
  refine aT mc 14 [] (by kernel_rfl) (by kernel_rfl) ?_
  simp only [dD]
  iterate 2 refine gm ?_
  simp only [pq]
  refine gm ?_
  refine gi ?_
  refine gf (eJ _ _) ?_
  simp only [pq]
  refine gv _ (fun _ an => aD rfl (aW (eM _) (St.cell (St.tells h6 an) (i := 1) rfl ((eO hs8).trans (congrArg some hp))))) ?_
  refine gi ?_
  refine gf (lI _ _) ?_
  simp only [pq]
  refine gv _ (fun _ an => aD rfl (aW (bN _) (St.fz (St.tells h6 an) (Le.cell (a4.trans c8) b0)))) ?_
  refine gf (rZ _ _) ?_
  refine gl iE h6 0 ?_
  simp only [pq]
  refine gf (sB _ _) ?_
  refine gl bI h6 0 ?_
  refine gv (.agg #[(nI s), (iI 0), (.int .i64 t.start), (.bool (cM (g.forest t.start.toNat) t r.name r.key).1.isSome), (.slice z8 ((cM (g.forest t.start.toNat) t r.name r.key).1.getD []).length z9), Zn, Zn, bF, Zn, Zn, Zn, bF, Zn, Zn, Zn]) (fun _ _ => aL (ps := #[(0, (nI s)), (2, (.int .i64 t.start)), (3, (.bool (cM (g.forest t.start.toNat) t r.name r.key).1.isSome)), (4, (.slice z8 ((cM (g.forest t.start.toNat) t r.name r.key).1.getD []).length z9))]) (mN rfl rfl rfl rfl) (by kernel_rfl)) ?_
  simp only [pq]
  refine bY ?_
  intro sn ao ap
  clear ap
  have mf := St.tells h6 ao
  simp only [dE]
  have mg := St.perm mf (List.perm_middle (l₁ := [_]))
  have aq : EngM _ _ _ _ n g _ := ⟨_, _, _, _, _, _, _, _, _, _, _, mg, (hd.mono (a4.trans c8)), (dW ht (a4.trans c8))⟩
  refine doC rfl (cK (vs := #[(pP n 0), (.agg #[(nI s), (iI 0), (.int .i64 t.start), (.bool (cM (g.forest t.start.toNat) t r.name r.key).1.isSome), (.slice z8 ((cM (g.forest t.start.toNat) t r.name r.key).1.getD []).length z9), Zn, Zn, bF, Zn, Zn, Zn, bF, Zn, Zn, Zn])]) (iD rfl rfl) rfl (qA _ _)) (kB _ _ _ _ _ _ _ _ (⟨s, 0, t.start, (cM (g.forest t.start.toNat) t r.name r.key).1.isSome, (cM (g.forest t.start.toNat) t r.name r.key).1.getD [], [], [], iU, iU⟩ : Rep) aq ⟨_, _, _, _, _, _, _, _, _, rfl, ak, Sl.nil _ _ _, Bs.nil _, Sl.nil _ _ _, Bs.nil _, Bs.nil _, Sl.nil _ _ _, Bs.nil _, Bs.nil _⟩ hq) ?_
  rintro _ so ⟨rfl, sp, au, av⟩
  refine ⟨_, rfl, ?_⟩
  obtain ⟨mh, mi, mj, mk, ml, mm, mn, mo, mp, eo, ep, ax, l2, l3⟩ := av
  simp only [pq]
  refine aG ?_
  try simp only [xt]
  refine bE (jE rfl) ?_
  have l4 : EngM _ _ _ _ n (g.reply (⟨s, 0, t.start, (cM (g.forest t.start.toNat) t r.name r.key).1.isSome, (cM (g.forest t.start.toNat) t r.name r.key).1.getD [], [], [], iU, iU⟩ : Rep)) _ := ⟨_, _, _, _, _, _, _, _, _, _, _, ax, l2, l3⟩
  have he : g.work s t k r = (g.reply (⟨s, 0, t.start, (cM (g.forest t.start.toNat) t r.name r.key).1.isSome, (cM (g.forest t.start.toNat) t r.name r.key).1.getD [], [], [], iU, iU⟩ : Rep)) := by
   unfold Eng.work
   rw [if_pos hk]
   unfold Eng.look
   simp only; rw [if_pos hlk]
  rw [he]
  exact ⟨rfl, _, ((a4.trans c8).trans au), (l4.drop (.cons _ (List.Sublist.refl _)))⟩
  refine sA d7 (kL _) fun mq mr j5 => ?_
  refine aG (kM (fE (i := 1) j5 (Le.refl _) rfl) ?_)
  refine pU 11 (by kernel_rfl) rfl ?_
  refine aR j5 rfl (fn4 (KT _ _)) (pV _ _ _ _ _ _ (g.forest t.start.toNat) t r.name r.key (b := true) (j5).sat (k7.mono a4) ⟨_, _, _, _, rfl, (r0.mono a4), (r1.mono a4)⟩ (q0.mono a4) (q1.mono a4) hfo htok hq4.1 hq4.2.1 hlk) ?_
  intro ms mt ay d9 b4 az
  obtain ⟨_, rfl, ba⟩ := az
  obtain ⟨g2, g3, rfl, j6⟩ := ba
  have j6 : Bs _ (.slice g2 ((cM (g.forest t.start.toNat) t r.name r.key).1.getD []).length g3) ((cM (g.forest t.start.toNat) t r.name r.key).1.getD []) := j6
  refine aG (kM (fE (i := 1) d9 b4 rfl) ?_)
  refine uK 12 rfl (fE (i := 1) d9 b4 rfl) ?_
  simp only [pq]
  refine sU 13 rfl (fE (i := 1) d9 b4 rfl) ?_
  simp only [pq]
  refine sU 14 rfl (fE (i := 1) d9 b4 rfl) ?_
  simp only [pq]
  refine sU 15 rfl (fE (i := 1) d9 b4 rfl) ?_
  simp only [pq]
  refine pU 17 (by kernel_rfl) rfl ?_
  refine sW 0 d9 (fT) fun mu d4 => ?_
  refine aG (kM (fE (i := 1) d4 b4 rfl) ?_)
  refine mV 18 rfl (fE (i := 1) d4 b4 rfl) ?_
  simp only [pq]
  refine mV 19 rfl (fE (i := 1) d4 b4 rfl) ?_
  simp only [pq]
  refine BT (by kernel_rfl) ?_
  refine g1 _ _ ?_
  refine aE fun mv l5 => ?_
  refine sk fun mw l6 => ?_
  refine aC ?_
  refine wn l6 ?_
  refine aF ?_
  refine aH ?_
  refine l5 _ _ ?_
  refine aT ay 14 [] (by kernel_rfl) (by kernel_rfl) ?_
  simp only [dD]
  iterate 2 refine gm ?_
  simp only [pq]
  refine gm ?_
  refine gi ?_
  refine gf (eJ _ _) ?_
  simp only [pq]
  refine gv _ (fun _ j7 => aD rfl (aW (eM _) (St.cell (St.tells d4 j7) (i := 1) rfl ((eO hs8).trans (congrArg some hp))))) ?_
  refine gi ?_
  refine gf (lI _ _) ?_
  simp only [pq]
  refine gv _ (fun _ j7 => aD rfl (aW (bN _) (St.fz (St.tells d4 j7) (Le.cell (a4.trans b4) b0)))) ?_
  refine gf (rZ _ _) ?_
  refine gl iE d4 0 ?_
  simp only [pq]
  refine gf (sB _ _) ?_
  refine gl bI d4 0 ?_
  refine gv (.agg #[(nI s), (iI 0), (.int .i64 t.start), (.bool (cM (g.forest t.start.toNat) t r.name r.key).1.isSome), (.slice g2 ((cM (g.forest t.start.toNat) t r.name r.key).1.getD []).length g3), Zn, Zn, bF, Zn, Zn, Zn, bF, Zn, Zn, Zn]) (fun _ _ => aL (ps := #[(0, (nI s)), (2, (.int .i64 t.start)), (3, (.bool (cM (g.forest t.start.toNat) t r.name r.key).1.isSome)), (4, (.slice g2 ((cM (g.forest t.start.toNat) t r.name r.key).1.getD []).length g3))]) (mN rfl rfl rfl rfl) (by kernel_rfl)) ?_
  simp only [pq]
  refine bY ?_
  intro mx l7 l8
  clear l8
  have bb := St.tells d4 l7
  simp only [dE]
  have bc := St.perm bb (List.perm_middle (l₁ := [_]))
  have l9 : EngM _ _ _ _ n g _ := ⟨_, _, _, _, _, _, _, _, _, _, _, bc, (hd.mono (a4.trans b4)), (dW ht (a4.trans b4))⟩
  refine doC rfl (cK (vs := #[(pP n 0), (.agg #[(nI s), (iI 0), (.int .i64 t.start), (.bool (cM (g.forest t.start.toNat) t r.name r.key).1.isSome), (.slice g2 ((cM (g.forest t.start.toNat) t r.name r.key).1.getD []).length g3), Zn, Zn, bF, Zn, Zn, Zn, bF, Zn, Zn, Zn])]) (iD rfl rfl) rfl (qA _ _)) (kB _ _ _ _ _ _ _ _ (⟨s, 0, t.start, (cM (g.forest t.start.toNat) t r.name r.key).1.isSome, (cM (g.forest t.start.toNat) t r.name r.key).1.getD [], [], [], iU, iU⟩ : Rep) l9 ⟨_, _, _, _, _, _, _, _, _, rfl, j6, Sl.nil _ _ _, Bs.nil _, Sl.nil _ _ _, Bs.nil _, Bs.nil _, Sl.nil _ _ _, Bs.nil _, Bs.nil _⟩ hq) ?_
  rintro _ my ⟨rfl, mz, m0, m1⟩
  refine ⟨_, rfl, ?_⟩
  obtain ⟨eq, er, es, et, eu, ew, ex, ey, ez, fa, fb, bd, m2, m3⟩ := m1
  simp only [pq]
  refine aG ?_
  try simp only [xt]
  refine bE (jE rfl) ?_
  have m4 : EngM _ _ _ _ n (g.reply (⟨s, 0, t.start, (cM (g.forest t.start.toNat) t r.name r.key).1.isSome, (cM (g.forest t.start.toNat) t r.name r.key).1.getD [], [], [], iU, iU⟩ : Rep)) _ := ⟨_, _, _, _, _, _, _, _, _, _, _, bd, m2, m3⟩
  have he : g.work s t k r = (g.reply (⟨s, 0, t.start, (cM (g.forest t.start.toNat) t r.name r.key).1.isSome, (cM (g.forest t.start.toNat) t r.name r.key).1.getD [], [], [], iU, iU⟩ : Rep)) := by
   unfold Eng.work
   rw [if_pos hk]
   unfold Eng.look
   simp only; rw [if_pos hlk]
  rw [he]
  exact ⟨rfl, _, ((a4.trans b4).trans m0), (m4.drop (.cons _ (List.Sublist.refl _)))⟩
 | false =>
  refine JB (i := 0) em rfl (by kernel_rfl) (fun na c6 => ?_)
  refine uK 0 rfl (fE (i := 0) c6 (Le.refl _) rfl) ?_
  simp only [pq]
  refine uK 1 rfl (fE (i := 0) c6 (Le.refl _) rfl) ?_
  simp only [pq]
  refine VI 2 rfl (fE (i := 0) c6 (Le.refl _) rfl) ?_
  simp only [pq]
  refine lN 3 rfl _ (fE (i := 0) c6 (Le.refl _) rfl) (fun _ _ => ef (eJ _ _)) ?_
  simp only [pq]
  refine lN 4 rfl _ (fE (i := 0) c6 (Le.refl _) rfl) (fun _ m5 => aD rfl (aW (eM _) (Hp m5.2 ((eO hs8).trans (congrArg some hp))))) ?_
  simp only [pq]
  refine VI 5 rfl (fE (i := 0) c6 (Le.refl _) rfl) ?_
  simp only [pq]
  refine lN 6 rfl (.agg #[(.int .i64 t.start), (.slice x0 t.reads.length y0), (.slice x1 t.writes.length y1)]) (fE (i := 0) c6 (Le.refl _) rfl) (fun _ e2 => aD rfl (jD (cs := [(.int .i64 t.start), (.slice x0 t.reads.length y0), (.slice x1 t.writes.length y1)]) Tryz.underlying141 rfl (aZ) (rT (St.fz (St.start e2.1) (Le.cell a4 b0)) (St.fz (St.start e2.1) (Le.cell a4 b1)) (St.fz (St.start e2.1) (Le.cell a4 b2))))) ?_
  simp only [pq]
  refine lN 7 rfl _ (fE (i := 0) c6 (Le.refl _) rfl) (fun _ _ => ef (xI _ _)) ?_
  simp only [pq]
  refine lN 8 rfl _ (fE (i := 0) c6 (Le.refl _) rfl) (fun _ m6 => aD rfl (aW (bI _) (St.fz (St.start m6.1) (d8 1 _ rfl)))) ?_
  simp only [pq]
  refine lN 9 rfl _ (fE (i := 0) c6 (Le.refl _) rfl) (fun _ _ => ef (xJ _ _)) ?_
  simp only [pq]
  refine lN 10 rfl _ (fE (i := 0) c6 (Le.refl _) rfl) (fun _ m7 => aD rfl (aW (bI _) (St.fz (St.start m7.1) (d8 2 _ rfl)))) ?_
  simp only [pq]
  refine Cj 11 16 (by kernel_rfl) rfl rfl ?_ ?_
  refine aR c6 rfl (fn4 (KT _ _)) (pV _ _ _ _ _ _ (g.forest t.start.toNat) t r.name r.key (b := false) (c6).sat (k7.mono a4) ⟨_, _, _, _, rfl, (r0.mono a4), (r1.mono a4)⟩ (q0.mono a4) (q1.mono a4) hfo htok hq4.1 hq4.2.1 hlk) ?_
  intro nb nc nd e0 a5 be
  obtain ⟨_, rfl, bf⟩ := be
  obtain ⟨g4, g5, rfl, j8⟩ := bf
  have j8 : Bs _ (.slice g4 ((cM (g.forest t.start.toNat) t r.name r.key).1.getD []).length g5) ((cM (g.forest t.start.toNat) t r.name r.key).1.getD []) := j8
  refine aG (kM (fE (i := 0) e0 a5 rfl) ?_)
  refine uK 12 rfl (fE (i := 0) e0 a5 rfl) ?_
  simp only [pq]
  refine sU 13 rfl (fE (i := 0) e0 a5 rfl) ?_
  simp only [pq]
  refine sU 14 rfl (fE (i := 0) e0 a5 rfl) ?_
  simp only [pq]
  refine sU 15 rfl (fE (i := 0) e0 a5 rfl) ?_
  simp only [pq]
  refine pU 16 (by kernel_rfl) rfl ?_
  refine sA e0 (kL _) fun ne nf m8 => ?_
  refine aG (kM (fE (i := 1) m8 a5 rfl) ?_)
  refine pU 17 (by kernel_rfl) rfl ?_
  refine sW 0 m8 (fT) fun ng e3 => ?_
  refine aG (kM (fE (i := 1) e3 a5 rfl) ?_)
  refine mV 18 rfl (fE (i := 1) e3 a5 rfl) ?_
  simp only [pq]
  refine mV 19 rfl (fE (i := 1) e3 a5 rfl) ?_
  simp only [pq]
  refine BT (by kernel_rfl) ?_
  refine g1 _ _ ?_
  refine aE fun nh m9 => ?_
  refine sk fun ni h7 => ?_
  refine aC ?_
  refine dr _ (aD rfl (cN Tryz.underlying27 rfl (aY) (EP (c := [(nI k), (.slice a0 r.name.length c0), (.slice a1 r.key.length c1), (.slice a2 r.last.length c2), (.slice a3 r.value.length c3)]) e3.sat (Le.cells a5 d8)))) ?_
  simp only [pq]
  have bg := St.perm e3 (List.perm_middle (l₁ := [_]))
  have n0 : EngM _ _ _ _ n g _ := ⟨_, _, _, _, _, _, _, _, _, _, _, bg, (hd.mono (a4.trans a5)), (dW ht (a4.trans a5))⟩
  refine doC rfl (fn4 (RM _ _)) (ER _ _ _ _ _ _ _ s hs8 _ k r false t n0 hh ⟨_, _, _, _, rfl, (q0.mono (a4.trans a5)), (q1.mono (a4.trans a5)), (q2.mono (a4.trans a5)), (q3.mono (a4.trans a5))⟩ ok (.inl ⟨hk, rfl⟩) hts htok hq) ?_
  rintro _ nj ⟨bh, e4, g6⟩
  cases hn : jB t ⟨r.name, r.key, false, r.last⟩ with
  | none =>
   rw [hn] at g6
   obtain ⟨rfl, n1⟩ := g6
   refine ⟨_, rfl, ?_⟩
   obtain ⟨fc, fd, fe, ff, fg, fh, fi, fj, fk, fl, fm, bi, n2, n3⟩ := n1
   refine aC ?_
   refine wn h7 ?_
   refine aJ ?_
   refine aP ?_
   try simp only [xt]
   refine bR (jE rfl) ?_
   have n4 : EngM _ _ _ _ n (g.reply (eF s 11)) _ := ⟨_, _, _, _, _, _, _, _, _, _, _, bi, n2, n3⟩
   have he : g.work s t k r = (g.reply (eF s 11)) := by
    unfold Eng.work
    rw [if_pos hk]
    unfold Eng.look
    simp only; rw [if_neg (by rw [hlk]; decide)]; unfold Eng.note; rw [hn]
   rw [he]
   exact ⟨rfl, _, ((a4.trans a5).trans e4), (n4.drop (.cons _ (List.Sublist.refl _)))⟩
  | some nx =>
   rw [hn] at g6
   obtain ⟨rfl, n6⟩ := g6
   refine ⟨_, rfl, ?_⟩
   obtain ⟨fn, fo, fp, fq, fr, fs, ft, fu, fv, fw, fx, e5, n7, h8⟩ := n6
   simp only [pq]
   have h9 := h8 s hs8
   rw [show (g.setTxn s (some nx)).txn s = some nx from fV _ _ _] at h9
   obtain ⟨nk, nl, nm, nn, no, n8, bj, np, nq, nr, ns⟩ := h9
   refine aC ?_
   refine wn h7 ?_
   refine aF ?_
   refine aH ?_
   refine m9 _ _ ?_
   refine aT bh 14 [] (by kernel_rfl) (by kernel_rfl) ?_
   simp only [dD]
   refine gm ?_
   simp only [pq]
   iterate 2 refine gm ?_
   refine gi ?_
   simp only [pq]
   refine gf (eJ _ _) ?_
   refine gv _ (fun _ j9 => aD rfl (aW (eM _) (St.cell (St.tells e5 j9) (i := 0) rfl ((eO hs8).trans (congrArg some n8))))) ?_
   refine gi ?_
   simp only [pq]
   refine gf (lI _ _) ?_
   simp only [pq]
   refine gX rfl rfl (.int .i64 t.start) (fun nt j9 => aK (aD rfl (aW (bN _) (St.fz (St.tells e5 j9) (by rw [← (uO hn).2.2]; exact bj))))) ?_
   refine gf (rZ _ _) ?_
   refine gl iE e5 1 ?_
   refine gf (sB _ _) ?_
   simp only [pq]
   refine gl bI e5 1 ?_
   refine gv (.agg #[(nI s), (iI 0), (.int .i64 t.start), (.bool (cM (g.forest t.start.toNat) t r.name r.key).1.isSome), (.slice g4 ((cM (g.forest t.start.toNat) t r.name r.key).1.getD []).length g5), Zn, Zn, bF, Zn, Zn, Zn, bF, Zn, Zn, Zn]) (fun _ _ => aL (ps := #[(0, (nI s)), (2, (.int .i64 t.start)), (3, (.bool (cM (g.forest t.start.toNat) t r.name r.key).1.isSome)), (4, (.slice g4 ((cM (g.forest t.start.toNat) t r.name r.key).1.getD []).length g5))]) (mN rfl rfl rfl rfl) (by kernel_rfl)) ?_
   refine bY ?_
   intro nu n9 o0
   clear o0
   have bk := St.tells e5 n9
   simp only [dE]
   have o1 : EngM _ _ _ _ n (g.setTxn s (some nx)) _ := ⟨_, _, _, _, _, _, _, _, _, _, _, bk, n7, h8⟩
   refine doC rfl (cK (vs := #[(pP n 0), (.agg #[(nI s), (iI 0), (.int .i64 t.start), (.bool (cM (g.forest t.start.toNat) t r.name r.key).1.isSome), (.slice g4 ((cM (g.forest t.start.toNat) t r.name r.key).1.getD []).length g5), Zn, Zn, bF, Zn, Zn, Zn, bF, Zn, Zn, Zn])]) (iD rfl rfl) rfl (qA _ _)) (kB _ _ _ _ _ _ _ _ (⟨s, 0, t.start, (cM (g.forest t.start.toNat) t r.name r.key).1.isSome, (cM (g.forest t.start.toNat) t r.name r.key).1.getD [], [], [], iU, iU⟩ : Rep) o1 ⟨_, _, _, _, _, _, _, _, _, rfl, (j8.mono e4), Sl.nil _ _ _, Bs.nil _, Sl.nil _ _ _, Bs.nil _, Bs.nil _, Sl.nil _ _ _, Bs.nil _, Bs.nil _⟩ hq) ?_
   rintro _ nv ⟨rfl, nw, o2, o3⟩
   refine ⟨_, rfl, ?_⟩
   obtain ⟨fy, gb, gc, gd, ge, gg, gh, gj, gk, gn, gp, bl, o4, o5⟩ := o3
   simp only [pq]
   refine aG ?_
   try simp only [xt]
   refine bE (jE rfl) ?_
   have o6 : EngM _ _ _ _ n ((g.setTxn s (some nx)).reply (⟨s, 0, t.start, (cM (g.forest t.start.toNat) t r.name r.key).1.isSome, (cM (g.forest t.start.toNat) t r.name r.key).1.getD [], [], [], iU, iU⟩ : Rep)) _ := ⟨_, _, _, _, _, _, _, _, _, _, _, bl, o4, o5⟩
   have he : g.work s t k r = ((g.setTxn s (some nx)).reply (⟨s, 0, t.start, (cM (g.forest t.start.toNat) t r.name r.key).1.isSome, (cM (g.forest t.start.toNat) t r.name r.key).1.getD [], [], [], iU, iU⟩ : Rep)) := by
    unfold Eng.work
    rw [if_pos hk]
    unfold Eng.look
    simp only; rw [if_neg (by rw [hlk]; decide)]; unfold Eng.note; rw [hn]
   rw [he]
   exact ⟨rfl, _, (((a4.trans a5).trans e4).trans o2), (o6.drop (.cons _ (List.Sublist.refl _)))⟩
  refine sA c6 (kL _) fun ny nz k0 => ?_
  refine aG (kM (fE (i := 1) k0 (Le.refl _) rfl) ?_)
  refine pU 11 (by kernel_rfl) rfl ?_
  refine aR k0 rfl (fn4 (KT _ _)) (pV _ _ _ _ _ _ (g.forest t.start.toNat) t r.name r.key (b := false) (k0).sat (k7.mono a4) ⟨_, _, _, _, rfl, (r0.mono a4), (r1.mono a4)⟩ (q0.mono a4) (q1.mono a4) hfo htok hq4.1 hq4.2.1 hlk) ?_
  intro oa ob oc e1 a6 bm
  obtain ⟨_, rfl, bn⟩ := bm
  obtain ⟨g7, g8, rfl, k1⟩ := bn
  have k1 : Bs _ (.slice g7 ((cM (g.forest t.start.toNat) t r.name r.key).1.getD []).length g8) ((cM (g.forest t.start.toNat) t r.name r.key).1.getD []) := k1
  refine aG (kM (fE (i := 1) e1 a6 rfl) ?_)
  refine uK 12 rfl (fE (i := 1) e1 a6 rfl) ?_
  simp only [pq]
  refine sU 13 rfl (fE (i := 1) e1 a6 rfl) ?_
  simp only [pq]
  refine sU 14 rfl (fE (i := 1) e1 a6 rfl) ?_
  simp only [pq]
  refine sU 15 rfl (fE (i := 1) e1 a6 rfl) ?_
  simp only [pq]
  refine pU 17 (by kernel_rfl) rfl ?_
  refine sW 0 e1 (fT) fun od e6 => ?_
  refine aG (kM (fE (i := 1) e6 a6 rfl) ?_)
  refine mV 18 rfl (fE (i := 1) e6 a6 rfl) ?_
  simp only [pq]
  refine mV 19 rfl (fE (i := 1) e6 a6 rfl) ?_
  simp only [pq]
  refine BT (by kernel_rfl) ?_
  refine g1 _ _ ?_
  refine aE fun oe o7 => ?_
  refine sk fun og i0 => ?_
  refine aC ?_
  refine dr _ (aD rfl (cN Tryz.underlying27 rfl (aY) (EP (c := [(nI k), (.slice a0 r.name.length c0), (.slice a1 r.key.length c1), (.slice a2 r.last.length c2), (.slice a3 r.value.length c3)]) e6.sat (Le.cells a6 d8)))) ?_
  simp only [pq]
  have bo := St.perm e6 (List.perm_middle (l₁ := [_]))
  have o8 : EngM _ _ _ _ n g _ := ⟨_, _, _, _, _, _, _, _, _, _, _, bo, (hd.mono (a4.trans a6)), (dW ht (a4.trans a6))⟩
  refine doC rfl (fn4 (RM _ _)) (ER _ _ _ _ _ _ _ s hs8 _ k r false t o8 hh ⟨_, _, _, _, rfl, (q0.mono (a4.trans a6)), (q1.mono (a4.trans a6)), (q2.mono (a4.trans a6)), (q3.mono (a4.trans a6))⟩ ok (.inl ⟨hk, rfl⟩) hts htok hq) ?_
  rintro _ oh ⟨bp, e7, h0⟩
  cases hn : jB t ⟨r.name, r.key, false, r.last⟩ with
  | none =>
   rw [hn] at h0
   obtain ⟨rfl, o9⟩ := h0
   refine ⟨_, rfl, ?_⟩
   obtain ⟨gq, gs, gt, gu, gx, gy, gz, ha, hc, hf, hi, bq, p0, p1⟩ := o9
   refine aC ?_
   refine wn i0 ?_
   refine aJ ?_
   refine aP ?_
   try simp only [xt]
   refine bR (jE rfl) ?_
   have p2 : EngM _ _ _ _ n (g.reply (eF s 11)) _ := ⟨_, _, _, _, _, _, _, _, _, _, _, bq, p0, p1⟩
   have he : g.work s t k r = (g.reply (eF s 11)) := by
    unfold Eng.work
    rw [if_pos hk]
    unfold Eng.look
    simp only; rw [if_neg (by rw [hlk]; decide)]; unfold Eng.note; rw [hn]
   rw [he]
   exact ⟨rfl, _, ((a4.trans a6).trans e7), (p2.drop (.cons _ (List.Sublist.refl _)))⟩
  | some nx =>
   rw [hn] at h0
   obtain ⟨rfl, p3⟩ := h0
   refine ⟨_, rfl, ?_⟩
   obtain ⟨hj, hl, ho, hr, hs, hw, hx, hy, hz, ia, ib, e8, p4, i1⟩ := p3
   simp only [pq]
   have i2 := i1 s hs8
   rw [show (g.setTxn s (some nx)).txn s = some nx from fV _ _ _] at i2
   obtain ⟨oi, oj, ol, om, oo, p5, br, op, oq, os, ot⟩ := i2
   refine aC ?_
   refine wn i0 ?_
   refine aF ?_
   refine aH ?_
   refine o7 _ _ ?_
   refine aT bp 14 [] (by kernel_rfl) (by kernel_rfl) ?_
   simp only [dD]
   refine gm ?_
   simp only [pq]
   iterate 2 refine gm ?_
   refine gi ?_
   simp only [pq]
   refine gf (eJ _ _) ?_
   refine gv _ (fun _ k2 => aD rfl (aW (eM _) (St.cell (St.tells e8 k2) (i := 0) rfl ((eO hs8).trans (congrArg some p5))))) ?_
   refine gi ?_
   simp only [pq]
   refine gf (lI _ _) ?_
   simp only [pq]
   refine gX rfl rfl (.int .i64 t.start) (fun ou k2 => aK (aD rfl (aW (bN _) (St.fz (St.tells e8 k2) (by rw [← (uO hn).2.2]; exact br))))) ?_
   refine gf (rZ _ _) ?_
   refine gl iE e8 1 ?_
   refine gf (sB _ _) ?_
   simp only [pq]
   refine gl bI e8 1 ?_
   refine gv (.agg #[(nI s), (iI 0), (.int .i64 t.start), (.bool (cM (g.forest t.start.toNat) t r.name r.key).1.isSome), (.slice g7 ((cM (g.forest t.start.toNat) t r.name r.key).1.getD []).length g8), Zn, Zn, bF, Zn, Zn, Zn, bF, Zn, Zn, Zn]) (fun _ _ => aL (ps := #[(0, (nI s)), (2, (.int .i64 t.start)), (3, (.bool (cM (g.forest t.start.toNat) t r.name r.key).1.isSome)), (4, (.slice g7 ((cM (g.forest t.start.toNat) t r.name r.key).1.getD []).length g8))]) (mN rfl rfl rfl rfl) (by kernel_rfl)) ?_
   refine bY ?_
   intro ov p6 p7
   clear p7
   have bs := St.tells e8 p6
   simp only [dE]
   have p8 : EngM _ _ _ _ n (g.setTxn s (some nx)) _ := ⟨_, _, _, _, _, _, _, _, _, _, _, bs, p4, i1⟩
   refine doC rfl (cK (vs := #[(pP n 0), (.agg #[(nI s), (iI 0), (.int .i64 t.start), (.bool (cM (g.forest t.start.toNat) t r.name r.key).1.isSome), (.slice g7 ((cM (g.forest t.start.toNat) t r.name r.key).1.getD []).length g8), Zn, Zn, bF, Zn, Zn, Zn, bF, Zn, Zn, Zn])]) (iD rfl rfl) rfl (qA _ _)) (kB _ _ _ _ _ _ _ _ (⟨s, 0, t.start, (cM (g.forest t.start.toNat) t r.name r.key).1.isSome, (cM (g.forest t.start.toNat) t r.name r.key).1.getD [], [], [], iU, iU⟩ : Rep) p8 ⟨_, _, _, _, _, _, _, _, _, rfl, (k1.mono e7), Sl.nil _ _ _, Bs.nil _, Sl.nil _ _ _, Bs.nil _, Bs.nil _, Sl.nil _ _ _, Bs.nil _, Bs.nil _⟩ hq) ?_
   rintro _ ow ⟨rfl, ox, p9, q4⟩
   refine ⟨_, rfl, ?_⟩
   obtain ⟨ic, id, ie, ig, ii, ij, ik, il, im, io, ip, bt, q5, q6⟩ := q4
   simp only [pq]
   refine aG ?_
   try simp only [xt]
   refine bE (jE rfl) ?_
   have q7 : EngM _ _ _ _ n ((g.setTxn s (some nx)).reply (⟨s, 0, t.start, (cM (g.forest t.start.toNat) t r.name r.key).1.isSome, (cM (g.forest t.start.toNat) t r.name r.key).1.getD [], [], [], iU, iU⟩ : Rep)) _ := ⟨_, _, _, _, _, _, _, _, _, _, _, bt, q5, q6⟩
   have he : g.work s t k r = ((g.setTxn s (some nx)).reply (⟨s, 0, t.start, (cM (g.forest t.start.toNat) t r.name r.key).1.isSome, (cM (g.forest t.start.toNat) t r.name r.key).1.getD [], [], [], iU, iU⟩ : Rep)) := by
    unfold Eng.work
    rw [if_pos hk]
    unfold Eng.look
    simp only; rw [if_neg (by rw [hlk]; decide)]; unfold Eng.note; rw [hn]
   rw [he]
   exact ⟨rfl, _, (((a4.trans a6).trans e7).trans p9), (q7.drop (.cons _ (List.Sublist.refl _)))⟩
 have hq4 := Co ok hk
 refine aB ?_
 refine gB ?_
 refine dy ?_
 refine wlK g0 ?_
 refine aF ?_
 refine sk fun oy q8 => ?_
 refine iQ ?_
 refine dy ?_
 simp only [pq]
 refine wn q8 ?_
 refine aJ ?_
 refine aE fun oz i3 => ?_
 cases hsc : (NP (g.forest t.start.toNat) t r.name r.key r.last) with
 | none =>
  refine aT F 18 [(13, .made (fun F' u => PrsE [] 11 F' u)), (15, .made (fun F' u => Prs F' u [])), (16, .is (iI 11))] (by kernel_rfl) (by kernel_rfl) ?_
  simp only [dD]
  iterate 2 refine gm ?_
  refine gi ?_
  simp only [pq]
  refine gf (eJ _ _) ?_
  refine gv _ (fun _ d2 => aD rfl (aW (eM _) (St.cell (St.tells c7 d2) (i := 1) rfl ((eO hs8).trans (congrArg some hp))))) ?_
  refine gi ?_
  simp only [pq]
  refine gv _ (fun _ d2 => aD rfl (cN Tryz.underlying141 rfl (aZ) (rT (St.fz (St.tells c7 d2) b0) (St.fz (St.tells c7 d2) b1) (St.fz (St.tells c7 d2) b2)))) ?_
  refine gf (xI _ _) ?_
  refine gl bI c7 0 ?_
  simp only [pq]
  refine gf (xJ _ _) ?_
  refine gl bI c7 0 ?_
  refine gf (KD _ _) ?_
  simp only [pq]
  refine gl bI c7 0 ?_
  simp only [pq]
  refine dF rfl rfl (fun q9 d2 hF => bO (cK (vs := #[(.slice k9 (g.forest t.start.toNat).length l0), (.agg #[(.int .i64 t.start), (.slice x0 t.reads.length y0), (.slice x1 t.writes.length y1)]), (.slice a0 r.name.length c0), (.slice a1 r.key.length c1), (.slice a2 r.last.length c2)]) (Jn rfl rfl rfl rfl rfl) rfl (Ab _ _)) (cS c7.sat d2 (AI _ _ _ _ _ _ _ (g.forest t.start.toNat) t r.name r.key r.last ((St.tells c7 d2)).sat k7 ⟨_, _, _, _, rfl, r0, r1⟩ q0 q1 q2 hfo htok hq4.1 hq4.2.1 (hq4.2.2 rfl) hsc))) (fun pa => ?_)
  refine gm ?_
  simp only [pq]
  refine dF rfl rfl (fun q9 d2 hF_ => ?_) (fun pb => ?_)
  obtain ⟨bu, bw, _, rfl, r2⟩ := hF_.get 13 (by kernel_rfl) rfl rfl
  exact hJ (bV rfl rfl) ⟨bu, bw, r2⟩ (Below.refl _ _)
  simp only [pq]
  refine gY rfl rfl (v := (iI 11)) (fun q9 d2 hF_ => ?_) ?_
  obtain ⟨pc, pd, _, rfl, iq⟩ := hF_.get 13 (by kernel_rfl) rfl rfl
  exact yF (bV rfl rfl)
  refine ga ?_
  refine bY ?_
  intro pe ir i4
  obtain ⟨bx, r3, bz⟩ := i4.get 15 rfl rfl
  have ca := St.gives c7 r3
  have e9 : Le _ _ := r3.le c7.sat
  have k3 := bz
  generalize bx = pf at *
  obtain ⟨cb, ce, rfl, pg, ph⟩ := Sl.shape k3
  have k3 : Prs _ (.slice cb ([] : List Pr).length ce) ([] : List Pr) := k3
  clear i4
  simp only [dE]
  refine dy ?_
  simp only [pq]
  refine wlK i3 ?_
  refine aE fun pi it => ?_
  refine sk fun pj r4 => ?_
  refine dx ?_
  refine dr bT (cG (b := true) rfl rfl (by decide)) ?_
  refine wn r4 ?_
  refine aJ ?_
  refine sk fun pk r5 => ?_
  refine aC ?_
  have cg := St.perm ca (List.perm_middle (l₁ := [_]))
  have r6 : EngM _ _ _ _ n g _ := ⟨_, _, _, _, _, _, _, _, _, _, _, cg, (hd.mono e9), (dW ht e9)⟩
  refine doC rfl (fn3 (lK _ _)) (hY _ _ _ _ _ _ _ s 11 r6 hq) ?_
  rintro _ pl ⟨rfl, pm, r7, r8⟩
  refine ⟨_, rfl, ?_⟩
  obtain ⟨iu, iv, iw, ix, iy, iz, ja, jb, jc, jd, je, ch, r9, s0⟩ := r8
  refine wn r5 ?_
  refine aP ?_
  try simp only [xt]
  refine bR (jE rfl) ?_
  have s1 : EngM _ _ _ _ n (g.reply (eF s 11)) _ := ⟨_, _, _, _, _, _, _, _, _, _, _, ch, r9, s0⟩
  have he : g.work s t k r = (g.reply (eF s 11)) := by
   unfold Eng.work
   rw [if_neg (by omega), if_pos hk]
   unfold Eng.scan
   rw [hsc]
  rw [he]
  exact ⟨rfl, _, (e9.trans r7), (s1.drop (.cons _ (List.Sublist.refl _)))⟩
 | some R =>
  refine aT F 18 [(13, .made (fun F' u => PrsE R 0 F' u)), (15, .made (fun F' u => Prs F' u R)), (16, .is (iI 0))] (by kernel_rfl) (by kernel_rfl) ?_
  simp only [dD]
  iterate 2 refine gm ?_
  refine gi ?_
  simp only [pq]
  refine gf (eJ _ _) ?_
  refine gv _ (fun _ d3 => aD rfl (aW (eM _) (St.cell (St.tells c7 d3) (i := 1) rfl ((eO hs8).trans (congrArg some hp))))) ?_
  refine gi ?_
  simp only [pq]
  refine gv _ (fun _ d3 => aD rfl (cN Tryz.underlying141 rfl (aZ) (rT (St.fz (St.tells c7 d3) b0) (St.fz (St.tells c7 d3) b1) (St.fz (St.tells c7 d3) b2)))) ?_
  refine gf (xI _ _) ?_
  refine gl bI c7 0 ?_
  simp only [pq]
  refine gf (xJ _ _) ?_
  refine gl bI c7 0 ?_
  refine gf (KD _ _) ?_
  simp only [pq]
  refine gl bI c7 0 ?_
  simp only [pq]
  refine dF rfl rfl (fun s2 d3 hF => bO (cK (vs := #[(.slice k9 (g.forest t.start.toNat).length l0), (.agg #[(.int .i64 t.start), (.slice x0 t.reads.length y0), (.slice x1 t.writes.length y1)]), (.slice a0 r.name.length c0), (.slice a1 r.key.length c1), (.slice a2 r.last.length c2)]) (Jn rfl rfl rfl rfl rfl) rfl (Ab _ _)) (cS c7.sat d3 (AI _ _ _ _ _ _ _ (g.forest t.start.toNat) t r.name r.key r.last ((St.tells c7 d3)).sat k7 ⟨_, _, _, _, rfl, r0, r1⟩ q0 q1 q2 hfo htok hq4.1 hq4.2.1 (hq4.2.2 rfl) hsc))) (fun pn => ?_)
  refine gm ?_
  simp only [pq]
  refine dF rfl rfl (fun s2 d3 hF_ => ?_) (fun po => ?_)
  obtain ⟨ci, cj, _, rfl, s3⟩ := hF_.get 13 (by kernel_rfl) rfl rfl
  exact hJ (bV rfl rfl) ⟨ci, cj, s3⟩ (Below.refl _ _)
  simp only [pq]
  refine gY rfl rfl (v := (iI 0)) (fun s2 d3 hF_ => ?_) ?_
  obtain ⟨pp, pr, _, rfl, jf⟩ := hF_.get 13 (by kernel_rfl) rfl rfl
  exact yF (bV rfl rfl)
  refine ga ?_
  refine bY ?_
  intro pt jg i5
  obtain ⟨ck, s4, cl⟩ := i5.get 15 rfl rfl
  have s5 := St.gives c7 s4
  have c9 : Le _ _ := s4.le c7.sat
  have h1 := cl
  generalize ck = pw at *
  obtain ⟨s6, s7, rfl, px, py⟩ := Sl.shape h1
  have h1 : Prs _ (.slice s6 R.length s7) R := h1
  clear i5
  simp only [dE]
  refine dy ?_
  simp only [pq]
  refine wlK i3 ?_
  refine aE fun pz s8 => ?_
  refine sk fun qa s9 => ?_
  refine dx ?_
  refine dr bF (cG (b := false) rfl rfl (by decide)) ?_
  refine wn s9 ?_
  refine aF ?_
  refine aH ?_
  refine s8 _ _ ?_
  refine aE fun qb t0 => ?_
  refine sk fun qc i6 => ?_
  refine aC ?_
  refine dR s5 0 Tryz.underlying27 (aY) ?_
  simp only [pq]
  have cm := St.perm s5 (List.perm_middle (l₁ := [_]))
  have t1 : EngM _ _ _ _ n g _ := ⟨_, _, _, _, _, _, _, _, _, _, _, cm, (hd.mono c9), (dW ht c9)⟩
  refine doC rfl (fn4 (RM _ _)) (ER _ _ _ _ _ _ _ s hs8 _ k r true t t1 hh ⟨_, _, _, _, rfl, (q0.mono c9), (q1.mono c9), (q2.mono c9), (q3.mono c9)⟩ ok (.inr ⟨hk, rfl⟩) hts htok hq) ?_
  rintro _ qd ⟨qe, f0, h2⟩
  cases hn : jB t ⟨r.name, r.key, true, r.last⟩ with
  | none =>
   rw [hn] at h2
   obtain ⟨rfl, t2⟩ := h2
   refine ⟨_, rfl, ?_⟩
   obtain ⟨jh, ji, jj, jk, jl, jm, jn, jo, jp, jq, jr, cn, t3, t4⟩ := t2
   refine dt ?_
   refine wn i6 ?_
   refine aJ ?_
   refine aP ?_
   try simp only [xt]
   refine bR (jE rfl) ?_
   have t5 : EngM _ _ _ _ n (g.reply (eF s 11)) _ := ⟨_, _, _, _, _, _, _, _, _, _, _, cn, t3, t4⟩
   have he : g.work s t k r = (g.reply (eF s 11)) := by
    unfold Eng.work
    rw [if_neg (by omega), if_pos hk]
    unfold Eng.scan
    rw [hsc]; simp only; unfold Eng.note; rw [hn]
   rw [he]
   exact ⟨rfl, _, (c9.trans f0), (t5.drop (.cons _ (List.Sublist.refl _)))⟩
  | some nx =>
   rw [hn] at h2
   obtain ⟨rfl, t6⟩ := h2
   refine ⟨_, rfl, ?_⟩
   obtain ⟨js, jt, ju, jv, jw, jx, jy, jz, ka, kb, kc, k4, t7, i7⟩ := t6
   simp only [pq]
   have i8 := i7 s hs8
   rw [show (g.setTxn s (some nx)).txn s = some nx from fV _ _ _] at i8
   obtain ⟨qf, qg, qh, qi, qj, t8, co, qk, ql, qm, qn⟩ := i8
   refine dt ?_
   refine wn i6 ?_
   refine aF ?_
   refine aH ?_
   refine t0 _ _ ?_
   refine aB ?_
   refine aC ?_
   refine dr _ (aD rfl (aW (eM _) (St.cell k4 (i := 0) rfl ((eO hs8).trans (congrArg some t8))))) ?_
   refine aC ?_
   refine dr (.int .i64 t.start) (aD rfl (aW (bN _) (St.fz k4 (by rw [← (uO hn).2.2]; exact co)))) ?_
   refine aC ?_
   refine dr (.agg #[(nI s), (iI 0), (.int .i64 t.start), bF, Zn, (.slice s6 R.length s7), Zn, bF, Zn, Zn, Zn, bF, Zn, Zn, Zn]) (aL (NU rfl rfl rfl) (by kernel_rfl)) ?_
   simp only [pq]
   have t9 : EngM _ _ _ _ n (g.setTxn s (some nx)) _ := ⟨_, _, _, _, _, _, _, _, _, _, _, k4, t7, i7⟩
   refine doC rfl (fn2 (qA _ _)) (kB _ _ _ _ _ _ _ _ (⟨s, 0, t.start, false, [], R, [], iU, iU⟩ : Rep) t9 ⟨_, _, _, _, _, _, _, _, _, rfl, Bs.nil _, (h1.mono f0), Bs.nil _, Sl.nil _ _ _, Bs.nil _, Bs.nil _, Sl.nil _ _ _, Bs.nil _, Bs.nil _⟩ hq) ?_
   rintro _ qo ⟨rfl, qp, u0, u1⟩
   refine ⟨_, rfl, ?_⟩
   obtain ⟨kd, ke, kf, kg, kh, ki, kj, kk, kl, km, kn, cp, u2, u3⟩ := u1
   refine aG ?_
   try simp only [xt]
   refine bE (jE rfl) ?_
   have u4 : EngM _ _ _ _ n ((g.setTxn s (some nx)).reply (⟨s, 0, t.start, false, [], R, [], iU, iU⟩ : Rep)) _ := ⟨_, _, _, _, _, _, _, _, _, _, _, cp, u2, u3⟩
   have he : g.work s t k r = ((g.setTxn s (some nx)).reply (⟨s, 0, t.start, false, [], R, [], iU, iU⟩ : Rep)) := by
    unfold Eng.work
    rw [if_neg (by omega), if_pos hk]
    unfold Eng.scan
    rw [hsc]; simp only; unfold Eng.note; rw [hn]
   rw [he]
   exact ⟨rfl, _, ((c9.trans f0).trans u0), (u4.drop (.cons _ (List.Sublist.refl _)))⟩
 refine aB ?_
 refine gB ?_
 refine dy ?_
 refine wlK g0 ?_
 refine aF ?_
 refine sk fun qq u5 => ?_
 refine gB ?_
 refine dy ?_
 simp only [pq]
 refine wn u5 ?_
 refine aF ?_
 refine sk fun qr u6 => ?_
 refine iQ ?_
 refine dy ?_
 refine wn u6 ?_
 refine aJ ?_
 refine aB ?_
 refine aC ?_
 have cq := St.perm c7 (List.perm_middle (l₁ := [_]))
 have u7 : EngM _ _ _ _ n g _ := ⟨_, _, _, _, _, _, _, _, _, _, _, cq, hd, ht⟩
 refine doC rfl (fn3 (Iq _ _)) (SY _ _ _ _ _ _ _ s hs8 t u7 hT hg hm hts hq) ?_
 rintro _ qs ⟨rfl, qt, u8, u9⟩
 refine ⟨_, rfl, ?_⟩
 obtain ⟨ko, kp, kq, kr, ks, kt, ku, kv, kw, kx, ky, ct, v0, v1⟩ := u9
 refine aG ?_
 try simp only [xt]
 refine bE (jE rfl) ?_
 have v2 : EngM _ _ _ _ n (g.commit s t) _ := ⟨_, _, _, _, _, _, _, _, _, _, _, ct, v0, v1⟩
 have he : g.work s t k r = (g.commit s t) := by
  unfold Eng.work
  rw [if_neg (by omega), if_neg (by omega), if_pos hk]
 rw [he]
 exact ⟨rfl, _, u8, (v2.drop (.cons _ (List.Sublist.refl _)))⟩
 have v3 : (k = 4 ∧ (k == 5) = false) ∨ (k = 5 ∧ (k == 5) = true) := by rcases hk with rfl | rfl <;> simp
 have hwo : WrOk (⟨r.name, r.key, k == 5, r.value⟩ : Wr) := Bw ok v3
 refine aB ?_
 refine gB ?_
 refine dy ?_
 refine wlK g0 ?_
 refine aF ?_
 refine sk fun qu v4 => ?_
 refine gB ?_
 refine dy ?_
 simp only [pq]
 refine wn v4 ?_
 refine aF ?_
 refine sk fun qv v5 => ?_
 refine gB ?_
 refine dy ?_
 refine wn v5 ?_
 refine aF ?_
 refine sk fun qw v6 => ?_
 refine dR c7 0 Tryz.underlying27 (aY) ?_
 simp only [pq]
 refine aR c7 rfl (fn1 (Ir _ _)) (GO _ _ _ k r (b := k == 5) (c7).sat (hh.below c7.gr.below) ⟨_, _, _, _, rfl, q0, q1, q2, q3⟩ ok v3) ?_
 intro qx qy v7 cu a7 cv
 obtain ⟨_, rfl, cx⟩ := cv
 obtain ⟨b5, b6, b7, b9, c4, c5, rfl, v8, v9, w2⟩ := cx
 refine aC ?_
 refine sA cu (mI _) fun w3 qz cy => ?_
 refine sW 0 cy (cD) fun w4 a8 => ?_
 refine dy ?_
 simp only [pq]
 refine wn v6 ?_
 refine aE fun ra i9 => ?_
 cases hwx : gS t (⟨r.name, r.key, k == 5, r.value⟩ : Wr) with
 | none =>
  refine kX v7 [0, 1, 2, 3, 4, 5, 6, 7, 8, 9, 11] 10 12 [13] [(7, .made (fun F' u => TxE F' u jT 11)), (9, .made (fun F' u => TxV F' u jT)), (11, .rel (NewAt w4 [(iI 0), Zn, Zn] 141) (NewAt.stable _ _ _)), (10, .is (iI 11))] (by kernel_rfl) (by kernel_rfl) rfl rfl rfl rfl ?_
  simp only [jH, List.getElem?_cons_succ, List.getElem?_cons_zero, List.map_cons, List.map_nil]
  refine bQ rfl rfl (pP n (6 + s * 2)) (fun d0 a9 => aK (fF _)) ?_
  simp only [pq]
  refine bQ rfl rfl (pP n (6 + s * 2)) (fun d0 a9 => aK (lX rfl)) ?_
  simp only [pq]
  refine bQ rfl rfl (pP n (6 + s * 2)) (fun d0 a9 => aK (ef (eJ _ _))) ?_
  simp only [pq]
  refine bQ rfl rfl (pP b 0) (fun d0 a9 => aK (aD rfl (aW (eM _) (St.cell (St.tells a8 a9) (i := 2) rfl ((eO hs8).trans (congrArg some hp)))))) ?_
  simp only [pq]
  refine bQ rfl rfl (pP b 0) (fun d0 a9 => aK (lX rfl)) ?_
  simp only [pq]
  refine bQ rfl rfl (.agg #[(.int .i64 t.start), (.slice x0 t.reads.length y0), (.slice x1 t.writes.length y1)]) (fun d0 a9 => aK (aD rfl (jD (cs := [(.int .i64 t.start), (.slice x0 t.reads.length y0), (.slice x1 t.writes.length y1)]) Tryz.underlying141 rfl (aZ) (rT (St.fz (St.tells a8 a9) (Le.cell a7 b0)) (St.fz (St.tells a8 a9) (Le.cell a7 b1)) (St.fz (St.tells a8 a9) (Le.cell a7 b2)))))) ?_
  simp only [pq]
  refine bQ rfl rfl (.agg #[(.slice b5 r.name.length b6), (.slice b7 r.key.length b9), (.bool (k == 5)), (.slice c4 r.value.length c5)]) (fun d0 a9 => aK (aD rfl (jD (cs := [(.slice b5 r.name.length b6), (.slice b7 r.key.length b9), (.bool (k == 5)), (.slice c4 r.value.length c5)]) Tryz.underlying39 rfl (cD) (St.range (St.tells a8 a9) (i := 0) rfl 0 [(.slice b5 r.name.length b6), (.slice b7 r.key.length b9), (.bool (k == 5)), (.slice c4 r.value.length c5)] (dC 0 rfl))))) ?_
  simp only [pq]
  refine kS rfl rfl (fun d0 a9 hF => bO (cK (vs := #[(.agg #[(.int .i64 t.start), (.slice x0 t.reads.length y0), (.slice x1 t.writes.length y1)]), (.agg #[(.slice b5 r.name.length b6), (.slice b7 r.key.length b9), (.bool (k == 5)), (.slice c4 r.value.length c5)])]) (iD rfl rfl) rfl (KU _ _)) (cS a8.sat a9 (AW _ _ _ _ t (⟨r.name, r.key, k == 5, r.value⟩ : Wr) ((St.tells a8 a9)).sat ⟨_, _, _, _, rfl, (r0.mono a7), (r1.mono a7)⟩ ⟨_, _, _, _, _, _, rfl, v8, v9, w2⟩ htok hwo hwx))) (fun cz => ?_)
  simp only [pq]
  refine bQ rfl rfl cz (fun d0 a9 => aK (fF _)) ?_
  simp only [pq]
  refine kS rfl rfl (fun d0 a9 hF_ => ?_) (fun rb => ?_)
  obtain ⟨db, dc, _, rfl, w5⟩ := hF_.get 7 (by kernel_rfl) rfl rfl
  exact hJ (bV rfl rfl) ⟨db, dc, w5⟩ (Below.refl _ _)
  simp only [pq]
  refine kS rfl rfl (fun d0 a9 _ => iX (cs := [(iI 0), Zn, Zn]) (gM _) rfl a9) (fun rc => ?_)
  simp only [pq]
  refine zD (IK rfl rfl (v := (iI 11)) (fun d0 a9 hF_ => ?_) ?_)
  obtain ⟨rd, re, _, rfl, kz⟩ := hF_.get 7 (by kernel_rfl) rfl rfl
  exact fun w1 => aK (bV rfl rfl)
  intro rf la f1
  obtain ⟨dd, rfl, j0, j1⟩ := f1.getR 11 rfl rfl
  have h3 : ∀ u ∈ [(.int .i64 0), (.slice none 0 0), (.slice none 0 0)], ∀ x, u ≠ bv x := by intro u hu x; simp only [List.mem_cons, List.not_mem_nil, or_false] at hu; rcases hu with rfl | rfl | rfl <;> (unfold bv; simp)
  obtain ⟨dg, w7, dh⟩ := f1.get 9 rfl rfl
  have w8 := w7.dropF a8.sat j0
  have dj := TxV.dropT w7.sat j1 h3 dh
  have dk := St.addBlk (cs := [(.int .i64 0), (.slice none 0 0), (.slice none 0 0)]) a8 w8 j0 (mP _ _) j1
  have f2 : Le _ _ := w8.le a8.sat
  have dm := dj
  generalize (dropF dg dd) = rg at *
  obtain ⟨w9, x2, x3, x4, rfl, rh, ri⟩ := dm
  clear f1
  refine zF (i := 0) (v := (.agg #[(.int .i64 jT.start), (.slice w9 jT.reads.length x2), (.slice x3 jT.writes.length x4)])) dk rfl rfl rfl (aZ) (TN rfl rfl rfl) (Nat.le_of_ble_eq_true rfl) (fun rj dq => ?_)
  refine dy ?_
  simp only [pq]
  refine wlK i9 ?_
  refine aE fun rk x5 => ?_
  refine sk fun rl x6 => ?_
  refine dx ?_
  refine dr bF (cF (b := false) rfl rfl (by decide)) ?_
  refine wn x6 ?_
  refine aF ?_
  refine aH ?_
  refine x5 _ _ ?_
  refine aB ?_
  refine aC ?_
  have ds := St.perm dq (List.perm_middle (l₁ := [_, _, _]))
  have x7 : EngM _ _ _ _ n g _ := ⟨_, _, _, _, _, _, _, _, _, _, _, ds, (hd.mono (a7.trans f2)), (dW ht (a7.trans f2))⟩
  refine doC rfl (fn3 (lK _ _)) (hY _ _ _ _ _ _ _ s 11 x7 hq) ?_
  rintro _ rm ⟨rfl, rn, x8, x9⟩
  refine ⟨_, rfl, ?_⟩
  obtain ⟨lb, lc, ld, lf, lg, lh, li, lj, lk, ll, lm, du, y2, y3⟩ := x9
  refine aG ?_
  try simp only [xt]
  refine bE (jE rfl) ?_
  have y4 : EngM _ _ _ _ n (g.reply (eF s 11)) _ := ⟨_, _, _, _, _, _, _, _, _, _, _, du, y2, y3⟩
  have he : g.work s t k r = (g.reply (eF s 11)) := by
   unfold Eng.work
   rw [if_neg (by omega), if_neg (by omega), if_neg (by omega)]
   unfold Eng.put
   rw [hwx]
  rw [he]
  exact ⟨rfl, _, ((a7.trans f2).trans x8), (y4.drop (.cons _ (.cons _ (.cons _ (List.Sublist.refl _)))))⟩
 | some nx =>
  refine kX v7 [0, 1, 2, 3, 4, 5, 6, 7, 8, 9, 11] 10 12 [13] [(7, .made (fun F' u => TxE F' u nx 0)), (9, .made (fun F' u => TxV F' u nx)), (11, .rel (NewAt w4 [(iI 0), Zn, Zn] 141) (NewAt.stable _ _ _)), (10, .is (iI 0))] (by kernel_rfl) (by kernel_rfl) rfl rfl rfl rfl ?_
  simp only [jH, List.getElem?_cons_succ, List.getElem?_cons_zero, List.map_cons, List.map_nil]
  refine bQ rfl rfl (pP n (6 + s * 2)) (fun d1 b3 => aK (fF _)) ?_
  simp only [pq]
  refine bQ rfl rfl (pP n (6 + s * 2)) (fun d1 b3 => aK (lX rfl)) ?_
  simp only [pq]
  refine bQ rfl rfl (pP n (6 + s * 2)) (fun d1 b3 => aK (ef (eJ _ _))) ?_
  simp only [pq]
  refine bQ rfl rfl (pP b 0) (fun d1 b3 => aK (aD rfl (aW (eM _) (St.cell (St.tells a8 b3) (i := 2) rfl ((eO hs8).trans (congrArg some hp)))))) ?_
  simp only [pq]
  refine bQ rfl rfl (pP b 0) (fun d1 b3 => aK (lX rfl)) ?_
  simp only [pq]
  refine bQ rfl rfl (.agg #[(.int .i64 t.start), (.slice x0 t.reads.length y0), (.slice x1 t.writes.length y1)]) (fun d1 b3 => aK (aD rfl (jD (cs := [(.int .i64 t.start), (.slice x0 t.reads.length y0), (.slice x1 t.writes.length y1)]) Tryz.underlying141 rfl (aZ) (rT (St.fz (St.tells a8 b3) (Le.cell a7 b0)) (St.fz (St.tells a8 b3) (Le.cell a7 b1)) (St.fz (St.tells a8 b3) (Le.cell a7 b2)))))) ?_
  simp only [pq]
  refine bQ rfl rfl (.agg #[(.slice b5 r.name.length b6), (.slice b7 r.key.length b9), (.bool (k == 5)), (.slice c4 r.value.length c5)]) (fun d1 b3 => aK (aD rfl (jD (cs := [(.slice b5 r.name.length b6), (.slice b7 r.key.length b9), (.bool (k == 5)), (.slice c4 r.value.length c5)]) Tryz.underlying39 rfl (cD) (St.range (St.tells a8 b3) (i := 0) rfl 0 [(.slice b5 r.name.length b6), (.slice b7 r.key.length b9), (.bool (k == 5)), (.slice c4 r.value.length c5)] (dC 0 rfl))))) ?_
  simp only [pq]
  refine kS rfl rfl (fun d1 b3 hF => bO (cK (vs := #[(.agg #[(.int .i64 t.start), (.slice x0 t.reads.length y0), (.slice x1 t.writes.length y1)]), (.agg #[(.slice b5 r.name.length b6), (.slice b7 r.key.length b9), (.bool (k == 5)), (.slice c4 r.value.length c5)])]) (iD rfl rfl) rfl (KU _ _)) (cS a8.sat b3 (nF _ _ _ _ t (⟨r.name, r.key, k == 5, r.value⟩ : Wr) nx ((St.tells a8 b3)).sat ⟨_, _, _, _, rfl, (r0.mono a7), (r1.mono a7)⟩ ⟨_, _, _, _, _, _, rfl, v8, v9, w2⟩ htok hwo hwx))) (fun dv => ?_)
  simp only [pq]
  refine bQ rfl rfl dv (fun d1 b3 => aK (fF _)) ?_
  simp only [pq]
  refine kS rfl rfl (fun d1 b3 hF_ => ?_) (fun ro => ?_)
  obtain ⟨dw, dz, _, rfl, y5⟩ := hF_.get 7 (by kernel_rfl) rfl rfl
  exact hJ (bV rfl rfl) ⟨dw, dz, y5⟩ (Below.refl _ _)
  simp only [pq]
  refine kS rfl rfl (fun d1 b3 _ => iX (cs := [(iI 0), Zn, Zn]) (gM _) rfl b3) (fun rp => ?_)
  simp only [pq]
  refine zD (IK rfl rfl (v := (iI 0)) (fun d1 b3 hF_ => ?_) ?_)
  obtain ⟨rq, rr, _, rfl, ln⟩ := hF_.get 7 (by kernel_rfl) rfl rfl
  exact fun w1 => aK (bV rfl rfl)
  intro rs lo f3
  obtain ⟨d6, rfl, j2, j3⟩ := f3.getR 11 rfl rfl
  have h4 : ∀ u ∈ [(.int .i64 0), (.slice none 0 0), (.slice none 0 0)], ∀ x, u ≠ bv x := by intro u hu x; simp only [List.mem_cons, List.not_mem_nil, or_false] at hu; rcases hu with rfl | rfl | rfl <;> (unfold bv; simp)
  obtain ⟨ea, y6, eb⟩ := f3.get 9 rfl rfl
  have y7 := y6.dropF a8.sat j2
  have ec := TxV.dropT y6.sat j3 h4 eb
  have ed := St.addBlk (cs := [(.int .i64 0), (.slice none 0 0), (.slice none 0 0)]) a8 y7 j2 (mP _ _) j3
  have f4 : Le _ _ := y7.le a8.sat
  have ee := ec
  generalize (dropF ea d6) = k5 at *
  obtain ⟨f5, f6, f7, f8, rfl, eg, eh⟩ := ee
  clear f3
  refine zF (i := 0) (v := (.agg #[(.int .i64 nx.start), (.slice f5 nx.reads.length f6), (.slice f7 nx.writes.length f8)])) ed rfl rfl rfl (aZ) (TN rfl rfl rfl) (Nat.le_of_ble_eq_true rfl) (fun ei k6 => ?_)
  have k6 : St w0 F0 ei k5 (⟨d6, [(.int .i64 nx.start), (.slice f5 nx.reads.length f6), (.slice f7 nx.writes.length f8)], 141⟩ :: ⟨w3, [(.slice b5 r.name.length b6), (.slice b7 r.key.length b9), (.bool (k == 5)), (.slice c4 r.value.length c5)], 39⟩ :: ⟨n5, [(nI k), (.slice a0 r.name.length c0), (.slice a1 r.key.length c1), (.slice a2 r.last.length c2), (.slice a3 r.value.length c3)], 27⟩ :: ⟨n, mU g.up (.slice ad g.tape.data.length cd) g.tape.synced (.slice ac g.commits.length cc) (.slice af g.forests.length cf) g.synced pv g.waits (.slice aw g.waiting.length cw) (.slice ar g.replies.length cr), 115⟩ :: L) (qE w0.heap.size (.slice ac g.commits.length cc) g.commits (.slice af g.forests.length cf) g.forests (.slice aw g.waiting.length cw) g.waiting (.slice ar g.replies.length cr) g.replies) := k6
  refine dy ?_
  simp only [pq]
  refine wlK i9 ?_
  refine aE fun rt y8 => ?_
  refine sk fun ru y9 => ?_
  refine dx ?_
  refine dr bT (cF (b := true) rfl rfl (by decide)) ?_
  refine wn y9 ?_
  refine aJ ?_
  refine aB ?_
  refine aC ?_
  refine fL (i := 3) (v := (pP d6 0)) k6 rfl rfl rfl rfl (oL) (lS rfl) (by rw [lM]; simp only [Value.cells]; exact Nat.le_of_lt_succ (by simp only [List.size_toArray, List.length_cons, List.length_nil]; omega)) (fun z0 h5 => ?_)
  simp only [pq]
  have h5 : St w0 F0 z0 k5 (⟨d6, [(.int .i64 nx.start), (.slice f5 nx.reads.length f6), (.slice f7 nx.writes.length f8)], 141⟩ :: ⟨w3, [(.slice b5 r.name.length b6), (.slice b7 r.key.length b9), (.bool (k == 5)), (.slice c4 r.value.length c5)], 39⟩ :: ⟨n5, [(nI k), (.slice a0 r.name.length c0), (.slice a1 r.key.length c1), (.slice a2 r.last.length c2), (.slice a3 r.value.length c3)], 27⟩ :: ⟨n, cA (mU g.up (.slice ad g.tape.data.length cd) g.tape.synced (.slice ac g.commits.length cc) (.slice af g.forests.length cf) g.synced pv g.waits (.slice aw g.waiting.length cw) (.slice ar g.replies.length cr)) (6 + s * 2) [(pP d6 0)], 115⟩ :: L) (qE w0.heap.size (.slice ac g.commits.length cc) g.commits (.slice af g.forests.length cf) g.forests (.slice aw g.waiting.length cw) g.waiting (.slice ar g.replies.length cr) g.replies) := h5
  rw [oY hs8] at h5
  refine wlK y8 ?_
  obtain ⟨ej, d5, f9⟩ := St.freezeBlk h5 (i := 0) rfl
  generalize addF k5 z0 d6 = rv at *
  have z1 := sL (x := .pointer (some ⟨d6, 0, none⟩)) (t := some nx) (dW ht ((a7.trans f4).trans d5)) ⟨_, _, _, _, _, rfl, f9 0 _ rfl, f9 1 _ rfl, f9 2 _ rfl, (eg.mono d5), (eh.mono d5)⟩ s
  refine aB ?_
  refine aC ?_
  have ek := St.perm ej (List.perm_middle (l₁ := [_, _]))
  have z2 : EngM _ _ _ _ n (g.setTxn s (some nx)) _ := ⟨_, _, _, _, _, _, _, _, _, _, _, ek, (hd.mono ((a7.trans f4).trans d5)), z1⟩
  refine doC rfl (fn3 (lK _ _)) (hY _ _ _ _ _ _ _ s 0 z2 hq) ?_
  rintro _ rx ⟨rfl, ry, z3, z4⟩
  refine ⟨_, rfl, ?_⟩
  obtain ⟨lp, lq, lr, ls, lt, lu, lv, lw, lx, ly, lz, el, z5, z6⟩ := z4
  refine aG ?_
  try simp only [xt]
  refine bE (jE rfl) ?_
  have z7 : EngM _ _ _ _ n ((g.setTxn s (some nx)).reply (eF s 0)) _ := ⟨_, _, _, _, _, _, _, _, _, _, _, el, z5, z6⟩
  have he : g.work s t k r = ((g.setTxn s (some nx)).reply (eF s 0)) := by
   unfold Eng.work
   rw [if_neg (by omega), if_neg (by omega), if_neg (by omega)]
   unfold Eng.put
   rw [hwx]
  rw [he]
  exact ⟨rfl, _, (((a7.trans f4).trans d5).trans z3), (z7.drop (.cons _ (.cons _ (List.Sublist.refl _))))⟩
theorem Je {r : Rq} (ok : RqOk 8 r) : (1 ≤ r.name.length ∧ r.name.length ≤ 8) ∧ (1 ≤ r.key.length ∧ r.key.length ≤ 16) := by
 obtain ⟨a1, a2, _⟩ := rF (h := bH 8) ok.fits
 exact ⟨a1 rfl, a2 rfl⟩
theorem XU (w0 : World) (F0 : Fz) (w : World) (F : Fz) (n : Nat) (g : Eng) (L : List Blk) {m : Nat} (s : Nat) (u : Value) (r : Rq) (hM : EngM w0 F0 w F n g L) (hT : Tabs w0) (hg : EngOk m g) (hv : AT F u (8 : Nat) r.name r.key r.last r.value) (ok : RqOk 8 r) (hq : g.replies.length ≤ 100000) :
    Calls Tryz.prog 78 #[.pointer (some ⟨n, 0, none⟩), .int .i64 ((s : Nat) : Int), u] w (yE w0 F0 F n (g.prove s r) L) := by
 obtain ⟨_, _, _, _, rfl, q0, q1, q2, q3⟩ := hv
 obtain ⟨a0, c0, rfl, _⟩ := q0.shape
 obtain ⟨a1, c1, rfl, _⟩ := q1.shape
 obtain ⟨a2, c2, rfl, _⟩ := q2.shape
 obtain ⟨a3, c3, rfl, _⟩ := q3.shape
 obtain ⟨ad, cd, ac, cc, af, cf, aw, cw, ar, cr, pv, S, hd, ht⟩ := hM
 have hsy := hg.sync
 have hst := hg.states
 have hsl : g.synced ≤ g.commits.length := by omega
 have hnk := Je ok
 go_enter Tryz.func78, Tryz.ntmps78
 refine sk fun K4 hK4 => ?_
 refine bD S (v := fun n => .pointer (aA n 0)) rfl (cB (v := (.agg #[(iI 8), (.slice a0 r.name.length c0), (.slice a1 r.key.length c1), (.slice a2 r.last.length c2), (.slice a3 r.value.length c3)])) rfl) (fun n5 w6 S7 => ?_)
 refine wn hK4 ?_
 refine aE fun K8 hK8 => ?_
 have hfa := vE hg hsl
 have hfo := vF hg hsl
 obtain ⟨g9, d4, f6, f7, f8, d5⟩ := VH (S7.own (i := 1) rfl) hfa
 refine aT F 8 [] (by kernel_rfl) (by kernel_rfl) ?_
 simp only [dD]
 refine gm ?_
 refine gi ?_
 refine gf (qW _ _) ?_
 simp only [pq]
 refine gl qU S7 1 ?_
 refine gm ?_
 refine gi ?_
 simp only [pq]
 refine gf (gZ _ _) ?_
 refine gl bN S7 1 ?_
 refine bY ?_
 intro i6 b0 d6
 clear d6
 have d7 := St.tells S7 b0
 simp only [dE]
 refine dr (pP g9 (0 + g.synced * 1)) (bP (i := g.synced) (sz := 1) Tryz.underlying106 (qT _) rfl d4 rfl (by omega) rfl) ?_
 refine dr _ (aD rfl (aW (uR _) (qY b0 f8))) ?_
 refine dy ?_
 simp only [pq]
 refine wlK hK8 ?_
 refine sk fun i7 d8 => ?_
 refine dx ?_
 refine aR d7 rfl (fn1 (Io _ _)) (AS _ _ _ (g.forest g.synced) (d7).sat (hT.at d7.gr.below) d5 hfo) ?_
 intro i8 i9 j0 d9 a5 f9
 obtain ⟨j1, rfl, b4⟩ := f9
 obtain ⟨a7, a8, rfl, _⟩ := b4.shape
 have b4 : Bs _ (.slice a7 (rE (g.forest g.synced)).length a8) (rE (g.forest g.synced)) := b4
 refine aC ?_
 refine wn d8 ?_
 refine sk fun j2 e0 => ?_
 refine aC ?_
 refine aR d9 rfl (fn3 (Ip _ _)) (zL _ _ _ _ _ (g.forest g.synced) r.name r.key (d9).sat (hT.at d9.gr.below) (d5.mono a5) (q0.mono a5) (q1.mono a5) hfo hnk.1 hnk.2) ?_
 intro j3 j4 j5 g0 a6 g1
 obtain ⟨_, _, rfl, g2, g3⟩ := g1
 obtain ⟨b5, b6, b7, b9, c4, c5, rfl, g4, g5, g6⟩ := g2
 obtain ⟨c6, c7, c8, c9, d0, d1, rfl, g7, g8, h0⟩ := g3
 refine aC ?_
 refine sA g0 (sC _) fun j6 j7 h1 => ?_
 refine sA h1 (sC _) fun j8 j9 h2 => ?_
 simp only [pq]
 refine sW 1 h2 (eG) fun k0 h3 => ?_
 refine sW 0 h3 (eG) fun k1 f0 => ?_
 refine dy ?_
 simp only [pq]
 refine wn e0 ?_
 refine sk fun k2 e1 => ?_
 refine aC ?_
 refine aR f0 rfl (fn3 (RG _ _)) (zC _ _ _ _ _ (g.forest g.synced) r.name r.key (f0).sat (d5.mono (a5.trans a6)) (q0.mono (a5.trans a6)) (q1.mono (a5.trans a6)) hfo hnk.1 hnk.2) ?_
 intro k3 k4 h4 h5 a4 h6
 obtain ⟨_, rfl, d2, d3, rfl, e2⟩ := h6
 have e2 : Bs _ (.slice d2 ((gQ (g.forest g.synced) r.name r.key).getD []).length d3) ((gQ (g.forest g.synced) r.name r.key).getD []) := e2
 refine aC ?_
 refine sA h5 (kL _) fun k5 k6 h7 => ?_
 refine sW 0 h7 (fT) fun k7 a9 => ?_
 refine dy ?_
 simp only [pq]
 refine wn e1 ?_
 refine aT h4 14 [] (by kernel_rfl) (by kernel_rfl) ?_
 simp only [dD]
 iterate 3 refine gm ?_
 simp only [pq]
 refine gi ?_
 refine gf (gZ _ _) ?_
 refine gl bN a9 4 ?_
 simp only [pq]
 refine gf (rZ _ _) ?_
 refine gl iE a9 0 ?_
 refine gf (sB _ _) ?_
 simp only [pq]
 refine gl bI a9 0 ?_
 refine gm ?_
 refine gv _ (fun _ e3 => aD rfl (cN Tryz.underlying52 rfl (eG) (St.range (St.tells a9 e3) (i := 2) rfl 0 [(.bool (aV (bW (g.forest g.synced)) r.name).empty), (.slice b5 (aV (bW (g.forest g.synced)) r.name).steps.length b6), (.slice b7 (aV (bW (g.forest g.synced)) r.name).pair.1.length b9), (.slice c4 (aV (bW (g.forest g.synced)) r.name).pair.2.length c5)] (dC 0 rfl)))) ?_
 simp only [pq]
 refine gv _ (fun _ e3 => aD rfl (cN Tryz.underlying52 rfl (eG) (St.range (St.tells a9 e3) (i := 1) rfl 0 [(.bool (aV (bG (g.forest g.synced) r.name) r.key).empty), (.slice c6 (aV (bG (g.forest g.synced) r.name) r.key).steps.length c7), (.slice c8 (aV (bG (g.forest g.synced) r.name) r.key).pair.1.length c9), (.slice d0 (aV (bG (g.forest g.synced) r.name) r.key).pair.2.length d1)] (dC 0 rfl)))) ?_
 refine gv (.agg #[(nI s), (iI 0), (nI g.synced), (.bool (gQ (g.forest g.synced) r.name r.key).isSome), (.slice d2 ((gQ (g.forest g.synced) r.name r.key).getD []).length d3), Zn, (.slice a7 (rE (g.forest g.synced)).length a8), (.bool (aV (bW (g.forest g.synced)) r.name).empty), (.slice b5 (aV (bW (g.forest g.synced)) r.name).steps.length b6), (.slice b7 (aV (bW (g.forest g.synced)) r.name).pair.1.length b9), (.slice c4 (aV (bW (g.forest g.synced)) r.name).pair.2.length c5), (.bool (aV (bG (g.forest g.synced) r.name) r.key).empty), (.slice c6 (aV (bG (g.forest g.synced) r.name) r.key).steps.length c7), (.slice c8 (aV (bG (g.forest g.synced) r.name) r.key).pair.1.length c9), (.slice d0 (aV (bG (g.forest g.synced) r.name) r.key).pair.2.length d1)]) (fun _ _ => aL (ps := #[(0, (nI s)), (2, (nI g.synced)), (3, (.bool (gQ (g.forest g.synced) r.name r.key).isSome)), (4, (.slice d2 ((gQ (g.forest g.synced) r.name r.key).getD []).length d3)), (6, (.slice a7 (rE (g.forest g.synced)).length a8)), (7, (.agg #[(.bool (aV (bW (g.forest g.synced)) r.name).empty), (.slice b5 (aV (bW (g.forest g.synced)) r.name).steps.length b6), (.slice b7 (aV (bW (g.forest g.synced)) r.name).pair.1.length b9), (.slice c4 (aV (bW (g.forest g.synced)) r.name).pair.2.length c5)])), (8, (.agg #[(.bool (aV (bG (g.forest g.synced) r.name) r.key).empty), (.slice c6 (aV (bG (g.forest g.synced) r.name) r.key).steps.length c7), (.slice c8 (aV (bG (g.forest g.synced) r.name) r.key).pair.1.length c9), (.slice d0 (aV (bG (g.forest g.synced) r.name) r.key).pair.2.length d1)]))]) (Jp rfl rfl rfl rfl rfl rfl rfl) (by kernel_rfl)) ?_
 refine bY ?_
 intro k8 e4 e5
 clear e5
 have h8 := St.tells a9 e4
 simp only [dE]
 have h9 := St.perm h8 (List.perm_middle (l₁ := [_, _, _, _]))
 have e6 : EngM _ _ _ _ n g _ := ⟨_, _, _, _, _, _, _, _, _, _, _, h9, (hd.mono ((a5.trans a6).trans a4)), (dW ht ((a5.trans a6).trans a4))⟩
 refine doC rfl (cK (vs := #[(pP n 0), (.agg #[(nI s), (iI 0), (nI g.synced), (.bool (gQ (g.forest g.synced) r.name r.key).isSome), (.slice d2 ((gQ (g.forest g.synced) r.name r.key).getD []).length d3), Zn, (.slice a7 (rE (g.forest g.synced)).length a8), (.bool (aV (bW (g.forest g.synced)) r.name).empty), (.slice b5 (aV (bW (g.forest g.synced)) r.name).steps.length b6), (.slice b7 (aV (bW (g.forest g.synced)) r.name).pair.1.length b9), (.slice c4 (aV (bW (g.forest g.synced)) r.name).pair.2.length c5), (.bool (aV (bG (g.forest g.synced) r.name) r.key).empty), (.slice c6 (aV (bG (g.forest g.synced) r.name) r.key).steps.length c7), (.slice c8 (aV (bG (g.forest g.synced) r.name) r.key).pair.1.length c9), (.slice d0 (aV (bG (g.forest g.synced) r.name) r.key).pair.2.length d1)])]) (iD rfl rfl) rfl (qA _ _)) (kB _ _ _ _ _ _ _ _ (⟨s, 0, g.synced, (gQ (g.forest g.synced) r.name r.key).isSome, (gQ (g.forest g.synced) r.name r.key).getD [], [], rE (g.forest g.synced), aV (bW (g.forest g.synced)) r.name, aV (bG (g.forest g.synced) r.name) r.key⟩ : Rep) e6 ⟨_, _, _, _, _, _, _, _, _, rfl, e2, Sl.nil _ _ _, (b4.mono (a6.trans a4)), (g4.mono a4), (g5.mono a4), (g6.mono a4), (g7.mono a4), (g8.mono a4), (h0.mono a4)⟩ hq) ?_
 rintro _ k9 ⟨rfl, l0, e7, e8⟩
 refine ⟨_, rfl, ?_⟩
 obtain ⟨i0, i1, i2, i3, i4, i5, f1, f2, f3, f4, f5, e9, b1, b2⟩ := e8
 simp only [pq]
 refine aG ?_
 try simp only [xt]
 refine bE (jE rfl) ?_
 have b3 : EngM _ _ _ _ n (g.reply (⟨s, 0, g.synced, (gQ (g.forest g.synced) r.name r.key).isSome, (gQ (g.forest g.synced) r.name r.key).getD [], [], rE (g.forest g.synced), aV (bW (g.forest g.synced)) r.name, aV (bG (g.forest g.synced) r.name) r.key⟩ : Rep)) _ := ⟨_, _, _, _, _, _, _, _, _, _, _, e9, b1, b2⟩
 exact ⟨rfl, _, (((a5.trans a6).trans a4).trans e7), (b3.drop (.cons _ (.cons _ (.cons _ (.cons _ (List.Sublist.refl _))))))⟩
end Go.Proofs.YtilgpdpooildcaaGreatDoor
