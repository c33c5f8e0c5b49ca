/- Rules, plain laws and walks: SV3 SV4 SV5 -/
import Derived.Test.YtilgpdpooildcaaGreatDoorFA10
import Derived.Test.YtilgpdpooildcaaGreatDoorFA2
import Derived.Test.YtilgpdpooildcaaGreatDoorFA3
import Derived.Test.YtilgpdpooildcaaGreatDoorFA6
import Derived.Test.YtilgpdpooildcaaGreatDoorFA9
import Derived.Test.YtilgpdpooildcaaGreatDoorFA5
import Derived.Test.YtilgpdpooildcaaGreatDoorFA7
namespace Go.Proofs.YtilgpdpooildcaaGreatDoor
set_option maxHeartbeats 8000000
open Go.RowKit
set_option maxRecDepth 100000
set_option linter.unusedVariables false
set_option linter.unusedSimpArgs false
theorem CK (F : Fz) (w : World) (v u : Value) (t : Tx) (r : Rd) (hs : Sat w F) (hv : TxV F v t) (hu : RdV F u r) (ht : TxOk t) (hr : RdOk r) (e : gH t r = none) :
    Calls Tryz.prog 106 #[v, u] w (dO w F fun F' u => TxE F' u jI 11) := by
 have := wQ F w v u t r hs hv hu (fun x hx => (ht.writes x hx).small)
 obtain ⟨h1, h2⟩ := NP ht hr e
 rwa [h1, h2] at this
theorem zF (F : Fz) (w : World) (v u : Value) (t : Tx) (r : Wr) (hs : Sat w F) (hv : TxV F v t) (hu : WrV F u r) (ht : TxOk t) (hr : WrOk r) (e : fD t r = none) :
    Calls Tryz.prog 94 #[v, u] w (dO w F fun F' u => TxE F' u jI 11) := by
 have := sR F w v u t r hs hv hu (fun x hx => (ht.writes x hx).small) hr.small
 obtain ⟨h1, h2⟩ := yP ht hr e
 rwa [h1, h2] at this
def Fk (w0 : World) (F0 F : Fz) (n : Nat) (g : Eng) (L : List Blk) (s : Nat) (o : Option Tx) (e : Ending) (w' : World) : Prop := ∃ F', Le F F' ∧ match o with
  | none => e = .returned (.bool false) ∧ EngM w0 F0 w' F' n (g.reply (cX s 11)) L
  | some u => e = .returned (.bool true) ∧ EngM w0 F0 w' F' n (g.setTxn s (some u)) L
theorem CL (w0 : World) (F0 : Fz) (w : World) (F : Fz) (n : Nat) (g : Eng) (L : List Blk) (s : Nat) (hs8 : s < 8) (u : Value) (k : Nat) (r : Rq) (b_ : Bool) (t : Tx) (hM : EngM w0 F0 w F n g L) (hh : Has w0) (hv : CF F u k r.name r.key r.last r.value) (ok : RqOk k r) (hk : (k = 2 ∧ b_ = false) ∨ (k = 3 ∧ b_ = true)) (hts : g.txn s = some t) (htok : TxOk t) (hq : g.replies.length ≤ 100000) :
    Calls Tryz.prog 90 #[.pointer (some ⟨n, 0, none⟩), .int .i64 ((s : Nat) : Int), .pointer (some ⟨n, 6 + s * 2, none⟩), u] w (Fk w0 F0 F n g L s (gH t ⟨r.name, r.key, b_, r.last⟩)) := by
 obtain ⟨_, _, _, _, rfl, q0, q1, q2, q3⟩ := hv
 obtain ⟨a0, c0, rfl, _⟩ := q0.shape
 obtain ⟨a1, c1, rfl, _⟩ := q1.shape
 obtain ⟨a2, c2, rfl, _⟩ := q2.shape
 obtain ⟨a3, c3, rfl, _⟩ := q3.shape
 obtain ⟨ad, cd, ac, cc, af, cf, aw, cw, ar, cr, pv, S, hd, ht⟩ := hM
 have hb := ht s hs8
 rw [hts] at hb
 obtain ⟨b, x0, y0, x1, y1, hp, b0, b1, b2, r0, r1⟩ := hb
 go_enter Tryz.func90, Tryz.ntmps90
 refine sk fun K4 hK4 => ?_
 refine aZ S (v := fun n => .pointer (aA n 0)) rfl (bW (v := (.agg #[(nI k), (.slice a0 r.name.length c0), (.slice a1 r.key.length c1), (.slice a2 r.last.length c2), (.slice a3 r.value.length c3)])) rfl) (fun n5 w6 S7 => ?_)
 refine dy ?_
 refine wn hK4 ?_
 refine sk fun K8 hK8 => ?_
 refine dR S7 0 Tryz.underlying27 (bP) ?_
 refine aY S7 rfl (fn1 (Ad _ _)) (HW _ _ _ k r (S7).sat (hh.below S7.gr.below) ⟨_, _, _, _, rfl, q0, q1, q2, q3⟩ ok hk) ?_
 intro m8 w9 h9 i9 a4 j0
 obtain ⟨_, rfl, j1⟩ := j0
 obtain ⟨a5, a6, a7, a8, a9, b3, rfl, i0, i1, i2⟩ := j1
 refine aC ?_
 refine sA i9 (rZ _) fun i3 m9 j2 => ?_
 refine sW 0 j2 (dE) fun i4 b4 => ?_
 refine dy ?_
 simp only [pq]
 refine wn hK8 ?_
 refine aF fun n0 e2 => ?_
 cases hn : gH t (⟨r.name, r.key, b_, r.last⟩ : Rd) with
 | none =>
  refine mI h9 [0, 1, 2, 3, 4, 5, 6, 7, 8, 9, 11] 10 12 [13] [(7, .made (fun F' u => TxE F' u jI 11)), (9, .made (fun F' u => TxV F' u jI)), (11, .rel (NewAt i4 [(iI 0), Zn, Zn] 141) (NewAt.stable _ _ _)), (10, .is (iI 11))] (by kernel_rfl) (by kernel_rfl) rfl rfl rfl rfl ?_
  simp only [iZ, List.getElem?_cons_succ, List.getElem?_cons_zero, List.map_cons, List.map_nil]
  refine cQ rfl rfl (pP n (6 + s * 2)) (fun c4 b5 => aN (gF _)) ?_
  simp only [pq]
  refine cQ rfl rfl (pP n (6 + s * 2)) (fun c4 b5 => aN (lP rfl)) ?_
  simp only [pq]
  refine cQ rfl rfl (pP n (6 + s * 2)) (fun c4 b5 => aN (ef (dZ _ _))) ?_
  simp only [pq]
  refine cQ rfl rfl (pP b 0) (fun c4 b5 => aN (aE rfl (aT (eC _) (St.cell (St.tells b4 b5) (i := 2) rfl ((eI hs8).trans (congrArg some hp)))))) ?_
  simp only [pq]
  refine cQ rfl rfl (pP b 0) (fun c4 b5 => aN (lP rfl)) ?_
  simp only [pq]
  refine cQ rfl rfl (.agg #[(.int .i64 t.start), (.slice x0 t.reads.length y0), (.slice x1 t.writes.length y1)]) (fun c4 b5 => aN (aE rfl (kW (cs := [(.int .i64 t.start), (.slice x0 t.reads.length y0), (.slice x1 t.writes.length y1)]) Tryz.underlying141 rfl (aU) (qS (St.fz (St.tells b4 b5) (Le.cell a4 b0)) (St.fz (St.tells b4 b5) (Le.cell a4 b1)) (St.fz (St.tells b4 b5) (Le.cell a4 b2)))))) ?_
  simp only [pq]
  refine cQ rfl rfl (.agg #[(.slice a5 r.name.length a6), (.slice a7 r.key.length a8), (.bool b_), (.slice a9 r.last.length b3)]) (fun c4 b5 => aN (aE rfl (kW (cs := [(.slice a5 r.name.length a6), (.slice a7 r.key.length a8), (.bool b_), (.slice a9 r.last.length b3)]) Tryz.underlying179 rfl (dE) (St.range (St.tells b4 b5) (i := 0) rfl 0 [(.slice a5 r.name.length a6), (.slice a7 r.key.length a8), (.bool b_), (.slice a9 r.last.length b3)] (eF 0 rfl))))) ?_
  simp only [pq]
  refine kJ rfl rfl (fun c4 b5 hF => bX (cP (vs := #[(.agg #[(.int .i64 t.start), (.slice x0 t.reads.length y0), (.slice x1 t.writes.length y1)]), (.agg #[(.slice a5 r.name.length a6), (.slice a7 r.key.length a8), (.bool b_), (.slice a9 r.last.length b3)])]) (iX rfl rfl) rfl (zO _ _)) (dI b4.sat b5 (CK _ _ _ _ t (⟨r.name, r.key, b_, r.last⟩ : Rd) ((St.tells b4 b5)).sat ⟨_, _, _, _, rfl, (r0.mono a4), (r1.mono a4)⟩ ⟨_, _, _, _, _, _, rfl, i0, i1, i2⟩ htok (QK ok hk) hn))) (fun j3 => ?_)
  simp only [pq]
  refine cQ rfl rfl j3 (fun c4 b5 => aN (gF _)) ?_
  simp only [pq]
  refine kJ rfl rfl (fun c4 b5 hF_ => ?_) (fun n1 => ?_)
  obtain ⟨j4, j5, _, rfl, f4⟩ := hF_.get 7 (by kernel_rfl) rfl rfl
  exact fY (cA rfl rfl) ⟨j4, j5, f4⟩ (Below.refl _ _)
  simp only [pq]
  refine kJ rfl rfl (fun c4 b5 _ => kI (cs := [(iI 0), Zn, Zn]) (fX _) rfl b5) (fun n2 => ?_)
  simp only [pq]
  refine BO (JL rfl rfl (v := (iI 11)) (fun c4 b5 hF_ => ?_) ?_)
  obtain ⟨n3, n4, _, rfl, j6⟩ := hF_.get 7 (by kernel_rfl) rfl rfl
  exact fun w1 => aN (cA rfl rfl)
  intro n6 j7 d7
  obtain ⟨j8, rfl, e3, e4⟩ := d7.getR 11 rfl rfl
  have d8 : ∀ u ∈ [(.int .i64 0), (.slice none 0 0), (.slice none 0 0)], ∀ x, u ≠ bv x := by intro u hu x; simp only [List.mem_cons, List.not_mem_nil, or_false] at hu; rcases hu with rfl | rfl | rfl <;> (unfold bv; simp)
  obtain ⟨j9, i5, k0⟩ := d7.get 9 rfl rfl
  have i6 := i5.dropF b4.sat e3
  have k1 := TxV.dropT i5.sat e4 d8 k0
  have k2 := St.addBlk (cs := [(.int .i64 0), (.slice none 0 0), (.slice none 0 0)]) b4 i6 e3 (qA _ _) e4
  have d9 : Le _ _ := i6.le b4.sat
  have k3 := k1
  generalize (dropF j9 j8) = n7 at *
  obtain ⟨f5, f6, f7, f8, rfl, n8, n9⟩ := k3
  clear d7
  refine BQ (i := 0) (v := (.agg #[(.int .i64 jI.start), (.slice f5 jI.reads.length f6), (.slice f7 jI.writes.length f8)])) k2 rfl rfl rfl (aU) (PE rfl rfl rfl) (Nat.le_of_ble_eq_true rfl) (fun o0 k4 => ?_)
  refine dy ?_
  simp only [pq]
  refine wlK e2 ?_
  refine aF fun o1 k5 => ?_
  refine sk fun o2 f9 => ?_
  refine dx ?_
  refine dr bT (cC (b := true) rfl rfl (by decide)) ?_
  refine wn f9 ?_
  refine aK ?_
  refine sk fun o3 g0 => ?_
  refine aC ?_
  have k6 := St.perm k4 (List.perm_middle (l₁ := [_, _, _]))
  have g1 : EngM _ _ _ _ n g _ := ⟨_, _, _, _, _, _, _, _, _, _, _, k6, (hd.mono (a4.trans d9)), (dU ht (a4.trans d9))⟩
  refine doC rfl (fn3 (kZ _ _)) (gU _ _ _ _ _ _ _ s 11 g1 hq) ?_
  rintro _ o4 ⟨rfl, o5, g2, g3⟩
  refine ⟨_, rfl, ?_⟩
  obtain ⟨k7, k8, k9, l0, l1, l2, l3, l4, l5, l6, l7, l8, g4, g5⟩ := g3
  refine wn g0 ?_
  refine sk fun o6 g6 => ?_
  refine dy ?_
  refine wn g6 ?_
  refine aO ?_
  try simp only [xt]
  refine bR (bC rfl (gD rfl)) ?_
  have g7 : EngM _ _ _ _ n (g.reply (cX s 11)) _ := ⟨_, _, _, _, _, _, _, _, _, _, _, l8, g4, g5⟩
  refine ⟨_, ((a4.trans d9).trans g2), ?_⟩
  rw [hn]
  exact ⟨rfl, (g7.drop (.cons _ (.cons _ (.cons _ (List.Sublist.refl _)))))⟩
 | some nx =>
  refine mI h9 [0, 1, 2, 3, 4, 5, 6, 7, 8, 9, 11] 10 12 [13] [(7, .made (fun F' u => TxE F' u nx 0)), (9, .made (fun F' u => TxV F' u nx)), (11, .rel (NewAt i4 [(iI 0), Zn, Zn] 141) (NewAt.stable _ _ _)), (10, .is (iI 0))] (by kernel_rfl) (by kernel_rfl) rfl rfl rfl rfl ?_
  simp only [iZ, List.getElem?_cons_succ, List.getElem?_cons_zero, List.map_cons, List.map_nil]
  refine cQ rfl rfl (pP n (6 + s * 2)) (fun c5 b6 => aN (gF _)) ?_
  simp only [pq]
  refine cQ rfl rfl (pP n (6 + s * 2)) (fun c5 b6 => aN (lP rfl)) ?_
  simp only [pq]
  refine cQ rfl rfl (pP n (6 + s * 2)) (fun c5 b6 => aN (ef (dZ _ _))) ?_
  simp only [pq]
  refine cQ rfl rfl (pP b 0) (fun c5 b6 => aN (aE rfl (aT (eC _) (St.cell (St.tells b4 b6) (i := 2) rfl ((eI hs8).trans (congrArg some hp)))))) ?_
  simp only [pq]
  refine cQ rfl rfl (pP b 0) (fun c5 b6 => aN (lP rfl)) ?_
  simp only [pq]
  refine cQ rfl rfl (.agg #[(.int .i64 t.start), (.slice x0 t.reads.length y0), (.slice x1 t.writes.length y1)]) (fun c5 b6 => aN (aE rfl (kW (cs := [(.int .i64 t.start), (.slice x0 t.reads.length y0), (.slice x1 t.writes.length y1)]) Tryz.underlying141 rfl (aU) (qS (St.fz (St.tells b4 b6) (Le.cell a4 b0)) (St.fz (St.tells b4 b6) (Le.cell a4 b1)) (St.fz (St.tells b4 b6) (Le.cell a4 b2)))))) ?_
  simp only [pq]
  refine cQ rfl rfl (.agg #[(.slice a5 r.name.length a6), (.slice a7 r.key.length a8), (.bool b_), (.slice a9 r.last.length b3)]) (fun c5 b6 => aN (aE rfl (kW (cs := [(.slice a5 r.name.length a6), (.slice a7 r.key.length a8), (.bool b_), (.slice a9 r.last.length b3)]) Tryz.underlying179 rfl (dE) (St.range (St.tells b4 b6) (i := 0) rfl 0 [(.slice a5 r.name.length a6), (.slice a7 r.key.length a8), (.bool b_), (.slice a9 r.last.length b3)] (eF 0 rfl))))) ?_
  simp only [pq]
  refine kJ rfl rfl (fun c5 b6 hF => bX (cP (vs := #[(.agg #[(.int .i64 t.start), (.slice x0 t.reads.length y0), (.slice x1 t.writes.length y1)]), (.agg #[(.slice a5 r.name.length a6), (.slice a7 r.key.length a8), (.bool b_), (.slice a9 r.last.length b3)])]) (iX rfl rfl) rfl (zO _ _)) (dI b4.sat b6 (oB _ _ _ _ t (⟨r.name, r.key, b_, r.last⟩ : Rd) nx ((St.tells b4 b6)).sat ⟨_, _, _, _, rfl, (r0.mono a4), (r1.mono a4)⟩ ⟨_, _, _, _, _, _, rfl, i0, i1, i2⟩ htok (QK ok hk) hn))) (fun l9 => ?_)
  simp only [pq]
  refine cQ rfl rfl l9 (fun c5 b6 => aN (gF _)) ?_
  simp only [pq]
  refine kJ rfl rfl (fun c5 b6 hF_ => ?_) (fun o7 => ?_)
  obtain ⟨m0, m1, _, rfl, g8⟩ := hF_.get 7 (by kernel_rfl) rfl rfl
  exact fY (cA rfl rfl) ⟨m0, m1, g8⟩ (Below.refl _ _)
  simp only [pq]
  refine kJ rfl rfl (fun c5 b6 _ => kI (cs := [(iI 0), Zn, Zn]) (fX _) rfl b6) (fun o8 => ?_)
  simp only [pq]
  refine BO (JL rfl rfl (v := (iI 0)) (fun c5 b6 hF_ => ?_) ?_)
  obtain ⟨o9, p0, _, rfl, i7⟩ := hF_.get 7 (by kernel_rfl) rfl rfl
  exact fun w1 => aN (cA rfl rfl)
  intro m2 i8 c6
  obtain ⟨b9, rfl, d5, d6⟩ := c6.getR 11 rfl rfl
  have d3 : ∀ u ∈ [(.int .i64 0), (.slice none 0 0), (.slice none 0 0)], ∀ x, u ≠ bv x := by intro u hu x; simp only [List.mem_cons, List.not_mem_nil, or_false] at hu; rcases hu with rfl | rfl | rfl <;> (unfold bv; simp)
  obtain ⟨g9, e5, h0⟩ := c6.get 9 rfl rfl
  have e6 := e5.dropF b4.sat d5
  have h1 := TxV.dropT e5.sat d6 d3 h0
  have h2 := St.addBlk (cs := [(.int .i64 0), (.slice none 0 0), (.slice none 0 0)]) b4 e6 d5 (qA _ _) d6
  have c7 : Le _ _ := e6.le b4.sat
  have h3 := h1
  generalize (dropF g9 b9) = e0 at *
  obtain ⟨c8, c9, d0, d1, rfl, h4, h5⟩ := h3
  clear c6
  refine BQ (i := 0) (v := (.agg #[(.int .i64 nx.start), (.slice c8 nx.reads.length c9), (.slice d0 nx.writes.length d1)])) h2 rfl rfl rfl (aU) (PE rfl rfl rfl) (Nat.le_of_ble_eq_true rfl) (fun h6 e1 => ?_)
  have e1 : St w0 F0 h6 e0 (⟨b9, [(.int .i64 nx.start), (.slice c8 nx.reads.length c9), (.slice d0 nx.writes.length d1)], 141⟩ :: ⟨i3, [(.slice a5 r.name.length a6), (.slice a7 r.key.length a8), (.bool b_), (.slice a9 r.last.length b3)], 179⟩ :: ⟨n5, [(nI k), (.slice a0 r.name.length c0), (.slice a1 r.key.length c1), (.slice a2 r.last.length c2), (.slice a3 r.value.length c3)], 27⟩ :: ⟨n, lZ g.up (.slice ad g.tape.data.length cd) g.tape.synced (.slice ac g.commits.length cc) (.slice af g.forests.length cf) g.synced pv g.waits (.slice aw g.waiting.length cw) (.slice ar g.replies.length cr), 115⟩ :: L) (oJ w0.heap.size (.slice ac g.commits.length cc) g.commits (.slice af g.forests.length cf) g.forests (.slice aw g.waiting.length cw) g.waiting (.slice ar g.replies.length cr) g.replies) := e1
  refine dy ?_
  simp only [pq]
  refine wlK e2 ?_
  refine aF fun m3 e7 => ?_
  refine sk fun m4 e8 => ?_
  refine dx ?_
  refine dr bF (cC (b := false) rfl rfl (by decide)) ?_
  refine wn e8 ?_
  refine aG ?_
  refine aI ?_
  refine e7 _ _ ?_
  refine sk fun m5 e9 => ?_
  refine aC ?_
  refine fK (i := 3) (v := (pP b9 0)) e1 rfl rfl rfl rfl (nV) (mF rfl) (by rw [lC]; simp only [Value.cells]; exact Nat.le_of_lt_succ (by simp only [List.size_toArray, List.length_cons, List.length_nil]; omega)) (fun f0 d4 => ?_)
  simp only [pq]
  have d4 : St w0 F0 f0 e0 (⟨b9, [(.int .i64 nx.start), (.slice c8 nx.reads.length c9), (.slice d0 nx.writes.length d1)], 141⟩ :: ⟨i3, [(.slice a5 r.name.length a6), (.slice a7 r.key.length a8), (.bool b_), (.slice a9 r.last.length b3)], 179⟩ :: ⟨n5, [(nI k), (.slice a0 r.name.length c0), (.slice a1 r.key.length c1), (.slice a2 r.last.length c2), (.slice a3 r.value.length c3)], 27⟩ :: ⟨n, bQ (lZ g.up (.slice ad g.tape.data.length cd) g.tape.synced (.slice ac g.commits.length cc) (.slice af g.forests.length cf) g.synced pv g.waits (.slice aw g.waiting.length cw) (.slice ar g.replies.length cr)) (6 + s * 2) [(pP b9 0)], 115⟩ :: L) (oJ w0.heap.size (.slice ac g.commits.length cc) g.commits (.slice af g.forests.length cf) g.forests (.slice aw g.waiting.length cw) g.waiting (.slice ar g.replies.length cr) g.replies) := d4
  rw [oI hs8] at d4
  refine wn e9 ?_
  refine sk fun m6 f1 => ?_
  refine dy ?_
  refine wn f1 ?_
  refine aO ?_
  try simp only [xt]
  refine bR (bC rfl (gD rfl)) ?_
  obtain ⟨h7, b7, d2⟩ := St.freezeBlk d4 (i := 0) rfl
  generalize addF e0 f0 b9 = m7 at *
  have f2 := rJ (x := .pointer (some ⟨b9, 0, none⟩)) (t := some nx) (dU ht ((a4.trans c7).trans b7)) ⟨_, _, _, _, _, rfl, d2 0 _ rfl, d2 1 _ rfl, d2 2 _ rfl, (h4.mono b7), (h5.mono b7)⟩ s
  have h8 := St.perm h7 (List.perm_middle (l₁ := [_, _]))
  have f3 : EngM _ _ _ _ n (g.setTxn s (some nx)) _ := ⟨_, _, _, _, _, _, _, _, _, _, _, h8, (hd.mono ((a4.trans c7).trans b7)), f2⟩
  refine ⟨_, ((a4.trans c7).trans b7), ?_⟩
  rw [hn]
  exact ⟨rfl, (f3.drop (.cons _ (.cons _ (List.Sublist.refl _))))⟩
theorem uI {w0 w : World} {F0 F : Fz} {L : List Blk} {M : List RowP} {hR : ∀ F F' x p, Le F F' → CmC F x p → CmC F' x p} {E base i : Nat} {v u : Value} {t : Tx} {cs : List Cm} {b : Bool} (S : St w0 F0 w F L M) (h : M[i]? = some (bV 2 CmC hR E base u cs)) (hv : TxV F v t) (ht : TxOk t) (hcs : ∀ c ∈ cs, CmOk c) (hb : jR t.start t.reads cs = b) :
    Calls Tryz.prog 109 #[v, u] w (cY w (.tuple #[.bool b, .int .i64 0])) := by
 obtain ⟨F', h1, h2, h3⟩ := nU S h
 have := NQ F' w v u t cs h1 (hv.mono h2) h3 (fun c hc => by have := (hcs c hc).some.2; omega) (fun r hr => (ht.writes r hr).small)
 rwa [BZ, if_neg (by rw [mU.2 ht]; decide), hb, mU.2 ht] at this
theorem OK {f g : aP} {ws : List Wr} (hw : ∀ w ∈ ws, WrOk w) (hl : ws.length ≤ 10) (h : gJ f ws = some g) : fZ f ws = (0, g) := by
 unfold fZ; rw [if_neg (by omega), qB hw, h]
theorem SU {f : aP} {ws : List Wr} (hw : ∀ w ∈ ws, WrOk w) (hl : ws.length ≤ 10) (h : gJ f ws = none) : fZ f ws = (11, []) := by
 unfold fZ; rw [if_neg (by omega), qB hw, h]
theorem xZ {m : Nat} {g : Eng} (h : EngOk m g) {k : Nat} (hk : k ≤ g.commits.length) : g.forests[k]? = some (g.forest k) := by
 have := h.states
 unfold Eng.forest
 rw [List.getD_eq_getElem?_getD, List.getElem?_eq_getElem (by omega)]
 rfl
theorem yA {m : Nat} {g : Eng} (h : EngOk m g) {k : Nat} (hk : k ≤ g.commits.length) : ForestOk 60 (g.forest k) := by rw [h.state k hk]; exact h.ok k hk
theorem OL (w0 : World) (F0 : Fz) (w : World) (F : Fz) (n : Nat) (g : Eng) (L : List Blk) {m : Nat} (s : Nat) (hs8 : s < 8) (t : Tx) (hM : EngM w0 F0 w F n g L) (hT : Tabs w0) (hg : EngOk m g) (hm : m ≤ 149) (hts : g.txn s = some t) (hq : g.replies.length ≤ 100000) :
    Calls Tryz.prog 92 #[.pointer (some ⟨n, 0, none⟩), .int .i64 ((s : Nat) : Int), .pointer (some ⟨n, 6 + s * 2, none⟩)] w (xA w0 F0 F n (g.commit s t) L) := by
 obtain ⟨ad, cd, ac, cc, af, cf, aw, cw, ar, cr, pv, S, hd, ht⟩ := hM
 have hb := ht s hs8
 rw [hts] at hb
 obtain ⟨b, x0, y0, x1, y1, hp, b0, b1, b2, r0, r1⟩ := hb
 have htok := (hg.txns s t hts).1
 have hsy := hg.sync
 have hmy := hg.many
 have hst := hg.states
 have hx1 := htok.nw
 have hx2 := htok.nr
 have htl : g.tape.data.length ≤ 90000 := by have := rG hg.hist.ok; rw [hg.data]; omega
 have hts2 := hg.syn
 obtain ⟨i3, hi3, hz3, hs3, hb3⟩ := info_parts Ed
 obtain ⟨u0, f6, f7, f8, f9⟩ := info_parts QO
 obtain ⟨g0, d4, d5, d6, d7⟩ := info_parts IY
 go_enter Tryz.func92, Tryz.ntmps92
 refine sk fun K4 hK4 => ?_
 refine aC ?_
 refine dr _ (aE rfl (aT (eC _) (St.cell S (i := 0) rfl ((eI hs8).trans (congrArg some hp))))) ?_
 refine di ?_
 refine dr _ (aE rfl (cU Tryz.underlying141 rfl (aU) (qS (St.fz S b0) (St.fz S b1) (St.fz S b2)))) ?_
 simp only [pq]
 refine sA S (fX _) fun n5 w6 S7 => ?_
 refine sW 0 S7 (aU) fun w8 S9 => ?_
 refine wn hK4 ?_
 refine aF fun fb l8 => ?_
 refine sk fun fc g1 => ?_
 refine aC ?_
 by_cases g2 : t.writes.length = 0
 refine iR ?_
 refine wn g1 ?_
 refine aK ?_
 refine sk fun fd l9 => ?_
 refine aC ?_
 refine fK (i := 1) (v := (.pointer none)) S9 rfl rfl rfl rfl (nV) (mF rfl) (by rw [lC]; simp only [Value.cells]; exact Nat.le_of_lt_succ (by simp only [List.size_toArray, List.length_cons, List.length_nil]; omega)) (fun x3 l6 => ?_)
 simp only [pq]
 have l6 : St w0 F0 x3 F (⟨n5, [(.int .i64 t.start), (.slice x0 t.reads.length y0), (.slice x1 t.writes.length y1)], 141⟩ :: ⟨n, bQ (lZ g.up (.slice ad g.tape.data.length cd) g.tape.synced (.slice ac g.commits.length cc) (.slice af g.forests.length cf) g.synced pv g.waits (.slice aw g.waiting.length cw) (.slice ar g.replies.length cr)) (6 + s * 2) [(.pointer none)], 115⟩ :: L) (oJ w0.heap.size (.slice ac g.commits.length cc) g.commits (.slice af g.forests.length cf) g.forests (.slice aw g.waiting.length cw) g.waiting (.slice ar g.replies.length cr) g.replies) := l6
 rw [oI hs8] at l6
 refine wn l9 ?_
 refine aF fun fe m0 => ?_
 have m1 := rJ (x := .pointer none) (t := none) ht rfl s
 refine aB ?_
 refine aC ?_
 refine dr (.agg #[(nI s), (iI 0), (.int .i64 t.start), bF, Zn, Zn, Zn, bF, Zn, Zn, Zn, bF, Zn, Zn, Zn]) (aJ (eZ rfl rfl) (by kernel_rfl)) ?_
 simp only [pq]
 have x4 := St.perm l6 (List.perm_middle (l₁ := [_]))
 have m2 : EngM _ _ _ _ n (g.setTxn s none) _ := ⟨_, _, _, _, _, _, _, _, _, _, _, x4, hd, m1⟩
 refine doC rfl (fn2 (qX _ _)) (kS _ _ _ _ _ _ _ _ _ m2 (RpV.turn _ s t.start) hq) ?_
 rintro _ ff ⟨rfl, fg, m3, m4⟩
 refine ⟨_, rfl, ?_⟩
 obtain ⟨x5, x6, x7, x8, x9, y2, y3, y4, y5, y6, y7, y8, m5, m6⟩ := m4
 refine wlK m0 ?_
 refine aO ?_
 try simp only [xt]
 refine bR (iN rfl) ?_
 have m7 : EngM _ _ _ _ n ((g.setTxn s none).reply (mX s t.start)) _ := ⟨_, _, _, _, _, _, _, _, _, _, _, y8, m5, m6⟩
 rw [show g.commit s t = ((g.setTxn s none).reply (mX s t.start)) from by unfold Eng.commit; rw [if_pos (List.eq_nil_of_length_eq_zero (by omega))]]
 exact ⟨rfl, _, m3, (m7.drop (.cons _ (List.Sublist.refl _)))⟩
 refine gL ?_
 refine wn g1 ?_
 refine aG ?_
 refine aI ?_
 refine l8 _ _ ?_
 refine aF fun fh m8 => ?_
 refine aF fun fi g3 => ?_
 have hw : t.writes ≠ [] := by intro e; rw [e] at g2; exact g2 rfl
 by_cases h6 : g.commits.length - g.synced = 6
 refine aQ F 9 [] (by kernel_rfl) (by kernel_rfl) ?_
 simp only [cV]
 refine gm ?_
 refine gi ?_
 simp only [pq]
 refine gf (gR _ _) ?_
 refine gl iS S9 1 ?_
 refine gv (nI g.commits.length) (fun _ _ => qR Tryz.underlying109 rfl) ?_
 simp only [pq]
 refine gm ?_
 refine gi ?_
 refine gf (iF _ _) ?_
 simp only [pq]
 refine gl bU S9 1 ?_
 refine bN ?_
 intro fj m9 n0
 clear n0
 have y9 := St.tells S9 m9
 simp only [cW]
 refine YR (((g.commits.length - g.synced) : Nat) : Int) ?_
 refine iR ?_
 refine aC ?_
 refine wlK g3 ?_
 refine aK ?_
 refine sk fun fk n1 => ?_
 refine aC ?_
 have z0 := St.perm y9 (List.perm_middle (l₁ := [_]))
 have n2 : EngM _ _ _ _ n g _ := ⟨_, _, _, _, _, _, _, _, _, _, _, z0, hd, ht⟩
 refine doC rfl (fn3 (kZ _ _)) (gU _ _ _ _ _ _ _ s 11 n2 hq) ?_
 rintro _ fl ⟨rfl, fm, n3, n4⟩
 refine ⟨_, rfl, ?_⟩
 obtain ⟨z1, z2, z3, z4, z5, z6, z7, z8, z9, aa, ab, ae, n6, n7⟩ := n4
 refine wn n1 ?_
 refine aO ?_
 try simp only [xt]
 refine bR (iN rfl) ?_
 have n8 : EngM _ _ _ _ n (g.reply (cX s 11)) _ := ⟨_, _, _, _, _, _, _, _, _, _, _, ae, n6, n7⟩
 rw [show g.commit s t = (g.reply (cX s 11)) from by unfold Eng.commit; rw [if_neg hw, if_pos (.inl h6)]]
 exact ⟨rfl, _, n3, (n8.drop (.cons _ (List.Sublist.refl _)))⟩
 refine aQ F 9 [] (by kernel_rfl) (by kernel_rfl) ?_
 simp only [cV]
 refine gm ?_
 refine gi ?_
 refine gf (gR _ _) ?_
 simp only [pq]
 refine gl iS S9 1 ?_
 refine gv (nI g.commits.length) (fun _ _ => qR Tryz.underlying109 rfl) ?_
 refine gm ?_
 simp only [pq]
 refine gi ?_
 refine gf (iF _ _) ?_
 refine gl bU S9 1 ?_
 simp only [pq]
 refine bN ?_
 intro fn n9 o0
 clear o0
 have ag := St.tells S9 n9
 simp only [cW]
 refine YR (((g.commits.length - g.synced) : Nat) : Int) ?_
 refine gL ?_
 refine aC ?_
 refine gL ?_
 simp only [pq]
 refine dp ?_
 refine wlK g3 ?_
 refine aG ?_
 refine aI ?_
 refine m8 _ _ ?_
 refine aF fun fo o1 => ?_
 have hno : ¬ (g.commits.length - g.synced = 6 ∨ g.commits.length = 300) := by omega
 refine aB ?_
 refine aC ?_
 refine fK (i := 1) (v := (.pointer none)) ag rfl rfl rfl rfl (nV) (mF rfl) (by rw [lC]; simp only [Value.cells]; exact Nat.le_of_lt_succ (by simp only [List.size_toArray, List.length_cons, List.length_nil]; omega)) (fun ah c1 => ?_)
 simp only [pq]
 have c1 : St w0 F0 ah F (⟨n5, [(.int .i64 t.start), (.slice x0 t.reads.length y0), (.slice x1 t.writes.length y1)], 141⟩ :: ⟨n, bQ (lZ g.up (.slice ad g.tape.data.length cd) g.tape.synced (.slice ac g.commits.length cc) (.slice af g.forests.length cf) g.synced pv g.waits (.slice aw g.waiting.length cw) (.slice ar g.replies.length cr)) (6 + s * 2) [(.pointer none)], 115⟩ :: L) (oJ w0.heap.size (.slice ac g.commits.length cc) g.commits (.slice af g.forests.length cf) g.forests (.slice aw g.waiting.length cw) g.waiting (.slice ar g.replies.length cr) g.replies) := c1
 rw [oI hs8] at c1
 refine wlK o1 ?_
 refine aF fun fp o2 => ?_
 refine aF fun fq g4 => ?_
 have c6 := rJ (x := .pointer none) (t := none) ht rfl s
 cases hcl : jR t.start t.reads g.commits with
 | true =>
  refine aQ F 10 [(5, .is (.tuple #[bT, (iI 0)]))] (by kernel_rfl) (by kernel_rfl) ?_
  simp only [cV]
  refine gv _ (fun _ o3 => aE rfl (cU Tryz.underlying141 rfl (aU) (St.range (St.tells c1 o3) (i := 0) rfl 0 [(.int .i64 t.start), (.slice x0 t.reads.length y0), (.slice x1 t.writes.length y1)] (eF 0 rfl)))) ?_
  refine gm ?_
  refine gi ?_
  simp only [pq]
  refine gf (gR _ _) ?_
  refine gl iS c1 1 ?_
  simp only [pq]
  refine jC rfl rfl (v := (.tuple #[bT, (iI 0)])) (fun fr o3 _ => bX (cP (vs := #[(.agg #[(.int .i64 t.start), (.slice x0 t.reads.length y0), (.slice x1 t.writes.length y1)]), (.slice ac g.commits.length cc)]) (iX rfl rfl) rfl (PL _ _)) (lM (uI (i := 0) (t := t) (b := true) (St.tells c1 o3) rfl ⟨_, _, _, _, rfl, r0, r1⟩ htok hg.hist.ok hcl))) ?_
  refine gm ?_
  refine gv bT (fun _ _ => cA rfl rfl) ?_
  refine gv (iI 0) (fun _ _ => cA rfl rfl) ?_
  simp only [pq]
  refine ga ?_
  refine bN ?_
  intro fs o4 o5
  clear o5
  have ai := St.tells c1 o4
  simp only [cW]
  refine dy ?_
  refine wlK g4 ?_
  refine sk fun ft o6 => ?_
  refine dx ?_
  simp only [pq]
  refine wn o6 ?_
  refine aK ?_
  refine sk fun fu o7 => ?_
  refine aC ?_
  have aj := St.perm ai (List.perm_middle (l₁ := [_]))
  have o8 : EngM _ _ _ _ n (g.setTxn s none) _ := ⟨_, _, _, _, _, _, _, _, _, _, _, aj, hd, c6⟩
  refine doC rfl (fn3 (kZ _ _)) (gU _ _ _ _ _ _ _ s 9 o8 hq) ?_
  rintro _ fv ⟨rfl, fw, o9, p0⟩
  refine ⟨_, rfl, ?_⟩
  obtain ⟨ak, al, am, an, ao, ap, aq, au, av, u1, u2, p1, g5, g6⟩ := p0
  refine wn o7 ?_
  refine aO ?_
  try simp only [xt]
  refine bR (iN rfl) ?_
  have g7 : EngM _ _ _ _ n ((g.setTxn s none).reply (cX s 9)) _ := ⟨_, _, _, _, _, _, _, _, _, _, _, p1, g5, g6⟩
  rw [show g.commit s t = ((g.setTxn s none).reply (cX s 9)) from by unfold Eng.commit; rw [if_neg hw, if_neg hno, if_pos hcl]]
  exact ⟨rfl, _, o9, (g7.drop (.cons _ (List.Sublist.refl _)))⟩
 | false =>
  refine aQ F 10 [(5, .is (.tuple #[bF, (iI 0)]))] (by kernel_rfl) (by kernel_rfl) ?_
  simp only [cV]
  refine gv _ (fun _ e9 => aE rfl (cU Tryz.underlying141 rfl (aU) (St.range (St.tells c1 e9) (i := 0) rfl 0 [(.int .i64 t.start), (.slice x0 t.reads.length y0), (.slice x1 t.writes.length y1)] (eF 0 rfl)))) ?_
  refine gm ?_
  refine gi ?_
  simp only [pq]
  refine gf (gR _ _) ?_
  refine gl iS c1 1 ?_
  simp only [pq]
  refine jC rfl rfl (v := (.tuple #[bF, (iI 0)])) (fun ax e9 _ => bX (cP (vs := #[(.agg #[(.int .i64 t.start), (.slice x0 t.reads.length y0), (.slice x1 t.writes.length y1)]), (.slice ac g.commits.length cc)]) (iX rfl rfl) rfl (PL _ _)) (lM (uI (i := 0) (t := t) (b := false) (St.tells c1 e9) rfl ⟨_, _, _, _, rfl, r0, r1⟩ htok hg.hist.ok hcl))) ?_
  refine gm ?_
  refine gv bF (fun _ _ => cA rfl rfl) ?_
  refine gv (iI 0) (fun _ _ => cA rfl rfl) ?_
  simp only [pq]
  refine ga ?_
  refine bN ?_
  intro p2 g8 g9
  clear g9
  have c2 := St.tells c1 g8
  simp only [cW]
  refine dy ?_
  refine wlK g4 ?_
  refine sk fun ay h0 => ?_
  refine dx ?_
  simp only [pq]
  refine wn h0 ?_
  refine aG ?_
  refine aI ?_
  refine o2 _ _ ?_
  refine aF fun az h1 => ?_
  refine aQ F 10 [(9, .rel (NewAt p2 [(iI 0), Zn] 168) (NewAt.stable _ _ _))] (by kernel_rfl) (by kernel_rfl) ?_
  simp only [cV]
  refine gm ?_
  refine gi ?_
  refine gf (gR _ _) ?_
  simp only [pq]
  refine gl iS c2 1 ?_
  refine gv (nI g.commits.length) (fun _ _ => qR Tryz.underlying109 rfl) ?_
  refine gv (nI (g.commits.length + 1)) (fun _ _ => fW (m := ((g.commits.length : Nat) : Int)) (n := (1 : Int)) (r := (((g.commits.length + 1) : Nat) : Int)) rfl rfl (by omega) (by omega) (by omega)) ?_
  simp only [pq]
  refine gf (wE _ _) ?_
  refine gl vY c2 0 ?_
  refine gv (.agg #[(nI (g.commits.length + 1)), (.slice x1 t.writes.length y1)]) (fun _ _ => aJ (ps := #[(0, (nI (g.commits.length + 1))), (1, (.slice x1 t.writes.length y1))]) (eZ rfl rfl) (by kernel_rfl)) ?_
  simp only [pq]
  refine dJ rfl rfl (fun ba p3 _ => kI (cs := [(iI 0), Zn]) (sB _) rfl p3) (fun bb => ?_)
  refine bN ?_
  intro bc h2 d8
  obtain ⟨f0, rfl, d9, h3⟩ := d8.getR 9 rfl rfl
  have l7 : ∀ u ∈ [(.int .i64 0), (.slice none 0 0)], ∀ x, u ≠ bv x := by intro u hu x; simp only [List.mem_cons, List.not_mem_nil, or_false] at hu; rcases hu with rfl | rfl <;> (unfold bv; simp)
  clear d8
  have p4 := St.addBlk (cs := [(.int .i64 0), (.slice none 0 0)]) c2 (Gr.of_below c2.sat h2) d9 (c2.sat.out d9) h3
  simp only [cW]
  refine sW 0 p4 (eN) fun bd a3 => ?_
  simp only [pq]
  refine wlK h1 ?_
  refine aF fun be e0 => ?_
  have hfa := xZ hg (Nat.le_refl _)
  have hfo := yA hg (Nat.le_refl _)
  obtain ⟨h4, e1, e2, e3, h5, h7⟩ := XF (a3.own (i := 1) rfl) hfa
  cases hap : gJ (g.forest g.commits.length) t.writes with
  | none =>
   refine aQ F 18 [(13, .made (fun F' u => VK [] 11 F' u)), (15, .made (fun F' u => Tns F' u [])), (16, .is (iI 11))] (by kernel_rfl) (by kernel_rfl) ?_
   simp only [cV]
   refine gm ?_
   refine gi ?_
   refine gf (nX _ _) ?_
   simp only [pq]
   refine gl pU a3 2 ?_
   refine gm ?_
   refine gi ?_
   simp only [pq]
   refine gf (gR _ _) ?_
   refine gl iS a3 2 ?_
   refine gv (nI g.commits.length) (fun _ _ => qR Tryz.underlying109 rfl) ?_
   simp only [pq]
   refine gv (pP h4 (0 + g.commits.length * 1)) (fun _ _ => bK (i := g.commits.length) (sz := 1) Tryz.underlying106 (pT _) rfl e1 rfl (by omega) rfl) ?_
   refine gv _ (fun _ b6 => aE rfl (aT (tJ _) (nH b6 h5))) ?_
   refine gf (sC _ _) ?_
   simp only [pq]
   refine gl vY a3 0 ?_
   simp only [pq]
   refine dJ rfl rfl (fun h8 b6 hF => bX (cP (vs := #[(.slice e2 (g.forest g.commits.length).length e3), (.slice x1 t.writes.length y1)]) (iX rfl rfl) rfl (xP _ _)) (dI a3.sat b6 (wN ((St.tells a3 b6)).sat h7 r1 hfo htok.writes (SU htok.writes htok.nw hap)))) (fun bf => ?_)
   refine gm ?_
   simp only [pq]
   refine dJ rfl rfl (fun h8 b6 hF_ => ?_) (fun bg => ?_)
   obtain ⟨p5, p6, _, rfl, h9⟩ := hF_.get 13 (by kernel_rfl) rfl rfl
   exact fY (cA rfl rfl) ⟨p5, p6, h9⟩ (Below.refl _ _)
   simp only [pq]
   refine jC rfl rfl (v := (iI 11)) (fun h8 b6 hF_ => ?_) ?_
   obtain ⟨bh, bi, _, rfl, u3⟩ := hF_.get 13 (by kernel_rfl) rfl rfl
   exact xB (cA rfl rfl)
   refine ga ?_
   refine bN ?_
   intro bj u4 e4
   obtain ⟨p7, i0, p8⟩ := e4.get 15 rfl rfl
   have p9 := St.gives a3 i0
   have c3 : Le _ _ := i0.le a3.sat
   have f1 := p8
   generalize p7 = bk at *
   obtain ⟨q0, q1, rfl, bl, bm⟩ := Sl.shape f1
   have f1 : Tns _ (.slice q0 ([] : aP).length q1) [] := f1
   clear e4
   simp only [cW]
   refine dy ?_
   simp only [pq]
   refine wlK e0 ?_
   refine aF fun bn u5 => ?_
   refine sk fun bo i1 => ?_
   refine dx ?_
   refine dr bT (cC (b := true) rfl rfl (by decide)) ?_
   refine wn i1 ?_
   refine aK ?_
   refine sk fun bp i2 => ?_
   refine aC ?_
   have q2 := St.perm p9 (List.perm_middle (l₁ := [_, _]))
   have i4 : EngM _ _ _ _ n (g.setTxn s none) _ := ⟨_, _, _, _, _, _, _, _, _, _, _, q2, (hd.mono c3), (dU c6 c3)⟩
   refine doC rfl (fn3 (kZ _ _)) (gU _ _ _ _ _ _ _ s 11 i4 hq) ?_
   rintro _ bq ⟨rfl, br, i5, i6⟩
   refine ⟨_, rfl, ?_⟩
   obtain ⟨u6, u7, u8, u9, v0, v1, v2, v3, v4, v5, v6, q3, i7, i8⟩ := i6
   refine wn i2 ?_
   refine aO ?_
   try simp only [xt]
   refine bR (iN rfl) ?_
   have i9 : EngM _ _ _ _ n ((g.setTxn s none).reply (cX s 11)) _ := ⟨_, _, _, _, _, _, _, _, _, _, _, q3, i7, i8⟩
   rw [show g.commit s t = ((g.setTxn s none).reply (cX s 11)) from by unfold Eng.commit; rw [if_neg hw, if_neg hno, if_neg (by rw [hcl]; decide), hap]]
   exact ⟨rfl, _, (c3.trans i5), (i9.drop (.cons _ (.cons _ (List.Sublist.refl _))))⟩
  | some f =>
   refine aQ F 18 [(13, .made (fun F' u => VK f 0 F' u)), (15, .made (fun F' u => Tns F' u f)), (16, .is (iI 0))] (by kernel_rfl) (by kernel_rfl) ?_
   simp only [cV]
   refine gm ?_
   refine gi ?_
   refine gf (nX _ _) ?_
   simp only [pq]
   refine gl pU a3 2 ?_
   refine gm ?_
   refine gi ?_
   simp only [pq]
   refine gf (gR _ _) ?_
   refine gl iS a3 2 ?_
   refine gv (nI g.commits.length) (fun _ _ => qR Tryz.underlying109 rfl) ?_
   simp only [pq]
   refine gv (pP h4 (0 + g.commits.length * 1)) (fun _ _ => bK (i := g.commits.length) (sz := 1) Tryz.underlying106 (pT _) rfl e1 rfl (by omega) rfl) ?_
   refine gv _ (fun _ b7 => aE rfl (aT (tJ _) (nH b7 h5))) ?_
   refine gf (sC _ _) ?_
   simp only [pq]
   refine gl vY a3 0 ?_
   simp only [pq]
   refine dJ rfl rfl (fun j0 b7 hF => bX (cP (vs := #[(.slice e2 (g.forest g.commits.length).length e3), (.slice x1 t.writes.length y1)]) (iX rfl rfl) rfl (xP _ _)) (dI a3.sat b7 (wN ((St.tells a3 b7)).sat h7 r1 hfo htok.writes (OK htok.writes htok.nw hap)))) (fun bs => ?_)
   refine gm ?_
   simp only [pq]
   refine dJ rfl rfl (fun j0 b7 hF_ => ?_) (fun bt => ?_)
   obtain ⟨q4, q5, _, rfl, j1⟩ := hF_.get 13 (by kernel_rfl) rfl rfl
   exact fY (cA rfl rfl) ⟨q4, q5, j1⟩ (Below.refl _ _)
   simp only [pq]
   refine jC rfl rfl (v := (iI 0)) (fun j0 b7 hF_ => ?_) ?_
   obtain ⟨bu, bw, _, rfl, v7⟩ := hF_.get 13 (by kernel_rfl) rfl rfl
   exact xB (cA rfl rfl)
   refine ga ?_
   refine bN ?_
   intro q6 v8 e5
   obtain ⟨q7, j2, q8⟩ := e5.get 15 rfl rfl
   have a7 := St.gives a3 j2
   have a2 : Le _ _ := j2.le a3.sat
   have a8 := q8
   generalize q7 = q9 at *
   obtain ⟨a9, b3, rfl, bx, bz⟩ := Sl.shape a8
   have a8 : Tns _ (.slice a9 f.length b3) f := a8
   clear e5
   simp only [cW]
   refine dy ?_
   simp only [pq]
   refine wlK e0 ?_
   refine aF fun ca j3 => ?_
   refine sk fun cb j4 => ?_
   refine dx ?_
   refine dr bF (cC (b := false) rfl rfl (by decide)) ?_
   refine wn j4 ?_
   refine aG ?_
   refine aI ?_
   refine j3 _ _ ?_
   refine aF fun ce j5 => ?_
   have hcm : CmOk (⟨g.commits.length + 1, t.writes⟩ : Cm) := ⟨⟨by simp, by simp only; omega⟩, ⟨XC htok hw, htok.nw⟩, htok.writes⟩
   refine mI q9 [0, 1, 2, 3, 4, 5, 6, 7, 9] 8 10 [11] [(5, .made (fun F' u => Bf (⟨g.tape.data ++ bJ (⟨(g.commits.length + 1), t.writes⟩ : Cm), g.tape.synced⟩ : Tp) 0 F' u)), (7, .made (fun F' u => TpV F' u (⟨g.tape.data ++ bJ (⟨(g.commits.length + 1), t.writes⟩ : Cm), g.tape.synced⟩ : Tp))), (9, .rel (NewAt q6 [Zn, (iI 0)] 108) (NewAt.stable _ _ _)), (8, .is (iI 0))] (by kernel_rfl) (by kernel_rfl) rfl rfl rfl rfl ?_
   simp only [iZ, List.getElem?_cons_succ, List.getElem?_cons_zero, List.map_cons, List.map_nil]
   refine cQ rfl rfl (pP n 0) (fun a5 a4 => aN (gF _)) ?_
   simp only [pq]
   refine cQ rfl rfl (pP n 0) (fun a5 a4 => aN (lP rfl)) ?_
   simp only [pq]
   refine cQ rfl rfl (pP n 1) (fun a5 a4 => aN (ef (pW _ _))) ?_
   simp only [pq]
   refine cQ rfl rfl (.agg #[(.slice ad g.tape.data.length cd), (nI g.tape.synced)]) (fun a5 a4 => aN (aE rfl (kW (cs := [(.slice ad g.tape.data.length cd), (nI g.tape.synced)]) Tryz.underlying108 rfl (bL) (St.range (St.tells a7 a4) (i := 2) rfl 1 [(.slice ad g.tape.data.length cd), (nI g.tape.synced)] (eF 1 rfl))))) ?_
   simp only [pq]
   refine cQ rfl rfl (.agg #[(nI (g.commits.length + 1)), (.slice x1 t.writes.length y1)]) (fun a5 a4 => aN (aE rfl (kW (cs := [(nI (g.commits.length + 1)), (.slice x1 t.writes.length y1)]) Tryz.underlying168 rfl (eN) (St.range (St.tells a7 a4) (i := 0) rfl 0 [(nI (g.commits.length + 1)), (.slice x1 t.writes.length y1)] (eF 0 rfl))))) ?_
   simp only [pq]
   refine kJ rfl rfl (fun a5 a4 hF => bX (cP (vs := #[(.agg #[(.slice ad g.tape.data.length cd), (nI g.tape.synced)]), (.agg #[(nI (g.commits.length + 1)), (.slice x1 t.writes.length y1)])]) (iX rfl rfl) rfl (Af _ _)) (dI a7.sat a4 (KQ _ _ _ _ (⟨g.tape.data, g.tape.synced⟩ : Tp) (⟨(g.commits.length + 1), t.writes⟩ : Cm) ((St.tells a7 a4)).sat (hT.at (St.tells a7 a4).gr.below) ⟨_, _, rfl, (hd.mono a2)⟩ ⟨_, _, rfl, (r1.mono a2)⟩ (⟨by simp only; omega, by simp only; omega⟩) hcm))) (fun r2 => ?_)
   simp only [pq]
   refine cQ rfl rfl r2 (fun a5 a4 => aN (gF _)) ?_
   simp only [pq]
   refine kJ rfl rfl (fun a5 a4 hF_ => ?_) (fun cg => ?_)
   obtain ⟨r3, r4, _, rfl, j6⟩ := hF_.get 5 (by kernel_rfl) rfl rfl
   exact fY (cA rfl rfl) ⟨r3, r4, j6⟩ (Below.refl _ _)
   simp only [pq]
   refine kJ rfl rfl (fun a5 a4 _ => kI (cs := [Zn, (iI 0)]) (jF _) rfl a4) (fun ch => ?_)
   simp only [pq]
   refine BO (JL rfl rfl (v := (iI 0)) (fun a5 a4 hF_ => ?_) ?_)
   obtain ⟨ci, cj, _, rfl, v9⟩ := hF_.get 5 (by kernel_rfl) rfl rfl
   exact fun w1 => aN (cA rfl rfl)
   intro ck w2 c4
   obtain ⟨f2, rfl, e6, e7⟩ := c4.getR 9 rfl rfl
   have c7 : ∀ u ∈ [(.slice none 0 0), (.int .i64 0)], ∀ x, u ≠ bv x := by intro u hu x; simp only [List.mem_cons, List.not_mem_nil, or_false] at hu; rcases hu with rfl | rfl <;> (unfold bv; simp)
   obtain ⟨r5, j7, r6⟩ := c4.get 7 rfl rfl
   have j8 := j7.dropF a7.sat e6
   have r7 := TpV.dropT j7.sat e7 c7 r6
   have r8 := St.addBlk (cs := [(.slice none 0 0), (.int .i64 0)]) a7 j8 e6 (qA _ _) e7
   have a1 : Le _ _ := j8.le a7.sat
   have r9 := r7
   generalize (dropF r5 f2) = f3 at *
   obtain ⟨b9, c0, rfl, c8⟩ := r9
   have c8 : Bs _ (.slice b9 (g.tape.data ++ bJ (⟨(g.commits.length + 1), t.writes⟩ : Cm)).length c0) (g.tape.data ++ bJ (⟨(g.commits.length + 1), t.writes⟩ : Cm)) := c8
   clear c4
   refine BQ (i := 0) (v := (.agg #[(.slice b9 (g.tape.data ++ bJ (⟨(g.commits.length + 1), t.writes⟩ : Cm)).length c0), (nI g.tape.synced)])) r8 rfl rfl rfl (bL) (Ch rfl rfl) (Nat.le_of_ble_eq_true rfl) (fun cl j9 => ?_)
   refine dy ?_
   simp only [pq]
   refine wlK j5 ?_
   refine aF fun cm k0 => ?_
   refine sk fun cn k1 => ?_
   refine dx ?_
   refine dr bF (cC (b := false) rfl rfl (by decide)) ?_
   refine wn k1 ?_
   refine aG ?_
   refine aI ?_
   refine k0 _ _ ?_
   refine sk fun co k2 => ?_
   iterate 2 refine dx ?_
   refine dR j9 0 Tryz.underlying108 (bL) ?_
   refine aC ?_
   refine sW 3 j9 (bL) fun s0 f4 => ?_
   simp only [pq]
   have f4 : St w0 F0 s0 f3 (⟨f2, [(.slice b9 (g.tape.data ++ bJ (⟨(g.commits.length + 1), t.writes⟩ : Cm)).length c0), (nI g.tape.synced)], 108⟩ :: ⟨f0, [(nI (g.commits.length + 1)), (.slice x1 t.writes.length y1)], 168⟩ :: ⟨n5, [(.int .i64 t.start), (.slice x0 t.reads.length y0), (.slice x1 t.writes.length y1)], 141⟩ :: ⟨n, lZ g.up (.slice b9 (g.tape.data ++ bJ (⟨(g.commits.length + 1), t.writes⟩ : Cm)).length c0) g.tape.synced (.slice ac g.commits.length cc) (.slice af g.forests.length cf) g.synced (iJ pv s (.pointer none)) g.waits (.slice aw g.waiting.length cw) (.slice ar g.replies.length cr), 115⟩ :: L) (oJ w0.heap.size (.slice ac g.commits.length cc) g.commits (.slice af g.forests.length cf) g.forests (.slice aw g.waiting.length cw) g.waiting (.slice ar g.replies.length cr) g.replies) := f4
   refine aC ?_
   refine fK (i := 3) (v := bT) f4 rfl rfl rfl rfl (uO) (mF rfl) (by rw [lC]; simp only [Value.cells]; exact Nat.le_of_lt_succ (by simp only [List.size_toArray, List.length_cons, List.length_nil]; omega)) (fun k3 c9 => ?_)
   simp only [pq]
   have c9 : St w0 F0 k3 f3 (⟨f2, [(.slice b9 (g.tape.data ++ bJ (⟨(g.commits.length + 1), t.writes⟩ : Cm)).length c0), (nI g.tape.synced)], 108⟩ :: ⟨f0, [(nI (g.commits.length + 1)), (.slice x1 t.writes.length y1)], 168⟩ :: ⟨n5, [(.int .i64 t.start), (.slice x0 t.reads.length y0), (.slice x1 t.writes.length y1)], 141⟩ :: ⟨n, bQ (lZ g.up (.slice b9 (g.tape.data ++ bJ (⟨(g.commits.length + 1), t.writes⟩ : Cm)).length c0) g.tape.synced (.slice ac g.commits.length cc) (.slice af g.forests.length cf) g.synced (iJ pv s (.pointer none)) g.waits (.slice aw g.waiting.length cw) (.slice ar g.replies.length cr)) (6 + s * 2 + 1) [bT], 115⟩ :: L) (oJ w0.heap.size (.slice ac g.commits.length cc) g.commits (.slice af g.forests.length cf) g.forests (.slice aw g.waiting.length cw) g.waiting (.slice ar g.replies.length cr) g.replies) := c9
   rw [CI hs8] at c9
   refine wn k2 ?_
   refine aF fun cp e8 => ?_
   obtain ⟨s1, a0, k4⟩ := St.freezeBlk c9 (i := 1) rfl
   generalize addF f3 k3 f0 = cq at *
   refine iG s1 (by kernel_rfl) (fun ct a6 => ?_)
   refine eD 0 rfl a6.sat ?_
   simp only [pq]
   refine eD 1 rfl a6.sat ?_
   simp only [pq]
   refine ER 2 rfl a6.sat ?_
   simp only [pq]
   refine bM 3 rfl _ a6.sat (fun _ _ => ef (gR _ _)) ?_
   simp only [pq]
   refine bM 5 rfl (.agg #[(nI (g.commits.length + 1)), (.slice x1 t.writes.length y1)]) a6.sat (fun _ k5 => aE rfl (kW (cs := [(nI (g.commits.length + 1)), (.slice x1 t.writes.length y1)]) Tryz.underlying168 rfl (eN) (CJ (c := [(nI (g.commits.length + 1)), (.slice x1 t.writes.length y1)]) (St.start k5).sat k4))) ?_
   simp only [pq]
   refine WP 4 6 (by kernel_rfl) rfl rfl ?_ ?_
   refine dl (iS _) a6 2 ?_
   refine aH (dB a6.sat ?_)
   refine dQ 6 (by kernel_rfl) rfl ?_
   refine aZ a6 (v := fun n => .slice (aA n 0) 1 1) rfl (bS (ps := #[(0, (.agg #[(nI (g.commits.length + 1)), (.slice x1 t.writes.length y1)]))]) (cells := #[(nI (g.commits.length + 1)), (.slice x1 t.writes.length y1)]) (E := 168) (cG rfl) (fun w => by kernel_rfl)) (fun cu cv f5 => ?_)
   refine aH (dB f5.sat ?_)
   refine dQ 7 (by kernel_rfl) rfl ?_
   refine eK (i := 0) (r := 0) (p := (⟨g.commits.length + 1, t.writes⟩ : Cm)) (cs := [(nI (g.commits.length + 1)), (.slice x1 t.writes.length y1)]) f5 rfl g0 (.agg #[(iI 0), Zn]) 32 Tryz.underlying109 d4 d5 d6 d7 rfl (by decide) rfl rfl rfl rfl rfl (CmC.oneCell (p := (⟨g.commits.length + 1, t.writes⟩ : Cm)) ⟨_, _, rfl, rfl, (r1.mono ((a2.trans a1).trans a0))⟩) (⟨_, _, rfl, rfl, (r1.mono ((a2.trans a1).trans a0))⟩) (Nat.le_refl _) f5.gr.below.size (by unfold maxLen; omega) (by omega) ?_
   intro cx cy b4 w3
   simp only [pq]
   have b4 := St.drop b4 (.cons _ (List.Sublist.refl _))
   obtain ⟨cz, s2, rfl, db, s3⟩ := (b4.own (i := 0) rfl).shape
   unfold maxLen at s3
   refine aH (dB b4.sat ?_)
   refine ER 8 rfl b4.sat ?_
   simp only [pq]
   refine bM 9 rfl _ b4.sat (fun _ _ => ef (gR _ _)) ?_
   simp only [pq]
   refine dQ 10 (by kernel_rfl) rfl ?_
   refine sW 2 b4 (AZ) fun dc k6 => ?_
   refine aH (dB k6.sat ?_)
   refine jP (by kernel_rfl) ?_
   refine e8 _ _ ?_
   refine sk fun dd k7 => ?_
   refine aC ?_
   refine aZ k6 (v := fun n => .slice (aA n 0) 1 1) rfl (bS (ps := #[(0, (.slice a9 f.length b3))]) (cells := #[(.slice a9 f.length b3)]) (E := 24) (cG rfl) (fun w => by kernel_rfl)) (fun dg dh k8 => ?_)
   refine eK (i := 0) (r := 1) (p := f) (cs := [(.slice a9 f.length b3)]) k8 rfl u0 Zn 24 Tryz.underlying106 f6 f7 f8 f9 rfl (by decide) rfl rfl rfl rfl rfl (FoC.oneCell (p := f) ⟨_, rfl, (a8.mono (a1.trans a0))⟩) (⟨_, rfl, (a8.mono (a1.trans a0))⟩) (Nat.le_refl _) k8.gr.below.size (by unfold maxLen; omega) (by omega) ?_
   intro dj dk d0 w4
   simp only [pq]
   have d0 := St.drop d0 (.cons _ (List.Sublist.refl _))
   obtain ⟨dm, s4, rfl, dq, s5⟩ := (d0.own (i := 1) rfl).shape
   unfold maxLen at s5
   refine aC ?_
   refine sW 2 d0 (AY) fun ds s6 => ?_
   simp only [pq]
   refine wn k7 ?_
   refine aB ?_
   refine aC ?_
   refine aZ s6 (v := fun n => .slice (aA n 0) 1 1) rfl (bS (ps := #[(0, (nI s))]) (cells := #[(nI s)]) (E := 3) (cG rfl) (fun w => by kernel_rfl)) (fun du dv k9 => ?_)
   refine eK (i := 0) (r := 2) (p := s) (cs := [(nI s)]) k9 rfl i3 (iI 0) 8 Tryz.underlying60 hi3 hz3 hs3 hb3 rfl (by decide) rfl rfl rfl rfl rfl (NtC.oneCell (F := F) (p := s) rfl) (rfl) (Nat.le_refl _) k9.gr.below.size (by unfold maxLen; omega) (by omega) ?_
   intro dw dz d1 w5
   simp only [pq]
   have d1 := St.drop d1 (.cons _ (List.Sublist.refl _))
   obtain ⟨ea, s7, rfl, eb, s8⟩ := (d1.own (i := 2) rfl).shape
   unfold maxLen at s8
   refine aC ?_
   refine sW 2 d1 (zJ) fun ec s9 => ?_
   simp only [pq]
   refine aH ?_
   try simp only [xt]
   refine bE (iN rfl) ?_
   have t0 := St.perm s9 (List.perm_middle (l₁ := [_, _]))
   have l0 : EngM _ _ _ _ n (g.stand s t f) _ := ⟨_, _, _, _, _, _, _, _, _, _, _, t0, (c8.mono a0), (dU c6 ((a2.trans a1).trans a0))⟩
   rw [show g.commit s t = (g.stand s t f) from by unfold Eng.commit; rw [if_neg hw, if_neg hno, if_neg (by rw [hcl]; decide), hap]]
   exact ⟨rfl, _, ((a2.trans a1).trans a0), (l0.drop (.cons _ (.cons _ (List.Sublist.refl _))))⟩
   refine aZ a6 (v := fun n => .slice (aA n 0) 1 1) rfl (bS (ps := #[(0, (.agg #[(nI (g.commits.length + 1)), (.slice x1 t.writes.length y1)]))]) (cells := #[(nI (g.commits.length + 1)), (.slice x1 t.writes.length y1)]) (E := 168) (cG rfl) (fun w => by kernel_rfl)) (fun ed ee c5 => ?_)
   refine aH (dB c5.sat ?_)
   refine dQ 4 (by kernel_rfl) rfl ?_
   refine dl (iS _) c5 3 ?_
   refine aH (dB c5.sat ?_)
   refine dQ 7 (by kernel_rfl) rfl ?_
   refine eK (i := 0) (r := 0) (p := (⟨g.commits.length + 1, t.writes⟩ : Cm)) (cs := [(nI (g.commits.length + 1)), (.slice x1 t.writes.length y1)]) c5 rfl g0 (.agg #[(iI 0), Zn]) 32 Tryz.underlying109 d4 d5 d6 d7 rfl (by decide) rfl rfl rfl rfl rfl (CmC.oneCell (p := (⟨g.commits.length + 1, t.writes⟩ : Cm)) ⟨_, _, rfl, rfl, (r1.mono ((a2.trans a1).trans a0))⟩) (⟨_, _, rfl, rfl, (r1.mono ((a2.trans a1).trans a0))⟩) (Nat.le_refl _) c5.gr.below.size (by unfold maxLen; omega) (by omega) ?_
   intro eg eh b5 w7
   simp only [pq]
   have b5 := St.drop b5 (.cons _ (List.Sublist.refl _))
   obtain ⟨ei, t1, rfl, ej, t2⟩ := (b5.own (i := 0) rfl).shape
   unfold maxLen at t2
   refine aH (dB b5.sat ?_)
   refine ER 8 rfl b5.sat ?_
   simp only [pq]
   refine bM 9 rfl _ b5.sat (fun _ _ => ef (gR _ _)) ?_
   simp only [pq]
   refine dQ 10 (by kernel_rfl) rfl ?_
   refine sW 2 b5 (AZ) fun ek l1 => ?_
   refine aH (dB l1.sat ?_)
   refine jP (by kernel_rfl) ?_
   refine e8 _ _ ?_
   refine sk fun el l2 => ?_
   refine aC ?_
   refine aZ l1 (v := fun n => .slice (aA n 0) 1 1) rfl (bS (ps := #[(0, (.slice a9 f.length b3))]) (cells := #[(.slice a9 f.length b3)]) (E := 24) (cG rfl) (fun w => by kernel_rfl)) (fun em en l3 => ?_)
   refine eK (i := 0) (r := 1) (p := f) (cs := [(.slice a9 f.length b3)]) l3 rfl u0 Zn 24 Tryz.underlying106 f6 f7 f8 f9 rfl (by decide) rfl rfl rfl rfl rfl (FoC.oneCell (p := f) ⟨_, rfl, (a8.mono (a1.trans a0))⟩) (⟨_, rfl, (a8.mono (a1.trans a0))⟩) (Nat.le_refl _) l3.gr.below.size (by unfold maxLen; omega) (by omega) ?_
   intro eo ep d2 w9
   simp only [pq]
   have d2 := St.drop d2 (.cons _ (List.Sublist.refl _))
   obtain ⟨eq, t3, rfl, er, t4⟩ := (d2.own (i := 1) rfl).shape
   unfold maxLen at t4
   refine aC ?_
   refine sW 2 d2 (AY) fun es t5 => ?_
   simp only [pq]
   refine wn l2 ?_
   refine aB ?_
   refine aC ?_
   refine aZ t5 (v := fun n => .slice (aA n 0) 1 1) rfl (bS (ps := #[(0, (nI s))]) (cells := #[(nI s)]) (E := 3) (cG rfl) (fun w => by kernel_rfl)) (fun et eu l4 => ?_)
   refine eK (i := 0) (r := 2) (p := s) (cs := [(nI s)]) l4 rfl i3 (iI 0) 8 Tryz.underlying60 hi3 hz3 hs3 hb3 rfl (by decide) rfl rfl rfl rfl rfl (NtC.oneCell (F := F) (p := s) rfl) (rfl) (Nat.le_refl _) l4.gr.below.size (by unfold maxLen; omega) (by omega) ?_
   intro ew ex d3 x2
   simp only [pq]
   have d3 := St.drop d3 (.cons _ (List.Sublist.refl _))
   obtain ⟨ey, t6, rfl, ez, t7⟩ := (d3.own (i := 2) rfl).shape
   unfold maxLen at t7
   refine aC ?_
   refine sW 2 d3 (zJ) fun fa t8 => ?_
   simp only [pq]
   refine aH ?_
   try simp only [xt]
   refine bE (iN rfl) ?_
   have t9 := St.perm t8 (List.perm_middle (l₁ := [_, _]))
   have l5 : EngM _ _ _ _ n (g.stand s t f) _ := ⟨_, _, _, _, _, _, _, _, _, _, _, t9, (c8.mono a0), (dU c6 ((a2.trans a1).trans a0))⟩
   rw [show g.commit s t = (g.stand s t f) from by unfold Eng.commit; rw [if_neg hw, if_neg hno, if_neg (by rw [hcl]; decide), hap]]
   exact ⟨rfl, _, ((a2.trans a1).trans a0), (l5.drop (.cons _ (.cons _ (List.Sublist.refl _))))⟩
theorem pE (F : Fz) (w : World) (u v y z : Value) (l : aP) (t : Tx) (n k : By) {b : Bool} (hs : Sat w F) (hl : Tns F u l) (hv : TxV F v t) (hn : Bs F y n) (hk : Bs F z k) (hf : ForestOk 60 l) (ht : TxOk t) (hnn : 1 ≤ n.length ∧ n.length ≤ 8) (hkk : 1 ≤ k.length ∧ k.length ≤ 16) (h : (cJ l t n k).2 = b) :
    Calls Tryz.prog 89 #[u, v, y, z] w (dO w F (Cj (cJ l t n k).1 b 0)) := by
 subst h; exact RV F w u v y z l t n k hs hl hv hn hk hf ht hnn hkk
theorem yT (F : Fz) (w : World) (u v y z x : Value) (l : aP) (t : Tx) (n k j : By) {o : Option (List Pr)} (hs : Sat w F) (hl : Tns F u l) (hv : TxV F v t) (hn : Bs F y n) (hk : Bs F z k) (hj : Bs F x j) (hf : ForestOk 60 l) (ht : TxOk t) (hnn : 1 ≤ n.length ∧ n.length ≤ 8) (hkk : 1 ≤ k.length ∧ k.length ≤ 16) (hjj : 1 ≤ j.length ∧ j.length ≤ 16) (h : IP l t n k j = o) :
    Calls Tryz.prog 91 #[u, v, y, z, x] w (dO w F (PrsE (o.getD []) (if o.isSome then 0 else 11))) := by
 have := NR F w u v y z x l t n k j hs hl hv hn hk hj hf ht hnn hkk hjj
 rw [h] at this
 cases o <;> exact this
theorem XI {m : Nat} {g : Eng} (h : EngOk m g) {s : Nat} {t : Tx} (ht : g.txn s = some t) : ∃ k : Nat, t.start = (k : Int) ∧ k ≤ g.commits.length ∧ t.start.toNat = k := by
 obtain ⟨h1, h2⟩ := h.txns s t ht
 have := h.sync
 have := h1.start
 exact ⟨t.start.toNat, by omega, by omega, rfl⟩
theorem XJ {F : Fz} {b : Nat} {z : Int} {k : Nat} (h : bH F b 0 = some (.int .i64 z)) (e : z = (k : Int)) : bH F b 0 = some (.int .i64 ((k : Nat) : Int)) := by rw [← e]; exact h
theorem XK {k : Nat} {r : Rq} {j : Nat} (ok : RqOk k r) (hk : k = j) (hj : j = 2 ∨ j = 3 := by decide) : (1 ≤ r.name.length ∧ r.name.length ≤ 8) ∧ (1 ≤ r.key.length ∧ r.key.length ≤ 16) ∧ (j = 3 → 1 ≤ r.last.length ∧ r.last.length ≤ 16) := by
 subst hk
 obtain ⟨h1, h2, h3, h4, h5, h6⟩ := WW ok (by omega)
 exact ⟨h1, h2, h5⟩
theorem XL (w0 : World) (F0 : Fz) (w : World) (F : Fz) (n : Nat) (g : Eng) (L : List Blk) {m : Nat} (s : Nat) (hs8 : s < 8) (u : Value) (t : Tx) (k : Nat) (r : Rq) (hM : EngM w0 F0 w F n g L) (hh : Has w0) (hT : Tabs w0) (hg : EngOk m g) (hm : m ≤ 149) (hts : g.txn s = some t) (hv : CF F u k r.name r.key r.last r.value) (ok : RqOk k r) (hk1 : k ≠ 1 ∧ k ≠ 7 ∧ k ≠ 8) (hq : g.replies.length ≤ 100000) :
    Calls Tryz.prog 81 #[.pointer (some ⟨n, 0, none⟩), .int .i64 ((s : Nat) : Int), .pointer (some ⟨n, 6 + s * 2, none⟩), u] w (xA w0 F0 F n (g.work s t k r) L) := by
 obtain ⟨_, _, _, _, rfl, q0, q1, q2, q3⟩ := hv
 obtain ⟨a0, c0, rfl, _⟩ := q0.shape
 obtain ⟨a1, c1, rfl, _⟩ := q1.shape
 obtain ⟨a2, c2, rfl, _⟩ := q2.shape
 obtain ⟨a3, c3, rfl, _⟩ := q3.shape
 obtain ⟨ad, cd, ac, cc, af, cf, aw, cw, ar, cr, pv, S, hd, ht⟩ := hM
 have hb := ht s hs8
 rw [hts] at hb
 obtain ⟨b, x0, y0, x1, y1, hp, b0, b1, b2, r0, r1⟩ := hb
 have htok := (hg.txns s t hts).1
 have hsy := hg.sync
 have hst := hg.states
 go_enter Tryz.func81, Tryz.ntmps81
 refine sk fun K4 hK4 => ?_
 refine aZ S (v := fun n => .pointer (aA n 0)) rfl (bW (v := (.agg #[(nI k), (.slice a0 r.name.length c0), (.slice a1 r.key.length c1), (.slice a2 r.last.length c2), (.slice a3 r.value.length c3)])) rfl) (fun n5 w6 S7 => ?_)
 refine wn hK4 ?_
 refine aF fun K8 hK8 => ?_
 obtain ⟨st, hst1, hst2, hst3⟩ := XI hg hts
 have hfa := xZ hg hst2
 have hfo := yA hg hst2
 have b0n := XJ b0 hst1
 obtain ⟨g9, aa, k9, l0, ma, k7⟩ := XF (S7.own (i := 1) rfl) hfa
 refine aQ F 11 [] (by kernel_rfl) (by kernel_rfl) ?_
 simp only [cV]
 refine gm ?_
 refine gi ?_
 refine gf (nX _ _) ?_
 simp only [pq]
 refine gl pU S7 1 ?_
 refine gm ?_
 refine gi ?_
 simp only [pq]
 refine gf (dZ _ _) ?_
 refine gv _ (fun _ ab => aE rfl (aT (eC _) (St.cell (St.tells S7 ab) (i := 1) rfl ((eI hs8).trans (congrArg some hp))))) ?_
 refine gi ?_
 simp only [pq]
 refine gf (kY _ _) ?_
 refine gv _ (fun _ ab => aE rfl (aT (bU _) (St.fz (St.tells S7 ab) b0n))) ?_
 refine bN ?_
 intro mb l1 ae
 clear ae
 have c7 := St.tells S7 l1
 simp only [cW]
 refine dr (pP g9 (0 + st * 1)) (bK (i := st) (sz := 1) Tryz.underlying106 (pT _) rfl aa rfl (by omega) rfl) ?_
 refine dr _ (aE rfl (aT (tJ _) (nH l1 ma))) ?_
 refine dy ?_
 simp only [pq]
 refine wlK hK8 ?_
 refine aF fun rz ag => ?_
 subst hst3
 refine aB ?_
 refine aC ?_
 refine wlK ag ?_
 refine aM ?_
 refine aF fun sa g0 => ?_
 rcases (by have := ok.kind; omega : k = 2 ∨ k = 3 ∨ k = 6 ∨ (k = 4 ∨ k = 5)) with hk | hk | hk | hk
 have hq4 := XK ok hk
 refine aB ?_
 refine iR ?_
 refine dy ?_
 simp only [pq]
 refine wlK g0 ?_
 refine aK ?_
 refine aF fun sb g1 => ?_
 obtain ⟨em, a4, d8⟩ := St.freezeBlk c7 (i := 0) rfl
 generalize addF F mb n5 = sd at *
 cases hlk : (cJ (g.forest t.start.toNat) t r.name r.key).2 with
 | true =>
  refine FF (i := 0) em rfl (by kernel_rfl) (fun se d7 => ?_)
  refine tC 0 rfl (eX (i := 0) d7 (Le.refl _) rfl) ?_
  simp only [pq]
  refine tC 1 rfl (eX (i := 0) d7 (Le.refl _) rfl) ?_
  simp only [pq]
  refine QP 2 rfl (eX (i := 0) d7 (Le.refl _) rfl) ?_
  simp only [pq]
  refine lD 3 rfl _ (eX (i := 0) d7 (Le.refl _) rfl) (fun _ _ => ef (dZ _ _)) ?_
  simp only [pq]
  refine lD 4 rfl _ (eX (i := 0) d7 (Le.refl _) rfl) (fun _ ah => aE rfl (aT (eC _) (Cq ah.2 ((eI hs8).trans (congrArg some hp))))) ?_
  simp only [pq]
  refine QP 5 rfl (eX (i := 0) d7 (Le.refl _) rfl) ?_
  simp only [pq]
  refine lD 6 rfl (.agg #[(.int .i64 t.start), (.slice x0 t.reads.length y0), (.slice x1 t.writes.length y1)]) (eX (i := 0) d7 (Le.refl _) rfl) (fun _ j4 => aE rfl (kW (cs := [(.int .i64 t.start), (.slice x0 t.reads.length y0), (.slice x1 t.writes.length y1)]) Tryz.underlying141 rfl (aU) (qS (St.fz (St.start j4.1) (Le.cell a4 b0)) (St.fz (St.start j4.1) (Le.cell a4 b1)) (St.fz (St.start j4.1) (Le.cell a4 b2))))) ?_
  simp only [pq]
  refine lD 7 rfl _ (eX (i := 0) d7 (Le.refl _) rfl) (fun _ _ => ef (wF _ _)) ?_
  simp only [pq]
  refine lD 8 rfl _ (eX (i := 0) d7 (Le.refl _) rfl) (fun _ ai => aE rfl (aT (bD _) (St.fz (St.start ai.1) (d8 1 _ rfl)))) ?_
  simp only [pq]
  refine lD 9 rfl _ (eX (i := 0) d7 (Le.refl _) rfl) (fun _ _ => ef (wG _ _)) ?_
  simp only [pq]
  refine lD 10 rfl _ (eX (i := 0) d7 (Le.refl _) rfl) (fun _ aj => aE rfl (aT (bD _) (St.fz (St.start aj.1) (d8 2 _ rfl)))) ?_
  simp only [pq]
  refine XG 11 16 (by kernel_rfl) rfl rfl ?_ ?_
  refine aY d7 rfl (fn4 (GU _ _)) (pE _ _ _ _ _ _ (g.forest t.start.toNat) t r.name r.key (b := true) (d7).sat (k7.mono a4) ⟨_, _, _, _, rfl, (r0.mono a4), (r1.mono a4)⟩ (q0.mono a4) (q1.mono a4) hfo htok hq4.1 hq4.2.1 hlk) ?_
  intro sf sg mc k8 c8 md
  obtain ⟨_, rfl, me⟩ := md
  obtain ⟨z8, z9, rfl, ak⟩ := me
  have ak : Bs _ (.slice z8 ((cJ (g.forest t.start.toNat) t r.name r.key).1.getD []).length z9) ((cJ (g.forest t.start.toNat) t r.name r.key).1.getD []) := ak
  refine aH (kE (eX (i := 0) k8 c8 rfl) ?_)
  refine tC 12 rfl (eX (i := 0) k8 c8 rfl) ?_
  simp only [pq]
  refine rN 13 rfl (eX (i := 0) k8 c8 rfl) ?_
  simp only [pq]
  refine rN 14 rfl (eX (i := 0) k8 c8 rfl) ?_
  simp only [pq]
  refine rN 15 rfl (eX (i := 0) k8 c8 rfl) ?_
  simp only [pq]
  refine pD 16 (by kernel_rfl) rfl ?_
  refine sA k8 (oU _) fun sh si en => ?_
  refine aH (kE (eX (i := 1) en c8 rfl) ?_)
  refine pD 17 (by kernel_rfl) rfl ?_
  refine sW 0 en (hJ) fun sj h6 => ?_
  refine aH (kE (eX (i := 1) h6 c8 rfl) ?_)
  refine mM 18 rfl (eX (i := 1) h6 c8 rfl) ?_
  simp only [pq]
  refine mM 19 rfl (eX (i := 1) h6 c8 rfl) ?_
  simp only [pq]
  refine zZ (by kernel_rfl) ?_
  refine g1 _ _ ?_
  refine aF fun sl al => ?_
  refine sk fun sm am => ?_
  refine aC ?_
  refine wn am ?_
  refine aG ?_
  refine aI ?_
  refine al _ _ ?_
  refine aQ mc 14 [] (by kernel_rfl) (by kernel_rfl) ?_
  simp only [cV]
  iterate 2 refine gm ?_
  simp only [pq]
  refine gm ?_
  refine gi ?_
  refine gf (dZ _ _) ?_
  simp only [pq]
  refine gv _ (fun _ an => aE rfl (aT (eC _) (St.cell (St.tells h6 an) (i := 1) rfl ((eI hs8).trans (congrArg some hp))))) ?_
  refine gi ?_
  refine gf (kY _ _) ?_
  simp only [pq]
  refine gv _ (fun _ an => aE rfl (aT (bU _) (St.fz (St.tells h6 an) (Le.cell (a4.trans c8) b0)))) ?_
  refine gf (wA _ _) ?_
  refine gl iE h6 0 ?_
  simp only [pq]
  refine gf (wB _ _) ?_
  refine gl bD h6 0 ?_
  refine gv (.agg #[(nI s), (iI 0), (.int .i64 t.start), (.bool (cJ (g.forest t.start.toNat) t r.name r.key).1.isSome), (.slice z8 ((cJ (g.forest t.start.toNat) t r.name r.key).1.getD []).length z9), Zn, Zn, bF, Zn, Zn, Zn, bF, Zn, Zn, Zn]) (fun _ _ => aJ (ps := #[(0, (nI s)), (2, (.int .i64 t.start)), (3, (.bool (cJ (g.forest t.start.toNat) t r.name r.key).1.isSome)), (4, (.slice z8 ((cJ (g.forest t.start.toNat) t r.name r.key).1.getD []).length z9))]) (mE rfl rfl rfl rfl) (by kernel_rfl)) ?_
  simp only [pq]
  refine bN ?_
  intro sn ao ap
  clear ap
  have mf := St.tells h6 ao
  simp only [cW]
  have mg := St.perm mf (List.perm_middle (l₁ := [_]))
  have aq : EngM _ _ _ _ n g _ := ⟨_, _, _, _, _, _, _, _, _, _, _, mg, (hd.mono (a4.trans c8)), (dU ht (a4.trans c8))⟩
  refine doC rfl (cP (vs := #[(pP n 0), (.agg #[(nI s), (iI 0), (.int .i64 t.start), (.bool (cJ (g.forest t.start.toNat) t r.name r.key).1.isSome), (.slice z8 ((cJ (g.forest t.start.toNat) t r.name r.key).1.getD []).length z9), Zn, Zn, bF, Zn, Zn, Zn, bF, Zn, Zn, Zn])]) (iX rfl rfl) rfl (qX _ _)) (kS _ _ _ _ _ _ _ _ (⟨s, 0, t.start, (cJ (g.forest t.start.toNat) t r.name r.key).1.isSome, (cJ (g.forest t.start.toNat) t r.name r.key).1.getD [], [], [], gZ, gZ⟩ : Rep) aq ⟨_, _, _, _, _, _, _, _, _, rfl, ak, Sl.nil _ _ _, Bs.nil _, Sl.nil _ _ _, Bs.nil _, Bs.nil _, Sl.nil _ _ _, Bs.nil _, Bs.nil _⟩ hq) ?_
  rintro _ so ⟨rfl, sp, au, av⟩
  refine ⟨_, rfl, ?_⟩
  obtain ⟨mh, mi, mj, mk, ml, mm, mn, mo, mp, eo, ep, ax, l2, l3⟩ := av
  simp only [pq]
  refine aH ?_
  try simp only [xt]
  refine bE (iN rfl) ?_
  have l4 : EngM _ _ _ _ n (g.reply (⟨s, 0, t.start, (cJ (g.forest t.start.toNat) t r.name r.key).1.isSome, (cJ (g.forest t.start.toNat) t r.name r.key).1.getD [], [], [], gZ, gZ⟩ : Rep)) _ := ⟨_, _, _, _, _, _, _, _, _, _, _, ax, l2, l3⟩
  have he : g.work s t k r = (g.reply (⟨s, 0, t.start, (cJ (g.forest t.start.toNat) t r.name r.key).1.isSome, (cJ (g.forest t.start.toNat) t r.name r.key).1.getD [], [], [], gZ, gZ⟩ : Rep)) := by
   unfold Eng.work
   rw [if_pos hk]
   unfold Eng.look
   simp only; rw [if_pos hlk]
  rw [he]
  exact ⟨rfl, _, ((a4.trans c8).trans au), (l4.drop (.cons _ (List.Sublist.refl _)))⟩
  refine sA d7 (oU _) fun mq mr j5 => ?_
  refine aH (kE (eX (i := 1) j5 (Le.refl _) rfl) ?_)
  refine pD 11 (by kernel_rfl) rfl ?_
  refine aY j5 rfl (fn4 (GU _ _)) (pE _ _ _ _ _ _ (g.forest t.start.toNat) t r.name r.key (b := true) (j5).sat (k7.mono a4) ⟨_, _, _, _, rfl, (r0.mono a4), (r1.mono a4)⟩ (q0.mono a4) (q1.mono a4) hfo htok hq4.1 hq4.2.1 hlk) ?_
  intro ms mt ay d9 b4 az
  obtain ⟨_, rfl, ba⟩ := az
  obtain ⟨g2, g3, rfl, j6⟩ := ba
  have j6 : Bs _ (.slice g2 ((cJ (g.forest t.start.toNat) t r.name r.key).1.getD []).length g3) ((cJ (g.forest t.start.toNat) t r.name r.key).1.getD []) := j6
  refine aH (kE (eX (i := 1) d9 b4 rfl) ?_)
  refine tC 12 rfl (eX (i := 1) d9 b4 rfl) ?_
  simp only [pq]
  refine rN 13 rfl (eX (i := 1) d9 b4 rfl) ?_
  simp only [pq]
  refine rN 14 rfl (eX (i := 1) d9 b4 rfl) ?_
  simp only [pq]
  refine rN 15 rfl (eX (i := 1) d9 b4 rfl) ?_
  simp only [pq]
  refine pD 17 (by kernel_rfl) rfl ?_
  refine sW 0 d9 (hJ) fun mu d4 => ?_
  refine aH (kE (eX (i := 1) d4 b4 rfl) ?_)
  refine mM 18 rfl (eX (i := 1) d4 b4 rfl) ?_
  simp only [pq]
  refine mM 19 rfl (eX (i := 1) d4 b4 rfl) ?_
  simp only [pq]
  refine zZ (by kernel_rfl) ?_
  refine g1 _ _ ?_
  refine aF fun mv l5 => ?_
  refine sk fun mw l6 => ?_
  refine aC ?_
  refine wn l6 ?_
  refine aG ?_
  refine aI ?_
  refine l5 _ _ ?_
  refine aQ ay 14 [] (by kernel_rfl) (by kernel_rfl) ?_
  simp only [cV]
  iterate 2 refine gm ?_
  simp only [pq]
  refine gm ?_
  refine gi ?_
  refine gf (dZ _ _) ?_
  simp only [pq]
  refine gv _ (fun _ j7 => aE rfl (aT (eC _) (St.cell (St.tells d4 j7) (i := 1) rfl ((eI hs8).trans (congrArg some hp))))) ?_
  refine gi ?_
  refine gf (kY _ _) ?_
  simp only [pq]
  refine gv _ (fun _ j7 => aE rfl (aT (bU _) (St.fz (St.tells d4 j7) (Le.cell (a4.trans b4) b0)))) ?_
  refine gf (wA _ _) ?_
  refine gl iE d4 0 ?_
  simp only [pq]
  refine gf (wB _ _) ?_
  refine gl bD d4 0 ?_
  refine gv (.agg #[(nI s), (iI 0), (.int .i64 t.start), (.bool (cJ (g.forest t.start.toNat) t r.name r.key).1.isSome), (.slice g2 ((cJ (g.forest t.start.toNat) t r.name r.key).1.getD []).length g3), Zn, Zn, bF, Zn, Zn, Zn, bF, Zn, Zn, Zn]) (fun _ _ => aJ (ps := #[(0, (nI s)), (2, (.int .i64 t.start)), (3, (.bool (cJ (g.forest t.start.toNat) t r.name r.key).1.isSome)), (4, (.slice g2 ((cJ (g.forest t.start.toNat) t r.name r.key).1.getD []).length g3))]) (mE rfl rfl rfl rfl) (by kernel_rfl)) ?_
  simp only [pq]
  refine bN ?_
  intro mx l7 l8
  clear l8
  have bb := St.tells d4 l7
  simp only [cW]
  have bc := St.perm bb (List.perm_middle (l₁ := [_]))
  have l9 : EngM _ _ _ _ n g _ := ⟨_, _, _, _, _, _, _, _, _, _, _, bc, (hd.mono (a4.trans b4)), (dU ht (a4.trans b4))⟩
  refine doC rfl (cP (vs := #[(pP n 0), (.agg #[(nI s), (iI 0), (.int .i64 t.start), (.bool (cJ (g.forest t.start.toNat) t r.name r.key).1.isSome), (.slice g2 ((cJ (g.forest t.start.toNat) t r.name r.key).1.getD []).length g3), Zn, Zn, bF, Zn, Zn, Zn, bF, Zn, Zn, Zn])]) (iX rfl rfl) rfl (qX _ _)) (kS _ _ _ _ _ _ _ _ (⟨s, 0, t.start, (cJ (g.forest t.start.toNat) t r.name r.key).1.isSome, (cJ (g.forest t.start.toNat) t r.name r.key).1.getD [], [], [], gZ, gZ⟩ : Rep) l9 ⟨_, _, _, _, _, _, _, _, _, rfl, j6, Sl.nil _ _ _, Bs.nil _, Sl.nil _ _ _, Bs.nil _, Bs.nil _, Sl.nil _ _ _, Bs.nil _, Bs.nil _⟩ hq) ?_
  rintro _ my ⟨rfl, mz, m0, m1⟩
  refine ⟨_, rfl, ?_⟩
  obtain ⟨eq, er, es, et, eu, ew, ex, ey, ez, fa, fb, bd, m2, m3⟩ := m1
  simp only [pq]
  refine aH ?_
  try simp only [xt]
  refine bE (iN rfl) ?_
  have m4 : EngM _ _ _ _ n (g.reply (⟨s, 0, t.start, (cJ (g.forest t.start.toNat) t r.name r.key).1.isSome, (cJ (g.forest t.start.toNat) t r.name r.key).1.getD [], [], [], gZ, gZ⟩ : Rep)) _ := ⟨_, _, _, _, _, _, _, _, _, _, _, bd, m2, m3⟩
  have he : g.work s t k r = (g.reply (⟨s, 0, t.start, (cJ (g.forest t.start.toNat) t r.name r.key).1.isSome, (cJ (g.forest t.start.toNat) t r.name r.key).1.getD [], [], [], gZ, gZ⟩ : Rep)) := by
   unfold Eng.work
   rw [if_pos hk]
   unfold Eng.look
   simp only; rw [if_pos hlk]
  rw [he]
  exact ⟨rfl, _, ((a4.trans b4).trans m0), (m4.drop (.cons _ (List.Sublist.refl _)))⟩
 | false =>
  refine FF (i := 0) em rfl (by kernel_rfl) (fun na c6 => ?_)
  refine tC 0 rfl (eX (i := 0) c6 (Le.refl _) rfl) ?_
  simp only [pq]
  refine tC 1 rfl (eX (i := 0) c6 (Le.refl _) rfl) ?_
  simp only [pq]
  refine QP 2 rfl (eX (i := 0) c6 (Le.refl _) rfl) ?_
  simp only [pq]
  refine lD 3 rfl _ (eX (i := 0) c6 (Le.refl _) rfl) (fun _ _ => ef (dZ _ _)) ?_
  simp only [pq]
  refine lD 4 rfl _ (eX (i := 0) c6 (Le.refl _) rfl) (fun _ m5 => aE rfl (aT (eC _) (Cq m5.2 ((eI hs8).trans (congrArg some hp))))) ?_
  simp only [pq]
  refine QP 5 rfl (eX (i := 0) c6 (Le.refl _) rfl) ?_
  simp only [pq]
  refine lD 6 rfl (.agg #[(.int .i64 t.start), (.slice x0 t.reads.length y0), (.slice x1 t.writes.length y1)]) (eX (i := 0) c6 (Le.refl _) rfl) (fun _ e2 => aE rfl (kW (cs := [(.int .i64 t.start), (.slice x0 t.reads.length y0), (.slice x1 t.writes.length y1)]) Tryz.underlying141 rfl (aU) (qS (St.fz (St.start e2.1) (Le.cell a4 b0)) (St.fz (St.start e2.1) (Le.cell a4 b1)) (St.fz (St.start e2.1) (Le.cell a4 b2))))) ?_
  simp only [pq]
  refine lD 7 rfl _ (eX (i := 0) c6 (Le.refl _) rfl) (fun _ _ => ef (wF _ _)) ?_
  simp only [pq]
  refine lD 8 rfl _ (eX (i := 0) c6 (Le.refl _) rfl) (fun _ m6 => aE rfl (aT (bD _) (St.fz (St.start m6.1) (d8 1 _ rfl)))) ?_
  simp only [pq]
  refine lD 9 rfl _ (eX (i := 0) c6 (Le.refl _) rfl) (fun _ _ => ef (wG _ _)) ?_
  simp only [pq]
  refine lD 10 rfl _ (eX (i := 0) c6 (Le.refl _) rfl) (fun _ m7 => aE rfl (aT (bD _) (St.fz (St.start m7.1) (d8 2 _ rfl)))) ?_
  simp only [pq]
  refine XG 11 16 (by kernel_rfl) rfl rfl ?_ ?_
  refine aY c6 rfl (fn4 (GU _ _)) (pE _ _ _ _ _ _ (g.forest t.start.toNat) t r.name r.key (b := false) (c6).sat (k7.mono a4) ⟨_, _, _, _, rfl, (r0.mono a4), (r1.mono a4)⟩ (q0.mono a4) (q1.mono a4) hfo htok hq4.1 hq4.2.1 hlk) ?_
  intro nb nc nd e0 a5 be
  obtain ⟨_, rfl, bf⟩ := be
  obtain ⟨g4, g5, rfl, j8⟩ := bf
  have j8 : Bs _ (.slice g4 ((cJ (g.forest t.start.toNat) t r.name r.key).1.getD []).length g5) ((cJ (g.forest t.start.toNat) t r.name r.key).1.getD []) := j8
  refine aH (kE (eX (i := 0) e0 a5 rfl) ?_)
  refine tC 12 rfl (eX (i := 0) e0 a5 rfl) ?_
  simp only [pq]
  refine rN 13 rfl (eX (i := 0) e0 a5 rfl) ?_
  simp only [pq]
  refine rN 14 rfl (eX (i := 0) e0 a5 rfl) ?_
  simp only [pq]
  refine rN 15 rfl (eX (i := 0) e0 a5 rfl) ?_
  simp only [pq]
  refine pD 16 (by kernel_rfl) rfl ?_
  refine sA e0 (oU _) fun ne nf m8 => ?_
  refine aH (kE (eX (i := 1) m8 a5 rfl) ?_)
  refine pD 17 (by kernel_rfl) rfl ?_
  refine sW 0 m8 (hJ) fun ng e3 => ?_
  refine aH (kE (eX (i := 1) e3 a5 rfl) ?_)
  refine mM 18 rfl (eX (i := 1) e3 a5 rfl) ?_
  simp only [pq]
  refine mM 19 rfl (eX (i := 1) e3 a5 rfl) ?_
  simp only [pq]
  refine zZ (by kernel_rfl) ?_
  refine g1 _ _ ?_
  refine aF fun nh m9 => ?_
  refine sk fun ni h7 => ?_
  refine aC ?_
  refine dr _ (aE rfl (cU Tryz.underlying27 rfl (bP) (CJ (c := [(nI k), (.slice a0 r.name.length c0), (.slice a1 r.key.length c1), (.slice a2 r.last.length c2), (.slice a3 r.value.length c3)]) e3.sat (Le.cells a5 d8)))) ?_
  simp only [pq]
  have bg := St.perm e3 (List.perm_middle (l₁ := [_]))
  have n0 : EngM _ _ _ _ n g _ := ⟨_, _, _, _, _, _, _, _, _, _, _, bg, (hd.mono (a4.trans a5)), (dU ht (a4.trans a5))⟩
  refine doC rfl (fn4 (MZ _ _)) (CL _ _ _ _ _ _ _ s hs8 _ k r false t n0 hh ⟨_, _, _, _, rfl, (q0.mono (a4.trans a5)), (q1.mono (a4.trans a5)), (q2.mono (a4.trans a5)), (q3.mono (a4.trans a5))⟩ ok (.inl ⟨hk, rfl⟩) hts htok hq) ?_
  rintro _ nj ⟨bh, e4, g6⟩
  cases hn : gH t ⟨r.name, r.key, false, r.last⟩ with
  | none =>
   rw [hn] at g6
   obtain ⟨rfl, n1⟩ := g6
   refine ⟨_, rfl, ?_⟩
   obtain ⟨fc, fd, fe, ff, fg, fh, fi, fj, fk, fl, fm, bi, n2, n3⟩ := n1
   refine aC ?_
   refine wn h7 ?_
   refine aK ?_
   refine aO ?_
   try simp only [xt]
   refine bR (iN rfl) ?_
   have n4 : EngM _ _ _ _ n (g.reply (cX s 11)) _ := ⟨_, _, _, _, _, _, _, _, _, _, _, bi, n2, n3⟩
   have he : g.work s t k r = (g.reply (cX s 11)) := by
    unfold Eng.work
    rw [if_pos hk]
    unfold Eng.look
    simp only; rw [if_neg (by rw [hlk]; decide)]; unfold Eng.note; rw [hn]
   rw [he]
   exact ⟨rfl, _, ((a4.trans a5).trans e4), (n4.drop (.cons _ (List.Sublist.refl _)))⟩
  | some nx =>
   rw [hn] at g6
   obtain ⟨rfl, n6⟩ := g6
   refine ⟨_, rfl, ?_⟩
   obtain ⟨fn, fo, fp, fq, fr, fs, ft, fu, fv, fw, fx, e5, n7, h8⟩ := n6
   simp only [pq]
   have h9 := h8 s hs8
   rw [show (g.setTxn s (some nx)).txn s = some nx from dV _ _ _] at h9
   obtain ⟨nk, nl, nm, nn, no, n8, bj, np, nq, nr, ns⟩ := h9
   refine aC ?_
   refine wn h7 ?_
   refine aG ?_
   refine aI ?_
   refine m9 _ _ ?_
   refine aQ bh 14 [] (by kernel_rfl) (by kernel_rfl) ?_
   simp only [cV]
   refine gm ?_
   simp only [pq]
   iterate 2 refine gm ?_
   refine gi ?_
   simp only [pq]
   refine gf (dZ _ _) ?_
   refine gv _ (fun _ j9 => aE rfl (aT (eC _) (St.cell (St.tells e5 j9) (i := 0) rfl ((eI hs8).trans (congrArg some n8))))) ?_
   refine gi ?_
   simp only [pq]
   refine gf (kY _ _) ?_
   simp only [pq]
   refine gQ rfl rfl (.int .i64 t.start) (fun nt j9 => aN (aE rfl (aT (bU _) (St.fz (St.tells e5 j9) (by rw [← (tF hn).2.2]; exact bj))))) ?_
   refine gf (wA _ _) ?_
   refine gl iE e5 1 ?_
   refine gf (wB _ _) ?_
   simp only [pq]
   refine gl bD e5 1 ?_
   refine gv (.agg #[(nI s), (iI 0), (.int .i64 t.start), (.bool (cJ (g.forest t.start.toNat) t r.name r.key).1.isSome), (.slice g4 ((cJ (g.forest t.start.toNat) t r.name r.key).1.getD []).length g5), Zn, Zn, bF, Zn, Zn, Zn, bF, Zn, Zn, Zn]) (fun _ _ => aJ (ps := #[(0, (nI s)), (2, (.int .i64 t.start)), (3, (.bool (cJ (g.forest t.start.toNat) t r.name r.key).1.isSome)), (4, (.slice g4 ((cJ (g.forest t.start.toNat) t r.name r.key).1.getD []).length g5))]) (mE rfl rfl rfl rfl) (by kernel_rfl)) ?_
   refine bN ?_
   intro nu n9 o0
   clear o0
   have bk := St.tells e5 n9
   simp only [cW]
   have o1 : EngM _ _ _ _ n (g.setTxn s (some nx)) _ := ⟨_, _, _, _, _, _, _, _, _, _, _, bk, n7, h8⟩
   refine doC rfl (cP (vs := #[(pP n 0), (.agg #[(nI s), (iI 0), (.int .i64 t.start), (.bool (cJ (g.forest t.start.toNat) t r.name r.key).1.isSome), (.slice g4 ((cJ (g.forest t.start.toNat) t r.name r.key).1.getD []).length g5), Zn, Zn, bF, Zn, Zn, Zn, bF, Zn, Zn, Zn])]) (iX rfl rfl) rfl (qX _ _)) (kS _ _ _ _ _ _ _ _ (⟨s, 0, t.start, (cJ (g.forest t.start.toNat) t r.name r.key).1.isSome, (cJ (g.forest t.start.toNat) t r.name r.key).1.getD [], [], [], gZ, gZ⟩ : Rep) o1 ⟨_, _, _, _, _, _, _, _, _, rfl, (j8.mono e4), Sl.nil _ _ _, Bs.nil _, Sl.nil _ _ _, Bs.nil _, Bs.nil _, Sl.nil _ _ _, Bs.nil _, Bs.nil _⟩ hq) ?_
   rintro _ nv ⟨rfl, nw, o2, o3⟩
   refine ⟨_, rfl, ?_⟩
   obtain ⟨fy, gb, gc, gd, ge, gg, gh, gj, gk, gn, gp, bl, o4, o5⟩ := o3
   simp only [pq]
   refine aH ?_
   try simp only [xt]
   refine bE (iN rfl) ?_
   have o6 : EngM _ _ _ _ n ((g.setTxn s (some nx)).reply (⟨s, 0, t.start, (cJ (g.forest t.start.toNat) t r.name r.key).1.isSome, (cJ (g.forest t.start.toNat) t r.name r.key).1.getD [], [], [], gZ, gZ⟩ : Rep)) _ := ⟨_, _, _, _, _, _, _, _, _, _, _, bl, o4, o5⟩
   have he : g.work s t k r = ((g.setTxn s (some nx)).reply (⟨s, 0, t.start, (cJ (g.forest t.start.toNat) t r.name r.key).1.isSome, (cJ (g.forest t.start.toNat) t r.name r.key).1.getD [], [], [], gZ, gZ⟩ : Rep)) := by
    unfold Eng.work
    rw [if_pos hk]
    unfold Eng.look
    simp only; rw [if_neg (by rw [hlk]; decide)]; unfold Eng.note; rw [hn]
   rw [he]
   exact ⟨rfl, _, (((a4.trans a5).trans e4).trans o2), (o6.drop (.cons _ (List.Sublist.refl _)))⟩
  refine sA c6 (oU _) fun ny nz k0 => ?_
  refine aH (kE (eX (i := 1) k0 (Le.refl _) rfl) ?_)
  refine pD 11 (by kernel_rfl) rfl ?_
  refine aY k0 rfl (fn4 (GU _ _)) (pE _ _ _ _ _ _ (g.forest t.start.toNat) t r.name r.key (b := false) (k0).sat (k7.mono a4) ⟨_, _, _, _, rfl, (r0.mono a4), (r1.mono a4)⟩ (q0.mono a4) (q1.mono a4) hfo htok hq4.1 hq4.2.1 hlk) ?_
  intro oa ob oc e1 a6 bm
  obtain ⟨_, rfl, bn⟩ := bm
  obtain ⟨g7, g8, rfl, k1⟩ := bn
  have k1 : Bs _ (.slice g7 ((cJ (g.forest t.start.toNat) t r.name r.key).1.getD []).length g8) ((cJ (g.forest t.start.toNat) t r.name r.key).1.getD []) := k1
  refine aH (kE (eX (i := 1) e1 a6 rfl) ?_)
  refine tC 12 rfl (eX (i := 1) e1 a6 rfl) ?_
  simp only [pq]
  refine rN 13 rfl (eX (i := 1) e1 a6 rfl) ?_
  simp only [pq]
  refine rN 14 rfl (eX (i := 1) e1 a6 rfl) ?_
  simp only [pq]
  refine rN 15 rfl (eX (i := 1) e1 a6 rfl) ?_
  simp only [pq]
  refine pD 17 (by kernel_rfl) rfl ?_
  refine sW 0 e1 (hJ) fun od e6 => ?_
  refine aH (kE (eX (i := 1) e6 a6 rfl) ?_)
  refine mM 18 rfl (eX (i := 1) e6 a6 rfl) ?_
  simp only [pq]
  refine mM 19 rfl (eX (i := 1) e6 a6 rfl) ?_
  simp only [pq]
  refine zZ (by kernel_rfl) ?_
  refine g1 _ _ ?_
  refine aF fun oe o7 => ?_
  refine sk fun og i0 => ?_
  refine aC ?_
  refine dr _ (aE rfl (cU Tryz.underlying27 rfl (bP) (CJ (c := [(nI k), (.slice a0 r.name.length c0), (.slice a1 r.key.length c1), (.slice a2 r.last.length c2), (.slice a3 r.value.length c3)]) e6.sat (Le.cells a6 d8)))) ?_
  simp only [pq]
  have bo := St.perm e6 (List.perm_middle (l₁ := [_]))
  have o8 : EngM _ _ _ _ n g _ := ⟨_, _, _, _, _, _, _, _, _, _, _, bo, (hd.mono (a4.trans a6)), (dU ht (a4.trans a6))⟩
  refine doC rfl (fn4 (MZ _ _)) (CL _ _ _ _ _ _ _ s hs8 _ k r false t o8 hh ⟨_, _, _, _, rfl, (q0.mono (a4.trans a6)), (q1.mono (a4.trans a6)), (q2.mono (a4.trans a6)), (q3.mono (a4.trans a6))⟩ ok (.inl ⟨hk, rfl⟩) hts htok hq) ?_
  rintro _ oh ⟨bp, e7, h0⟩
  cases hn : gH t ⟨r.name, r.key, false, r.last⟩ with
  | none =>
   rw [hn] at h0
   obtain ⟨rfl, o9⟩ := h0
   refine ⟨_, rfl, ?_⟩
   obtain ⟨gq, gs, gt, gu, gx, gy, gz, ha, hc, hf, hi, bq, p0, p1⟩ := o9
   refine aC ?_
   refine wn i0 ?_
   refine aK ?_
   refine aO ?_
   try simp only [xt]
   refine bR (iN rfl) ?_
   have p2 : EngM _ _ _ _ n (g.reply (cX s 11)) _ := ⟨_, _, _, _, _, _, _, _, _, _, _, bq, p0, p1⟩
   have he : g.work s t k r = (g.reply (cX s 11)) := by
    unfold Eng.work
    rw [if_pos hk]
    unfold Eng.look
    simp only; rw [if_neg (by rw [hlk]; decide)]; unfold Eng.note; rw [hn]
   rw [he]
   exact ⟨rfl, _, ((a4.trans a6).trans e7), (p2.drop (.cons _ (List.Sublist.refl _)))⟩
  | some nx =>
   rw [hn] at h0
   obtain ⟨rfl, p3⟩ := h0
   refine ⟨_, rfl, ?_⟩
   obtain ⟨hj, hl, ho, hr, hs, hw, hx, hy, hz, ia, ib, e8, p4, i1⟩ := p3
   simp only [pq]
   have i2 := i1 s hs8
   rw [show (g.setTxn s (some nx)).txn s = some nx from dV _ _ _] at i2
   obtain ⟨oi, oj, ol, om, oo, p5, br, op, oq, os, ot⟩ := i2
   refine aC ?_
   refine wn i0 ?_
   refine aG ?_
   refine aI ?_
   refine o7 _ _ ?_
   refine aQ bp 14 [] (by kernel_rfl) (by kernel_rfl) ?_
   simp only [cV]
   refine gm ?_
   simp only [pq]
   iterate 2 refine gm ?_
   refine gi ?_
   simp only [pq]
   refine gf (dZ _ _) ?_
   refine gv _ (fun _ k2 => aE rfl (aT (eC _) (St.cell (St.tells e8 k2) (i := 0) rfl ((eI hs8).trans (congrArg some p5))))) ?_
   refine gi ?_
   simp only [pq]
   refine gf (kY _ _) ?_
   simp only [pq]
   refine gQ rfl rfl (.int .i64 t.start) (fun ou k2 => aN (aE rfl (aT (bU _) (St.fz (St.tells e8 k2) (by rw [← (tF hn).2.2]; exact br))))) ?_
   refine gf (wA _ _) ?_
   refine gl iE e8 1 ?_
   refine gf (wB _ _) ?_
   simp only [pq]
   refine gl bD e8 1 ?_
   refine gv (.agg #[(nI s), (iI 0), (.int .i64 t.start), (.bool (cJ (g.forest t.start.toNat) t r.name r.key).1.isSome), (.slice g7 ((cJ (g.forest t.start.toNat) t r.name r.key).1.getD []).length g8), Zn, Zn, bF, Zn, Zn, Zn, bF, Zn, Zn, Zn]) (fun _ _ => aJ (ps := #[(0, (nI s)), (2, (.int .i64 t.start)), (3, (.bool (cJ (g.forest t.start.toNat) t r.name r.key).1.isSome)), (4, (.slice g7 ((cJ (g.forest t.start.toNat) t r.name r.key).1.getD []).length g8))]) (mE rfl rfl rfl rfl) (by kernel_rfl)) ?_
   refine bN ?_
   intro ov p6 p7
   clear p7
   have bs := St.tells e8 p6
   simp only [cW]
   have p8 : EngM _ _ _ _ n (g.setTxn s (some nx)) _ := ⟨_, _, _, _, _, _, _, _, _, _, _, bs, p4, i1⟩
   refine doC rfl (cP (vs := #[(pP n 0), (.agg #[(nI s), (iI 0), (.int .i64 t.start), (.bool (cJ (g.forest t.start.toNat) t r.name r.key).1.isSome), (.slice g7 ((cJ (g.forest t.start.toNat) t r.name r.key).1.getD []).length g8), Zn, Zn, bF, Zn, Zn, Zn, bF, Zn, Zn, Zn])]) (iX rfl rfl) rfl (qX _ _)) (kS _ _ _ _ _ _ _ _ (⟨s, 0, t.start, (cJ (g.forest t.start.toNat) t r.name r.key).1.isSome, (cJ (g.forest t.start.toNat) t r.name r.key).1.getD [], [], [], gZ, gZ⟩ : Rep) p8 ⟨_, _, _, _, _, _, _, _, _, rfl, (k1.mono e7), Sl.nil _ _ _, Bs.nil _, Sl.nil _ _ _, Bs.nil _, Bs.nil _, Sl.nil _ _ _, Bs.nil _, Bs.nil _⟩ hq) ?_
   rintro _ ow ⟨rfl, ox, p9, q4⟩
   refine ⟨_, rfl, ?_⟩
   obtain ⟨ic, id, ie, ig, ii, ij, ik, il, im, io, ip, bt, q5, q6⟩ := q4
   simp only [pq]
   refine aH ?_
   try simp only [xt]
   refine bE (iN rfl) ?_
   have q7 : EngM _ _ _ _ n ((g.setTxn s (some nx)).reply (⟨s, 0, t.start, (cJ (g.forest t.start.toNat) t r.name r.key).1.isSome, (cJ (g.forest t.start.toNat) t r.name r.key).1.getD [], [], [], gZ, gZ⟩ : Rep)) _ := ⟨_, _, _, _, _, _, _, _, _, _, _, bt, q5, q6⟩
   have he : g.work s t k r = ((g.setTxn s (some nx)).reply (⟨s, 0, t.start, (cJ (g.forest t.start.toNat) t r.name r.key).1.isSome, (cJ (g.forest t.start.toNat) t r.name r.key).1.getD [], [], [], gZ, gZ⟩ : Rep)) := by
    unfold Eng.work
    rw [if_pos hk]
    unfold Eng.look
    simp only; rw [if_neg (by rw [hlk]; decide)]; unfold Eng.note; rw [hn]
   rw [he]
   exact ⟨rfl, _, (((a4.trans a6).trans e7).trans p9), (q7.drop (.cons _ (List.Sublist.refl _)))⟩
 have hq4 := XK ok hk
 refine aB ?_
 refine gL ?_
 refine dy ?_
 refine wlK g0 ?_
 refine aG ?_
 refine sk fun oy q8 => ?_
 refine iR ?_
 refine dy ?_
 simp only [pq]
 refine wn q8 ?_
 refine aK ?_
 refine aF fun oz i3 => ?_
 cases hsc : (IP (g.forest t.start.toNat) t r.name r.key r.last) with
 | none =>
  refine aQ F 18 [(13, .made (fun F' u => PrsE [] 11 F' u)), (15, .made (fun F' u => Prs F' u [])), (16, .is (iI 11))] (by kernel_rfl) (by kernel_rfl) ?_
  simp only [cV]
  iterate 2 refine gm ?_
  refine gi ?_
  simp only [pq]
  refine gf (dZ _ _) ?_
  refine gv _ (fun _ d2 => aE rfl (aT (eC _) (St.cell (St.tells c7 d2) (i := 1) rfl ((eI hs8).trans (congrArg some hp))))) ?_
  refine gi ?_
  simp only [pq]
  refine gv _ (fun _ d2 => aE rfl (cU Tryz.underlying141 rfl (aU) (qS (St.fz (St.tells c7 d2) b0) (St.fz (St.tells c7 d2) b1) (St.fz (St.tells c7 d2) b2)))) ?_
  refine gf (wF _ _) ?_
  refine gl bD c7 0 ?_
  simp only [pq]
  refine gf (wG _ _) ?_
  refine gl bD c7 0 ?_
  refine gf (GJ _ _) ?_
  simp only [pq]
  refine gl bD c7 0 ?_
  simp only [pq]
  refine dJ rfl rfl (fun q9 d2 hF => bX (cP (vs := #[(.slice k9 (g.forest t.start.toNat).length l0), (.agg #[(.int .i64 t.start), (.slice x0 t.reads.length y0), (.slice x1 t.writes.length y1)]), (.slice a0 r.name.length c0), (.slice a1 r.key.length c1), (.slice a2 r.last.length c2)]) (Ep rfl rfl rfl rfl rfl) rfl (VD _ _)) (dI c7.sat d2 (yT _ _ _ _ _ _ _ (g.forest t.start.toNat) t r.name r.key r.last ((St.tells c7 d2)).sat k7 ⟨_, _, _, _, rfl, r0, r1⟩ q0 q1 q2 hfo htok hq4.1 hq4.2.1 (hq4.2.2 rfl) hsc))) (fun pa => ?_)
  refine gm ?_
  simp only [pq]
  refine dJ rfl rfl (fun q9 d2 hF_ => ?_) (fun pb => ?_)
  obtain ⟨bu, bw, _, rfl, r2⟩ := hF_.get 13 (by kernel_rfl) rfl rfl
  exact fY (cA rfl rfl) ⟨bu, bw, r2⟩ (Below.refl _ _)
  simp only [pq]
  refine jC rfl rfl (v := (iI 11)) (fun q9 d2 hF_ => ?_) ?_
  obtain ⟨pc, pd, _, rfl, iq⟩ := hF_.get 13 (by kernel_rfl) rfl rfl
  exact xB (cA rfl rfl)
  refine ga ?_
  refine bN ?_
  intro pe ir i4
  obtain ⟨bx, r3, bz⟩ := i4.get 15 rfl rfl
  have ca := St.gives c7 r3
  have e9 : Le _ _ := r3.le c7.sat
  have k3 := bz
  generalize bx = pf at *
  obtain ⟨cb, ce, rfl, pg, ph⟩ := Sl.shape k3
  have k3 : Prs _ (.slice cb ([] : List Pr).length ce) ([] : List Pr) := k3
  clear i4
  simp only [cW]
  refine dy ?_
  simp only [pq]
  refine wlK i3 ?_
  refine aF fun pi it => ?_
  refine sk fun pj r4 => ?_
  refine dx ?_
  refine dr bT (cC (b := true) rfl rfl (by decide)) ?_
  refine wn r4 ?_
  refine aK ?_
  refine sk fun pk r5 => ?_
  refine aC ?_
  have cg := St.perm ca (List.perm_middle (l₁ := [_]))
  have r6 : EngM _ _ _ _ n g _ := ⟨_, _, _, _, _, _, _, _, _, _, _, cg, (hd.mono e9), (dU ht e9)⟩
  refine doC rfl (fn3 (kZ _ _)) (gU _ _ _ _ _ _ _ s 11 r6 hq) ?_
  rintro _ pl ⟨rfl, pm, r7, r8⟩
  refine ⟨_, rfl, ?_⟩
  obtain ⟨iu, iv, iw, ix, iy, iz, ja, jb, jc, jd, je, ch, r9, s0⟩ := r8
  refine wn r5 ?_
  refine aO ?_
  try simp only [xt]
  refine bR (iN rfl) ?_
  have s1 : EngM _ _ _ _ n (g.reply (cX s 11)) _ := ⟨_, _, _, _, _, _, _, _, _, _, _, ch, r9, s0⟩
  have he : g.work s t k r = (g.reply (cX s 11)) := by
   unfold Eng.work
   rw [if_neg (by omega), if_pos hk]
   unfold Eng.scan
   rw [hsc]
  rw [he]
  exact ⟨rfl, _, (e9.trans r7), (s1.drop (.cons _ (List.Sublist.refl _)))⟩
 | some R =>
  refine aQ F 18 [(13, .made (fun F' u => PrsE R 0 F' u)), (15, .made (fun F' u => Prs F' u R)), (16, .is (iI 0))] (by kernel_rfl) (by kernel_rfl) ?_
  simp only [cV]
  iterate 2 refine gm ?_
  refine gi ?_
  simp only [pq]
  refine gf (dZ _ _) ?_
  refine gv _ (fun _ d3 => aE rfl (aT (eC _) (St.cell (St.tells c7 d3) (i := 1) rfl ((eI hs8).trans (congrArg some hp))))) ?_
  refine gi ?_
  simp only [pq]
  refine gv _ (fun _ d3 => aE rfl (cU Tryz.underlying141 rfl (aU) (qS (St.fz (St.tells c7 d3) b0) (St.fz (St.tells c7 d3) b1) (St.fz (St.tells c7 d3) b2)))) ?_
  refine gf (wF _ _) ?_
  refine gl bD c7 0 ?_
  simp only [pq]
  refine gf (wG _ _) ?_
  refine gl bD c7 0 ?_
  refine gf (GJ _ _) ?_
  simp only [pq]
  refine gl bD c7 0 ?_
  simp only [pq]
  refine dJ rfl rfl (fun s2 d3 hF => bX (cP (vs := #[(.slice k9 (g.forest t.start.toNat).length l0), (.agg #[(.int .i64 t.start), (.slice x0 t.reads.length y0), (.slice x1 t.writes.length y1)]), (.slice a0 r.name.length c0), (.slice a1 r.key.length c1), (.slice a2 r.last.length c2)]) (Ep rfl rfl rfl rfl rfl) rfl (VD _ _)) (dI c7.sat d3 (yT _ _ _ _ _ _ _ (g.forest t.start.toNat) t r.name r.key r.last ((St.tells c7 d3)).sat k7 ⟨_, _, _, _, rfl, r0, r1⟩ q0 q1 q2 hfo htok hq4.1 hq4.2.1 (hq4.2.2 rfl) hsc))) (fun pn => ?_)
  refine gm ?_
  simp only [pq]
  refine dJ rfl rfl (fun s2 d3 hF_ => ?_) (fun po => ?_)
  obtain ⟨ci, cj, _, rfl, s3⟩ := hF_.get 13 (by kernel_rfl) rfl rfl
  exact fY (cA rfl rfl) ⟨ci, cj, s3⟩ (Below.refl _ _)
  simp only [pq]
  refine jC rfl rfl (v := (iI 0)) (fun s2 d3 hF_ => ?_) ?_
  obtain ⟨pp, pr, _, rfl, jf⟩ := hF_.get 13 (by kernel_rfl) rfl rfl
  exact xB (cA rfl rfl)
  refine ga ?_
  refine bN ?_
  intro pt jg i5
  obtain ⟨ck, s4, cl⟩ := i5.get 15 rfl rfl
  have s5 := St.gives c7 s4
  have c9 : Le _ _ := s4.le c7.sat
  have h1 := cl
  generalize ck = pw at *
  obtain ⟨s6, s7, rfl, px, py⟩ := Sl.shape h1
  have h1 : Prs _ (.slice s6 R.length s7) R := h1
  clear i5
  simp only [cW]
  refine dy ?_
  simp only [pq]
  refine wlK i3 ?_
  refine aF fun pz s8 => ?_
  refine sk fun qa s9 => ?_
  refine dx ?_
  refine dr bF (cC (b := false) rfl rfl (by decide)) ?_
  refine wn s9 ?_
  refine aG ?_
  refine aI ?_
  refine s8 _ _ ?_
  refine aF fun qb t0 => ?_
  refine sk fun qc i6 => ?_
  refine aC ?_
  refine dR s5 0 Tryz.underlying27 (bP) ?_
  simp only [pq]
  have cm := St.perm s5 (List.perm_middle (l₁ := [_]))
  have t1 : EngM _ _ _ _ n g _ := ⟨_, _, _, _, _, _, _, _, _, _, _, cm, (hd.mono c9), (dU ht c9)⟩
  refine doC rfl (fn4 (MZ _ _)) (CL _ _ _ _ _ _ _ s hs8 _ k r true t t1 hh ⟨_, _, _, _, rfl, (q0.mono c9), (q1.mono c9), (q2.mono c9), (q3.mono c9)⟩ ok (.inr ⟨hk, rfl⟩) hts htok hq) ?_
  rintro _ qd ⟨qe, f0, h2⟩
  cases hn : gH t ⟨r.name, r.key, true, r.last⟩ with
  | none =>
   rw [hn] at h2
   obtain ⟨rfl, t2⟩ := h2
   refine ⟨_, rfl, ?_⟩
   obtain ⟨jh, ji, jj, jk, jl, jm, jn, jo, jp, jq, jr, cn, t3, t4⟩ := t2
   refine dt ?_
   refine wn i6 ?_
   refine aK ?_
   refine aO ?_
   try simp only [xt]
   refine bR (iN rfl) ?_
   have t5 : EngM _ _ _ _ n (g.reply (cX s 11)) _ := ⟨_, _, _, _, _, _, _, _, _, _, _, cn, t3, t4⟩
   have he : g.work s t k r = (g.reply (cX s 11)) := by
    unfold Eng.work
    rw [if_neg (by omega), if_pos hk]
    unfold Eng.scan
    rw [hsc]; simp only; unfold Eng.note; rw [hn]
   rw [he]
   exact ⟨rfl, _, (c9.trans f0), (t5.drop (.cons _ (List.Sublist.refl _)))⟩
  | some nx =>
   rw [hn] at h2
   obtain ⟨rfl, t6⟩ := h2
   refine ⟨_, rfl, ?_⟩
   obtain ⟨js, jt, ju, jv, jw, jx, jy, jz, ka, kb, kc, k4, t7, i7⟩ := t6
   simp only [pq]
   have i8 := i7 s hs8
   rw [show (g.setTxn s (some nx)).txn s = some nx from dV _ _ _] at i8
   obtain ⟨qf, qg, qh, qi, qj, t8, co, qk, ql, qm, qn⟩ := i8
   refine dt ?_
   refine wn i6 ?_
   refine aG ?_
   refine aI ?_
   refine t0 _ _ ?_
   refine aB ?_
   refine aC ?_
   refine dr _ (aE rfl (aT (eC _) (St.cell k4 (i := 0) rfl ((eI hs8).trans (congrArg some t8))))) ?_
   refine aC ?_
   refine dr (.int .i64 t.start) (aE rfl (aT (bU _) (St.fz k4 (by rw [← (tF hn).2.2]; exact co)))) ?_
   refine aC ?_
   refine dr (.agg #[(nI s), (iI 0), (.int .i64 t.start), bF, Zn, (.slice s6 R.length s7), Zn, bF, Zn, Zn, Zn, bF, Zn, Zn, Zn]) (aJ (PD rfl rfl rfl) (by kernel_rfl)) ?_
   simp only [pq]
   have t9 : EngM _ _ _ _ n (g.setTxn s (some nx)) _ := ⟨_, _, _, _, _, _, _, _, _, _, _, k4, t7, i7⟩
   refine doC rfl (fn2 (qX _ _)) (kS _ _ _ _ _ _ _ _ (⟨s, 0, t.start, false, [], R, [], gZ, gZ⟩ : Rep) t9 ⟨_, _, _, _, _, _, _, _, _, rfl, Bs.nil _, (h1.mono f0), Bs.nil _, Sl.nil _ _ _, Bs.nil _, Bs.nil _, Sl.nil _ _ _, Bs.nil _, Bs.nil _⟩ hq) ?_
   rintro _ qo ⟨rfl, qp, u0, u1⟩
   refine ⟨_, rfl, ?_⟩
   obtain ⟨kd, ke, kf, kg, kh, ki, kj, kk, kl, km, kn, cp, u2, u3⟩ := u1
   refine aH ?_
   try simp only [xt]
   refine bE (iN rfl) ?_
   have u4 : EngM _ _ _ _ n ((g.setTxn s (some nx)).reply (⟨s, 0, t.start, false, [], R, [], gZ, gZ⟩ : Rep)) _ := ⟨_, _, _, _, _, _, _, _, _, _, _, cp, u2, u3⟩
   have he : g.work s t k r = ((g.setTxn s (some nx)).reply (⟨s, 0, t.start, false, [], R, [], gZ, gZ⟩ : Rep)) := by
    unfold Eng.work
    rw [if_neg (by omega), if_pos hk]
    unfold Eng.scan
    rw [hsc]; simp only; unfold Eng.note; rw [hn]
   rw [he]
   exact ⟨rfl, _, ((c9.trans f0).trans u0), (u4.drop (.cons _ (List.Sublist.refl _)))⟩
 refine aB ?_
 refine gL ?_
 refine dy ?_
 refine wlK g0 ?_
 refine aG ?_
 refine sk fun qq u5 => ?_
 refine gL ?_
 refine dy ?_
 simp only [pq]
 refine wn u5 ?_
 refine aG ?_
 refine sk fun qr u6 => ?_
 refine iR ?_
 refine dy ?_
 refine wn u6 ?_
 refine aK ?_
 refine aB ?_
 refine aC ?_
 have cq := St.perm c7 (List.perm_middle (l₁ := [_]))
 have u7 : EngM _ _ _ _ n g _ := ⟨_, _, _, _, _, _, _, _, _, _, _, cq, hd, ht⟩
 refine doC rfl (fn3 (Ds _ _)) (OL _ _ _ _ _ _ _ s hs8 t u7 hT hg hm hts hq) ?_
 rintro _ qs ⟨rfl, qt, u8, u9⟩
 refine ⟨_, rfl, ?_⟩
 obtain ⟨ko, kp, kq, kr, ks, kt, ku, kv, kw, kx, ky, ct, v0, v1⟩ := u9
 refine aH ?_
 try simp only [xt]
 refine bE (iN rfl) ?_
 have v2 : EngM _ _ _ _ n (g.commit s t) _ := ⟨_, _, _, _, _, _, _, _, _, _, _, ct, v0, v1⟩
 have he : g.work s t k r = (g.commit s t) := by
  unfold Eng.work
  rw [if_neg (by omega), if_neg (by omega), if_pos hk]
 rw [he]
 exact ⟨rfl, _, u8, (v2.drop (.cons _ (List.Sublist.refl _)))⟩
 have v3 : (k = 4 ∧ (k == 5) = false) ∨ (k = 5 ∧ (k == 5) = true) := by rcases hk with rfl | rfl <;> simp
 have hwo : WrOk (⟨r.name, r.key, k == 5, r.value⟩ : Wr) := WX ok v3
 refine aB ?_
 refine gL ?_
 refine dy ?_
 refine wlK g0 ?_
 refine aG ?_
 refine sk fun qu v4 => ?_
 refine gL ?_
 refine dy ?_
 simp only [pq]
 refine wn v4 ?_
 refine aG ?_
 refine sk fun qv v5 => ?_
 refine gL ?_
 refine dy ?_
 refine wn v5 ?_
 refine aG ?_
 refine sk fun qw v6 => ?_
 refine dR c7 0 Tryz.underlying27 (bP) ?_
 simp only [pq]
 refine aY c7 rfl (fn1 (Dt _ _)) (DG _ _ _ k r (b := k == 5) (c7).sat (hh.below c7.gr.below) ⟨_, _, _, _, rfl, q0, q1, q2, q3⟩ ok v3) ?_
 intro qx qy v7 cu a7 cv
 obtain ⟨_, rfl, cx⟩ := cv
 obtain ⟨b5, b6, b7, b9, c4, c5, rfl, v8, v9, w2⟩ := cx
 refine aC ?_
 refine sA cu (kC _) fun w3 qz cy => ?_
 refine sW 0 cy (bI) fun w4 a8 => ?_
 refine dy ?_
 simp only [pq]
 refine wn v6 ?_
 refine aF fun ra i9 => ?_
 cases hwx : fD t (⟨r.name, r.key, k == 5, r.value⟩ : Wr) with
 | none =>
  refine mI v7 [0, 1, 2, 3, 4, 5, 6, 7, 8, 9, 11] 10 12 [13] [(7, .made (fun F' u => TxE F' u jI 11)), (9, .made (fun F' u => TxV F' u jI)), (11, .rel (NewAt w4 [(iI 0), Zn, Zn] 141) (NewAt.stable _ _ _)), (10, .is (iI 11))] (by kernel_rfl) (by kernel_rfl) rfl rfl rfl rfl ?_
  simp only [iZ, List.getElem?_cons_succ, List.getElem?_cons_zero, List.map_cons, List.map_nil]
  refine cQ rfl rfl (pP n (6 + s * 2)) (fun d0 a9 => aN (gF _)) ?_
  simp only [pq]
  refine cQ rfl rfl (pP n (6 + s * 2)) (fun d0 a9 => aN (lP rfl)) ?_
  simp only [pq]
  refine cQ rfl rfl (pP n (6 + s * 2)) (fun d0 a9 => aN (ef (dZ _ _))) ?_
  simp only [pq]
  refine cQ rfl rfl (pP b 0) (fun d0 a9 => aN (aE rfl (aT (eC _) (St.cell (St.tells a8 a9) (i := 2) rfl ((eI hs8).trans (congrArg some hp)))))) ?_
  simp only [pq]
  refine cQ rfl rfl (pP b 0) (fun d0 a9 => aN (lP rfl)) ?_
  simp only [pq]
  refine cQ rfl rfl (.agg #[(.int .i64 t.start), (.slice x0 t.reads.length y0), (.slice x1 t.writes.length y1)]) (fun d0 a9 => aN (aE rfl (kW (cs := [(.int .i64 t.start), (.slice x0 t.reads.length y0), (.slice x1 t.writes.length y1)]) Tryz.underlying141 rfl (aU) (qS (St.fz (St.tells a8 a9) (Le.cell a7 b0)) (St.fz (St.tells a8 a9) (Le.cell a7 b1)) (St.fz (St.tells a8 a9) (Le.cell a7 b2)))))) ?_
  simp only [pq]
  refine cQ rfl rfl (.agg #[(.slice b5 r.name.length b6), (.slice b7 r.key.length b9), (.bool (k == 5)), (.slice c4 r.value.length c5)]) (fun d0 a9 => aN (aE rfl (kW (cs := [(.slice b5 r.name.length b6), (.slice b7 r.key.length b9), (.bool (k == 5)), (.slice c4 r.value.length c5)]) Tryz.underlying39 rfl (bI) (St.range (St.tells a8 a9) (i := 0) rfl 0 [(.slice b5 r.name.length b6), (.slice b7 r.key.length b9), (.bool (k == 5)), (.slice c4 r.value.length c5)] (eF 0 rfl))))) ?_
  simp only [pq]
  refine kJ rfl rfl (fun d0 a9 hF => bX (cP (vs := #[(.agg #[(.int .i64 t.start), (.slice x0 t.reads.length y0), (.slice x1 t.writes.length y1)]), (.agg #[(.slice b5 r.name.length b6), (.slice b7 r.key.length b9), (.bool (k == 5)), (.slice c4 r.value.length c5)])]) (iX rfl rfl) rfl (GV _ _)) (dI a8.sat a9 (zF _ _ _ _ t (⟨r.name, r.key, k == 5, r.value⟩ : Wr) ((St.tells a8 a9)).sat ⟨_, _, _, _, rfl, (r0.mono a7), (r1.mono a7)⟩ ⟨_, _, _, _, _, _, rfl, v8, v9, w2⟩ htok hwo hwx))) (fun cz => ?_)
  simp only [pq]
  refine cQ rfl rfl cz (fun d0 a9 => aN (gF _)) ?_
  simp only [pq]
  refine kJ rfl rfl (fun d0 a9 hF_ => ?_) (fun rb => ?_)
  obtain ⟨db, dc, _, rfl, w5⟩ := hF_.get 7 (by kernel_rfl) rfl rfl
  exact fY (cA rfl rfl) ⟨db, dc, w5⟩ (Below.refl _ _)
  simp only [pq]
  refine kJ rfl rfl (fun d0 a9 _ => kI (cs := [(iI 0), Zn, Zn]) (fX _) rfl a9) (fun rc => ?_)
  simp only [pq]
  refine BO (JL rfl rfl (v := (iI 11)) (fun d0 a9 hF_ => ?_) ?_)
  obtain ⟨rd, re, _, rfl, kz⟩ := hF_.get 7 (by kernel_rfl) rfl rfl
  exact fun w1 => aN (cA rfl rfl)
  intro rf la f1
  obtain ⟨dd, rfl, j0, j1⟩ := f1.getR 11 rfl rfl
  have h3 : ∀ u ∈ [(.int .i64 0), (.slice none 0 0), (.slice none 0 0)], ∀ x, u ≠ bv x := by intro u hu x; simp only [List.mem_cons, List.not_mem_nil, or_false] at hu; rcases hu with rfl | rfl | rfl <;> (unfold bv; simp)
  obtain ⟨dg, w7, dh⟩ := f1.get 9 rfl rfl
  have w8 := w7.dropF a8.sat j0
  have dj := TxV.dropT w7.sat j1 h3 dh
  have dk := St.addBlk (cs := [(.int .i64 0), (.slice none 0 0), (.slice none 0 0)]) a8 w8 j0 (qA _ _) j1
  have f2 : Le _ _ := w8.le a8.sat
  have dm := dj
  generalize (dropF dg dd) = rg at *
  obtain ⟨w9, x2, x3, x4, rfl, rh, ri⟩ := dm
  clear f1
  refine BQ (i := 0) (v := (.agg #[(.int .i64 jI.start), (.slice w9 jI.reads.length x2), (.slice x3 jI.writes.length x4)])) dk rfl rfl rfl (aU) (PE rfl rfl rfl) (Nat.le_of_ble_eq_true rfl) (fun rj dq => ?_)
  refine dy ?_
  simp only [pq]
  refine wlK i9 ?_
  refine aF fun rk x5 => ?_
  refine sk fun rl x6 => ?_
  refine dx ?_
  refine dr bF (cB (b := false) rfl rfl (by decide)) ?_
  refine wn x6 ?_
  refine aG ?_
  refine aI ?_
  refine x5 _ _ ?_
  refine aB ?_
  refine aC ?_
  have ds := St.perm dq (List.perm_middle (l₁ := [_, _, _]))
  have x7 : EngM _ _ _ _ n g _ := ⟨_, _, _, _, _, _, _, _, _, _, _, ds, (hd.mono (a7.trans f2)), (dU ht (a7.trans f2))⟩
  refine doC rfl (fn3 (kZ _ _)) (gU _ _ _ _ _ _ _ s 11 x7 hq) ?_
  rintro _ rm ⟨rfl, rn, x8, x9⟩
  refine ⟨_, rfl, ?_⟩
  obtain ⟨lb, lc, ld, lf, lg, lh, li, lj, lk, ll, lm, du, y2, y3⟩ := x9
  refine aH ?_
  try simp only [xt]
  refine bE (iN rfl) ?_
  have y4 : EngM _ _ _ _ n (g.reply (cX s 11)) _ := ⟨_, _, _, _, _, _, _, _, _, _, _, du, y2, y3⟩
  have he : g.work s t k r = (g.reply (cX s 11)) := by
   unfold Eng.work
   rw [if_neg (by omega), if_neg (by omega), if_neg (by omega)]
   unfold Eng.put
   rw [hwx]
  rw [he]
  exact ⟨rfl, _, ((a7.trans f2).trans x8), (y4.drop (.cons _ (.cons _ (.cons _ (List.Sublist.refl _)))))⟩
 | some nx =>
  refine mI v7 [0, 1, 2, 3, 4, 5, 6, 7, 8, 9, 11] 10 12 [13] [(7, .made (fun F' u => TxE F' u nx 0)), (9, .made (fun F' u => TxV F' u nx)), (11, .rel (NewAt w4 [(iI 0), Zn, Zn] 141) (NewAt.stable _ _ _)), (10, .is (iI 0))] (by kernel_rfl) (by kernel_rfl) rfl rfl rfl rfl ?_
  simp only [iZ, List.getElem?_cons_succ, List.getElem?_cons_zero, List.map_cons, List.map_nil]
  refine cQ rfl rfl (pP n (6 + s * 2)) (fun d1 b3 => aN (gF _)) ?_
  simp only [pq]
  refine cQ rfl rfl (pP n (6 + s * 2)) (fun d1 b3 => aN (lP rfl)) ?_
  simp only [pq]
  refine cQ rfl rfl (pP n (6 + s * 2)) (fun d1 b3 => aN (ef (dZ _ _))) ?_
  simp only [pq]
  refine cQ rfl rfl (pP b 0) (fun d1 b3 => aN (aE rfl (aT (eC _) (St.cell (St.tells a8 b3) (i := 2) rfl ((eI hs8).trans (congrArg some hp)))))) ?_
  simp only [pq]
  refine cQ rfl rfl (pP b 0) (fun d1 b3 => aN (lP rfl)) ?_
  simp only [pq]
  refine cQ rfl rfl (.agg #[(.int .i64 t.start), (.slice x0 t.reads.length y0), (.slice x1 t.writes.length y1)]) (fun d1 b3 => aN (aE rfl (kW (cs := [(.int .i64 t.start), (.slice x0 t.reads.length y0), (.slice x1 t.writes.length y1)]) Tryz.underlying141 rfl (aU) (qS (St.fz (St.tells a8 b3) (Le.cell a7 b0)) (St.fz (St.tells a8 b3) (Le.cell a7 b1)) (St.fz (St.tells a8 b3) (Le.cell a7 b2)))))) ?_
  simp only [pq]
  refine cQ rfl rfl (.agg #[(.slice b5 r.name.length b6), (.slice b7 r.key.length b9), (.bool (k == 5)), (.slice c4 r.value.length c5)]) (fun d1 b3 => aN (aE rfl (kW (cs := [(.slice b5 r.name.length b6), (.slice b7 r.key.length b9), (.bool (k == 5)), (.slice c4 r.value.length c5)]) Tryz.underlying39 rfl (bI) (St.range (St.tells a8 b3) (i := 0) rfl 0 [(.slice b5 r.name.length b6), (.slice b7 r.key.length b9), (.bool (k == 5)), (.slice c4 r.value.length c5)] (eF 0 rfl))))) ?_
  simp only [pq]
  refine kJ rfl rfl (fun d1 b3 hF => bX (cP (vs := #[(.agg #[(.int .i64 t.start), (.slice x0 t.reads.length y0), (.slice x1 t.writes.length y1)]), (.agg #[(.slice b5 r.name.length b6), (.slice b7 r.key.length b9), (.bool (k == 5)), (.slice c4 r.value.length c5)])]) (iX rfl rfl) rfl (GV _ _)) (dI a8.sat b3 (mW _ _ _ _ t (⟨r.name, r.key, k == 5, r.value⟩ : Wr) nx ((St.tells a8 b3)).sat ⟨_, _, _, _, rfl, (r0.mono a7), (r1.mono a7)⟩ ⟨_, _, _, _, _, _, rfl, v8, v9, w2⟩ htok hwo hwx))) (fun dv => ?_)
  simp only [pq]
  refine cQ rfl rfl dv (fun d1 b3 => aN (gF _)) ?_
  simp only [pq]
  refine kJ rfl rfl (fun d1 b3 hF_ => ?_) (fun ro => ?_)
  obtain ⟨dw, dz, _, rfl, y5⟩ := hF_.get 7 (by kernel_rfl) rfl rfl
  exact fY (cA rfl rfl) ⟨dw, dz, y5⟩ (Below.refl _ _)
  simp only [pq]
  refine kJ rfl rfl (fun d1 b3 _ => kI (cs := [(iI 0), Zn, Zn]) (fX _) rfl b3) (fun rp => ?_)
  simp only [pq]
  refine BO (JL rfl rfl (v := (iI 0)) (fun d1 b3 hF_ => ?_) ?_)
  obtain ⟨rq, rr, _, rfl, ln⟩ := hF_.get 7 (by kernel_rfl) rfl rfl
  exact fun w1 => aN (cA rfl rfl)
  intro rs lo f3
  obtain ⟨d6, rfl, j2, j3⟩ := f3.getR 11 rfl rfl
  have h4 : ∀ u ∈ [(.int .i64 0), (.slice none 0 0), (.slice none 0 0)], ∀ x, u ≠ bv x := by intro u hu x; simp only [List.mem_cons, List.not_mem_nil, or_false] at hu; rcases hu with rfl | rfl | rfl <;> (unfold bv; simp)
  obtain ⟨ea, y6, eb⟩ := f3.get 9 rfl rfl
  have y7 := y6.dropF a8.sat j2
  have ec := TxV.dropT y6.sat j3 h4 eb
  have ed := St.addBlk (cs := [(.int .i64 0), (.slice none 0 0), (.slice none 0 0)]) a8 y7 j2 (qA _ _) j3
  have f4 : Le _ _ := y7.le a8.sat
  have ee := ec
  generalize (dropF ea d6) = k5 at *
  obtain ⟨f5, f6, f7, f8, rfl, eg, eh⟩ := ee
  clear f3
  refine BQ (i := 0) (v := (.agg #[(.int .i64 nx.start), (.slice f5 nx.reads.length f6), (.slice f7 nx.writes.length f8)])) ed rfl rfl rfl (aU) (PE rfl rfl rfl) (Nat.le_of_ble_eq_true rfl) (fun ei k6 => ?_)
  have k6 : St w0 F0 ei k5 (⟨d6, [(.int .i64 nx.start), (.slice f5 nx.reads.length f6), (.slice f7 nx.writes.length f8)], 141⟩ :: ⟨w3, [(.slice b5 r.name.length b6), (.slice b7 r.key.length b9), (.bool (k == 5)), (.slice c4 r.value.length c5)], 39⟩ :: ⟨n5, [(nI k), (.slice a0 r.name.length c0), (.slice a1 r.key.length c1), (.slice a2 r.last.length c2), (.slice a3 r.value.length c3)], 27⟩ :: ⟨n, lZ g.up (.slice ad g.tape.data.length cd) g.tape.synced (.slice ac g.commits.length cc) (.slice af g.forests.length cf) g.synced pv g.waits (.slice aw g.waiting.length cw) (.slice ar g.replies.length cr), 115⟩ :: L) (oJ w0.heap.size (.slice ac g.commits.length cc) g.commits (.slice af g.forests.length cf) g.forests (.slice aw g.waiting.length cw) g.waiting (.slice ar g.replies.length cr) g.replies) := k6
  refine dy ?_
  simp only [pq]
  refine wlK i9 ?_
  refine aF fun rt y8 => ?_
  refine sk fun ru y9 => ?_
  refine dx ?_
  refine dr bT (cB (b := true) rfl rfl (by decide)) ?_
  refine wn y9 ?_
  refine aK ?_
  refine aB ?_
  refine aC ?_
  refine fK (i := 3) (v := (pP d6 0)) k6 rfl rfl rfl rfl (nV) (mF rfl) (by rw [lC]; simp only [Value.cells]; exact Nat.le_of_lt_succ (by simp only [List.size_toArray, List.length_cons, List.length_nil]; omega)) (fun z0 h5 => ?_)
  simp only [pq]
  have h5 : St w0 F0 z0 k5 (⟨d6, [(.int .i64 nx.start), (.slice f5 nx.reads.length f6), (.slice f7 nx.writes.length f8)], 141⟩ :: ⟨w3, [(.slice b5 r.name.length b6), (.slice b7 r.key.length b9), (.bool (k == 5)), (.slice c4 r.value.length c5)], 39⟩ :: ⟨n5, [(nI k), (.slice a0 r.name.length c0), (.slice a1 r.key.length c1), (.slice a2 r.last.length c2), (.slice a3 r.value.length c3)], 27⟩ :: ⟨n, bQ (lZ g.up (.slice ad g.tape.data.length cd) g.tape.synced (.slice ac g.commits.length cc) (.slice af g.forests.length cf) g.synced pv g.waits (.slice aw g.waiting.length cw) (.slice ar g.replies.length cr)) (6 + s * 2) [(pP d6 0)], 115⟩ :: L) (oJ w0.heap.size (.slice ac g.commits.length cc) g.commits (.slice af g.forests.length cf) g.forests (.slice aw g.waiting.length cw) g.waiting (.slice ar g.replies.length cr) g.replies) := h5
  rw [oI hs8] at h5
  refine wlK y8 ?_
  obtain ⟨ej, d5, f9⟩ := St.freezeBlk h5 (i := 0) rfl
  generalize addF k5 z0 d6 = rv at *
  have z1 := rJ (x := .pointer (some ⟨d6, 0, none⟩)) (t := some nx) (dU ht ((a7.trans f4).trans d5)) ⟨_, _, _, _, _, rfl, f9 0 _ rfl, f9 1 _ rfl, f9 2 _ rfl, (eg.mono d5), (eh.mono d5)⟩ s
  refine aB ?_
  refine aC ?_
  have ek := St.perm ej (List.perm_middle (l₁ := [_, _]))
  have z2 : EngM _ _ _ _ n (g.setTxn s (some nx)) _ := ⟨_, _, _, _, _, _, _, _, _, _, _, ek, (hd.mono ((a7.trans f4).trans d5)), z1⟩
  refine doC rfl (fn3 (kZ _ _)) (gU _ _ _ _ _ _ _ s 0 z2 hq) ?_
  rintro _ rx ⟨rfl, ry, z3, z4⟩
  refine ⟨_, rfl, ?_⟩
  obtain ⟨lp, lq, lr, ls, lt, lu, lv, lw, lx, ly, lz, el, z5, z6⟩ := z4
  refine aH ?_
  try simp only [xt]
  refine bE (iN rfl) ?_
  have z7 : EngM _ _ _ _ n ((g.setTxn s (some nx)).reply (cX s 0)) _ := ⟨_, _, _, _, _, _, _, _, _, _, _, el, z5, z6⟩
  have he : g.work s t k r = ((g.setTxn s (some nx)).reply (cX s 0)) := by
   unfold Eng.work
   rw [if_neg (by omega), if_neg (by omega), if_neg (by omega)]
   unfold Eng.put
   rw [hwx]
  rw [he]
  exact ⟨rfl, _, (((a7.trans f4).trans d5).trans z3), (z7.drop (.cons _ (.cons _ (List.Sublist.refl _))))⟩
end Go.Proofs.YtilgpdpooildcaaGreatDoor
