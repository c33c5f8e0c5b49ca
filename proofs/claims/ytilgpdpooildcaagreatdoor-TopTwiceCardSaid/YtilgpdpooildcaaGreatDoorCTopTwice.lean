/- The walk of TopTwice -/
import Derived.Test.YtilgpdpooildcaaGreatDoorCA2
import Derived.Test.YtilgpdpooildcaaGreatDoorCA3
import Derived.Test.YtilgpdpooildcaaGreatDoorCA13
namespace Go.Proofs.YtilgpdpooildcaaGreatDoor
set_option maxHeartbeats 8000000
open Go.RowKit
set_option maxRecDepth 100000
set_option linter.unusedVariables false
set_option linter.unusedSimpArgs false
theorem ok2 (k : Nat) (h : k < 300) : ∀ x ∈ [Ac.crash k, Ac.start], pH x := by
 intro x hx
 simp only [List.mem_cons, List.not_mem_nil, or_false] at hx
 rcases hx with rfl | rfl
 ·show k ≤ 100000; omega
 ·trivial
theorem YB (l : List Ge) (a b : Nat) (ha : a < 300) (hb : b < 300) : ∃ G G2 : Eng, (ScrOk (aG l 50 ++ [.crash a, .start]) ∧ dM (aG l 50 ++ [.crash a, .start]) = G) ∧ (ScrOk (([] ++ (aG l 50 ++ [.crash a, .start])) ++ [.crash b, .start]) ∧ dM (([] ++ (aG l 50 ++ [.crash a, .start])) ++ [.crash b, .start]) = G2) ∧
    G.synced = G2.synced ∧ G.forest G.synced = G2.forest G2.synced ∧ G.up = true ∧ G2.up = true ∧ G.replies.length = G2.replies.length ∧ ForestOk 60 (G.forest G.synced) := by
 have a0 := aY l 50
 have s0 : ScrOk (aG l 50) := qE (pM l 50) (by omega)
 have s1 : ScrOk (aG l 50 ++ [.crash a, .start]) := qE (pO s0.ok (ok2 a ha)) (by simp; omega)
 have s2 : ScrOk (([] ++ (aG l 50 ++ [.crash a, .start])) ++ [.crash b, .start]) := qE (pO (pO (by simp) s1.ok) (ok2 b hb)) (by simp; omega)
 obtain ⟨h1, h2⟩ := LG s0
 have hf := VI s1
 have e1 : dM (aG l 50 ++ [.crash a, .start]) = ((dM (aG l 50)).crash a).start := by rw [iV]; rfl
 have e2 : dM (([] ++ (aG l 50 ++ [.crash a, .start])) ++ [.crash b, .start]) = ((((dM (aG l 50)).crash a).start).crash b).start := by
  rw [List.nil_append, iV, e1]; rfl
 obtain ⟨t1, t2, t3, t4, t5⟩ := XY h1 h2 a b
 refine ⟨_, _, ⟨s1, rfl⟩, ⟨s2, rfl⟩, ?_⟩
 rw [e1] at hf ⊢
 rw [e2]
 exact ⟨t1, t2, t3, t4, t5, hf⟩
theorem GG (W : World) (hT : Has W ∧ Tabs W) (v0 : Value) (l0 : List Ge) (z0 : Ges (whole W) v0 l0) (x1 : Int) (b1 : -9223372036854775808 ≤ x1) (b1' : x1 ≤ 9223372036854775807) (x2 : Int) (b2 : -9223372036854775808 ≤ x2) (b2' : x2 ≤ 9223372036854775807) :
    Calls Tryz.prog 5 #[v0, .int .i64 x1, .int .i64 x2] W (cR W (.bool true)) := by
 obtain ⟨a0, c0, rfl, q0, q0'⟩ := Sl.shape z0
 unfold maxLen at q0'
 obtain ⟨d8, a8, a9, b0, b3⟩ := info_parts JF
 have S := St.start (Sat.whole W)
 go_enter Tryz.func5, Tryz.ntmps5
 refine sk fun i9 c1 => ?_
 refine dy ?_
 refine wn c1 ?_
 refine sk fun j0 c2 => ?_
 refine dx ?_
 refine kM AcC.mono S rfl (fn2 (RA _ _)) (uR _ _ _ l0 50 (S).sat ⟨hT.1.below S.gr.below, hT.2.at S.gr.below⟩ z0 (by omega)) ?_
 intro j1 j2 d9 e0 i1
 refine dx ?_
 simp only [pq]
 have i2 := gQ x1 (m := 300) (by decide)
 refine aK (v := (nI (bA x1 300))) e0 rfl (fn2 (oQ _ _)) (fH x1 300 _ (by omega) (by omega) (by decide) (by decide)) (fun j3 e1 => ?_)
 refine dr (.agg #[(iI 3), (iI 0), (nI (bA x1 300)), Zn]) (aL (eP rfl rfl) (by kernel_rfl)) ?_
 refine dr (.agg #[(iI 4), (iI 0), (iI 0), Zn]) (aL (cT rfl) (by kernel_rfl)) ?_
 refine bG e1 (v := fun n => .slice (aA n 0) 2 2) rfl (cM (ps := #[(0, (.agg #[(iI 3), (iI 0), (nI (bA x1 300)), Zn])), (1, (.agg #[(iI 4), (iI 0), (iI 0), Zn]))]) (cells := #[(iI 3), (iI 0), (nI (bA x1 300)), Zn, (iI 4), (iI 0), (iI 0), Zn]) (E := 33) (eP rfl rfl) (fun w => by kernel_rfl)) (fun b4 e2 c3 => ?_)
 simp only [pq]
 obtain ⟨j4, e3, rfl, j5, e4⟩ := (c3.own (i := 0) rfl).shape
 unfold maxLen at e4
 obtain ⟨b5, i3, c4⟩ := St.freezeBlk c3 (i := 0) rfl
 have e5 : Acs _ (.slice (some ⟨b4, 0, none⟩) 2 2) ([(Ac.crash (bA x1 300)), Ac.start] : List Ac) := gJ (R := AcC) (l := ([(Ac.crash (bA x1 300)), Ac.start] : List Ac)) (el := [[(.int .i64 3), (.int .i64 0), (.int .i64 (((bA x1 300) : Nat) : Int)), (.slice none 0 0)], [(.int .i64 4), (.int .i64 0), (.int .i64 0), (.slice none 0 0)]]) c4 rfl ⟨⟨_, rfl, Bs.nil _⟩, ⟨_, rfl, Bs.nil _⟩, trivial⟩ (by simp) (by unfold maxLen; simp)
 generalize addF d9 e2 b4 = j6 at *
 refine dW (r := 0) (u := (.slice (aA b4 0) 2 2)) b5 rfl d8 (.agg #[(iI 0), (iI 0), (iI 0), Zn]) 48 Tryz.underlying23 a8 a9 b0 b3 rfl (by decide) rfl rfl rfl (Sl.toW e5 (b5).sat) AcC.one (Nat.le_refl _) b5.gr.below.size (by unfold maxLen; (have := aY l0 50; simp; omega)) (by (have := aY l0 50; simp; omega)) ?_
 intro j7 j8 c5 i4
 simp only [pq]
 obtain ⟨c6, a2, rfl, j9, e6⟩ := (c5.own (i := 0) rfl).shape
 unfold maxLen at e6
 refine dy ?_
 refine wn c2 ?_
 refine sk fun k0 c7 => ?_
 refine dx ?_
 simp only [pq]
 obtain ⟨G, G2, h1, h2, t1, t2, t3, t4, t5, t6⟩ := YB l0 (bA x1 300) (bA x2 300) (gQ _ (by decide)) (gQ _ (by decide))
 obtain ⟨k1, a6, i5, a1⟩ := St.freeze c5 (i := 0) rfl (Nat.le_refl _)
 have a1 : Acs _ (.slice c6 ((aG l0 50) ++ [(Ac.crash (bA x1 300)), Ac.start]).length a2) ((aG l0 50) ++ [(Ac.crash (bA x1 300)), Ac.start]) := a1
 refine aR a6 rfl (fn1 (DS _ _)) (pL _ _ _ ((aG l0 50) ++ [(Ac.crash (bA x1 300)), Ac.start]) (a6).sat (hT.1.below a6.gr.below) (hT.2.at a6.gr.below) a1 h1.1 h1.2) ?_
 intro k2 k3 e7 e8 c8 e9
 obtain ⟨_, rfl, f0⟩ := e9
 obtain ⟨f1, f2, f3, f4, rfl, f5, k4⟩ := f0
 refine aC ?_
 refine sA e8 (nV _) fun f6 k5 f7 => ?_
 refine sW 0 f7 (kU) fun k6 f8 => ?_
 refine dy ?_
 simp only [pq]
 refine wn c7 ?_
 refine aE fun k7 c9 => ?_
 have b6 := St.addNil f8 4 AcC AcC.mono 33 W.heap.size
 refine aB ?_
 refine dx ?_
 refine dW (r := 0) (u := (.slice c6 ((aG l0 50) ++ [(Ac.crash (bA x1 300)), Ac.start]).length a2)) b6 rfl d8 (.agg #[(iI 0), (iI 0), (iI 0), Zn]) 48 Tryz.underlying23 a8 a9 b0 b3 rfl (by decide) rfl rfl rfl (Sl.toW (a1.mono c8) (b6).sat) AcC.one (Nat.le_refl _) b6.gr.below.size (by unfold maxLen; (have := aY l0 50; simp; omega)) (by (have := aY l0 50; simp; omega)) ?_
 intro k8 k9 d0 i6
 simp only [pq]
 obtain ⟨l1, f9, rfl, l2, g0⟩ := (d0.own (i := 0) rfl).shape
 unfold maxLen at g0
 refine dx ?_
 simp only [pq]
 have i7 := gQ x2 (m := 300) (by decide)
 refine aK (v := (nI (bA x2 300))) d0 rfl (fn2 (oQ _ _)) (fH x2 300 _ (by omega) (by omega) (by decide) (by decide)) (fun l3 g1 => ?_)
 refine dr (.agg #[(iI 3), (iI 0), (nI (bA x2 300)), Zn]) (aL (eP rfl rfl) (by kernel_rfl)) ?_
 refine dr (.agg #[(iI 4), (iI 0), (iI 0), Zn]) (aL (cT rfl) (by kernel_rfl)) ?_
 refine bG g1 (v := fun n => .slice (aA n 0) 2 2) rfl (cM (ps := #[(0, (.agg #[(iI 3), (iI 0), (nI (bA x2 300)), Zn])), (1, (.agg #[(iI 4), (iI 0), (iI 0), Zn]))]) (cells := #[(iI 3), (iI 0), (nI (bA x2 300)), Zn, (iI 4), (iI 0), (iI 0), Zn]) (E := 33) (eP rfl rfl) (fun w => by kernel_rfl)) (fun b7 g2 g3 => ?_)
 simp only [pq]
 obtain ⟨b9, d1, d2⟩ := St.freezeBlk g3 (i := 0) rfl
 have g4 : Acs _ (.slice (some ⟨b7, 0, none⟩) 2 2) ([(Ac.crash (bA x2 300)), Ac.start] : List Ac) := gJ (R := AcC) (l := ([(Ac.crash (bA x2 300)), Ac.start] : List Ac)) (el := [[(.int .i64 3), (.int .i64 0), (.int .i64 (((bA x2 300) : Nat) : Int)), (.slice none 0 0)], [(.int .i64 4), (.int .i64 0), (.int .i64 0), (.slice none 0 0)]]) d2 rfl ⟨⟨_, rfl, Bs.nil _⟩, ⟨_, rfl, Bs.nil _⟩, trivial⟩ (by simp) (by unfold maxLen; simp)
 generalize addF e7 g2 b7 = l4 at *
 refine dW (r := 0) (u := (.slice (aA b7 0) 2 2)) b9 rfl d8 (.agg #[(iI 0), (iI 0), (iI 0), Zn]) 48 Tryz.underlying23 a8 a9 b0 b3 rfl (by decide) rfl rfl rfl (Sl.toW g4 (b9).sat) AcC.one (Nat.le_refl _) b9.gr.below.size (by unfold maxLen; (have := aY l0 50; simp; omega)) (by (have := aY l0 50; simp; omega)) ?_
 intro l5 l6 d3 i8
 simp only [pq]
 obtain ⟨d4, a3, rfl, l7, g5⟩ := (d3.own (i := 0) rfl).shape
 unfold maxLen at g5
 obtain ⟨l8, a7, d5, a4⟩ := St.freeze d3 (i := 0) rfl (Nat.le_refl _)
 have a4 : Acs _ (.slice d4 (([] ++ ((aG l0 50) ++ [(Ac.crash (bA x1 300)), Ac.start])) ++ [(Ac.crash (bA x2 300)), Ac.start]).length a3) (([] ++ ((aG l0 50) ++ [(Ac.crash (bA x1 300)), Ac.start])) ++ [(Ac.crash (bA x2 300)), Ac.start]) := a4
 refine aR a7 rfl (bZ (vs := #[(.slice d4 (([] ++ ((aG l0 50) ++ [(Ac.crash (bA x1 300)), Ac.start])) ++ [(Ac.crash (bA x2 300)), Ac.start]).length a3)]) (jL rfl) rfl (DS _ _)) (pL _ _ _ (([] ++ ((aG l0 50) ++ [(Ac.crash (bA x1 300)), Ac.start])) ++ [(Ac.crash (bA x2 300)), Ac.start]) (a7).sat (hT.1.below a7.gr.below) (hT.2.at a7.gr.below) a4 h2.1 h2.2) ?_
 intro l9 m0 g6 g7 d6 g8
 obtain ⟨_, rfl, g9⟩ := g8
 obtain ⟨h0, h3, h4, h5, rfl, h6, m1⟩ := g9
 refine aC ?_
 refine sA g7 (nV _) fun h7 m2 h8 => ?_
 refine sW 0 h8 (kU) fun h9 a5 => ?_
 simp only [pq]
 have a5 : St W (whole W) h9 g6 [⟨h7, [(.bool G2.up), (nI G2.synced), (nI G2.waiting.length), (.slice h0 (G2.forest G2.synced).length h3), (.slice h4 G2.replies.length h5)], 43⟩, ⟨f6, [(.bool G.up), (nI G.synced), (nI G.waiting.length), (.slice f1 (G.forest G.synced).length f2), (.slice f3 G.replies.length f4)], 43⟩] [] := a5
 refine dy ?_
 refine wlK c9 ?_
 refine aE fun m3 d7 => ?_
 rw [t3, t4] at a5 ⊢
 refine aB ?_
 refine aC ?_
 refine gT ?_
 refine aC ?_
 refine aK (v := bT) a5 rfl (fn2 (ZF _ _)) (dX (sU _ _ _ _ (G.forest G.synced) (G2.forest G2.synced) (a5).sat (f5.mono ((d1.trans d5).trans d6)) h6 (by have := ForestOk.len t6; omega) (fun t ht => by have := (ForestOk.tree t6 t ht).len; omega)) (decide_eq_true (t2))) (fun m4 i0 => ?_)
 refine aC ?_
 refine gT ?_
 refine aC ?_
 refine wlK d7 ?_
 refine aN ?_
 try simp only [xt]
 refine bR (aZ rfl (gD rfl)) ?_
 exact ⟨rfl, i0.gr.below⟩
end Go.Proofs.YtilgpdpooildcaaGreatDoor
