/- The walk of TopIdle -/
import Derived.Test.YtilgpdpooildcaaGreatDoorCA2
import Derived.Test.YtilgpdpooildcaaGreatDoorCA3
import Derived.Test.YtilgpdpooildcaaGreatDoorCA13
namespace Go.Proofs.YtilgpdpooildcaaGreatDoor
set_option maxHeartbeats 8000000
open Go.RowKit
set_option maxRecDepth 100000
set_option linter.unusedVariables false
set_option linter.unusedSimpArgs false
theorem oks : ∀ x ∈ [Ac.sync], pH x := fun x hx => by rw [List.mem_singleton.1 hx]; trivial
theorem Jv (b : Bool) : ∀ x ∈ (if b = true then [Ac.start] else []), pH x := fun x hx => by
  cases b
  · simp at hx
  · rw [List.mem_singleton.1 hx]; trivial
theorem Cn (l r : List Ge) (U : Bool) (hU : (dM (aG l 30 ++ [.sync])).up = U) : ∃ G : Eng, (ScrOk (([] ++ (aG l 30 ++ [.sync])) ++ aG r 30) ∧ dM (([] ++ (aG l 30 ++ [.sync])) ++ aG r 30) = G) ∧
    (ScrOk (((([] ++ (aG l 30 ++ [.sync])) ++ [.sync]) ++ (if U = true then [Ac.start] else [])) ++ aG r 30) ∧ dM (((([] ++ (aG l 30 ++ [.sync])) ++ [.sync]) ++ (if U = true then [Ac.start] else [])) ++ aG r 30) = G) ∧ ForestOk 60 (G.forest G.synced) := by
 have a0 := aY l 30
 have a1 := aY r 30
 have s0 : ScrOk (aG l 30) := qE (pM l 30) (by omega)
 have s1 : ScrOk (aG l 30 ++ [.sync]) := qE (pO s0.ok oks) (by simp; omega)
 have s2 : ScrOk (([] ++ (aG l 30 ++ [.sync])) ++ aG r 30) := qE (pO (pO (by simp) s1.ok) (pM r 30)) (by simp; omega)
 have s3 : ScrOk (((([] ++ (aG l 30 ++ [.sync])) ++ [.sync]) ++ (if U = true then [Ac.start] else [])) ++ aG r 30) := qE (pO (pO (pO (pO (by simp) s1.ok) oks) (Jv U)) (pM r 30)) (by cases U <;> simp <;> omega)
 obtain ⟨h1, h2⟩ := LG s0
 refine ⟨_, ⟨s2, rfl⟩, ⟨s3, ?_⟩, VI s2⟩
 have e1 : dM (aG l 30 ++ [.sync]) = (dM (aG l 30)).sync := by rw [iV]; rfl
 have e2 : dM ((aG l 30 ++ [.sync]) ++ [.sync]) = (dM (aG l 30)).sync := by rw [iV, e1]; exact (Still.sync h1 h2).sync_sync
 have e3 : dM (((aG l 30 ++ [.sync]) ++ [.sync]) ++ (if U = true then [Ac.start] else [])) = (dM (aG l 30)).sync := by
  rw [iV, e2]
  cases U with
  | false => rfl
  | true => exact Cj (by rw [← e1]; exact hU)
 rw [List.nil_append, iV, e3, iV _ (aG r 30), e1]
theorem LH (W : World) (hT : Has W ∧ Tabs W) (v0 : Value) (l0 : List Ge) (z0 : Ges (whole W) v0 l0) (v1 : Value) (l1 : List Ge) (z1 : Ges (whole W) v1 l1) :
    Calls Tryz.prog 4 #[v0, v1] W (cR W (.bool true)) := by
 obtain ⟨a0, c0, rfl, q0, q0'⟩ := Sl.shape z0
 unfold maxLen at q0'
 obtain ⟨a1, c1, rfl, q1, q1'⟩ := Sl.shape z1
 unfold maxLen at q1'
 obtain ⟨h5, b9, c2, c3, c4⟩ := info_parts JF
 have S := St.start (Sat.whole W)
 go_enter Tryz.func4, Tryz.ntmps4
 refine sk fun t8 i1 => ?_
 refine dy ?_
 refine wn i1 ?_
 refine sk fun t9 i2 => ?_
 refine dx ?_
 refine kM AcC.mono S rfl (fn2 (RA _ _)) (uR _ _ _ l0 30 (S).sat ⟨hT.1.below S.gr.below, hT.2.at S.gr.below⟩ z0 (by omega)) ?_
 intro u0 u1 i3 n0 i4
 refine dr (.agg #[(iI 2), (iI 0), (iI 0), Zn]) (aL (cT rfl) (by kernel_rfl)) ?_
 simp only [pq]
 refine bG n0 (v := fun n => .slice (aA n 0) 1 1) rfl (cM (ps := #[(0, (.agg #[(iI 2), (iI 0), (iI 0), Zn]))]) (cells := #[(iI 2), (iI 0), (iI 0), Zn]) (E := 33) (cT rfl) (fun w => by kernel_rfl)) (fun i5 u2 h6 => ?_)
 simp only [pq]
 obtain ⟨i6, d0, rfl, u3, n1⟩ := (h6.own (i := 0) rfl).shape
 unfold maxLen at n1
 refine eV (i := 0) (r := 0) (p := Ac.sync) (cs := [(iI 2), (iI 0), (iI 0), Zn]) h6 rfl h5 (.agg #[(iI 0), (iI 0), (iI 0), Zn]) 48 Tryz.underlying23 b9 c2 c3 c4 rfl (by decide) rfl rfl rfl rfl rfl (AcC.oneCell (F := i3) (p := Ac.sync) ⟨_, rfl, Bs.nil _⟩) (⟨_, rfl, Bs.nil _⟩) (Nat.le_refl _) h6.gr.below.size (by unfold maxLen; (have := aY l0 30; have := aY l1 30; simp; omega)) (by (have := aY l0 30; have := aY l1 30; simp; omega)) ?_
 intro u4 u5 e2 r5
 simp only [pq]
 have e2 := St.drop e2 (.cons _ (List.Sublist.refl _))
 obtain ⟨a5, a2, rfl, u6, n2⟩ := (e2.own (i := 0) rfl).shape
 unfold maxLen at n2
 refine dy ?_
 refine wn i2 ?_
 refine sk fun u7 i7 => ?_
 refine dy ?_
 refine wn i7 ?_
 refine sk fun u8 i8 => ?_
 refine dy ?_
 simp only [pq]
 refine wn i8 ?_
 refine aE fun u9 i9 => ?_
 have h7 := St.addNil e2 4 AcC AcC.mono 33 W.heap.size
 refine aB ?_
 iterate 2 refine dx ?_
 refine dW (r := 0) (u := (.slice a5 ((aG l0 30) ++ [Ac.sync]).length a2)) h7 rfl h5 (.agg #[(iI 0), (iI 0), (iI 0), Zn]) 48 Tryz.underlying23 b9 c2 c3 c4 rfl (by decide) rfl rfl rfl ((h7.own (i := 1) rfl).toW) AcC.one (Nat.le_refl _) h7.gr.below.size (by unfold maxLen; (have := aY l0 30; have := aY l1 30; simp; omega)) (by (have := aY l0 30; have := aY l1 30; simp; omega)) ?_
 intro v2 v3 j0 r6
 simp only [pq]
 obtain ⟨b6, a3, rfl, v4, n3⟩ := (j0.own (i := 0) rfl).shape
 unfold maxLen at n3
 refine dy ?_
 refine wlK i9 ?_
 refine aE fun v5 j1 => ?_
 have h8 := St.addNil j0 4 AcC AcC.mono 33 W.heap.size
 refine aB ?_
 refine aC ?_
 refine dW (r := 0) (u := (.slice a5 ((aG l0 30) ++ [Ac.sync]).length a2)) h8 rfl h5 (.agg #[(iI 0), (iI 0), (iI 0), Zn]) 48 Tryz.underlying23 b9 c2 c3 c4 rfl (by decide) rfl rfl rfl ((h8.own (i := 2) rfl).toW) AcC.one (Nat.le_refl _) h8.gr.below.size (by unfold maxLen; (have := aY l0 30; have := aY l1 30; simp; omega)) (by (have := aY l0 30; have := aY l1 30; simp; omega)) ?_
 intro v6 v7 j2 r7
 simp only [pq]
 obtain ⟨j3, d1, rfl, v8, n4⟩ := (j2.own (i := 0) rfl).shape
 unfold maxLen at n4
 refine dr (.agg #[(iI 2), (iI 0), (iI 0), Zn]) (aL (cT rfl) (by kernel_rfl)) ?_
 refine bG j2 (v := fun n => .slice (aA n 0) 1 1) rfl (cM (ps := #[(0, (.agg #[(iI 2), (iI 0), (iI 0), Zn]))]) (cells := #[(iI 2), (iI 0), (iI 0), Zn]) (E := 33) (cT rfl) (fun w => by kernel_rfl)) (fun j4 v9 j5 => ?_)
 refine eV (i := 0) (r := 0) (p := Ac.sync) (cs := [(iI 2), (iI 0), (iI 0), Zn]) j5 rfl h5 (.agg #[(iI 0), (iI 0), (iI 0), Zn]) 48 Tryz.underlying23 b9 c2 c3 c4 rfl (by decide) rfl rfl rfl rfl rfl (AcC.oneCell (F := i3) (p := Ac.sync) ⟨_, rfl, Bs.nil _⟩) (⟨_, rfl, Bs.nil _⟩) (Nat.le_refl _) j5.gr.below.size (by unfold maxLen; (have := aY l0 30; have := aY l1 30; simp; omega)) (by (have := aY l0 30; have := aY l1 30; simp; omega)) ?_
 intro w0 w1 e3 r8
 simp only [pq]
 have e3 := St.drop e3 (.cons _ (List.Sublist.refl _))
 obtain ⟨d2, a8, rfl, w2, n5⟩ := (e3.own (i := 0) rfl).shape
 unfold maxLen at n5
 refine dy ?_
 refine wlK j1 ?_
 refine sk fun w3 j6 => ?_
 refine dx ?_
 simp only [pq]
 obtain ⟨U, hU⟩ : ∃ U, (dM (aG l0 30 ++ [Ac.sync])).up = U := ⟨_, rfl⟩
 obtain ⟨G0, h0, hU0⟩ : ∃ G, (ScrOk (((aG l0 30) ++ [Ac.sync])) ∧ dM (((aG l0 30) ++ [Ac.sync])) = G) ∧ G.up = U := ⟨_, ⟨qE (pO (pM l0 30) oks) (by have := aY l0 30; simp; omega), rfl⟩, hU⟩
 obtain ⟨w4, e4, j7, d3⟩ := St.freeze e3 (i := 2) rfl (Nat.le_refl _)
 have d3 : Acs _ (.slice a5 ((aG l0 30) ++ [Ac.sync]).length a2) ((aG l0 30) ++ [Ac.sync]) := d3
 refine aR e4 rfl (fn1 (DS _ _)) (pL _ _ _ ((aG l0 30) ++ [Ac.sync]) (e4).sat (hT.1.below e4.gr.below) (hT.2.at e4.gr.below) d3 h0.1 h0.2) ?_
 intro w5 w6 c5 n6 j8 n7
 obtain ⟨_, rfl, n8⟩ := n7
 obtain ⟨a9, b0, b1, b2, rfl, w7, w8⟩ := n8
 refine aC ?_
 refine sA n6 (nV _) fun c6 w9 n9 => ?_
 refine sW 0 n9 (kU) fun j9 d4 => ?_
 simp only [pq]
 have d4 : St W (whole W) j9 c5 [⟨c6, [(.bool G0.up), (nI G0.synced), (nI G0.waiting.length), (.slice a9 (G0.forest G0.synced).length b0), (.slice b1 G0.replies.length b2)], 43⟩] [cN 4 AcC AcC.mono 33 W.heap.size (.slice d2 (([] ++ ((aG l0 30) ++ [Ac.sync])) ++ [Ac.sync]).length a8) (([] ++ ((aG l0 30) ++ [Ac.sync])) ++ [Ac.sync]), cN 4 AcC AcC.mono 33 W.heap.size (.slice b6 ([] ++ ((aG l0 30) ++ [Ac.sync])).length a3) ([] ++ ((aG l0 30) ++ [Ac.sync]))] := d4
 refine dy ?_
 refine wn j6 ?_
 refine aE fun o0 k0 => ?_
 rw [hU0] at d4 ⊢
 have g2 : ∀ (e5 : Act) (h9 : World), (∃ (ya : Option Addr) (yn : Nat) (yc : Nat) (i0 : Fz) (e6 : Nat → Value), e6 = eB e5 ∧ e5 = ⟨([(.slice a0 l0.length c0), (.slice a1 l1.length c1), undef, undef, (.bool false), (.slice a5 ((aG l0 30) ++ [Ac.sync]).length a2), (.slice b6 ([] ++ ((aG l0 30) ++ [Ac.sync])).length a3), (.slice ya yn yc), (.pointer (some ⟨c6, 0, none⟩)), (.bool true)] ++ (udF 6 ([(.slice a0 l0.length c0), (.slice i6 (aG l0 30).length d0), (.agg #[(.int .i64 2), (.int .i64 0), (.int .i64 0), (.slice none 0 0)]), (.slice (some ⟨i5, 0, none⟩) 1 1), (.slice a5 ((aG l0 30) ++ [Ac.sync]).length a2), (.slice none 0 0), (.slice a5 ((aG l0 30) ++ [Ac.sync]).length a2), (.slice b6 ([] ++ ((aG l0 30) ++ [Ac.sync])).length a3), (.slice none 0 0), (.slice a5 ((aG l0 30) ++ [Ac.sync]).length a2), (.slice j3 ([] ++ ((aG l0 30) ++ [Ac.sync])).length d1), (.agg #[(.int .i64 2), (.int .i64 0), (.int .i64 0), (.slice none 0 0)]), (.slice (some ⟨j4, 0, none⟩) 1 1), (.slice d2 (([] ++ ((aG l0 30) ++ [Ac.sync])) ++ [Ac.sync]).length a8), (.tuple #[(.agg #[(.bool U), (.int .i64 ((G0.synced : Nat) : Int)), (.int .i64 ((G0.waiting.length : Nat) : Int)), (.slice a9 (G0.forest G0.synced).length b0), (.slice b1 G0.replies.length b2)]), (.bool true)]), (.slice a5 ((aG l0 30) ++ [Ac.sync]).length a2), (.tuple #[(.agg #[(.bool U), (.int .i64 ((G0.synced : Nat) : Int)), (.int .i64 ((G0.waiting.length : Nat) : Int)), (.slice a9 (G0.forest G0.synced).length b0), (.slice b1 G0.replies.length b2)]), (.bool true)]), (.agg #[(.bool U), (.int .i64 ((G0.synced : Nat) : Int)), (.int .i64 ((G0.waiting.length : Nat) : Int)), (.slice a9 (G0.forest G0.synced).length b0), (.slice b1 G0.replies.length b2)]), (.bool true)] ++ (usF e6 35 9 (udF 101 []))))).toArray, []⟩ ∧ St W (whole W) h9 i0 [⟨c6, [(.bool U), (.int .i64 ((G0.synced : Nat) : Int)), (.int .i64 ((G0.waiting.length : Nat) : Int)), (.slice a9 (G0.forest G0.synced).length b0), (.slice b1 G0.replies.length b2)], 43⟩] [cN 4 AcC AcC.mono 33 W.heap.size (.slice ya yn yc) ((([] ++ ((aG l0 30) ++ [Ac.sync])) ++ [Ac.sync]) ++ (if U = true then [Ac.start] else [])), cN 4 AcC AcC.mono 33 W.heap.size (.slice b6 ([] ++ ((aG l0 30) ++ [Ac.sync])).length a3) ([] ++ ((aG l0 30) ++ [Ac.sync]))] ∧ Le c5 i0 ∧ (yn = ((([] ++ ((aG l0 30) ++ [Ac.sync])) ++ [Ac.sync]) ++ (if U = true then [Ac.start] else [])).length)) → o0 e5 h9 := by
  rintro e5 h9 ⟨ya, yn, yc, i0, e6, -, hfr, e7, k1, rfl⟩
  simp only [uzF, Nat.reduceAdd] at hfr; subst hfr
  refine k0 _ _ ?_
  refine sk fun x0 k2 => ?_
  refine dx ?_
  refine kM AcC.mono e7 rfl (fn2 (RA _ _)) (uR _ _ _ l1 30 (e7).sat ⟨hT.1.below e7.gr.below, hT.2.at e7.gr.below⟩ (z1.mono (((i4.trans j7).trans j8).trans k1)) (by omega)) ?_
  intro x1 x2 x3 e8 r9
  refine dy ?_
  simp only [pq]
  refine wn k2 ?_
  refine sk fun x4 k3 => ?_
  refine aC ?_
  obtain ⟨c9, a6, rfl, x5, o1⟩ := (e8.own (i := 0) rfl).shape
  unfold maxLen at o1
  refine dW (r := 2) (u := (.slice c9 (aG l1 30).length a6)) e8 rfl h5 (.agg #[(iI 0), (iI 0), (iI 0), Zn]) 48 Tryz.underlying23 b9 c2 c3 c4 rfl (by decide) rfl rfl rfl ((e8.own (i := 0) rfl).toW) AcC.one (Nat.le_refl _) e8.gr.below.size (by unfold maxLen; (have := aY l0 30; have := aY l1 30; cases U <;> simp <;> omega)) (by (have := aY l0 30; have := aY l1 30; cases U <;> simp <;> omega)) ?_
  intro x6 x7 e9 s0
  simp only [pq]
  obtain ⟨d5, b3, rfl, x8, o2⟩ := (e9.own (i := 2) rfl).shape
  unfold maxLen at o2
  refine dy ?_
  refine wn k3 ?_
  refine sk fun x9 k4 => ?_
  refine aC ?_
  refine dW (r := 1) (u := (.slice c9 (aG l1 30).length a6)) e9 rfl h5 (.agg #[(iI 0), (iI 0), (iI 0), Zn]) 48 Tryz.underlying23 b9 c2 c3 c4 rfl (by decide) rfl rfl rfl ((e9.own (i := 0) rfl).toW) AcC.one (Nat.le_refl _) e9.gr.below.size (by unfold maxLen; (have := aY l0 30; have := aY l1 30; cases U <;> simp <;> omega)) (by (have := aY l0 30; have := aY l1 30; cases U <;> simp <;> omega)) ?_
  intro y0 y1 k5 s1
  simp only [pq]
  obtain ⟨d6, b4, rfl, y2, o3⟩ := (k5.own (i := 1) rfl).shape
  unfold maxLen at o3
  refine dy ?_
  refine wn k4 ?_
  refine sk fun y3 k6 => ?_
  refine dx ?_
  simp only [pq]
  obtain ⟨G, h1, h2, h3⟩ := Cn l0 l1 U hU
  have hgl : G.replies.length ≤ 100000 := by have := PI ((([] ++ ((aG l0 30) ++ [Ac.sync])) ++ (aG l1 30))); rw [h1.2] at this; have := h1.1.len; omega
  obtain ⟨y4, f0, s2, d7⟩ := St.freeze k5 (i := 2) rfl (Nat.le_refl _)
  have d7 : Acs _ (.slice d5 (([] ++ ((aG l0 30) ++ [Ac.sync])) ++ (aG l1 30)).length b3) (([] ++ ((aG l0 30) ++ [Ac.sync])) ++ (aG l1 30)) := d7
  refine aR f0 rfl (bZ (vs := #[(.slice d5 (([] ++ ((aG l0 30) ++ [Ac.sync])) ++ (aG l1 30)).length b3)]) (jL rfl) rfl (DS _ _)) (pL _ _ _ (([] ++ ((aG l0 30) ++ [Ac.sync])) ++ (aG l1 30)) (f0).sat (hT.1.below f0.gr.below) (hT.2.at f0.gr.below) d7 h1.1 h1.2) ?_
  intro y5 y6 y7 o4 s3 o5
  obtain ⟨_, rfl, o6⟩ := o5
  obtain ⟨f1, f2, f3, f4, rfl, o7, o8⟩ := o6
  refine aC ?_
  refine sA o4 (nV _) fun c7 y8 o9 => ?_
  refine sW 0 o9 (kU) fun y9 p0 => ?_
  refine dy ?_
  simp only [pq]
  refine wn k6 ?_
  refine sk fun z2 k7 => ?_
  refine dx ?_
  simp only [pq]
  obtain ⟨z3, f5, g3, d8⟩ := St.freeze p0 (i := 1) rfl (Nat.le_refl _)
  have d8 : Acs _ (.slice d6 (((([] ++ ((aG l0 30) ++ [Ac.sync])) ++ [Ac.sync]) ++ (if U = true then [Ac.start] else [])) ++ (aG l1 30)).length b4) (((([] ++ ((aG l0 30) ++ [Ac.sync])) ++ [Ac.sync]) ++ (if U = true then [Ac.start] else [])) ++ (aG l1 30)) := d8
  refine aR f5 rfl (bZ (vs := #[(.slice d6 (((([] ++ ((aG l0 30) ++ [Ac.sync])) ++ [Ac.sync]) ++ (if U = true then [Ac.start] else [])) ++ (aG l1 30)).length b4)]) (jL rfl) rfl (DS _ _)) (pL _ _ _ (((([] ++ ((aG l0 30) ++ [Ac.sync])) ++ [Ac.sync]) ++ (if U = true then [Ac.start] else [])) ++ (aG l1 30)) (f5).sat (hT.1.below f5.gr.below) (hT.2.at f5.gr.below) d8 h2.1 h2.2) ?_
  intro z4 z5 p1 p2 g4 p3
  obtain ⟨_, rfl, p4⟩ := p3
  obtain ⟨f6, f7, f8, f9, rfl, p5, p6⟩ := p4
  refine aC ?_
  refine sA p2 (nV _) fun c8 z6 p7 => ?_
  refine sW 0 p7 (kU) fun z7 k8 => ?_
  refine dy ?_
  simp only [pq]
  refine wn k7 ?_
  refine aE fun z8 k9 => ?_
  refine sk fun z9 l2 => ?_
  refine aC ?_
  refine dr bF (cE (m := ((G.synced : Nat) : Int)) (n := ((G.synced : Nat) : Int)) (b := false) rfl rfl (bne_eq_false_iff_eq.2 (rfl))) ?_
  refine aC ?_
  refine dr bF (cE (m := ((G.waiting.length : Nat) : Int)) (n := ((G.waiting.length : Nat) : Int)) (b := false) rfl rfl (bne_eq_false_iff_eq.2 (rfl))) ?_
  refine aC ?_
  refine dr bF (Cx Tryz.underlying4 rfl rfl (by cases G.up <;> rfl)) ?_
  refine aC ?_
  refine dr bF (cE (m := ((G.replies.length : Nat) : Int)) (n := ((G.replies.length : Nat) : Int)) (b := false) rfl rfl (bne_eq_false_iff_eq.2 (rfl))) ?_
  refine aC ?_
  refine aK (v := bT) k8 rfl (fn2 (ZF _ _)) (dX (sU _ _ _ _ (G.forest G.synced) (G.forest G.synced) (k8).sat (o7.mono (g3.trans g4)) p5 (by have := ForestOk.len h3; omega) (fun t ht => by have := (ForestOk.tree h3 t ht).len; omega)) (decide_eq_true (rfl))) (fun l3 p8 => ?_)
  refine aC ?_
  refine wn l2 ?_
  refine aF ?_
  refine aI ?_
  refine k9 _ _ ?_
  refine aE fun ab l4 => ?_
  refine sk fun ac l5 => ?_
  refine dy ?_
  simp only [pq]
  refine wn l5 ?_
  refine aO ?_
  obtain ⟨p9, g5, d9⟩ := St.freezeBlk p8 (i := 1) rfl
  generalize addF p1 l3 c7 = q2 at *
  obtain ⟨q3, b7, g6⟩ := St.freezeBlk p9 (i := 0) rfl
  generalize addF q2 l3 c8 = l6 at *
  have q4 := St.dropRow q3 (M' := []) (.cons _ (List.Sublist.refl _))
  refine aX (fun mm aa q5 => ∃ (j : Nat) (e0 : Fz) (g0 : Nat → Value), mm = G.replies.length - j ∧ g0 = eB aa ∧ aa = ⟨([(.slice a0 l0.length c0), (.slice a1 l1.length c1), undef, undef, (g0 4), (.slice a5 ((aG l0 30) ++ [Ac.sync]).length a2), (.slice d5 (([] ++ ((aG l0 30) ++ [Ac.sync])) ++ (aG l1 30)).length b3), (.slice d6 (((([] ++ ((aG l0 30) ++ [Ac.sync])) ++ [Ac.sync]) ++ (if U = true then [Ac.start] else [])) ++ (aG l1 30)).length b4), (pP c6 0), bT, (.slice c9 (aG l1 30).length a6), (pP c7 0), bT, (pP c8 0), bT, (nI j), (.slice a0 l0.length c0), (.slice i6 (aG l0 30).length d0), (.agg #[(iI 2), (iI 0), (iI 0), Zn]), (.slice (aA i5 0) 1 1), (.slice a5 ((aG l0 30) ++ [Ac.sync]).length a2), Zn, (.slice a5 ((aG l0 30) ++ [Ac.sync]).length a2), (.slice b6 ([] ++ ((aG l0 30) ++ [Ac.sync])).length a3), Zn, (.slice a5 ((aG l0 30) ++ [Ac.sync]).length a2), (.slice j3 ([] ++ ((aG l0 30) ++ [Ac.sync])).length d1), (.agg #[(iI 2), (iI 0), (iI 0), Zn]), (.slice (aA j4 0) 1 1), (.slice d2 (([] ++ ((aG l0 30) ++ [Ac.sync])) ++ [Ac.sync]).length a8), (.tuple #[(.agg #[(.bool U), (nI G0.synced), (nI G0.waiting.length), (.slice a9 (G0.forest G0.synced).length b0), (.slice b1 G0.replies.length b2)]), bT]), (.slice a5 ((aG l0 30) ++ [Ac.sync]).length a2), (.tuple #[(.agg #[(.bool U), (nI G0.synced), (nI G0.waiting.length), (.slice a9 (G0.forest G0.synced).length b0), (.slice b1 G0.replies.length b2)]), bT]), (.agg #[(.bool U), (nI G0.synced), (nI G0.waiting.length), (.slice a9 (G0.forest G0.synced).length b0), (.slice b1 G0.replies.length b2)]), bT] ++ (usF e6 35 9 ([(.slice a1 l1.length c1), (.slice c9 (aG l1 30).length a6), (.slice b6 ([] ++ ((aG l0 30) ++ [Ac.sync])).length a3), (.slice c9 (aG l1 30).length a6), (.slice d5 (([] ++ ((aG l0 30) ++ [Ac.sync])) ++ (aG l1 30)).length b3), (.slice ya ((([] ++ ((aG l0 30) ++ [Ac.sync])) ++ [Ac.sync]) ++ (if U = true then [Ac.start] else [])).length yc), (.slice c9 (aG l1 30).length a6), (.slice d6 (((([] ++ ((aG l0 30) ++ [Ac.sync])) ++ [Ac.sync]) ++ (if U = true then [Ac.start] else [])) ++ (aG l1 30)).length b4), (.tuple #[(.agg #[(.bool G.up), (nI G.synced), (nI G.waiting.length), (.slice f1 (G.forest G.synced).length f2), (.slice f3 G.replies.length f4)]), bT]), (.slice d5 (([] ++ ((aG l0 30) ++ [Ac.sync])) ++ (aG l1 30)).length b3), (.tuple #[(.agg #[(.bool G.up), (nI G.synced), (nI G.waiting.length), (.slice f1 (G.forest G.synced).length f2), (.slice f3 G.replies.length f4)]), bT]), (.agg #[(.bool G.up), (nI G.synced), (nI G.waiting.length), (.slice f1 (G.forest G.synced).length f2), (.slice f3 G.replies.length f4)]), bT, (.tuple #[(.agg #[(.bool G.up), (nI G.synced), (nI G.waiting.length), (.slice f6 (G.forest G.synced).length f7), (.slice f8 G.replies.length f9)]), bT]), (.slice d6 (((([] ++ ((aG l0 30) ++ [Ac.sync])) ++ [Ac.sync]) ++ (if U = true then [Ac.start] else [])) ++ (aG l1 30)).length b4), (.tuple #[(.agg #[(.bool G.up), (nI G.synced), (nI G.waiting.length), (.slice f6 (G.forest G.synced).length f7), (.slice f8 G.replies.length f9)]), bT]), (.agg #[(.bool G.up), (nI G.synced), (nI G.waiting.length), (.slice f6 (G.forest G.synced).length f7), (.slice f8 G.replies.length f9)]), bT, bT, bF, bF, bT, bF, bF, bF, bT, bF, bF, bF, (pP c7 1), (nI G.synced), (pP c8 1), (nI G.synced), bF, bF, bF, (pP c7 2), (nI G.waiting.length), (pP c8 2), (nI G.waiting.length), bF, bF, bF, (pP c7 0), (.bool G.up), (pP c8 0), (.bool G.up), bF, bF, bF, (pP c7 4), (.slice f3 G.replies.length f4), (nI G.replies.length), (pP c8 4), (.slice f8 G.replies.length f9), (nI G.replies.length), bF, bF, bF, (pP c7 3), (.slice f1 (G.forest G.synced).length f2), (pP c8 3), (.slice f6 (G.forest G.synced).length f7), bT, bF, bF] ++ (usF g0 110 35 [])))).toArray, []⟩ ∧ St W (whole W) q5 e0 [⟨c6, [(.bool U), (nI G0.synced), (nI G0.waiting.length), (.slice a9 (G0.forest G0.synced).length b0), (.slice b1 G0.replies.length b2)], 43⟩] [] ∧ Le l6 e0 ∧ (j ≤ G.replies.length)) _ ⟨0, l6, _, rfl, rfl, rfl, q4, Le.refl _, (by omega)⟩ ?_
  rintro ad ae af ⟨j, e0, g0, rfl, -, hfr, b5, a7, hj⟩ ag l7
  simp only [uzF, Nat.reduceAdd] at hfr; subst hfr
  refine aE fun ah l8 => ?_
  refine sk fun ai g7 => ?_
  refine aC ?_
  refine dr _ (aD rfl (aQ (nR _) (St.fz b5 (Le.cell (b7.trans a7) (d9 4 _ rfl))))) ?_
  simp only [pq]
  refine dn Tryz.underlying41 ?_
  simp only [pq]
  by_cases s4 : j < G.replies.length
  refine eQ ?_
  refine wn g7 ?_
  refine aJ ?_
  refine aI ?_
  refine l8 _ _ ?_
  refine aE fun aj l9 => ?_
  refine aO ?_
  refine aE fun ak m0 => ?_
  obtain ⟨r, hr⟩ : ∃ r, G.replies[j]? = some r := ⟨G.replies[j]'(by omega), List.getElem?_eq_getElem (by omega)⟩
  obtain ⟨m1, m2, g8, s5, s6, s7, s8, s9, t0, al, q6, q7, am, an, ao, ap, aq, ar, au⟩ := Rps.get (o8.mono ((((g3.trans g4).trans g5).trans b7).trans a7)) hr
  obtain ⟨m3, m4, g9, t1, t2, t3, t4, t5, t6, av, q8, q9, aw, ax, ay, az, ba, bb, bc⟩ := Rps.get (p6.mono ((g5.trans b7).trans a7)) hr
  refine aP e0 26 [] (by kernel_rfl) (by kernel_rfl) ?_
  simp only [cY]
  refine gf (yD _ _) ?_
  refine gv _ (fun _ a4 => aD rfl (aQ (nR _) (St.fz (St.tells b5 a4) (Le.cell (b7.trans a7) (d9 4 _ rfl))))) ?_
  simp only [pq]
  refine gm ?_
  refine gv (pP m1 (m2 + j * 15)) (fun _ _ => bQ (i := j) (sz := 15) Tryz.underlying41 (vD _) rfl g8 rfl (by omega) rfl) ?_
  refine gf (JI _ _) ?_
  simp only [pq]
  refine gv _ (fun _ a4 => aD rfl (aQ (IZ _) (St.fz (St.tells b5 a4) q6))) ?_
  refine gf (yD _ _) ?_
  refine gv _ (fun _ a4 => aD rfl (aQ (nR _) (St.fz (St.tells b5 a4) (Le.cell a7 (g6 4 _ rfl))))) ?_
  simp only [pq]
  refine gm ?_
  refine gv (pP m3 (m4 + j * 15)) (fun _ _ => bQ (i := j) (sz := 15) Tryz.underlying41 (vD _) rfl g9 rfl (by omega) rfl) ?_
  refine gf (JI _ _) ?_
  simp only [pq]
  refine gv _ (fun _ a4 => aD rfl (aQ (IZ _) (St.fz (St.tells b5 a4) q8))) ?_
  refine gv bF (fun _ _ => cE (m := r.code) (n := r.code) (b := false) rfl rfl (bne_eq_false_iff_eq.2 (rfl))) ?_
  refine gm ?_
  simp only [pq]
  refine gf (yD _ _) ?_
  refine gv _ (fun _ a4 => aD rfl (aQ (nR _) (St.fz (St.tells b5 a4) (Le.cell (b7.trans a7) (d9 4 _ rfl))))) ?_
  refine gm ?_
  simp only [pq]
  refine gv (pP m1 (m2 + j * 15)) (fun _ _ => bQ (i := j) (sz := 15) Tryz.underlying41 (vD _) rfl g8 rfl (by omega) rfl) ?_
  refine gf (JJ _ _) ?_
  refine gv _ (fun _ a4 => aD rfl (aQ (bK _) (St.fz (St.tells b5 a4) q7))) ?_
  simp only [pq]
  refine gf (yD _ _) ?_
  refine gv _ (fun _ a4 => aD rfl (aQ (nR _) (St.fz (St.tells b5 a4) (Le.cell a7 (g6 4 _ rfl))))) ?_
  refine gm ?_
  simp only [pq]
  refine gv (pP m3 (m4 + j * 15)) (fun _ _ => bQ (i := j) (sz := 15) Tryz.underlying41 (vD _) rfl g9 rfl (by omega) rfl) ?_
  refine gf (JJ _ _) ?_
  refine gv _ (fun _ a4 => aD rfl (aQ (bK _) (St.fz (St.tells b5 a4) q9))) ?_
  simp only [pq]
  refine bU ?_
  intro bd m5 m6
  clear m6
  have r0 := St.tells b5 m5
  simp only [cZ]
  refine dr bF (cE (m := r.turn) (n := r.turn) (b := false) rfl rfl (bne_eq_false_iff_eq.2 (rfl))) ?_
  refine dp ?_
  refine wlK m0 ?_
  refine aF ?_
  refine aI ?_
  refine l9 _ _ ?_
  refine aB ?_
  refine dx ?_
  refine cV (j + 1) ?_
  refine dy ?_
  simp only [pq]
  refine aH ?_
  exact l7 _ _ _ (by omega) ⟨(j + 1), e0, _, rfl, rfl, rfl, r0, a7, (by omega)⟩
  refine eL ?_
  refine wn g7 ?_
  refine aF ?_
  refine cU ?_
  refine l4 _ _ ?_
  refine sk fun be m7 => ?_
  refine dy ?_
  refine wn m7 ?_
  refine aN ?_
  try simp only [xt]
  refine bR (aZ rfl (gD rfl)) ?_
  exact ⟨rfl, b5.gr.below⟩
 refine aE fun bf h4 => ?_
 cases U with
 | false =>
  refine aB ?_
  refine aC ?_
  refine wlK h4 ?_
  refine aF ?_
  refine aI ?_
  have r1 : St W (whole W) j9 c5 [⟨c6, [bF, (nI G0.synced), (nI G0.waiting.length), (.slice a9 (G0.forest G0.synced).length b0), (.slice b1 G0.replies.length b2)], 43⟩] [cN 4 AcC AcC.mono 33 W.heap.size (.slice d2 (([] ++ ((aG l0 30) ++ [Ac.sync])) ++ [Ac.sync]).length a8) ((([] ++ ((aG l0 30) ++ [Ac.sync])) ++ [Ac.sync]) ++ (if false = true then [Ac.start] else [])), cN 4 AcC AcC.mono 33 W.heap.size (.slice b6 ([] ++ ((aG l0 30) ++ [Ac.sync])).length a3) ([] ++ ((aG l0 30) ++ [Ac.sync]))] := by
   rw [show ((([] ++ ((aG l0 30) ++ [Ac.sync])) ++ [Ac.sync]) ++ (if false = true then [Ac.start] else [])) = (([] ++ ((aG l0 30) ++ [Ac.sync])) ++ [Ac.sync]) from List.append_nil _]; exact d4
  exact g2 _ _ ⟨d2, (([] ++ ((aG l0 30) ++ [Ac.sync])) ++ [Ac.sync]).length, a8, c5, _, rfl, rfl, r1, Le.refl _, (by simp)⟩
 | true =>
  refine aB ?_
  refine aC ?_
  refine wlK h4 ?_
  refine aJ ?_
  refine aB ?_
  refine dx ?_
  refine dr (.agg #[(iI 4), (iI 0), (iI 0), Zn]) (aL (cT rfl) (by kernel_rfl)) ?_
  simp only [pq]
  refine bG d4 (v := fun n => .slice (aA n 0) 1 1) rfl (cM (ps := #[(0, (.agg #[(iI 4), (iI 0), (iI 0), Zn]))]) (cells := #[(iI 4), (iI 0), (iI 0), Zn]) (E := 33) (cT rfl) (fun w => by kernel_rfl)) (fun bg bh m8 => ?_)
  refine eV (i := 0) (r := 0) (p := Ac.start) (cs := [(iI 4), (iI 0), (iI 0), Zn]) m8 rfl h5 (.agg #[(iI 0), (iI 0), (iI 0), Zn]) 48 Tryz.underlying23 b9 c2 c3 c4 rfl (by decide) rfl rfl rfl rfl rfl (AcC.oneCell (F := c5) (p := Ac.start) ⟨_, rfl, Bs.nil _⟩) (⟨_, rfl, Bs.nil _⟩) (Nat.le_refl _) m8.gr.below.size (by unfold maxLen; (have := aY l0 30; have := aY l1 30; simp; omega)) (by (have := aY l0 30; have := aY l1 30; simp; omega)) ?_
  intro bi r2 g1 t7
  simp only [pq]
  have g1 := St.drop g1 (.cons _ (List.Sublist.refl _))
  obtain ⟨m9, e1, rfl, bj, r3⟩ := (g1.own (i := 0) rfl).shape
  unfold maxLen at r3
  refine dy ?_
  refine aH ?_
  have r4 : St W (whole W) r2 c5 [⟨c6, [bT, (nI G0.synced), (nI G0.waiting.length), (.slice a9 (G0.forest G0.synced).length b0), (.slice b1 G0.replies.length b2)], 43⟩] [cN 4 AcC AcC.mono 33 W.heap.size (.slice m9 ((([] ++ ((aG l0 30) ++ [Ac.sync])) ++ [Ac.sync]) ++ [Ac.start]).length e1) ((([] ++ ((aG l0 30) ++ [Ac.sync])) ++ [Ac.sync]) ++ (if true = true then [Ac.start] else [])), cN 4 AcC AcC.mono 33 W.heap.size (.slice b6 ([] ++ ((aG l0 30) ++ [Ac.sync])).length a3) ([] ++ ((aG l0 30) ++ [Ac.sync]))] := by
   rw [show ((([] ++ ((aG l0 30) ++ [Ac.sync])) ++ [Ac.sync]) ++ (if true = true then [Ac.start] else [])) = ((([] ++ ((aG l0 30) ++ [Ac.sync])) ++ [Ac.sync]) ++ [Ac.start]) from rfl]; exact g1
  exact g2 _ _ ⟨m9, ((([] ++ ((aG l0 30) ++ [Ac.sync])) ++ [Ac.sync]) ++ [Ac.start]).length, e1, c5, _, rfl, rfl, r4, Le.refl _, (by simp)⟩
end Go.Proofs.YtilgpdpooildcaaGreatDoor
