/- The walk of TopAnew -/
import Derived.Test.YtilgpdpooildcaaGreatDoorEA13
namespace Go.Proofs.YtilgpdpooildcaaGreatDoor
set_option maxHeartbeats 8000000
open Go.RowKit
set_option maxRecDepth 100000
set_option linter.unusedVariables false
set_option linter.unusedSimpArgs false
theorem RY (X : List Ac) (i : Nat) : (X ++ (cG i).map Rc.ac) ++ [Ac.ask i (mW 7 rq0)] = X ++ (cG (i + 1)).map Rc.ac := by
 unfold cG
 rw [List.range_succ, List.map_append, List.map_append, zZl]
 rfl
theorem RZ (i : Nat) : ((cG i).map Rc.ac).length = i := by simp [cG]
theorem SA (X : List Ac) : X = X ++ (cG 0).map Rc.ac := (List.append_nil X).symm
theorem ok3 : ∀ x ∈ [Ac.sync, Ac.crash 0, Ac.start], pL x := by
 intro x hx
 simp only [zZk, List.not_mem_nil, or_false] at hx
 rcases hx with rfl | rfl | rfl
 ·trivial
 ·show 0 ≤ 100000; omega
 ·trivial
theorem Jn : ∀ x ∈ [Ac.sync, Ac.start], pL x := by
 intro x hx
 simp only [zZk, List.not_mem_nil, or_false] at hx
 rcases hx with rfl | rfl <;> trivial
theorem IP : ∀ a ∈ cG 8, Ff a := by
 intro a ha
 obtain ⟨i, hi, rfl⟩ := List.mem_map.1 ha
 exact ⟨List.mem_range.1 hi, (by decide : 1 ≤ 7 ∧ 7 ≤ 8), by kernel_rfl⟩
theorem oka : ∀ x ∈ (cG 8).map Rc.ac, pL x := by
 intro x hx
 obtain ⟨a, ha, rfl⟩ := List.mem_map.1 hx
 exact UL (IP a ha)
theorem Bt (l r : List Ge) : ∃ (G1 G2 G3 G4 : Eng) (R : List Rep),
    (ScrOk (aL l 30 ++ [.sync, .crash 0, .start]) ∧ dZ (aL l 30 ++ [.sync, .crash 0, .start]) = G1) ∧
    (ScrOk ((aL l 30 ++ [.sync, .start]) ++ (cG 8).map Rc.ac) ∧ dZ ((aL l 30 ++ [.sync, .start]) ++ (cG 8).map Rc.ac) = G2) ∧
    (ScrOk (([] ++ (aL l 30 ++ [.sync, .crash 0, .start])) ++ aL r 30) ∧ dZ (([] ++ (aL l 30 ++ [.sync, .crash 0, .start])) ++ aL r 30) = G3) ∧
    (ScrOk (([] ++ ((aL l 30 ++ [.sync, .start]) ++ (cG 8).map Rc.ac)) ++ aL r 30) ∧ dZ (([] ++ ((aL l 30 ++ [.sync, .start]) ++ (cG 8).map Rc.ac)) ++ aL r 30) = G4) ∧
    G1.synced = G2.synced ∧ G3.synced = G4.synced ∧ G3.waiting.length = G4.waiting.length ∧ G3.forest G3.synced = G4.forest G4.synced ∧ ForestOk 60 (G3.forest G3.synced) ∧ G3.replies = G1.replies ++ R ∧ G4.replies = G2.replies ++ R := by
 have a0 := bK l 30
 have a1 := bK r 30
 have h8 := RZ 8
 have s0 : ScrOk (aL l 30) := yW (wX l 30) (by omega)
 have s1 : ScrOk (aL l 30 ++ [.sync, .crash 0, .start]) := yW (wY s0.ok ok3) (by simp; omega)
 have s2 : ScrOk ((aL l 30 ++ [.sync, .start]) ++ (cG 8).map Rc.ac) := yW (wY (wY s0.ok Jn) oka) (by rw [zZf, h8]; simp; omega)
 have s3 : ScrOk (([] ++ (aL l 30 ++ [.sync, .crash 0, .start])) ++ aL r 30) := yW (wY (wY (by simp) s1.ok) (wX r 30)) (by simp; omega)
 have s4 : ScrOk (([] ++ ((aL l 30 ++ [.sync, .start]) ++ (cG 8).map Rc.ac)) ++ aL r 30) := yW (wY (wY (by simp) s2.ok) (wX r 30)) (by rw [zZf, List.nil_append, zZf, h8]; simp; omega)
 obtain ⟨h1, h2⟩ := UN s0
 obtain ⟨z, A, B, hz, eA, eB⟩ := Bp h1 h2
 have e1 : dZ (aL l 30 ++ [.sync, .crash 0, .start]) = z.pre A := by rw [lQ, ← eA]; rfl
 have e2 : dZ ((aL l 30 ++ [.sync, .start]) ++ (cG 8).map Rc.ac) = z.pre B := by
  rw [lQ, Bj _ _ IP, lQ, ← eB]; rfl
 have e3 : dZ (([] ++ (aL l 30 ++ [.sync, .crash 0, .start])) ++ aL r 30) = ((aL r 30).foldl Eng.act z).pre A := by
  rw [List.nil_append, lQ, e1, LE]
 have e4 : dZ (([] ++ ((aL l 30 ++ [.sync, .start]) ++ (cG 8).map Rc.ac)) ++ aL r 30) = ((aL r 30).foldl Eng.act z).pre B := by
  rw [List.nil_append, lQ, e2, LE]
 have hf := Fm s3
 refine ⟨z.pre A, z.pre B, ((aL r 30).foldl Eng.act z).pre A, ((aL r 30).foldl Eng.act z).pre B, ((aL r 30).foldl Eng.act z).replies, ⟨s1, e1⟩, ⟨s2, e2⟩, ⟨s3, e3⟩, ⟨s4, e4⟩, rfl, rfl, rfl, rfl, ?_, ?_, ?_⟩
 rw [e3] at hf; exact hf
 show A ++ _ = (A ++ z.replies) ++ _; rw [hz, List.append_nil]
 show B ++ _ = (B ++ z.replies) ++ _; rw [hz, List.append_nil]
theorem Fn {A B R C D : List Rep} (h1 : C = A ++ R) (h2 : D = B ++ R) {i : Nat} (hi : A.length ≤ i) : D[i - A.length + B.length]? = C[i]? := by
 rw [h1, h2, List.getElem?_append_right (by omega), List.getElem?_append_right hi, Nat.add_sub_cancel]
theorem LH (W : World) (hT : Has W ∧ Tabs W) (v0 : Value) (l0 : List Ge) (z0 : Ges (whole W) v0 l0) (v1 : Value) (l1 : List Ge) (z1 : Ges (whole W) v1 l1) :
    Calls Tryz.prog 6 #[v0, v1] W (cT W (.bool true)) := by
 obtain ⟨a0, c0, rfl, q0, q0'⟩ := Sl.shape z0
 unfold maxLen at q0'
 obtain ⟨a1, c1, rfl, q1_, q1'⟩ := Sl.shape z1
 unfold maxLen at q1'
 obtain ⟨j3, a7, a8, a9, b0⟩ := info_parts SR
 have S := St.start (Sat.whole W)
 go_enter Tryz.func6, Tryz.ntmps6
 refine sk fun au k9 => ?_
 refine dy ?_
 refine wn k9 ?_
 refine sk fun av l2 => ?_
 refine dx ?_
 refine kR AcC.mono S rfl (fn2 (PZ _ _)) (uP _ _ _ l0 30 (S).sat ⟨hT.1.below S.gr.below, hT.2.at S.gr.below⟩ z0 (by omega)) ?_
 intro aw ax s0 s1 g9
 refine dr (.agg #[(iI 2), (iI 0), (iI 0), Zn]) (aK (cZ rfl) (by kernel_rfl)) ?_
 refine dr (.agg #[(iI 3), (iI 0), (iI 0), Zn]) (aK (cZ rfl) (by kernel_rfl)) ?_
 refine dr (.agg #[(iI 4), (iI 0), (iI 0), Zn]) (aK (cZ rfl) (by kernel_rfl)) ?_
 simp only [pq]
 refine bH s1 (v := fun n => .slice (aA n 0) 3 3) rfl (cN (ps := #[(0, (.agg #[(iI 2), (iI 0), (iI 0), Zn])), (1, (.agg #[(iI 3), (iI 0), (iI 0), Zn])), (2, (.agg #[(iI 4), (iI 0), (iI 0), Zn]))]) (cells := #[(iI 2), (iI 0), (iI 0), Zn, (iI 3), (iI 0), (iI 0), Zn, (iI 4), (iI 0), (iI 0), Zn]) (E := 33) (LY rfl rfl rfl) (fun w => by kernel_rfl)) (fun c8 s2 l3 => ?_)
 simp only [pq]
 obtain ⟨l4, c9, rfl, ay, s3⟩ := (l3.own (i := 0) rfl).shape
 unfold maxLen at s3
 obtain ⟨j4, h0, l5⟩ := St.freezeBlk l3 (i := 0) rfl
 have s4 : Acs _ (.slice (some ⟨c8, 0, none⟩) 3 3) ([Ac.sync, (Ac.crash 0), Ac.start] : List Ac) := gP (R := AcC) (l := ([Ac.sync, (Ac.crash 0), Ac.start] : List Ac)) (el := [[(.int .i64 2), (.int .i64 0), (.int .i64 0), (.slice none 0 0)], [(.int .i64 3), (.int .i64 0), (.int .i64 0), (.slice none 0 0)], [(.int .i64 4), (.int .i64 0), (.int .i64 0), (.slice none 0 0)]]) l5 rfl ⟨⟨_, rfl, Bs.nil _⟩, ⟨_, rfl, Bs.nil _⟩, ⟨_, rfl, Bs.nil _⟩, trivial⟩ (by simp) (by unfold maxLen; simp)
 generalize addF s0 s2 c8 = az at *
 refine eH (r := 0) (u := (.slice (aA c8 0) 3 3)) j4 rfl j3 (.agg #[(iI 0), (iI 0), (iI 0), Zn]) 48 Tryz.underlying23 a7 a8 a9 b0 rfl (by decide) rfl rfl rfl (Sl.toW s4 (j4).sat) AcC.one (zZe _) j4.gr.below.size (by unfold maxLen; (have := bK l0 30; have := bK l1 30; simp [cG]; omega)) (by (have := bK l0 30; have := bK l1 30; simp [cG]; omega)) ?_
 intro ba bb d0 ak
 simp only [pq]
 obtain ⟨a6, a2, rfl, bc, s5⟩ := (d0.own (i := 0) rfl).shape
 unfold maxLen at s5
 refine dy ?_
 refine wn l2 ?_
 refine sk fun bd l6 => ?_
 refine dx ?_
 refine kR AcC.mono d0 rfl (fn2 (PZ _ _)) (uP _ _ _ l0 30 (d0).sat ⟨hT.1.below d0.gr.below, hT.2.at d0.gr.below⟩ (z0.mono (g9.trans h0)) (by omega)) ?_
 intro be bf s6 s7 l7
 refine dr (.agg #[(iI 2), (iI 0), (iI 0), Zn]) (aK (cZ rfl) (by kernel_rfl)) ?_
 refine dr (.agg #[(iI 4), (iI 0), (iI 0), Zn]) (aK (cZ rfl) (by kernel_rfl)) ?_
 simp only [pq]
 refine bH s7 (v := fun n => .slice (aA n 0) 2 2) rfl (cN (ps := #[(0, (.agg #[(iI 2), (iI 0), (iI 0), Zn])), (1, (.agg #[(iI 4), (iI 0), (iI 0), Zn]))]) (cells := #[(iI 2), (iI 0), (iI 0), Zn, (iI 4), (iI 0), (iI 0), Zn]) (E := 33) (fD rfl rfl) (fun w => by kernel_rfl)) (fun d1 s8 l8 => ?_)
 simp only [pq]
 obtain ⟨l9, d2, rfl, bg, s9⟩ := (l8.own (i := 0) rfl).shape
 unfold maxLen at s9
 obtain ⟨j5, m0, m1⟩ := St.freezeBlk l8 (i := 0) rfl
 have t0 : Acs _ (.slice (some ⟨d1, 0, none⟩) 2 2) ([Ac.sync, Ac.start] : List Ac) := gP (R := AcC) (l := ([Ac.sync, Ac.start] : List Ac)) (el := [[(.int .i64 2), (.int .i64 0), (.int .i64 0), (.slice none 0 0)], [(.int .i64 4), (.int .i64 0), (.int .i64 0), (.slice none 0 0)]]) m1 rfl ⟨⟨_, rfl, Bs.nil _⟩, ⟨_, rfl, Bs.nil _⟩, trivial⟩ (by simp) (by unfold maxLen; simp)
 generalize addF s6 s8 d1 = m2 at *
 refine eH (r := 0) (u := (.slice (aA d1 0) 2 2)) j5 rfl j3 (.agg #[(iI 0), (iI 0), (iI 0), Zn]) 48 Tryz.underlying23 a7 a8 a9 b0 rfl (by decide) rfl rfl rfl (Sl.toW t0 (j5).sat) AcC.one (zZe _) j5.gr.below.size (by unfold maxLen; (have := bK l0 30; have := bK l1 30; simp [cG]; omega)) (by (have := bK l0 30; have := bK l1 30; simp [cG]; omega)) ?_
 intro bh bi j6 al
 simp only [pq]
 obtain ⟨j7, b1, rfl, bj, t1⟩ := (j6.own (i := 0) rfl).shape
 unfold maxLen at t1
 refine dy ?_
 refine wn l6 ?_
 refine aE fun bk m3 => ?_
 refine sk fun bl m4 => ?_
 refine dy ?_
 refine wn m4 ?_
 refine aN ?_
 rw [show ((aL l0 30) ++ [Ac.sync, Ac.start]) = ((aL l0 30 ++ [Ac.sync, Ac.start]) ++ (cG 0).map Rc.ac) from (SA _)] at j6 ⊢
 refine aX (fun mm aa t2 => ∃ (i : Nat) (ra : Option Addr) (rc : Nat) (j8 : Fz) (e4 : Nat → Value), mm = 8 - i ∧ e4 = dX aa ∧ aa = ⟨([(.slice a0 l0.length c0), (.slice a1 l1.length c1), undef, undef, bF, (.slice a6 ((aL l0 30) ++ [Ac.sync, (Ac.crash 0), Ac.start]).length a2), (.slice ra ((aL l0 30 ++ [Ac.sync, Ac.start]) ++ (cG i).map Rc.ac).length rc), (nI i)] ++ (udF 12 ([(.slice a0 l0.length c0), (.slice l4 (aL l0 30).length c9), (.agg #[(iI 2), (iI 0), (iI 0), Zn]), (.agg #[(iI 3), (iI 0), (iI 0), Zn]), (.agg #[(iI 4), (iI 0), (iI 0), Zn]), (.slice (aA c8 0) 3 3), (.slice a6 ((aL l0 30) ++ [Ac.sync, (Ac.crash 0), Ac.start]).length a2), (.slice a0 l0.length c0), (.slice l9 (aL l0 30).length d2), (.agg #[(iI 2), (iI 0), (iI 0), Zn]), (.agg #[(iI 4), (iI 0), (iI 0), Zn]), (.slice (aA d1 0) 2 2), (.slice j7 ((aL l0 30 ++ [Ac.sync, Ac.start]) ++ (cG 0).map Rc.ac).length b1)] ++ (usF e4 33 10 (udF 161 []))))).toArray, []⟩ ∧ St W (whole W) t2 j8 [] [cU 4 AcC AcC.mono 33 W.heap.size (.slice ra ((aL l0 30 ++ [Ac.sync, Ac.start]) ++ (cG i).map Rc.ac).length rc) ((aL l0 30 ++ [Ac.sync, Ac.start]) ++ (cG i).map Rc.ac), cU 4 AcC AcC.mono 33 W.heap.size (.slice a6 ((aL l0 30) ++ [Ac.sync, (Ac.crash 0), Ac.start]).length a2) ((aL l0 30) ++ [Ac.sync, (Ac.crash 0), Ac.start])] ∧ Le m2 j8 ∧ (i ≤ 8)) _ ⟨0, j7, b1, m2, _, rfl, rfl, rfl, j6, Le.refl _, (by omega)⟩ ?_
 rintro bm bn bo ⟨i, ra, rc, j8, e4, rfl, -, hfr, e5, h5, hi⟩ bp m5
 simp only [uzF, Nat.reduceAdd] at hfr; subst hfr
 refine aE fun bq m6 => ?_
 refine sk fun br h6 => ?_
 refine dx ?_
 simp only [pq]
 by_cases bs : i < 8
 ·refine eS ?_
  refine wn h6 ?_
  refine aI ?_
  refine aH ?_
  refine m6 _ _ ?_
  refine aE fun bt m7 => ?_
  refine aN ?_
  refine aB ?_
  iterate 2 refine dx ?_
  refine dr (.agg #[(iI 7), Zn, Zn, Zn, Zn]) (aK (cZ rfl) (by kernel_rfl)) ?_
  simp only [pq]
  refine aR e5 rfl (fn2 (YN _ _)) (AR _ _ _ i 7 (⟨[], [], [], []⟩ : Rq) (e5).sat (hT.1.below e5.gr.below) ⟨_, _, _, _, rfl, (Bs.nil _), (Bs.nil _), (Bs.nil _), (Bs.nil _)⟩ ⟨by decide, by kernel_rfl⟩) ?_
  intro bu bw m8 t3 m9 t4
  obtain ⟨b4, b5, rfl, e6⟩ := t4
  have e6 : Bs _ (.slice b4 (mW 7 (⟨[], [], [], []⟩ : Rq)).length b5) (mW 7 (⟨[], [], [], []⟩ : Rq)) := e6
  refine bH t3 (v := fun n => .slice (aA n 0) 1 1) rfl (cN (ps := #[(0, (.agg #[(iI 1), (nI i), (iI 0), (.slice b4 (mW 7 (⟨[], [], [], []⟩ : Rq)).length b5)]))]) (cells := #[(iI 1), (nI i), (iI 0), (.slice b4 (mW 7 (⟨[], [], [], []⟩ : Rq)).length b5)]) (E := 33) (cZ rfl) (fun w => by kernel_rfl)) (fun bx bz n0 => ?_)
  simp only [pq]
  refine fH (i := 0) (r := 0) (p := (Ac.ask i (mW 7 (⟨[], [], [], []⟩ : Rq)))) (cs := [(iI 1), (nI i), (iI 0), (.slice b4 (mW 7 (⟨[], [], [], []⟩ : Rq)).length b5)]) n0 rfl j3 (.agg #[(iI 0), (iI 0), (iI 0), Zn]) 48 Tryz.underlying23 a7 a8 a9 b0 rfl (by decide) rfl rfl rfl rfl rfl (AcC.oneCell (F := m8) (p := (Ac.ask i (mW 7 (⟨[], [], [], []⟩ : Rq)))) ⟨_, rfl, e6⟩) (⟨_, rfl, e6⟩) (zZe _) n0.gr.below.size (by unfold maxLen; (have := bK l0 30; have := bK l1 30; simp [cG]; omega)) (by (have := bK l0 30; have := bK l1 30; simp [cG]; omega)) ?_
  intro ca cb d3 am
  simp only [pq]
  have d3 := St.drop d3 (.cons _ (zZd _))
  obtain ⟨t5, j9, rfl, cc, t6⟩ := (d3.own (i := 0) rfl).shape
  unfold maxLen at t6
  refine dy ?_
  refine wlK m7 ?_
  refine aB ?_
  refine dx ?_
  refine cR (i + 1) ?_
  refine dy ?_
  simp only [pq]
  refine aG ?_
  rw [show (((aL l0 30 ++ [Ac.sync, Ac.start]) ++ (cG i).map Rc.ac) ++ [(Ac.ask i (mW 7 (⟨[], [], [], []⟩ : Rq)))]) = ((aL l0 30 ++ [Ac.sync, Ac.start]) ++ (cG (i + 1)).map Rc.ac) from (RY _ i)] at d3 ⊢
  exact m5 _ _ _ (by omega) ⟨(i + 1), t5, j9, m8, _, rfl, rfl, rfl, d3, (h5.trans m9), (by omega)⟩
 ·refine eM ?_
  refine wn h6 ?_
  refine aF ?_
  refine cP ?_
  refine m3 _ _ ?_
  refine aE fun cd n1 => ?_
  obtain rfl : 8 = i := by omega
  refine aB ?_
  refine dx ?_
  simp only [pq]
  obtain ⟨G1, G2, G3, G4, R, h1, h2, h3, h4, fm, fn, fo, ce, fok, q1, q2⟩ := Bt l0 l1
  obtain ⟨cf, e7, n2, b6⟩ := St.freeze e5 (i := 1) rfl (zZe _)
  have b6 : Acs _ (.slice a6 ((aL l0 30) ++ [Ac.sync, (Ac.crash 0), Ac.start]).length a2) ((aL l0 30) ++ [Ac.sync, (Ac.crash 0), Ac.start]) := b6
  refine aR e7 rfl (fn1 (JU _ _)) (sR _ _ _ ((aL l0 30) ++ [Ac.sync, (Ac.crash 0), Ac.start]) (e7).sat (hT.1.below e7.gr.below) (hT.2.at e7.gr.below) b6 h1.1 h1.2) ?_
  intro cg ch ci t7 h7 t8
  obtain ⟨_, rfl, t9⟩ := t8
  obtain ⟨k0, k1, d4, d5, rfl, cj, ck⟩ := t9
  refine aC ?_
  refine sA t7 (pX _) fun d6 cl u0 => ?_
  refine sW 0 u0 (mC) fun cm u1 => ?_
  refine dy ?_
  simp only [pq]
  refine wlK n1 ?_
  refine sk fun cn n3 => ?_
  refine dx ?_
  simp only [pq]
  obtain ⟨co, e8, h8, b7⟩ := St.freeze u1 (i := 0) rfl (zZe _)
  have b7 : Acs _ (.slice ra ((aL l0 30 ++ [Ac.sync, Ac.start]) ++ (cG 8).map Rc.ac).length rc) ((aL l0 30 ++ [Ac.sync, Ac.start]) ++ (cG 8).map Rc.ac) := b7
  refine aR e8 rfl (fn1 (JU _ _)) (sR _ _ _ ((aL l0 30 ++ [Ac.sync, Ac.start]) ++ (cG 8).map Rc.ac) (e8).sat (hT.1.below e8.gr.below) (hT.2.at e8.gr.below) b7 h2.1 h2.2) ?_
  intro cp cq cr u2 d7 u3
  obtain ⟨_, rfl, u4⟩ := u3
  obtain ⟨k2, k3, e9, f0, rfl, ct, cu⟩ := u4
  refine aC ?_
  refine sA u2 (pX _) fun f1 cv u5 => ?_
  refine sW 0 u5 (mC) fun cw f2 => ?_
  refine dy ?_
  simp only [pq]
  refine wn n3 ?_
  refine sk fun cx n4 => ?_
  refine dx ?_
  refine kR AcC.mono f2 rfl (fn2 (PZ _ _)) (uP _ _ _ l1 30 (f2).sat ⟨hT.1.below f2.gr.below, hT.2.at f2.gr.below⟩ (z1.mono ((((((((g9.trans h0).trans l7).trans m0).trans h5).trans n2).trans h7).trans h8).trans d7)) (by omega)) ?_
  intro cy cz db u6 h9
  refine dy ?_
  refine wn n4 ?_
  refine aE fun dc n5 => ?_
  have f3 := St.addNil u6 4 AcC AcC.mono 33 W.heap.size
  refine aB ?_
  refine dx ?_
  simp only [pq]
  obtain ⟨c2, a3, rfl, dd, u7⟩ := (f3.own (i := 1) rfl).shape
  unfold maxLen at u7
  refine eH (r := 0) (u := (.slice a6 ((aL l0 30) ++ [Ac.sync, (Ac.crash 0), Ac.start]).length a2)) f3 rfl j3 (.agg #[(iI 0), (iI 0), (iI 0), Zn]) 48 Tryz.underlying23 a7 a8 a9 b0 rfl (by decide) rfl rfl rfl (Sl.toW (b6.mono (((h7.trans h8).trans d7).trans h9)) (f3).sat) AcC.one (zZe _) f3.gr.below.size (by unfold maxLen; (have := bK l0 30; have := bK l1 30; simp [cG]; omega)) (by (have := bK l0 30; have := bK l1 30; simp [cG]; omega)) ?_
  intro dg dh f4 an
  simp only [pq]
  obtain ⟨u8, k4, rfl, dj, u9⟩ := (f4.own (i := 0) rfl).shape
  unfold maxLen at u9
  refine dx ?_
  refine eH (r := 0) (u := (.slice c2 (aL l1 30).length a3)) f4 rfl j3 (.agg #[(iI 0), (iI 0), (iI 0), Zn]) 48 Tryz.underlying23 a7 a8 a9 b0 rfl (by decide) rfl rfl rfl ((f4.own (i := 1) rfl).toW) AcC.one (zZe _) f4.gr.below.size (by unfold maxLen; (have := bK l0 30; have := bK l1 30; simp [cG]; omega)) (by (have := bK l0 30; have := bK l1 30; simp [cG]; omega)) ?_
  intro dk dm n6 ao
  simp only [pq]
  obtain ⟨k5, b2, rfl, dq, v2⟩ := (n6.own (i := 0) rfl).shape
  unfold maxLen at v2
  have hg3 : G3.replies.length ≤ 100000 := by have := FH ((([] ++ ((aL l0 30) ++ [Ac.sync, (Ac.crash 0), Ac.start])) ++ (aL l1 30))); rw [h3.2] at this; have := h3.1.len; omega
  obtain ⟨ds, f5, n7, d8⟩ := St.freeze n6 (i := 0) rfl (zZe _)
  have d8 : Acs _ (.slice k5 (([] ++ ((aL l0 30) ++ [Ac.sync, (Ac.crash 0), Ac.start])) ++ (aL l1 30)).length b2) (([] ++ ((aL l0 30) ++ [Ac.sync, (Ac.crash 0), Ac.start])) ++ (aL l1 30)) := d8
  refine aR f5 rfl (cB (vs := #[(.slice k5 (([] ++ ((aL l0 30) ++ [Ac.sync, (Ac.crash 0), Ac.start])) ++ (aL l1 30)).length b2)]) (jQ rfl) rfl (JU _ _)) (sR _ _ _ (([] ++ ((aL l0 30) ++ [Ac.sync, (Ac.crash 0), Ac.start])) ++ (aL l1 30)) (f5).sat (hT.1.below f5.gr.below) (hT.2.at f5.gr.below) d8 h3.1 h3.2) ?_
  intro du dv dw v3 n8 v4
  obtain ⟨_, rfl, v5⟩ := v4
  obtain ⟨f6, f7, f8, f9, rfl, v6, v7⟩ := v5
  refine aC ?_
  refine sA v3 (pX _) fun c3 dz v8 => ?_
  refine sW 0 v8 (mC) fun ea v9 => ?_
  refine dy ?_
  simp only [pq]
  refine wlK n5 ?_
  refine aE fun eb n9 => ?_
  have k6 := St.addNil v9 4 AcC AcC.mono 33 W.heap.size
  refine aB ?_
  refine dx ?_
  refine eH (r := 0) (u := (.slice ra ((aL l0 30 ++ [Ac.sync, Ac.start]) ++ (cG 8).map Rc.ac).length rc)) k6 rfl j3 (.agg #[(iI 0), (iI 0), (iI 0), Zn]) 48 Tryz.underlying23 a7 a8 a9 b0 rfl (by decide) rfl rfl rfl (Sl.toW (b7.mono (((d7.trans h9).trans n7).trans n8)) (k6).sat) AcC.one (zZe _) k6.gr.below.size (by unfold maxLen; (have := bK l0 30; have := bK l1 30; simp [cG]; omega)) (by (have := bK l0 30; have := bK l1 30; simp [cG]; omega)) ?_
  intro ec ed g0 ap
  simp only [pq]
  obtain ⟨w0, k7, rfl, ee, w1⟩ := (g0.own (i := 0) rfl).shape
  unfold maxLen at w1
  refine dx ?_
  refine eH (r := 0) (u := (.slice c2 (aL l1 30).length a3)) g0 rfl j3 (.agg #[(iI 0), (iI 0), (iI 0), Zn]) 48 Tryz.underlying23 a7 a8 a9 b0 rfl (by decide) rfl rfl rfl ((g0.own (i := 1) rfl).toW) AcC.one (zZe _) g0.gr.below.size (by unfold maxLen; (have := bK l0 30; have := bK l1 30; simp [cG]; omega)) (by (have := bK l0 30; have := bK l1 30; simp [cG]; omega)) ?_
  intro eg eh o0 aq
  simp only [pq]
  obtain ⟨k8, b3, rfl, ei, w2⟩ := (o0.own (i := 0) rfl).shape
  unfold maxLen at w2
  have hg4 : G4.replies.length ≤ 100000 := by have := FH ((([] ++ ((aL l0 30 ++ [Ac.sync, Ac.start]) ++ (cG 8).map Rc.ac)) ++ (aL l1 30))); rw [h4.2] at this; have := h4.1.len; omega
  have q3 : G3.replies.length = G1.replies.length + R.length := by rw [q1, zZf]
  have q4 : G4.replies.length = G2.replies.length + R.length := by rw [q2, zZf]
  obtain ⟨ej, g1, i0, d9⟩ := St.freeze o0 (i := 0) rfl (zZe _)
  have d9 : Acs _ (.slice k8 (([] ++ ((aL l0 30 ++ [Ac.sync, Ac.start]) ++ (cG 8).map Rc.ac)) ++ (aL l1 30)).length b3) (([] ++ ((aL l0 30 ++ [Ac.sync, Ac.start]) ++ (cG 8).map Rc.ac)) ++ (aL l1 30)) := d9
  refine aR g1 rfl (cB (vs := #[(.slice k8 (([] ++ ((aL l0 30 ++ [Ac.sync, Ac.start]) ++ (cG 8).map Rc.ac)) ++ (aL l1 30)).length b3)]) (jQ rfl) rfl (JU _ _)) (sR _ _ _ (([] ++ ((aL l0 30 ++ [Ac.sync, Ac.start]) ++ (cG 8).map Rc.ac)) ++ (aL l1 30)) (g1).sat (hT.1.below g1.gr.below) (hT.2.at g1.gr.below) d9 h4.1 h4.2) ?_
  intro ek em w3 w4 i1 w5
  obtain ⟨_, rfl, w6⟩ := w5
  obtain ⟨g2, g3, g4, g5, rfl, w7, w8⟩ := w6
  refine aC ?_
  refine sA w4 (pX _) fun c4 en w9 => ?_
  refine sW 0 w9 (mC) fun eo o1 => ?_
  refine dy ?_
  simp only [pq]
  refine wlK n9 ?_
  refine aE fun ep o2 => ?_
  refine sk fun eq o3 => ?_
  refine aC ?_
  refine jJ ?_
  refine aC ?_
  refine jJ ?_
  refine aC ?_
  refine jJ ?_
  refine aC ?_
  refine aJ (v := bT) o1 rfl (fn2 (Gm _ _)) (eI (BN _ _ _ _ (G3.forest G3.synced) (G4.forest G4.synced) (o1).sat (v6.mono (i0.trans i1)) w7 (by have := ForestOk.len fok; omega) (fun t ht => by have := (ForestOk.tree fok t ht).len; omega)) (decide_eq_true (ce))) (fun g6 x0 => ?_)
  refine aC ?_
  refine XY (((G3.replies.length - G1.replies.length) : Nat) : Int) ?_
  refine aC ?_
  refine XY (((G4.replies.length - G2.replies.length) : Nat) : Int) ?_
  refine jJ ?_
  simp only [pq]
  refine dp ?_
  refine wn o3 ?_
  refine aF ?_
  refine aH ?_
  refine o2 _ _ ?_
  refine aE fun er o4 => ?_
  refine sk fun es o5 => ?_
  refine aC ?_
  refine wn o5 ?_
  refine aN ?_
  obtain ⟨x1, i2, o6⟩ := St.freezeBlk x0 (i := 3) rfl
  generalize addF w3 g6 d6 = x2 at *
  obtain ⟨x3, e0, o7⟩ := St.freezeBlk x1 (i := 2) rfl
  generalize addF x2 g6 f1 = x4 at *
  obtain ⟨x5, b9, i3⟩ := St.freezeBlk x3 (i := 1) rfl
  generalize addF x4 g6 c3 = x6 at *
  obtain ⟨x7, a5, o8⟩ := St.freezeBlk x5 (i := 0) rfl
  generalize addF x6 g6 c4 = o9 at *
  have x8 := St.dropRow x7 (M' := []) (.cons _ (zZd _))
  refine aX (fun mm aa x9 => ∃ (j : Nat) (g7 : Fz) (c5 : Nat → Value), mm = G3.replies.length - j ∧ c5 = dX aa ∧ aa = ⟨([(.slice a0 l0.length c0), (.slice a1 l1.length c1), undef, undef, (c5 4), (.slice a6 ((aL l0 30) ++ [Ac.sync, (Ac.crash 0), Ac.start]).length a2), (.slice ra ((aL l0 30 ++ [Ac.sync, Ac.start]) ++ (cG 8).map Rc.ac).length rc), (iI 8), (pP d6 0), bT, (pP f1 0), bT, (.slice c2 (aL l1 30).length a3), (pP c3 0), bT, (pP c4 0), bT, (nI j), (c5 18), (c5 19), (.slice a0 l0.length c0), (.slice l4 (aL l0 30).length c9), (.agg #[(iI 2), (iI 0), (iI 0), Zn]), (.agg #[(iI 3), (iI 0), (iI 0), Zn]), (.agg #[(iI 4), (iI 0), (iI 0), Zn]), (.slice (aA c8 0) 3 3), (.slice a6 ((aL l0 30) ++ [Ac.sync, (Ac.crash 0), Ac.start]).length a2), (.slice a0 l0.length c0), (.slice l9 (aL l0 30).length d2), (.agg #[(iI 2), (iI 0), (iI 0), Zn]), (.agg #[(iI 4), (iI 0), (iI 0), Zn]), (.slice (aA d1 0) 2 2), (.slice j7 ((aL l0 30 ++ [Ac.sync, Ac.start]) ++ (cG 0).map Rc.ac).length b1), (iI 8), bF] ++ (usF e4 35 8 ([(.tuple #[(.agg #[(.bool G1.up), (nI G1.synced), (nI G1.waiting.length), (.slice k0 (G1.forest G1.synced).length k1), (.slice d4 G1.replies.length d5)]), bT]), (.slice a6 ((aL l0 30) ++ [Ac.sync, (Ac.crash 0), Ac.start]).length a2), (.tuple #[(.agg #[(.bool G1.up), (nI G1.synced), (nI G1.waiting.length), (.slice k0 (G1.forest G1.synced).length k1), (.slice d4 G1.replies.length d5)]), bT]), (.agg #[(.bool G1.up), (nI G1.synced), (nI G1.waiting.length), (.slice k0 (G1.forest G1.synced).length k1), (.slice d4 G1.replies.length d5)]), bT, (.tuple #[(.agg #[(.bool G2.up), (nI G2.synced), (nI G2.waiting.length), (.slice k2 (G2.forest G2.synced).length k3), (.slice e9 G2.replies.length f0)]), bT]), (.slice ra ((aL l0 30 ++ [Ac.sync, Ac.start]) ++ (cG 8).map Rc.ac).length rc), (.tuple #[(.agg #[(.bool G2.up), (nI G2.synced), (nI G2.waiting.length), (.slice k2 (G2.forest G2.synced).length k3), (.slice e9 G2.replies.length f0)]), bT]), (.agg #[(.bool G2.up), (nI G2.synced), (nI G2.waiting.length), (.slice k2 (G2.forest G2.synced).length k3), (.slice e9 G2.replies.length f0)]), bT, (.slice a1 l1.length c1), (.slice c2 (aL l1 30).length a3), (.tuple #[(.agg #[(.bool G3.up), (nI G3.synced), (nI G3.waiting.length), (.slice f6 (G3.forest G3.synced).length f7), (.slice f8 G3.replies.length f9)]), bT]), (.slice a6 ((aL l0 30) ++ [Ac.sync, (Ac.crash 0), Ac.start]).length a2), (.slice u8 ([] ++ ((aL l0 30) ++ [Ac.sync, (Ac.crash 0), Ac.start])).length k4), (.slice c2 (aL l1 30).length a3), (.slice k5 (([] ++ ((aL l0 30) ++ [Ac.sync, (Ac.crash 0), Ac.start])) ++ (aL l1 30)).length b2), (.tuple #[(.agg #[(.bool G3.up), (nI G3.synced), (nI G3.waiting.length), (.slice f6 (G3.forest G3.synced).length f7), (.slice f8 G3.replies.length f9)]), bT]), (.agg #[(.bool G3.up), (nI G3.synced), (nI G3.waiting.length), (.slice f6 (G3.forest G3.synced).length f7), (.slice f8 G3.replies.length f9)]), bT, (.tuple #[(.agg #[(.bool G4.up), (nI G4.synced), (nI G4.waiting.length), (.slice g2 (G4.forest G4.synced).length g3), (.slice g4 G4.replies.length g5)]), bT]), (.slice ra ((aL l0 30 ++ [Ac.sync, Ac.start]) ++ (cG 8).map Rc.ac).length rc), (.slice w0 ([] ++ ((aL l0 30 ++ [Ac.sync, Ac.start]) ++ (cG 8).map Rc.ac)).length k7), (.slice c2 (aL l1 30).length a3), (.slice k8 (([] ++ ((aL l0 30 ++ [Ac.sync, Ac.start]) ++ (cG 8).map Rc.ac)) ++ (aL l1 30)).length b3), (.tuple #[(.agg #[(.bool G4.up), (nI G4.synced), (nI G4.waiting.length), (.slice g2 (G4.forest G4.synced).length g3), (.slice g4 G4.replies.length g5)]), bT]), (.agg #[(.bool G4.up), (nI G4.synced), (nI G4.waiting.length), (.slice g2 (G4.forest G4.synced).length g3), (.slice g4 G4.replies.length g5)]), bT, bT, bF, bF, bT, bF, bF, bF, bT, bF, bF, bF, bT, bF, bF, bF, (pP d6 1), (nI G1.synced), (pP f1 1), (nI G2.synced), bF, bF, bF, (pP c3 1), (nI G3.synced), (pP c4 1), (nI G4.synced), bF, bF, bF, (pP c3 2), (nI G3.waiting.length), (pP c4 2), (nI G4.waiting.length), bF, bF, bF, (pP c3 3), (.slice f6 (G3.forest G3.synced).length f7), (pP c4 3), (.slice g2 (G4.forest G4.synced).length g3), bT, bF, bF, bF, (pP c3 4), (.slice f8 G3.replies.length f9), (nI G3.replies.length), (pP d6 4), (.slice d4 G1.replies.length d5), (nI G1.replies.length), (nI (G3.replies.length - G1.replies.length)), (pP c4 4), (.slice g4 G4.replies.length g5), (nI G4.replies.length), (pP f1 4), (.slice e9 G2.replies.length f0), (nI G2.replies.length), (nI (G4.replies.length - G2.replies.length)), bF, bF, (pP d6 4), (.slice d4 G1.replies.length d5), (nI G1.replies.length)] ++ (usF c5 134 70 [])))).toArray, []⟩ ∧ St W (whole W) x9 g7 [] [] ∧ Le o9 g7 ∧ (G1.replies.length ≤ j) ∧ (j ≤ G3.replies.length)) _ ⟨G1.replies.length, o9, _, rfl, rfl, rfl, x8, Le.refl _, (by omega), (by omega)⟩ ?_
  rintro et eu ew ⟨j, g7, c5, rfl, -, hfr, e1, a4, hj0, hj⟩ ex p0
  simp only [uzF, Nat.reduceAdd] at hfr; subst hfr
  refine aE fun ey p1 => ?_
  refine sk fun ez i4 => ?_
  refine aC ?_
  refine dr _ (aD rfl (aQ (nX _) (St.fz e1 (Le.cell (a5.trans a4) (i3 4 _ rfl))))) ?_
  simp only [pq]
  refine dn Tryz.underlying41 ?_
  simp only [pq]
  by_cases ar : j < G3.replies.length
  ·refine eS ?_
   refine wn i4 ?_
   refine aI ?_
   refine aH ?_
   refine p1 _ _ ?_
   refine aE fun fa p2 => ?_
   refine aN ?_
   refine aE fun fb p3 => ?_
   obtain ⟨r, hr⟩ : ∃ r, G3.replies[j]? = some r := ⟨G3.replies[j]'(by omega), zZc (by omega)⟩
   have hr2 := (Fn q1 q2 hj0).trans hr
   obtain ⟨y0, y1, p4, i5, i6, p5, p6, i7, i8, p7, p8, p9, q5, q6, q7, y2, c6, y3, y4, y5⟩ := Rps.row (v7.mono ((((((i0.trans i1).trans i2).trans e0).trans b9).trans a5).trans a4)) hr
   have y6 : Value.oneCell' p7 = true := c6 _ (by simp)
   have y7 : Value.oneCell' p8 = true := c6 _ (by simp)
   have y8 : Value.oneCell' p9 = true := c6 _ (by simp)
   have y9 : Value.oneCell' q5 = true := c6 _ (by simp)
   have z2 : Value.oneCell' q6 = true := c6 _ (by simp)
   have z3 : Value.oneCell' q7 = true := c6 _ (by simp)
   refine aB ?_
   refine df (BU _ _) ?_
   refine dr _ (aD rfl (aQ (nX _) (St.fz e1 (Le.cell (a5.trans a4) (i3 4 _ rfl))))) ?_
   refine dx ?_
   simp only [pq]
   refine dr (pP y0 (y1 + j * 15)) (bN (i := j) (sz := 15) Tryz.underlying41 (HI _) rfl p4 rfl (by omega) rfl) ?_
   refine dr _ (aD rfl (cV Tryz.underlying54 rfl (yB) (fun j v h => St.fz e1 (y2 j v h)))) ?_
   refine sA e1 (SU _) fun fc fd z4 => ?_
   simp only [pq]
   refine fZ (i := 0) (v := (.agg #[(nI r.s), (.int .i64 r.code), (.int .i64 r.turn), (.bool r.found), (.slice i5 r.value.length i6), (.slice p5 r.pairs.length p6), (.slice i7 r.root.length i8), (.bool r.outer.empty), p7, p8, p9, (.bool r.inner.empty), q5, q6, q7])) z4 rfl rfl rfl rfl (yB) (by simp only [Value.cells]; simp; exact ⟨rfl, rfl, rfl, rfl, rfl, rfl, rfl, rfl, y6, y7, y8, rfl, y9, z2, z3⟩) (Nat.le_of_ble_eq_true rfl) (fun fe e2 => ?_)
   refine wlK p3 ?_
   refine aE fun ff q8 => ?_
   obtain ⟨z5, z6, q9, i9, j0, r0, r1, j1, j2, r2, r3, r4, r5, r6, r7, z7, c7, z8, z9, ab⟩ := Rps.row (w8.mono ((((i2.trans e0).trans b9).trans a5).trans a4)) hr2
   have ad : Value.oneCell' r2 = true := c7 _ (by simp)
   have ae : Value.oneCell' r3 = true := c7 _ (by simp)
   have af : Value.oneCell' r4 = true := c7 _ (by simp)
   have ag : Value.oneCell' r5 = true := c7 _ (by simp)
   have ah : Value.oneCell' r6 = true := c7 _ (by simp)
   have ai : Value.oneCell' r7 = true := c7 _ (by simp)
   refine aB ?_
   refine df (BU _ _) ?_
   refine dr _ (aD rfl (aQ (nX _) (St.fz e2 (Le.cell a4 (o8 4 _ rfl))))) ?_
   refine aC ?_
   refine dr _ (aD rfl (aQ (nX _) (St.fz e2 (Le.cell (((e0.trans b9).trans a5).trans a4) (o6 4 _ rfl))))) ?_
   refine aC ?_
   refine XY (((j - G1.replies.length) : Nat) : Int) ?_
   refine df (BU _ _) ?_
   refine dr _ (aD rfl (aQ (nX _) (St.fz e2 (Le.cell ((b9.trans a5).trans a4) (o7 4 _ rfl))))) ?_
   refine aC ?_
   refine cR ((((j - G1.replies.length) + G2.replies.length) : Nat) : Int) ?_
   refine dr (pP z5 (z6 + ((j - G1.replies.length) + G2.replies.length) * 15)) (bN (i := ((j - G1.replies.length) + G2.replies.length)) (sz := 15) Tryz.underlying41 (HI _) rfl q9 rfl (by omega) rfl) ?_
   simp only [pq]
   refine dr _ (aD rfl (cV Tryz.underlying54 rfl (yB) (fun j v h => St.fz e2 (z7 j v h)))) ?_
   refine sA e2 (SU _) fun fg fh aj => ?_
   refine fZ (i := 0) (v := (.agg #[(nI r.s), (.int .i64 r.code), (.int .i64 r.turn), (.bool r.found), (.slice i9 r.value.length j0), (.slice r0 r.pairs.length r1), (.slice j1 r.root.length j2), (.bool r.outer.empty), r2, r3, r4, (.bool r.inner.empty), r5, r6, r7])) aj rfl rfl rfl rfl (yB) (by simp only [Value.cells]; simp; exact ⟨rfl, rfl, rfl, rfl, rfl, rfl, rfl, rfl, ad, ae, af, rfl, ag, ah, ai⟩) (Nat.le_of_ble_eq_true rfl) (fun fi g8 => ?_)
   refine wlK q8 ?_
   refine sk fun fj r8 => ?_
   refine aC ?_
   refine dr bF (cH (m := r.code) (n := r.code) (b := false) rfl rfl (bne_eq_false_iff_eq.2 (rfl))) ?_
   refine aC ?_
   refine dr bF (cH (m := r.turn) (n := r.turn) (b := false) rfl rfl (bne_eq_false_iff_eq.2 (rfl))) ?_
   refine aC ?_
   refine dr bF (Cf Tryz.underlying4 rfl rfl (by cases r.found <;> rfl)) ?_
   refine aC ?_
   refine dr (.string ⟨r.value.toArray⟩) (aU (v := (.slice i5 r.value.length i6)) rfl (gE Tryz.underlying25 Tryz.underlying5 Tryz.underlying9 (g8).sat y3)) ?_
   refine aC ?_
   refine dr (.string ⟨r.value.toArray⟩) (aU (v := (.slice i9 r.value.length j0)) rfl (gE Tryz.underlying25 Tryz.underlying5 Tryz.underlying9 (g8).sat z8)) ?_
   refine dr bF (tO (op := .neq) (l := r.value) (m := r.value) (b := false) (by simp) rfl rfl (bne_self_eq_false _)) ?_
   refine aC ?_
   refine aJ (v := bT) g8 rfl (fn2 (Gn _ _)) (BO _ _ _ _ r.pairs (g8).sat y4 z9) (fun fk e3 => ?_)
   refine aC ?_
   refine dr (.string ⟨r.root.toArray⟩) (aU (v := (.slice i7 r.root.length i8)) rfl (gE Tryz.underlying25 Tryz.underlying5 Tryz.underlying9 (e3).sat y5)) ?_
   refine aC ?_
   refine dr (.string ⟨r.root.toArray⟩) (aU (v := (.slice j1 r.root.length j2)) rfl (gE Tryz.underlying25 Tryz.underlying5 Tryz.underlying9 (e3).sat ab)) ?_
   simp only [pq]
   refine dr bF (tO (op := .neq) (l := r.root) (m := r.root) (b := false) (by simp) rfl rfl (bne_self_eq_false _)) ?_
   refine dp ?_
   refine wn r8 ?_
   refine aF ?_
   refine aH ?_
   refine p2 _ _ ?_
   refine aB ?_
   refine dx ?_
   refine cR (j + 1) ?_
   refine dy ?_
   simp only [pq]
   refine aG ?_
   have e3 := St.drop e3 (.cons _ (.cons _ (zZd _)))
   exact p0 _ _ _ (by omega) ⟨(j + 1), g7, _, rfl, rfl, rfl, e3, a4, (by omega), (by omega)⟩
  ·refine eM ?_
   refine wn i4 ?_
   refine aF ?_
   refine cP ?_
   refine o4 _ _ ?_
   refine sk fun fl r9 => ?_
   refine dy ?_
   refine wn r9 ?_
   refine aO ?_
   try simp only [xt]
   refine bR (bA rfl (gD rfl)) ?_
   ·exact ⟨rfl, e1.gr.below⟩
end Go.Proofs.YtilgpdpooildcaaGreatDoor
