/- The walk of TopRoots -/
import Derived.Test.YtilgpdpooildcaaGreatDoorDA13
import Derived.Test.YtilgpdpooildcaaGreatDoorDA2
import Derived.Test.YtilgpdpooildcaaGreatDoorDA3
namespace Go.Proofs.YtilgpdpooildcaaGreatDoor
set_option maxHeartbeats 8000000
open Go.RowKit
set_option maxRecDepth 100000
set_option linter.unusedVariables false
set_option linter.unusedSimpArgs false
def RpW (F : Fz) (u : Value) (y : Rep) : Prop := ∃ va vc pa pc ra rc a1 a2 a3 b1 b2 b3, u = .agg #[.int .i64 ((y.s : Nat) : Int), .int .i64 y.code, .int .i64 y.turn, .bool y.found, .slice va y.value.length vc, .slice pa y.pairs.length pc, .slice ra y.root.length rc, .bool y.outer.empty, a1, a2, a3, .bool y.inner.empty, b1, b2, b3] ∧
  (∀ x ∈ [a1, a2, a3, b1, b2, b3], x.oneCell' = true) ∧ Bs F (.slice ra y.root.length rc) y.root
theorem MB (F : Fz) (w : World) (g : Ge) (hs : Sat w F) (hg : YB g) :
    Calls Tryz.prog 19 #[.agg #[.int .i64 8, .int .i64 0, .int .i64 g.name, .int .i64 g.key, .int .i64 g.value]] w (dB w F fun F' u => ReqR F' u ((4, (⟨jI g, jJ g.key, [], [dX ((aN g.value 50 : Nat) : Int)]⟩ : Rq)) : Nat × Rq)) := by
 rw [← Di g]
 exact MA F w (QQ g) hs (Dj hg)
theorem vR (F : Fz) (w : World) (v : Value) (l : List (Nat × Rq)) (gs : List Ge) (f : aO) (hs : Sat w F) (hT : Has w ∧ Tabs w) (hv : Reqs F v l) (hl : l = gs.map aQ) (hn : gs.length ≤ 20) (hf : fW [] (gs.map fun g => rcW (aQ g)) = some f) :
    Calls Tryz.prog 27 #[v] w (dB w F fun F' u => ∃ x y, u = .tuple #[x, .bool true] ∧ RpW F' x y ∧ y.root = rE f ∧ y.found = (gQ f [97] [107]).isSome) := by
 obtain ⟨a, c, rfl, hc1, hc2⟩ := Sl.shape hv
 unfold maxLen at hc2
 have hvl := hv
 rw [hl] at hv
 obtain ⟨n4, d3, d4, d5, d6⟩ := info_parts KC
 have S := St.start hs
 go_enter Tryz.func27, Tryz.ntmps27
 refine sk fun o2 d7 => ?_
 refine sA S (BE _) fun d8 o3 i8 => ?_
 refine dy ?_
 refine wn d7 ?_
 refine sk fun o4 d9 => ?_
 refine dy ?_
 simp only [pq]
 refine wn d9 ?_
 refine aE fun o5 e0 => ?_
 refine aE fun o6 e1 => ?_
 have i9 := St.addNil i8 4 AcC AcC.mono 33 w.heap.size
 refine aB ?_
 refine dy ?_
 refine wlK e1 ?_
 refine aM ?_
 refine bA (fun mm aa j0 => ∃ (i : Nat) (ra : Option Addr) (rc : Nat) (a5 : Fz) (c1 : Nat → Value), mm = l.length - i ∧ c1 = dV aa ∧ aa = ⟨([(.slice a l.length c), undef, (pP d8 0), bF, (.slice ra ((dG (gs.take i)).map Rc.ac).length rc), (nI i), undef, undef] ++ (usF c1 8 19 (udF 29 []))).toArray, []⟩ ∧ St w F j0 a5 [⟨d8, [(iI 0), (iI 0), (iI 0), bF, Zn, Zn, Zn, bF, Zn, Zn, Zn, bF, Zn, Zn, Zn], 54⟩] [bZ 4 AcC AcC.mono 33 w.heap.size (.slice ra ((dG (gs.take i)).map Rc.ac).length rc) ((dG (gs.take i)).map Rc.ac)] ∧ Le F a5 ∧ (i ≤ l.length)) _ ⟨0, none, 0, F, _, rfl, rfl, rfl, i9, Le.refl _, (by omega)⟩ ?_
 rintro o7 o8 o9 ⟨i, ra, rc, a5, c1, rfl, -, hfr, a0, b1, hi⟩ p0 e2
 simp only [uzF, Nat.reduceAdd] at hfr; subst hfr
 refine aE fun p1 e3 => ?_
 refine sk fun p2 b2 => ?_
 refine aC ?_
 by_cases p3 : i < l.length
 ·refine eZ ?_
  refine wn b2 ?_
  refine aJ ?_
  refine aH ?_
  refine e3 _ _ ?_
  refine aE fun p4 e4 => ?_
  refine aM ?_
  have hlg : l.length = gs.length := by rw [hl, List.length_map]
  obtain ⟨g, hg⟩ : ∃ g, gs[i]? = some g := ⟨gs[i]'(by omega), List.getElem?_eq_getElem (by omega)⟩
  obtain ⟨j1, j2, e5, e6, e7, e8, e9, f0, f1, f2, f3, j3, j4, j5, j6, j7⟩ := Reqs.get (hv.mono b1) (EX hg)
  refine aT a5 12 [(2, .made (fun F' u => AcV F' u (Ac.ask 0 (cR 1 (⟨[], [], [], []⟩ : Rq))))), (7, .made (fun F' u => AcV F' u (Ac.ask 0 (cR ((aQ g).1) (aQ g).2)))), (9, .made (fun F' u => AcV F' u (Ac.ask 0 (cR 6 (⟨[], [], [], []⟩ : Rq))))), (11, .made (fun F' u => Acs F' u ([(Ac.ask 0 (cR 1 (⟨[], [], [], []⟩ : Rq))), (Ac.ask 0 (cR ((aQ g).1) (aQ g).2)), (Ac.ask 0 (cR 6 (⟨[], [], [], []⟩ : Rq))), Ac.sync] : List Ac)))] (by kernel_rfl) (by kernel_rfl) ?_
  simp only [dD]
  refine gm ?_
  refine gv (.agg #[(iI 1), Zn, Zn, Zn, Zn]) (fun _ _ => aL (ps := #[(0, (iI 1))]) (cH rfl) (by kernel_rfl)) ?_
  simp only [pq]
  refine dF rfl rfl (fun c2 a1 hF => bO (cK (vs := #[(iI 0), (.agg #[(iI 1), Zn, Zn, Zn, Zn])]) (iD rfl rfl) rfl (pY _ _)) (cS a0.sat a1 (gG _ _ _ 0 1 (⟨[], [], [], []⟩ : Rq) ((St.tells a0 a1)).sat (hT.1.below (St.tells a0 a1).gr.below) ⟨_, _, _, _, rfl, (Bs.nil _), (Bs.nil _), (Bs.nil _), (Bs.nil _)⟩ ⟨by decide, by kernel_rfl⟩))) (fun p5 => ?_)
  iterate 2 refine gm ?_
  refine gv (pP j1 (j2 + i * 5)) (fun _ _ => bP (i := i) (sz := 5) Tryz.underlying61 (yY _) rfl e5 rfl (by omega) rfl) ?_
  simp only [pq]
  refine gv _ (fun _ a1 => aD rfl (cN Tryz.underlying27 rfl (aY) (fun j v h => St.fz (St.tells a0 a1) (j3 j v h)))) ?_
  simp only [pq]
  refine dF rfl rfl (fun c2 a1 hF => bO (cK (vs := #[(iI 0), (.agg #[(.int .i64 (((aQ g).1 : Nat) : Int)), (.slice e6 (aQ g).2.name.length e7), (.slice e8 (aQ g).2.key.length e9), (.slice f0 (aQ g).2.last.length f1), (.slice f2 (aQ g).2.value.length f3)])]) (iD rfl rfl) rfl (pY _ _)) (cS a0.sat a1 (gG _ _ _ 0 ((aQ g).1) (aQ g).2 ((St.tells a0 a1)).sat (hT.1.below (St.tells a0 a1).gr.below) ⟨_, _, _, _, rfl, j4, j5, j6, j7⟩ (EW g)))) (fun p6 => ?_)
  refine gv (.agg #[(iI 6), Zn, Zn, Zn, Zn]) (fun _ _ => aL (ps := #[(0, (iI 6))]) (cH rfl) (by kernel_rfl)) ?_
  simp only [pq]
  refine dF rfl rfl (fun c2 a1 hF => bO (cK (vs := #[(iI 0), (.agg #[(iI 6), Zn, Zn, Zn, Zn])]) (iD rfl rfl) rfl (pY _ _)) (cS a0.sat a1 (gG _ _ _ 0 6 (⟨[], [], [], []⟩ : Rq) ((St.tells a0 a1)).sat (hT.1.below (St.tells a0 a1).gr.below) ⟨_, _, _, _, rfl, (Bs.nil _), (Bs.nil _), (Bs.nil _), (Bs.nil _)⟩ ⟨by decide, by kernel_rfl⟩))) (fun p7 => ?_)
  refine gv (.agg #[(iI 2), (iI 0), (iI 0), Zn]) (fun _ _ => aL (ps := #[(0, (iI 2))]) (cH rfl) (by kernel_rfl)) ?_
  simp only [pq]
  refine dF rfl rfl (fun c2 a1 hF_ => ?_) (fun p8 => ?_)
  ·obtain ⟨c3, c4, j8⟩ := hF_.get 2 (by kernel_rfl) rfl rfl
   obtain ⟨c5, c6, j9⟩ := hF_.get 7 (by kernel_rfl) rfl rfl
   obtain ⟨f4, f5, k0⟩ := hF_.get 9 (by kernel_rfl) rfl rfl
   obtain ⟨b3, b4, rfl, k1⟩ := (j8.mono ((iM c3 c5).trans (iM (both c3 c5) f4)))
   obtain ⟨b5, b6, rfl, k2⟩ := (j9.mono ((jN c4.sat c6.sat).trans (iM (both c3 c5) f4)))
   obtain ⟨b7, b9, rfl, k3⟩ := (k0.mono (jN (c4.both c6).sat f5.sat))
   exact YH (k := 4) (R := AcC) AcC.mono (l := [(Ac.ask 0 (cR 1 (⟨[], [], [], []⟩ : Rq))), (Ac.ask 0 (cR ((aQ g).1) (aQ g).2)), (Ac.ask 0 (cR 6 (⟨[], [], [], []⟩ : Rq))), Ac.sync]) (el := [[_, _, _, .slice b3 _ b4], [_, _, _, .slice b5 _ b6], [_, _, _, .slice b7 _ b9], [(.int .i64 2), (.int .i64 0), (.int .i64 0), (.slice none 0 0)]]) (E := 33) ((c4.both c6).both f5) ⟨⟨_, rfl, k1⟩, ⟨_, rfl, k2⟩, ⟨_, rfl, k3⟩, ⟨_, rfl, Bs.nil _⟩, trivial⟩ (by simp) (by unfold maxLen; simp) (bS (E := 33) (cells := #[_, _, _, .slice b3 _ b4, _, _, _, .slice b5 _ b6, _, _, _, .slice b7 _ b9, (.int .i64 2), (.int .i64 0), (.int .i64 0), (.slice none 0 0)]) (mN rfl rfl rfl rfl) (fun w => by kernel_rfl))
  refine bY ?_
  intro p9 n5 c0
  obtain ⟨k4, f6, k5⟩ := c0.get 11 rfl rfl
  have c7 := St.gives a0 f6
  have f7 : Le _ _ := f6.le a0.sat
  have f8 := k5
  generalize k4 = k6 at *
  obtain ⟨f9, g0, rfl, _⟩ := Sl.shape f8
  clear c0
  simp only [dE]
  refine eE (r := 0) (u := (.slice f9 ([(Ac.ask 0 (cR 1 (⟨[], [], [], []⟩ : Rq))), (Ac.ask 0 (cR ((aQ g).1) (aQ g).2)), (Ac.ask 0 (cR 6 (⟨[], [], [], []⟩ : Rq))), Ac.sync] : List Ac).length g0)) c7 rfl n4 (.agg #[(iI 0), (iI 0), (iI 0), Zn]) 48 Tryz.underlying23 d3 d4 d5 d6 rfl (by decide) rfl rfl rfl (Sl.toW f8 (c7).sat) AcC.one (Nat.le_refl _) c7.gr.below.size (by unfold maxLen; (simp; have := sN (gs.take i); rw [List.length_take] at this; simp at this; omega)) (by (simp; have := sN (gs.take i); rw [List.length_take] at this; simp at this; omega)) ?_
  intro q0 q1 c8 n6
  simp only [pq]
  obtain ⟨k7, c9, rfl, q2, k8⟩ := (c8.own (i := 0) rfl).shape
  unfold maxLen at k8
  refine dy ?_
  refine wlK e4 ?_
  refine aB ?_
  refine dx ?_
  refine cO (i + 1) ?_
  refine dy ?_
  simp only [pq]
  refine aG ?_
  rw [show (((dG (gs.take i)).map Rc.ac) ++ ([(Ac.ask 0 (cR 1 (⟨[], [], [], []⟩ : Rq))), (Ac.ask 0 (cR ((aQ g).1) (aQ g).2)), (Ac.ask 0 (cR 6 (⟨[], [], [], []⟩ : Rq))), Ac.sync] : List Ac)) = ((dG (gs.take (i + 1))).map Rc.ac) from (QR hg)] at c8 ⊢
  exact e2 _ _ _ (by omega) ⟨(i + 1), k7, c9, k6, _, rfl, rfl, rfl, c8, (b1.trans f7), (by omega)⟩
 ·refine eT ?_
  refine wn b2 ?_
  refine aF ?_
  refine cV ?_
  refine e0 _ _ ?_
  refine aE fun q3 g1 => ?_
  have hlg : l.length = gs.length := by rw [hl, List.length_map]
  obtain rfl : i = gs.length := by omega
  rw [show ((dG (gs.take gs.length)).map Rc.ac) = ((dG gs).map Rc.ac) from (by rw [List.take_length])] at a0 ⊢
  refine aB ?_
  refine dx ?_
  refine bD a0 (v := fun n => .slice (aA n 0) 1 1) rfl (bS (ps := #[(0, (.int .u8 97))]) (cells := #[(.int .u8 97)]) (E := 5) (cH rfl) (fun w => by kernel_rfl)) (fun d0 q4 k9 => ?_)
  refine bD k9 (v := fun n => .slice (aA n 0) 1 1) rfl (bS (ps := #[(0, (.int .u8 107))]) (cells := #[(.int .u8 107)]) (E := 5) (cH rfl) (fun w => by kernel_rfl)) (fun d1 g2 l0 => ?_)
  simp only [pq]
  refine dr (.agg #[(iI 8), (.slice (aA d0 0) 1 1), (.slice (aA d1 0) 1 1), Zn, Zn]) (aL (NU rfl rfl rfl) (by kernel_rfl)) ?_
  simp only [pq]
  obtain ⟨l1, n7, g3⟩ := St.freezeBlk l0 (i := 1) rfl
  have l2 : Bs _ (.slice (some ⟨d0, 0, none⟩) 1 1) ([97] : By) := gE (l := ([97] : By)) g3 (rfl) (by unfold maxLen; simp)
  generalize addF a5 g2 d0 = l3 at *
  obtain ⟨d2, g4, g5⟩ := St.freezeBlk l1 (i := 0) rfl
  have l4 : Bs _ (.slice (some ⟨d1, 0, none⟩) 1 1) ([107] : By) := gE (l := ([107] : By)) g5 (rfl) (by unfold maxLen; simp)
  generalize addF l3 g2 d1 = q5 at *
  refine aR d2 rfl (fn2 (pY _ _)) (gG _ _ _ 0 8 (⟨([97] : By), ([107] : By), [], []⟩ : Rq) (d2).sat (hT.1.below d2.gr.below) ⟨_, _, _, _, rfl, (l2.mono g4), l4, (Bs.nil _), (Bs.nil _)⟩ ⟨by decide, by kernel_rfl⟩) ?_
  intro q6 q7 l5 l6 n8 l7
  obtain ⟨a2, a3, rfl, a8⟩ := l7
  have a8 : Bs _ (.slice a2 (cR 8 (⟨([97] : By), ([107] : By), [], []⟩ : Rq)).length a3) (cR 8 (⟨([97] : By), ([107] : By), [], []⟩ : Rq)) := a8
  refine bD l6 (v := fun n => .slice (aA n 0) 1 1) rfl (bS (ps := #[(0, (.agg #[(iI 1), (iI 0), (iI 0), (.slice a2 (cR 8 (⟨([97] : By), ([107] : By), [], []⟩ : Rq)).length a3)]))]) (cells := #[(iI 1), (iI 0), (iI 0), (.slice a2 (cR 8 (⟨([97] : By), ([107] : By), [], []⟩ : Rq)).length a3)]) (E := 33) (cH rfl) (fun w => by kernel_rfl)) (fun q8 q9 g6 => ?_)
  simp only [pq]
  refine eN (i := 0) (r := 0) (p := (Ac.ask 0 (cR 8 (⟨([97] : By), ([107] : By), [], []⟩ : Rq)))) (cs := [(iI 1), (iI 0), (iI 0), (.slice a2 (cR 8 (⟨([97] : By), ([107] : By), [], []⟩ : Rq)).length a3)]) g6 rfl n4 (.agg #[(iI 0), (iI 0), (iI 0), Zn]) 48 Tryz.underlying23 d3 d4 d5 d6 rfl (by decide) rfl rfl rfl rfl rfl (AcC.oneCell (F := l5) (p := (Ac.ask 0 (cR 8 (⟨([97] : By), ([107] : By), [], []⟩ : Rq)))) ⟨_, rfl, a8⟩) (⟨_, rfl, a8⟩) (Nat.le_refl _) g6.gr.below.size (by unfold maxLen; (simp; have := sN gs; simp at this; omega)) (by (simp; have := sN gs; simp at this; omega)) ?_
  intro r0 r1 a9 n9
  simp only [pq]
  have a9 := St.drop a9 (.cons _ (List.Sublist.refl _))
  obtain ⟨g7, a6, rfl, r2, l8⟩ := (a9.own (i := 0) rfl).shape
  unfold maxLen at l8
  refine dy ?_
  refine wlK g1 ?_
  refine sk fun r3 g8 => ?_
  refine dx ?_
  simp only [pq]
  obtain ⟨G, h1, y, ge1, ge2, ge3⟩ : ∃ G, (ScrOk ((((dG gs).map Rc.ac) ++ [(Ac.ask 0 (cR 8 (⟨([97] : By), ([107] : By), [], []⟩ : Rq)))])) ∧ eD ((((dG gs).map Rc.ac) ++ [(Ac.ask 0 (cR 8 (⟨([97] : By), ([107] : By), [], []⟩ : Rq)))])) = G) ∧ ∃ y : Rep, G.replies = ET 0 gs.length ++ [y] ∧ y.root = rE f ∧ y.found = (gQ f [97] [107]).isSome := ⟨_, YJ gs (by omega), YI hf (by omega)⟩
  have hrl : G.replies.length = 3 * gs.length + 1 := by rw [ge1, List.length_append, vH]; rfl
  have hry : G.replies[3 * gs.length]? = some y := by rw [ge1, List.getElem?_append_right (by rw [vH]; exact Nat.le_refl _), vH]; simp
  obtain ⟨r4, b0, o0, a7⟩ := St.freeze a9 (i := 0) rfl (Nat.le_refl _)
  have a7 : Acs _ (.slice g7 (((dG gs).map Rc.ac) ++ [(Ac.ask 0 (cR 8 (⟨([97] : By), ([107] : By), [], []⟩ : Rq)))]).length a6) (((dG gs).map Rc.ac) ++ [(Ac.ask 0 (cR 8 (⟨([97] : By), ([107] : By), [], []⟩ : Rq)))]) := a7
  refine aR b0 rfl (cK (vs := #[(.slice g7 (((dG gs).map Rc.ac) ++ [(Ac.ask 0 (cR 8 (⟨([97] : By), ([107] : By), [], []⟩ : Rq)))]).length a6)]) (lG rfl) rfl (RF _ _)) (wG _ _ _ (((dG gs).map Rc.ac) ++ [(Ac.ask 0 (cR 8 (⟨([97] : By), ([107] : By), [], []⟩ : Rq)))]) (b0).sat (hT.1.below b0.gr.below) (hT.2.at b0.gr.below) a7 h1.1 h1.2) ?_
  intro r5 r6 r7 l9 o1 m0
  obtain ⟨_, rfl, m1⟩ := m0
  obtain ⟨r8, r9, s0, s1, rfl, s2, m2⟩ := m1
  refine aC ?_
  refine sA l9 (sD _) fun s3 s4 m3 => ?_
  refine sW 0 m3 (mJ) fun s5 g9 => ?_
  refine dy ?_
  simp only [pq]
  refine wn g8 ?_
  refine aE fun s6 h0 => ?_
  refine sk fun s7 h2 => ?_
  refine aC ?_
  refine gB ?_
  refine dp ?_
  refine wn h2 ?_
  refine aF ?_
  refine aH ?_
  refine h0 _ _ ?_
  refine aE fun s8 h3 => ?_
  obtain ⟨m4, m5, h4, h5, h6, h7, h8, h9, i0, i1, i2, i3, i4, i5, i6, m6, a4, s9, t0, m7⟩ := Rps.row m2 (show G.replies[G.replies.length - 1]? = some y by rw [hrl]; exact hry)
  have m8 : Value.oneCell' i1 = true := a4 _ (by simp)
  have m9 : Value.oneCell' i2 = true := a4 _ (by simp)
  have n0 : Value.oneCell' i3 = true := a4 _ (by simp)
  have n1 : Value.oneCell' i4 = true := a4 _ (by simp)
  have n2 : Value.oneCell' i5 = true := a4 _ (by simp)
  have n3 : Value.oneCell' i6 = true := a4 _ (by simp)
  refine aB ?_
  refine aC ?_
  refine WC (((G.replies.length - 1) : Nat) : Int) ?_
  simp only [pq]
  refine dr (pP m4 (m5 + (G.replies.length - 1) * 15)) (bP (i := (G.replies.length - 1)) (sz := 15) Tryz.underlying41 (ID _) rfl h4 rfl (by omega) rfl) ?_
  refine dr _ (aD rfl (cN Tryz.underlying54 rfl (pL) (fun j v h => St.fz g9 (m6 j v h)))) ?_
  refine fL (i := 1) (v := (.agg #[(nI y.s), (.int .i64 y.code), (.int .i64 y.turn), (.bool y.found), (.slice h5 y.value.length h6), (.slice h7 y.pairs.length h8), (.slice h9 y.root.length i0), (.bool y.outer.empty), i1, i2, i3, (.bool y.inner.empty), i4, i5, i6])) g9 rfl rfl rfl rfl (pL) (by simp only [Value.cells]; simp; exact ⟨rfl, rfl, rfl, rfl, rfl, rfl, rfl, rfl, m8, m9, n0, rfl, n1, n2, n3⟩) (Nat.le_of_ble_eq_true rfl) (fun t1 i7 => ?_)
  refine dy ?_
  simp only [pq]
  refine wlK h3 ?_
  refine aP ?_
  try simp only [xt]
  refine bR (dN rfl ⟨_, rfl, lR i7 1 Tryz.underlying54 (pL)⟩ (gD rfl)) ?_
  ·refine ⟨_, _, rfl, i7.gr, _, y, rfl, ⟨_, _, _, _, _, _, _, _, _, _, _, _, rfl, ?_, m7⟩, ge2, ge3⟩
   intro x hx
   simp only [List.mem_cons, List.not_mem_nil, or_false] at hx
   rcases hx with rfl | rfl | rfl | rfl | rfl | rfl
   all_goals assumption
theorem GU (W : World) (hT : Has W ∧ Tabs W) (v0 : Value) (l0 : List Ge) (z0 : Ges (whole W) v0 l0) (v1 : Value) (l1 : List Int) (z1 : Ints (whole W) v1 l1) :
    Calls Tryz.prog 7 #[v0, v1] W (cU W (.bool true)) := by
 obtain ⟨a0, c0, rfl, q0, q0'⟩ := Sl.shape z0
 unfold maxLen at q0'
 obtain ⟨a1, c1, rfl, q1, q1'⟩ := Sl.shape z1
 unfold maxLen at q1'
 obtain ⟨cv, x6, x7, x8, x9⟩ := info_parts KC
 obtain ⟨p6, g6, g7, g8, g9⟩ := info_parts Ei
 obtain ⟨i5, hi5, hz5, hs5, hb5⟩ := info_parts rK
 have S := St.start (Sat.whole W)
 go_enter Tryz.func7, Tryz.ntmps7
 refine sk fun y0 i6 => ?_
 refine dy ?_
 refine wn i6 ?_
 refine sk fun y3 i7 => ?_
 refine dy ?_
 refine wn i7 ?_
 refine aE fun p7 i8 => ?_
 have g1 : ∀ (f6 : Act) (h0 : World), (∃ (gs : List Ge) (ra : Option Addr) (rc : Nat) (h1 : Fz) (a2 : Nat → Value), a2 = dV f6 ∧ f6 = ⟨([(.slice a0 l0.length c0), (.slice a1 l1.length c1), undef, undef, (.bool false), (.slice ra (gs.map aQ).length rc), (a2 6), (a2 7)] ++ (udF 8 (usF a2 16 35 (udF 80 [])))).toArray, []⟩ ∧ St W (whole W) h0 h1 [] [bZ 5 ReqC ReqC.mono 27 W.heap.size (.slice ra (gs.map aQ).length rc) (gs.map aQ)] ∧ Le (whole W) h1 ∧ (gs.length ≤ 10)) → p7 f6 h0 := by
  rintro f6 h0 ⟨gs, ra, rc, h1, a2, -, hfr, p8, i9, hgs⟩
  simp only [uzF, Nat.reduceAdd] at hfr; subst hfr
  refine i8 _ _ ?_
  refine aE fun y4 j0 => ?_
  obtain ⟨h2, p9, j1, a8⟩ := St.freeze p8 (i := 0) rfl (Nat.le_refl _)
  have a8 : Reqs _ (.slice ra (gs.map aQ).length rc) (gs.map aQ) := a8
  have hln : (gs.map aQ).length = gs.length := List.length_map _
  refine aB ?_
  refine dy ?_
  simp only [pq]
  refine wlK j0 ?_
  refine sk fun y5 j2 => ?_
  refine dy ?_
  refine wn j2 ?_
  refine aE fun q2 j3 => ?_
  have c3 : ∀ (f7 : Act) (h3 : World), (∃ (n : Nat) (oa : Option Addr) (oc : Nat) (c4 : Fz) (b5 : Nat → Value), b5 = dV f7 ∧ f7 = ⟨([(.slice a0 l0.length c0), (.slice a1 l1.length c1), undef, undef, (.bool false), (.slice ra (gs.map aQ).length rc), (a2 6), (a2 7), (.func (.func 27) #[] #[]), (.slice oa ((uN gs l1 n).map aQ).length oc), (b5 10)] ++ (udF 5 (usF a2 16 35 (usF b5 51 28 (udF 52 []))))).toArray, []⟩ ∧ St W (whole W) h3 c4 [] [bZ 5 ReqC ReqC.mono 27 W.heap.size (.slice oa ((uN gs l1 n).map aQ).length oc) ((uN gs l1 n).map aQ)] ∧ Le h2 c4 ∧ (n ≤ 8) ∧ (gs.length = 0 → n = 0)) → q2 f7 h3 := by
   rintro f7 h3 ⟨n, oa, oc, c4, b5, -, hfr, j4, g2, hn8, hn0⟩
   simp only [uzF, Nat.reduceAdd] at hfr; subst hfr
   refine j3 _ _ ?_
   refine aE fun y6 j5 => ?_
   refine aE fun y7 j6 => ?_
   rw [show ((uN gs l1 n).map aQ) = ((pE gs l1 n (gs.map aQ).length).map aQ) from (YL _ _ _)] at j4 ⊢
   refine aB ?_
   refine aC ?_
   refine WC ((((gs.map aQ).length : Nat) : Int) - 1) ?_
   refine aC ?_
   refine wlK j6 ?_
   refine aM ?_
   refine bA (fun mm aa q3 => ∃ (j : Nat) (oa : Option Addr) (oc : Nat) (c5 : Fz) (h4 : Nat → Value), mm = (1 + j) ∧ h4 = dV aa ∧ aa = ⟨([(.slice a0 l0.length c0), (.slice a1 l1.length c1), undef, undef, bF, (.slice ra (gs.map aQ).length rc), (a2 6), (a2 7), (.func (.func 27) #[] #[]), (.slice oa ((pE gs l1 n j).map aQ).length oc), (b5 10), (.int .i64 (((j : Nat) : Int) - 1))] ++ (udF 4 (usF a2 16 35 (usF b5 51 28 ([(.slice ra (gs.map aQ).length rc), (.int .i64 (((gs.map aQ).length : Nat) : Int)), (.int .i64 ((((gs.map aQ).length : Nat) : Int) - 1))] ++ (usF h4 82 11 (udF 38 []))))))).toArray, []⟩ ∧ St W (whole W) q3 c5 [] [bZ 5 ReqC ReqC.mono 27 W.heap.size (.slice oa ((pE gs l1 n j).map aQ).length oc) ((pE gs l1 n j).map aQ)] ∧ Le c4 c5 ∧ (j ≤ gs.length)) _ ⟨(gs.map aQ).length, oa, oc, c4, _, rfl, rfl, rfl, j4, Le.refl _, (by simp)⟩ ?_
   rintro y8 y9 z2 ⟨j, oa, oc, c5, h4, rfl, -, hfr, b6, c6, hj⟩ z3 j7
   simp only [uzF, Nat.reduceAdd] at hfr; subst hfr
   refine aE fun z4 j8 => ?_
   refine sk fun z5 g3 => ?_
   refine dx ?_
   simp only [pq]
   by_cases z6 : (0 : Int) ≤ (((j : Nat) : Int) - 1)
   ·refine ZA ?_
    refine wn g3 ?_
    refine aJ ?_
    refine aH ?_
    refine j8 _ _ ?_
    refine aE fun z7 j9 => ?_
    refine aM ?_
    obtain ⟨m, rfl⟩ : ∃ m, j = m + 1 := ⟨j - 1, by omega⟩
    have hm1 : ((((m + 1) : Nat) : Int) - 1) = ((m : Nat) : Int) := by omega
    rw [hm1]
    obtain ⟨g, hg⟩ : ∃ g, gs[m]? = some g := ⟨gs[m]'(by omega), List.getElem?_eq_getElem (by omega)⟩
    obtain ⟨q4, q5, k0, c7, c8, c9, d0, d1, d2, d3, d4, q6, k1, k2, k3, k4⟩ := Reqs.get (a8.mono (g2.trans c6)) (EX hg)
    refine aB ?_
    refine aC ?_
    refine dr (pP q4 (q5 + m * 5)) (bP (i := m) (sz := 5) Tryz.underlying61 (yY _) rfl k0 rfl (by rw [List.length_map]; omega) rfl) ?_
    refine dr _ (aD rfl (cN Tryz.underlying27 rfl (aY) (fun j v h => St.fz b6 (q6 j v h)))) ?_
    refine bD b6 (v := fun n => .slice (aA n 0) 1 1) rfl (bS (ps := #[(0, (.agg #[(.int .i64 (((aQ g).1 : Nat) : Int)), (.slice c7 (aQ g).2.name.length c8), (.slice c9 (aQ g).2.key.length d0), (.slice d1 (aQ g).2.last.length d2), (.slice d3 (aQ g).2.value.length d4)]))]) (cells := #[(.int .i64 (((aQ g).1 : Nat) : Int)), (.slice c7 (aQ g).2.name.length c8), (.slice c9 (aQ g).2.key.length d0), (.slice d1 (aQ g).2.last.length d2), (.slice d3 (aQ g).2.value.length d4)]) (E := 27) (cH rfl) (fun w => by kernel_rfl)) (fun z8 z9 k5 => ?_)
    refine eN (i := 0) (r := 0) (p := (aQ g)) (cs := [(.int .i64 (((aQ g).1 : Nat) : Int)), (.slice c7 (aQ g).2.name.length c8), (.slice c9 (aQ g).2.key.length d0), (.slice d1 (aQ g).2.last.length d2), (.slice d3 (aQ g).2.value.length d4)]) k5 rfl p6 (.agg #[(iI 0), Zn, Zn, Zn, Zn]) 104 Tryz.underlying61 g6 g7 g8 g9 rfl (by decide) rfl rfl rfl rfl rfl (ReqC.oneCell (F := c5) (p := (aQ g)) ⟨_, _, _, _, _, _, _, _, rfl, k1, k2, k3, k4⟩) (⟨_, _, _, _, _, _, _, _, rfl, k1, k2, k3, k4⟩) (Nat.le_refl _) k5.gr.below.size (by unfold maxLen; (simp; have := yI (gs := gs) (os := l1) (i := n) (j := m + 1); omega)) (by (simp; have := yI (gs := gs) (os := l1) (i := n) (j := m + 1); omega)) ?_
    intro ab ac d5 w8
    simp only [pq]
    have d5 := St.drop d5 (.cons _ (List.Sublist.refl _))
    obtain ⟨q7, h5, rfl, ad, q8⟩ := (d5.own (i := 0) rfl).shape
    unfold maxLen at q8
    refine dy ?_
    refine wlK j9 ?_
    refine aB ?_
    refine dx ?_
    refine WC (((m : Nat) : Int) - 1) ?_
    refine dy ?_
    simp only [pq]
    refine aG ?_
    rw [show (((pE gs l1 n (m + 1)).map aQ) ++ [(aQ g)]) = ((pE gs l1 n m).map aQ) from (YM hg)] at d5 ⊢
    exact j7 _ _ _ (by omega) ⟨m, q7, h5, c5, _, rfl, rfl, rfl, d5, c6, (by omega)⟩
   ·refine ZB ?_
    refine wn g3 ?_
    refine aF ?_
    refine cV ?_
    refine j5 _ _ ?_
    refine aE fun ae k6 => ?_
    obtain rfl : j = 0 := by omega
    obtain ⟨f, hf0, hf1, hf2⟩ := Dk (gs := gs) (os := l1) (i := n) (by omega) (by omega) hn0
    refine aB ?_
    refine aC ?_
    refine aR b6 rfl (qQ (fs := #[]) (cs := #[]) (vs := #[(.slice ra (gs.map aQ).length rc)]) rfl (yX (fs := #[]) (cs := #[]) (xs := #[(.slice ra (gs.map aQ).length rc)]) (lG rfl) (by simp)) (ZU _ _)) (vR _ _ _ _ gs _ (b6).sat ⟨hT.1.below b6.gr.below, hT.2.at b6.gr.below⟩ (a8.mono (g2.trans c6)) rfl (by omega) hf1) ?_
    intro af ag ah q9 w9 r0
    obtain ⟨ai, y1, rfl, r1, hro1, hfo1⟩ := r0
    obtain ⟨r2, r3, r4, r5, k7, k8, k9, l2, l3, l4, l5, l6, rfl, b7, r6⟩ := r1
    have r7 : Value.oneCell' k9 = true := b7 _ (by simp)
    have r8 : Value.oneCell' l2 = true := b7 _ (by simp)
    have r9 : Value.oneCell' l3 = true := b7 _ (by simp)
    have s0 : Value.oneCell' l4 = true := b7 _ (by simp)
    have s1 : Value.oneCell' l5 = true := b7 _ (by simp)
    have s2 : Value.oneCell' l6 = true := b7 _ (by simp)
    refine aC ?_
    refine sA q9 (BE _) fun aj ak s3 => ?_
    refine fL (i := 0) (v := (.agg #[(nI y1.s), (.int .i64 y1.code), (.int .i64 y1.turn), (.bool y1.found), (.slice r2 y1.value.length r3), (.slice r4 y1.pairs.length r5), (.slice k7 y1.root.length k8), (.bool y1.outer.empty), k9, l2, l3, (.bool y1.inner.empty), l4, l5, l6])) s3 rfl rfl rfl rfl (pL) (by simp only [Value.cells]; simp; exact ⟨rfl, rfl, rfl, rfl, rfl, rfl, rfl, rfl, r7, r8, r9, rfl, s0, s1, s2⟩) (Nat.le_of_ble_eq_true rfl) (fun al s4 => ?_)
    refine dy ?_
    refine wlK k6 ?_
    refine sk fun am l7 => ?_
    refine aC ?_
    obtain ⟨an, f8, l8, d6⟩ := St.freeze s4 (i := 0) rfl (Nat.le_refl _)
    have d6 : Reqs _ (.slice oa ((pE gs l1 n 0).map aQ).length oc) ((pE gs l1 n 0).map aQ) := d6
    refine aR f8 rfl (qQ (fs := #[]) (cs := #[]) (vs := #[(.slice oa ((pE gs l1 n 0).map aQ).length oc)]) rfl (yX (fs := #[]) (cs := #[]) (xs := #[(.slice oa ((pE gs l1 n 0).map aQ).length oc)]) (lG rfl) (by simp)) (ZU _ _)) (vR _ _ _ _ (pE gs l1 n 0) _ (f8).sat ⟨hT.1.below f8.gr.below, hT.2.at f8.gr.below⟩ d6 rfl (by have := yI (gs := gs) (os := l1) (i := n) (j := 0); omega) hf2) ?_
    intro ao ap aq s5 l9 s6
    obtain ⟨ar, y2, rfl, s7, hro2, hfo2⟩ := s6
    obtain ⟨s8, s9, t0, t1, m0, m1, m2, m3, m4, m5, m6, m7, rfl, b9, t2⟩ := s7
    have t3 : Value.oneCell' m2 = true := b9 _ (by simp)
    have t4 : Value.oneCell' m3 = true := b9 _ (by simp)
    have t5 : Value.oneCell' m4 = true := b9 _ (by simp)
    have t6 : Value.oneCell' m5 = true := b9 _ (by simp)
    have t7 : Value.oneCell' m6 = true := b9 _ (by simp)
    have t8 : Value.oneCell' m7 = true := b9 _ (by simp)
    refine aC ?_
    refine sA s5 (BE _) fun au av t9 => ?_
    refine fL (i := 0) (v := (.agg #[(nI y2.s), (.int .i64 y2.code), (.int .i64 y2.turn), (.bool y2.found), (.slice s8 y2.value.length s9), (.slice t0 y2.pairs.length t1), (.slice m0 y2.root.length m1), (.bool y2.outer.empty), m2, m3, m4, (.bool y2.inner.empty), m5, m6, m7])) t9 rfl rfl rfl rfl (pL) (by simp only [Value.cells]; simp; exact ⟨rfl, rfl, rfl, rfl, rfl, rfl, rfl, rfl, t3, t4, t5, rfl, t6, t7, t8⟩) (Nat.le_of_ble_eq_true rfl) (fun aw h6 => ?_)
    refine dy ?_
    refine wn l7 ?_
    refine sk fun ax m8 => ?_
    refine aC ?_
    refine dr (.string ⟨y1.root.toArray⟩) (bB (v := (.slice k7 y1.root.length k8)) rfl (rJ Tryz.underlying25 Tryz.underlying5 Tryz.underlying9 (h6).sat (r6.mono (l8.trans l9)))) ?_
    refine aC ?_
    refine dr (.string ⟨y2.root.toArray⟩) (bB (v := (.slice m0 y2.root.length m1)) rfl (rJ Tryz.underlying25 Tryz.underlying5 Tryz.underlying9 (h6).sat t2)) ?_
    refine dr bT (NW (op := .eql) (l := y1.root) (m := y2.root) (b := true) (by simp) rfl rfl (by rw [hro1, hro2]; exact beq_self_eq_true _)) ?_
    refine aC ?_
    refine dr bT (nM Tryz.underlying4 rfl rfl (by rw [hfo1, hfo2]; exact beq_self_eq_true _)) ?_
    refine aC ?_
    refine dr bT (cF (m := ((y1.root.length : Nat) : Int)) (n := (32 : Int)) (b := true) rfl rfl (beq_iff_eq.2 (by rw [hro1, XL]; rfl))) ?_
    refine aC ?_
    refine wn m8 ?_
    refine aP ?_
    try simp only [xt]
    refine bR (bK rfl (gD rfl)) ?_
    ·exact ⟨rfl, h6.gr.below⟩
  refine aE fun ay m9 => ?_
  have u0 := St.addNil p9 5 ReqC ReqC.mono 27 W.heap.size
  refine aB ?_
  refine dy ?_
  refine wlK m9 ?_
  refine aM ?_
  refine bA (fun mm aa u1 => ∃ (i : Nat) (oa : Option Addr) (oc : Nat) (a9 : Fz) (h7 : Nat → Value), mm = l1.length - i ∧ h7 = dV aa ∧ aa = ⟨([(.slice a0 l0.length c0), (.slice a1 l1.length c1), undef, undef, bF, (.slice ra (gs.map aQ).length rc), (a2 6), (a2 7), (.func (.func 27) #[] #[]), (.slice oa ((uN gs l1 i).map aQ).length oc), (nI i)] ++ (udF 5 (usF a2 16 35 (usF h7 51 28 (udF 52 []))))).toArray, []⟩ ∧ St W (whole W) u1 a9 [] [bZ 5 ReqC ReqC.mono 27 W.heap.size (.slice oa ((uN gs l1 i).map aQ).length oc) ((uN gs l1 i).map aQ)] ∧ Le h2 a9 ∧ (i ≤ l1.length) ∧ (i ≤ 8) ∧ (gs.length = 0 → i = 0)) _ ⟨0, none, 0, h2, _, rfl, rfl, rfl, u0, Le.refl _, (by omega), (by omega), (fun _ => rfl)⟩ ?_
  rintro az ba bb ⟨i, oa, oc, a9, h7, rfl, -, hfr, d7, a7, hi, him, hi0⟩ bc n0
  simp only [uzF, Nat.reduceAdd] at hfr; subst hfr
  refine aE fun bd n1 => ?_
  refine sk fun be b1 => ?_
  refine aC ?_
  by_cases bf : i < l1.length
  ·refine eZ ?_
   refine aC ?_
   by_cases bg : i < 8
   ·refine eZ ?_
    refine aC ?_
    by_cases bh : 0 < (gs.map aQ).length
    ·refine sX ?_
     refine dp ?_
     refine wn b1 ?_
     refine aJ ?_
     refine aH ?_
     refine n1 _ _ ?_
     refine aE fun bi n2 => ?_
     refine aM ?_
     obtain ⟨z, hz_z⟩ : ∃ z, l1[i]? = some z := ⟨l1[i]'(by omega), List.getElem?_eq_getElem (by omega)⟩
     obtain ⟨u2, u3, n3, u4, hz_z_b⟩ := Ints.get (z1.mono ((i9.trans j1).trans a7)) hz_z
     obtain ⟨hzb1, hzb2⟩ := hz_z_b
     have hgl : 0 < gs.length := by have e : (gs.map aQ).length = gs.length := List.length_map _; omega
     have hpl := gA z (m := (gs.map aQ).length) (by rw [List.length_map]; omega)
     have hpl2 : aN z (gs.map aQ).length < gs.length := by have e : (gs.map aQ).length = gs.length := List.length_map _; omega
     obtain ⟨g, hg⟩ : ∃ g, gs[aN z (gs.map aQ).length]? = some g := ⟨gs[aN z (gs.map aQ).length]'hpl2, List.getElem?_eq_getElem hpl2⟩
     obtain ⟨u5, u6, n4, d8, d9, e0, e1, e2, e3, e4, e5, u7, n5, n6, n7, n8⟩ := Reqs.get (a8.mono a7) (EX hg)
     refine aB ?_
     refine aC ?_
     refine dr (pP u2 (u3 + i * 1)) (bP (i := i) (sz := 1) Tryz.underlying60 (eA _) rfl n3 rfl (by omega) rfl) ?_
     refine dr _ (aD rfl (aW (bN _) (St.fz d7 u4))) ?_
     refine aC ?_
     refine aI (v := (nI (aN z (gs.map aQ).length))) d7 rfl (fn2 (pX _ _)) (fN z ((gs.map aQ).length) _ (by omega) (by omega) (by omega) (by omega)) (fun bj n9 => ?_)
     refine dr (pP u5 (u6 + (aN z (gs.map aQ).length) * 5)) (bP (i := (aN z (gs.map aQ).length)) (sz := 5) Tryz.underlying61 (yY _) rfl n4 rfl (by omega) rfl) ?_
     refine dr _ (aD rfl (cN Tryz.underlying27 rfl (aY) (fun j v h => St.fz n9 (u7 j v h)))) ?_
     simp only [pq]
     refine bD n9 (v := fun n => .slice (aA n 0) 1 1) rfl (bS (ps := #[(0, (.agg #[(.int .i64 (((aQ g).1 : Nat) : Int)), (.slice d8 (aQ g).2.name.length d9), (.slice e0 (aQ g).2.key.length e1), (.slice e2 (aQ g).2.last.length e3), (.slice e4 (aQ g).2.value.length e5)]))]) (cells := #[(.int .i64 (((aQ g).1 : Nat) : Int)), (.slice d8 (aQ g).2.name.length d9), (.slice e0 (aQ g).2.key.length e1), (.slice e2 (aQ g).2.last.length e3), (.slice e4 (aQ g).2.value.length e5)]) (E := 27) (cH rfl) (fun w => by kernel_rfl)) (fun bl bm o0 => ?_)
     refine eN (i := 0) (r := 0) (p := (aQ g)) (cs := [(.int .i64 (((aQ g).1 : Nat) : Int)), (.slice d8 (aQ g).2.name.length d9), (.slice e0 (aQ g).2.key.length e1), (.slice e2 (aQ g).2.last.length e3), (.slice e4 (aQ g).2.value.length e5)]) o0 rfl p6 (.agg #[(iI 0), Zn, Zn, Zn, Zn]) 104 Tryz.underlying61 g6 g7 g8 g9 rfl (by decide) rfl rfl rfl rfl rfl (ReqC.oneCell (F := a9) (p := (aQ g)) ⟨_, _, _, _, _, _, _, _, rfl, n5, n6, n7, n8⟩) (⟨_, _, _, _, _, _, _, _, rfl, n5, n6, n7, n8⟩) (Nat.le_refl _) o0.gr.below.size (by unfold maxLen; (simp; have := EY gs l1 i; omega)) (by (simp; have := EY gs l1 i; omega)) ?_
     intro bo bp e6 x0
     simp only [pq]
     have e6 := St.drop e6 (.cons _ (List.Sublist.refl _))
     obtain ⟨u9, h8, rfl, bq, v2⟩ := (e6.own (i := 0) rfl).shape
     unfold maxLen at v2
     refine dy ?_
     refine wlK n2 ?_
     refine aB ?_
     refine dx ?_
     refine cO (i + 1) ?_
     refine aC ?_
     refine aG ?_
     rw [show (((uN gs l1 i).map aQ) ++ [(aQ g)]) = ((uN gs l1 (i + 1)).map aQ) from (YK hz_z hg)] at e6 ⊢
     exact n0 _ _ _ (by omega) ⟨(i + 1), u9, h8, a9, _, rfl, rfl, rfl, e6, a7, (by omega), (by omega), (fun h => by omega)⟩
    ·refine mO ?_
     refine dp ?_
     refine wn b1 ?_
     refine aF ?_
     refine cV ?_
     exact c3 _ _ ⟨i, oa, oc, a9, _, rfl, rfl, d7, a7, him, hi0⟩
   ·refine eT ?_
    refine aC ?_
    refine wn b1 ?_
    refine aF ?_
    refine cV ?_
    exact c3 _ _ ⟨i, oa, oc, a9, _, rfl, rfl, d7, a7, him, hi0⟩
  ·refine eT ?_
   refine aC ?_
   refine wn b1 ?_
   refine aF ?_
   refine cV ?_
   exact c3 _ _ ⟨i, oa, oc, a9, _, rfl, rfl, d7, a7, him, hi0⟩
 refine aE fun br o1 => ?_
 have v3 := St.addNil S 5 ReqC ReqC.mono 27 W.heap.size
 refine aB ?_
 refine dy ?_
 refine wlK o1 ?_
 refine aM ?_
 refine bA (fun mm aa v4 => ∃ (i : Nat) (ra : Option Addr) (rc : Nat) (c2 : Fz) (f9 : Nat → Value), mm = l0.length - i ∧ f9 = dV aa ∧ aa = ⟨([(.slice a0 l0.length c0), (.slice a1 l1.length c1), undef, undef, bF, (.slice ra ((l0.take i).map aQ).length rc), (nI i), (f9 7)] ++ (udF 8 (usF f9 16 35 (udF 80 [])))).toArray, []⟩ ∧ St W (whole W) v4 c2 [] [bZ 5 ReqC ReqC.mono 27 W.heap.size (.slice ra ((l0.take i).map aQ).length rc) ((l0.take i).map aQ)] ∧ Le (whole W) c2 ∧ (i ≤ l0.length) ∧ (i ≤ 10)) _ ⟨0, none, 0, (whole W), _, rfl, rfl, rfl, v3, Le.refl _, (by omega), (by omega)⟩ ?_
 rintro bt bu v5 ⟨i, ra, rc, c2, f9, rfl, -, hfr, a5, b2, hi, him⟩ bw o2
 simp only [uzF, Nat.reduceAdd] at hfr; subst hfr
 refine aE fun bx o3 => ?_
 refine sk fun bz e7 => ?_
 refine aC ?_
 by_cases ca : i < l0.length
 ·refine eZ ?_
  refine aC ?_
  by_cases cb : i < 10
  ·refine eZ ?_
   refine dp ?_
   refine wn e7 ?_
   refine aJ ?_
   refine aH ?_
   refine o3 _ _ ?_
   refine aE fun cc o4 => ?_
   refine aM ?_
   refine aE fun cd o5 => ?_
   obtain ⟨g, hz_g⟩ : ∃ g, l0[i]? = some g := ⟨l0[i]'(by omega), List.getElem?_eq_getElem (by omega)⟩
   obtain ⟨h9, i0, e8, i1, hz_g_b⟩ := Ges.get (z0.mono b2) hz_g
   have hgk := hz_g_b
   obtain ⟨⟨bk, bk'⟩, ⟨bs, bs'⟩, ⟨bn, bn'⟩, ⟨by_, by_'⟩, bv_, bv_'⟩ := hz_g_b
   refine aT c2 18 [(16, .made (fun F' u => ReqR F' u ((4, (⟨jI g, jJ g.key, [], [dX ((aN g.value 50 : Nat) : Int)]⟩ : Rq)) : Nat × Rq))), (17, .rel (NewAt v5 [(iI 0), Zn, Zn, Zn, Zn] 27) (NewAt.stable _ _ _))] (by kernel_rfl) (by kernel_rfl) ?_
   simp only [dD]
   refine gm ?_
   simp only [pq]
   refine gm ?_
   refine gv (pP h9 (i0 + i * 5)) (fun _ _ => bP (i := i) (sz := 5) Tryz.underlying22 (yZ _) rfl e8 rfl (by omega) rfl) ?_
   refine gf (KF _ _) ?_
   simp only [pq]
   refine gv _ (fun _ a6 => aD rfl (aW (bN _) (St.fz (St.tells a5 a6) (i1 2 _ rfl)))) ?_
   iterate 2 refine gm ?_
   simp only [pq]
   refine gv (pP h9 (i0 + i * 5)) (fun _ _ => bP (i := i) (sz := 5) Tryz.underlying22 (yZ _) rfl e8 rfl (by omega) rfl) ?_
   refine gf (KG _ _) ?_
   refine gv _ (fun _ a6 => aD rfl (aW (bN _) (St.fz (St.tells a5 a6) (i1 3 _ rfl)))) ?_
   simp only [pq]
   iterate 2 refine gm ?_
   refine gv (pP h9 (i0 + i * 5)) (fun _ _ => bP (i := i) (sz := 5) Tryz.underlying22 (yZ _) rfl e8 rfl (by omega) rfl) ?_
   simp only [pq]
   refine gf (BF _ _) ?_
   refine gv _ (fun _ a6 => aD rfl (aW (bN _) (St.fz (St.tells a5 a6) (i1 4 _ rfl)))) ?_
   refine gv (.agg #[(iI 8), (iI 0), (.int .i64 g.name), (.int .i64 g.key), (.int .i64 g.value)]) (fun _ _ => aL (ps := #[(0, (iI 8)), (2, (.int .i64 g.name)), (3, (.int .i64 g.key)), (4, (.int .i64 g.value))]) (mN rfl rfl rfl rfl) (by kernel_rfl)) ?_
   simp only [pq]
   refine dF rfl rfl (fun v6 a6 hF => bO (cK (vs := #[(.agg #[(iI 8), (iI 0), (.int .i64 g.name), (.int .i64 g.key), (.int .i64 g.value)])]) (lG rfl) rfl (Hw _ _)) (cS a5.sat a6 (MB _ _ g ((St.tells a5 a6)).sat hgk))) (fun ce => ?_)
   simp only [pq]
   refine dF rfl rfl (fun v6 a6 _ => iX (cs := [(iI 0), Zn, Zn, Zn, Zn]) (uU _) rfl a6) (fun cf => ?_)
   refine bY ?_
   intro cg x1 e9
   obtain ⟨v7, rfl, g4, g5⟩ := e9.getR 17 rfl rfl
   have g0 : ∀ u ∈ [(.int .i64 0), (.slice none 0 0), (.slice none 0 0), (.slice none 0 0), (.slice none 0 0)], ∀ x, u ≠ bv x := by intro u hu x; simp only [List.mem_cons, List.not_mem_nil, or_false] at hu; rcases hu with rfl | rfl | rfl | rfl | rfl <;> (unfold bv; simp)
   obtain ⟨v8, o6, v9⟩ := e9.get 16 rfl rfl
   have o7 := o6.dropF a5.sat g4
   have w0 := ReqR.dropF o6.sat g5 g0 v9
   have w1 := St.addBlk (cs := [(.int .i64 0), (.slice none 0 0), (.slice none 0 0), (.slice none 0 0), (.slice none 0 0)]) a5 o7 g4 (mP _ _) g5
   have o8 : Le _ _ := o7.le a5.sat
   have w2 := w0
   generalize (dropF v8 v7) = ch at *
   obtain ⟨f0, f1, b3, b4, f2, f3, x2, x3, rfl, o9, i2, p0, ci⟩ := w2
   clear e9
   simp only [dE]
   refine sW 0 w1 (aY) fun cj w3 => ?_
   simp only [pq]
   refine wlK o5 ?_
   refine sk fun ck p1 => ?_
   refine aC ?_
   have i3 := St.addNil w3 1 ByC ByC.mono 5 W.heap.size
   refine eE (r := 0) (u := (.slice b3 (jJ g.key).length b4)) i3 rfl i5 (.int .u8 0) 1 Tryz.underlying25 hi5 hz5 hs5 hb5 rfl (by decide) rfl rfl rfl (Sl.toW (Bs.sl i2) (i3).sat) ByC.one (Nat.le_refl _) i3.gr.below.size (by unfold maxLen; simp [jJ]) (by simp [jJ]) ?_
   intro cl cm p2 x4
   simp only [pq]
   obtain ⟨f4, a3, rfl, cn, w4⟩ := (p2.own (i := 0) rfl).shape
   unfold maxLen at w4
   refine df (TS _ _) ?_
   refine sW 0 p2 (mH) fun co w5 => ?_
   refine wn p1 ?_
   obtain ⟨p3, p4, a4, f5⟩ := St.freeze w5 (i := 0) rfl (Nat.le_refl _)
   have f5 : Bys _ (.slice f4 ([] ++ jJ g.key).length a3) ([] ++ jJ g.key) := f5
   have hbv : Bs _ (.slice f4 ([] ++ jJ g.key).length a3) ([] ++ jJ g.key) := eU f5
   refine aB ?_
   refine dx ?_
   refine dR p4 0 Tryz.underlying27 (aY) ?_
   simp only [pq]
   refine bD p4 (v := fun n => .slice (aA n 0) 1 1) rfl (bS (ps := #[(0, (.agg #[(iI 4), (.slice f0 (jI g).length f1), (.slice b3 (jJ g.key).length b4), (.slice f2 ([] : By).length f3), (.slice f4 ([] ++ jJ g.key).length a3)]))]) (cells := #[(iI 4), (.slice f0 (jI g).length f1), (.slice b3 (jJ g.key).length b4), (.slice f2 ([] : By).length f3), (.slice f4 ([] ++ jJ g.key).length a3)]) (E := 27) (cH rfl) (fun w => by kernel_rfl)) (fun cp cq p5 => ?_)
   refine eN (i := 0) (r := 0) (p := (aQ g)) (cs := [(iI 4), (.slice f0 (jI g).length f1), (.slice b3 (jJ g.key).length b4), (.slice f2 ([] : By).length f3), (.slice f4 ([] ++ jJ g.key).length a3)]) p5 rfl p6 (.agg #[(iI 0), Zn, Zn, Zn, Zn]) 104 Tryz.underlying61 g6 g7 g8 g9 rfl (by decide) rfl rfl rfl rfl rfl (ReqC.oneCell (F := p3) (p := (aQ g)) ⟨_, _, _, _, _, _, _, _, rfl, (o9.mono a4), (i2.mono a4), (p0.mono a4), hbv⟩) (⟨_, _, _, _, _, _, _, _, rfl, (o9.mono a4), (i2.mono a4), (p0.mono a4), hbv⟩) (Nat.le_refl _) p5.gr.below.size (by unfold maxLen; (simp; omega)) (by (simp; omega)) ?_
   intro cr ct b0 x5
   simp only [pq]
   have b0 := St.drop b0 (.cons _ (List.Sublist.refl _))
   obtain ⟨w6, i4, rfl, cu, w7⟩ := (b0.own (i := 0) rfl).shape
   unfold maxLen at w7
   refine dy ?_
   refine wlK o4 ?_
   refine aB ?_
   refine dx ?_
   refine cO (i + 1) ?_
   refine dy ?_
   simp only [pq]
   refine aG ?_
   have b0 := St.drop b0 (.cons _ (List.Sublist.refl _))
   rw [show (((l0.take i).map aQ) ++ [(aQ g)]) = ((l0.take (i + 1)).map aQ) from (by obtain ⟨hl, rfl⟩ := List.getElem?_eq_some_iff.1 hz_g; rw [List.take_succ_eq_append_getElem hl, List.map_append]; rfl)] at b0 ⊢
   exact o2 _ _ _ (by omega) ⟨(i + 1), w6, i4, p3, _, rfl, rfl, rfl, b0, ((b2.trans o8).trans a4), (by omega), (by omega)⟩
  ·refine eT ?_
   refine dp ?_
   refine wn e7 ?_
   refine aF ?_
   refine cV ?_
   exact g1 _ _ ⟨(l0.take i), ra, rc, c2, _, rfl, rfl, a5, b2, (by rw [List.length_take]; omega)⟩
 ·refine eT ?_
  refine aC ?_
  refine wn e7 ?_
  refine aF ?_
  refine cV ?_
  exact g1 _ _ ⟨(l0.take i), ra, rc, c2, _, rfl, rfl, a5, b2, (by rw [List.length_take]; omega)⟩
end Go.Proofs.YtilgpdpooildcaaGreatDoor
