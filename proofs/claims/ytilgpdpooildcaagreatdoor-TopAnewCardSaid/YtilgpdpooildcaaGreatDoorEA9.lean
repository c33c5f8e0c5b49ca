/- Rules, plain laws and walks: RP2 RP3 RU1 RU2 RV FR FP P14 TP5 TP6 TP7 TP8 -/
import Derived.Test.YtilgpdpooildcaaGreatDoorEA8
import Derived.RangeFuncNested
import Derived.RangeFuncLeaves
import Derived.RangeFuncCalls
namespace Go.Proofs.YtilgpdpooildcaaGreatDoor
set_option maxHeartbeats 8000000
open Go.RowKit
set_option maxRecDepth 100000
set_option linter.unusedVariables false
set_option linter.unusedSimpArgs false
theorem KY {n : Nat} {l m : List Pr} (h : TreeOk n l) (hs : m.Sublist l) : TreeOk n m := ⟨zZo hs.length_le h.len, fun p hp => h.ok p (hs.subset hp), h.rise.sublist hs⟩
theorem GD (F : Fz) (w : World) (a : Option Addr) (c : Nat) (l : List Pr) (hs : Sat w F) (hv : Prs F (.slice a l.length c) l) (hk : KeysOk l) (h2 : 2 ≤ l.length) (a0 : l.length ≤ 60) :
    Calls Tryz.prog 123 #[.slice a l.length c] w (cT w (.tuple #[.int .i64 (aY l : Nat), .slice a (l.take (bC (aY l) l)).length c, .slice (if c = (bC (aY l) l) then a else a.map (·.add ((bC (aY l) l) * 2))) (l.drop (bC (aY l) l)).length (c - (bC (aY l) l))])) := by
 have := KX F w a c l hs hv hk h2 a0
 have hn := DA (aY l) l
 rw [zZh, Nat.min_eq_left hn, zZn]
 exact this
theorem EX {n : Nat} {cur : List Pr} {k : By} {ss : List Stp} {R : List Stp × Pr} (h : (ss ++ (lC (n + 1) cur k).1, (lC (n + 1) cur k).2) = R) (h2 : 2 ≤ cur.length) (b : Bool) (hb : dJ k (aY cur) = b) :
    ((ss ++ [(⟨aY cur, dJ k (aY cur), eD (qT (aY cur) (!b) cur)⟩ : Stp)]) ++ (lC n (qT (aY cur) b cur) k).1, (lC n (qT (aY cur) b cur) k).2) = R := by
 rw [← h]
 unfold lC
 rw [zZa (by omega), hb]
 simp only [zZl, List.cons_append, List.nil_append]
 cases n <;> rfl
theorem WP {n : Nat} {cur : List Pr} {k : By} {ss : List Stp} {R : List Stp × Pr} {p : Pr} (h : (ss ++ (lC n cur k).1, (lC n cur k).2) = R) (h1 : cur.length ≤ 1) (hp : cur[0]? = some p) : R = (ss, p) := by
 rw [← h]
 match cur, hp with
 | q :: l, hp =>
  simp only [zZp, Option.some.injEq] at hp
  subst hp
  cases n with
  | zero => simp [lC]
  | succ n => unfold lC; rw [zZb h1]; simp
theorem GE (F : Fz) (w : World) (v u : Value) (l : List Pr) (k : By) (hs : Sat w F) (hT : Tabs w) (hv : Prs F v l) (hu : Bs F u k) (ok : TreeOk 60 l) (hk : 1 ≤ k.length ∧ k.length ≤ 16) (hz : l.length = 0) :
    Calls Tryz.prog 102 #[v, u] w (yQ w F (aV l k)) := by
 obtain ⟨a, c, rfl, hc1, hc2⟩ := Sl.shape hv
 obtain ⟨ka, kc, rfl, hk1, hk2⟩ := hu.shape
 unfold maxLen at hc2 hk2
 have S := St.start hs
 have b4 := ok.len
 obtain ⟨a8, a3, a4, a5, a6⟩ := info_parts ME
 go_enter Tryz.func102, Tryz.ntmps102
 refine sk fun K1 hK1 => ?_
 refine sA S (sC _) fun n2 w3 S4 => ?_
 refine dy ?_
 refine wn hK1 ?_
 refine aE fun K5 hK5 => ?_
 refine sk fun K6 hK6 => ?_
 refine aC ?_
 refine aR S4 rfl (fn2 (QB _ _)) (DY _ _ _ _ l k (S4).sat hv hu ok hk.1 hk.2) ?_
 intro b5 w7 F9 S8 a9 b0
 obtain ⟨_, rfl, b6, b7, rfl, b9⟩ := b0
 refine aC ?_
 refine sA S8 (lZ _) fun c0 c1 b1 => ?_
 refine sW 0 b1 (gL) fun c2 b2 => ?_
 refine dy ?_
 simp only [pq]
 refine wn hK6 ?_
 refine sk fun c3 a0 => ?_
 refine dx ?_
 refine jJ ?_
 refine wn a0 ?_
 refine aF ?_
 refine aH ?_
 refine hK5 _ _ ?_
 refine aE fun c4 b3 => ?_
 refine sk fun c5 a1 => ?_
 refine aC ?_
 refine iA ?_
 simp only [pq]
 refine wn a1 ?_
 refine aI ?_
 refine sk fun c6 a2 => ?_
 refine dr (.agg #[bT, Zn, Zn, Zn]) (aK (cZ rfl) (by kernel_rfl)) ?_
 refine sW 1 b2 (eK) fun c7 a7 => ?_
 refine dy ?_
 simp only [pq]
 refine wn a2 ?_
 refine aO ?_
 try simp only [xt]
 refine bR (dM rfl ⟨_, rfl, lR a7 1 Tryz.underlying52 (eK)⟩ (gD rfl)) ?_
 have hn : l = [] := List.eq_nil_of_length_eq_zero hz
 have hp : aV l k = ⟨true, [], ([], [])⟩ := by rw [hn]; rfl
 rw [hp]
 exact ⟨_, _, _, _, _, _, rfl, a7.gr, Own.nil _ _, Bs.nil _, Bs.nil _⟩
theorem KZ (F : Fz) (w : World) (v u : Value) (l : List Pr) (k : By) (hs : Sat w F) (hT : Tabs w) (hv : Prs F v l) (hu : Bs F u k) (ok : TreeOk 60 l) (hk : 1 ≤ k.length ∧ k.length ≤ 16) (hz : 1 ≤ l.length) :
    Calls Tryz.prog 102 #[v, u] w (yQ w F (aV l k)) := by
 obtain ⟨a, c, rfl, hc1, hc2⟩ := Sl.shape hv
 obtain ⟨ka, kc, rfl, hk1, hk2⟩ := hu.shape
 unfold maxLen at hc2 hk2
 have S := St.start hs
 have l6 := ok.len
 obtain ⟨b7, a5, a6, a7, a8⟩ := info_parts ME
 go_enter Tryz.func102, Tryz.ntmps102
 refine sk fun K1 hK1 => ?_
 refine sA S (sC _) fun n2 w3 S4 => ?_
 refine dy ?_
 refine wn hK1 ?_
 refine aE fun K5 hK5 => ?_
 refine sk fun K6 hK6 => ?_
 refine aC ?_
 refine aR S4 rfl (fn2 (QB _ _)) (DY _ _ _ _ l k (S4).sat hv hu ok hk.1 hk.2) ?_
 intro l7 w7 F9 S8 b9 i3
 obtain ⟨_, rfl, d3, d4, rfl, l8⟩ := i3
 refine aC ?_
 refine sA S8 (lZ _) fun g6 l9 i4 => ?_
 refine sW 0 i4 (gL) fun m0 i5 => ?_
 refine dy ?_
 simp only [pq]
 refine wn hK6 ?_
 refine sk fun m1 d7 => ?_
 refine dx ?_
 refine jJ ?_
 refine wn d7 ?_
 refine aF ?_
 refine aH ?_
 refine hK5 _ _ ?_
 refine aE fun m2 d8 => ?_
 refine sk fun m3 d9 => ?_
 refine aC ?_
 refine gH ?_
 simp only [pq]
 refine wn d9 ?_
 refine aF ?_
 refine aH ?_
 refine d8 _ _ ?_
 refine sk fun m4 e0 => ?_
 refine sA i5 (sC _) fun g7 m5 i6 => ?_
 refine wn e0 ?_
 refine aE fun m6 e1 => ?_
 refine aN ?_
 have i7 := St.addNil i6 3 StpC StpC.mono 204 w.heap.size
 refine aX (fun mm aa i8 => ∃ (n : Nat) (cur : List Pr) (xa : Option Addr) (xc : Nat) (sv : Value) (ss : List Stp) (b5 : Fz) (d5 : Nat → Value), mm = cur.length ∧ d5 = dX aa ∧ aa = ⟨([(.slice xa cur.length xc), (.slice ka k.length kc), undef, undef, (pP n2 0), (iI 0), (pP g6 0), (iI 0), (pP g7 0)] ++ (usF d5 9 4 ([(.tuple #[(.agg #[(.bool (mH l k).isSome), (.slice d3 ((mH l k).getD []).length d4)]), (iI 0)]), (.slice a l.length c), (.slice ka k.length kc), (.tuple #[(.agg #[(.bool (mH l k).isSome), (.slice d3 ((mH l k).getD []).length d4)]), (iI 0)]), (.agg #[(.bool (mH l k).isSome), (.slice d3 ((mH l k).getD []).length d4)]), (iI 0), (iI 0), bF, undef, undef, (.slice a l.length c), (nI l.length), bF, undef] ++ (usF d5 27 35 (udF 6 []))))).toArray, []⟩ ∧ St w F i8 b5 [⟨g7, [bF, sv, Zn, Zn], 52⟩, ⟨g6, [(.bool (mH l k).isSome), (.slice d3 ((mH l k).getD []).length d4)], 72⟩, ⟨n2, [bF, Zn, Zn, Zn], 52⟩] [cU 3 StpC StpC.mono 204 w.heap.size sv ss] ∧ Le F9 b5 ∧ (Prs b5 (.slice xa cur.length xc) cur) ∧ (TreeOk 60 cur) ∧ (1 ≤ cur.length) ∧ (cur.length ≤ n + 1) ∧ ((ss ++ (lC n cur k).1, (lC n cur k).2) = lC l.length l k) ∧ (ss.length + cur.length ≤ l.length)) _ ⟨l.length, l, a, c, Zn, [], F9, _, rfl, rfl, rfl, i7, Le.refl _, (hv.mono b9), ok, (by omega), (by omega), rfl, (by simp)⟩ ?_
 rintro m7 m8 m9 ⟨n, cur, xa, xc, sv, ss, b5, d5, rfl, -, hfr, a9, b0, hcur, okc, hc1_, hfu, hst, hsl⟩ n0 c0
 simp only [uzF, Nat.reduceAdd] at hfr; subst hfr
 refine aE fun n1 e2 => ?_
 refine sk fun n3 c1 => ?_
 refine aC ?_
 by_cases i9 : 1 < cur.length
 refine qX ?_
 refine wn c1 ?_
 refine aI ?_
 refine aH ?_
 refine e2 _ _ ?_
 refine aN ?_
 refine aE fun n4 e3 => ?_
 have hn2 := oM okc.keys (show 2 ≤ cur.length by omega)
 have g8 := (oD okc.keys (show 2 ≤ cur.length by omega)).1
 have hlt1 : (cur.take (bC (aY cur) cur)).length = (bC (aY cur) cur) := by rw [zZh]; omega
 have hlt2 : (cur.drop (bC (aY cur) cur)).length = cur.length - (bC (aY cur) cur) := zZn
 obtain ⟨n', rfl⟩ : ∃ m, n = m + 1 := ⟨n - 1, by omega⟩
 have h60c := okc.len
 refine aB ?_
 refine dx ?_
 simp only [pq]
 have hcl : Prs b5 (.slice xa (cur.take (bC (aY cur) cur)).length xc) (cur.take (bC (aY cur) cur)) := by rw [hlt1]; exact Sl.takeN hcur (by omega)
 have hcr : Prs b5 (.slice (if xc = (bC (aY cur) cur) then xa else xa.map (·.add ((bC (aY cur) cur) * 2))) (cur.drop (bC (aY cur) cur)).length (xc - (bC (aY cur) cur))) (cur.drop (bC (aY cur) cur)) := by rw [hlt2]; exact Sl.dropD (by decide) hcur (by omega)
 refine aJ (v := (.tuple #[(nI (aY cur)), (.slice xa (cur.take (bC (aY cur) cur)).length xc), (.slice (if xc = (bC (aY cur) cur) then xa else xa.map (·.add ((bC (aY cur) cur) * 2))) (cur.drop (bC (aY cur) cur)).length (xc - (bC (aY cur) cur)))])) a9 rfl (fn1 (Dn _ _)) (GD _ _ _ _ cur (a9).sat hcur okc.keys (by omega) (by omega)) (fun n5 j0 => ?_)
 refine aC ?_
 refine wlK e3 ?_
 refine sk fun n6 e4 => ?_
 refine dx ?_
 refine dr (.agg #[(nI (aY cur)), bF, Zn]) (aK (cZ rfl) (by kernel_rfl)) ?_
 simp only [pq]
 refine sA j0 (YH _) fun n7 n8 j1 => ?_
 refine sW 0 j1 (DT) fun n9 g9 => ?_
 refine wn e4 ?_
 refine sk fun o0 e5 => ?_
 refine aC ?_
 refine aJ (v := (.tuple #[(.bool (dJ k (aY cur))), (iI 0)])) g9 rfl (cB (vs := #[(.slice ka k.length kc), (nI (aY cur))]) (gK rfl rfl) rfl (JQ _ _)) (dL (yX _ _ _ k _ (g9).sat (hu.mono (b9.trans b0)) hk.1 hk.2 (by omega) (by omega))) (fun o1 j2 => ?_)
 refine aC ?_
 refine sW 0 j2 (tP) fun o2 b6 => ?_
 refine wn e5 ?_
 refine aE fun o3 c2 => ?_
 refine sk fun o4 e6 => ?_
 refine aC ?_
 refine wn e6 ?_
 refine wp_cond_split rfl (fun b1 => ?_) (fun b1 => ?_)
 have hb : dJ k (aY cur) = true := b1
 refine aB ?_
 refine aC ?_
 refine wlK c2 ?_
 refine sk fun o5 e7 => ?_
 refine dx ?_
 refine aR b6 rfl (fn1 (BV _ _)) (vI _ _ _ (cur.take (bC (aY cur) cur)) (b6).sat (hT.at b6.gr.below) hcl (KY okc (List.take_sublist _ _))) ?_
 intro o6 o7 j3 j4 c3 j5
 obtain ⟨o8, rfl, c4⟩ := j5
 obtain ⟨a0, a1, rfl, _⟩ := c4.shape
 have c4 : Bs _ (.slice a0 (eD (cur.take (bC (aY cur) cur))).length a1) (eD (cur.take (bC (aY cur) cur))) := c4
 refine aC ?_
 refine sW 0 j4 (kX) fun o9 h0 => ?_
 refine wn e7 ?_
 refine sk fun p0 e8 => ?_
 refine aC ?_
 refine wn e8 ?_
 refine aB ?_
 refine aC ?_
 refine dR h0 0 Tryz.underlying204 (DT) ?_
 simp only [pq]
 refine bH h0 (v := fun n => .slice (aA n 0) 1 1) rfl (cN (ps := #[(0, (.agg #[(nI (aY cur)), (.bool (dJ k (aY cur))), (.slice a0 (eD (cur.take (bC (aY cur) cur))).length a1)]))]) (cells := #[(nI (aY cur)), (.bool (dJ k (aY cur))), (.slice a0 (eD (cur.take (bC (aY cur) cur))).length a1)]) (E := 204) (cZ rfl) (fun w => by kernel_rfl)) (fun p1 p2 h1 => ?_)
 refine fH (i := 0) (r := 0) (p := (⟨aY cur, dJ k (aY cur), eD (qT (aY cur) (!true) cur)⟩ : Stp)) (cs := [(nI (aY cur)), (.bool (dJ k (aY cur))), (.slice a0 (eD (cur.take (bC (aY cur) cur))).length a1)]) h1 rfl b7 (.agg #[(iI 0), bF, Zn]) 40 Tryz.underlying48 a5 a6 a7 a8 rfl (by decide) rfl rfl rfl rfl rfl (StpC.oneCell (p := (⟨aY cur, dJ k (aY cur), eD (qT (aY cur) (!true) cur)⟩ : Stp)) ⟨_, _, _, rfl, rfl, rfl, c4⟩) (⟨_, _, _, rfl, rfl, rfl, c4⟩) (zZe _) h1.gr.below.size (by unfold maxLen; omega) (by omega) ?_
 intro p3 p4 d6 j6
 simp only [pq]
 have d6 := St.drop d6 (.cons _ (zZd _))
 obtain ⟨j7, c5, rfl, p5, j8⟩ := (d6.own (i := 0) rfl).shape
 unfold maxLen at j8
 refine df (JI _ _) ?_
 refine sW 1 d6 (SQ) fun p6 e9 => ?_
 refine aG ?_
 have e9 := St.drop e9 (.cons _ (zZd _))
 exact c0 _ _ _ (by omega) ⟨n', (cur.drop (bC (aY cur) cur)), (if xc = (bC (aY cur) cur) then xa else xa.map (·.add ((bC (aY cur) cur) * 2))), (xc - (bC (aY cur) cur)), (.slice j7 (ss ++ [(⟨aY cur, dJ k (aY cur), eD (qT (aY cur) (!true) cur)⟩ : Stp)]).length c5), (ss ++ [(⟨aY cur, dJ k (aY cur), eD (qT (aY cur) (!true) cur)⟩ : Stp)]), j3, _, rfl, rfl, rfl, e9, (b0.trans c3), (hcr.mono c3), (KY okc (List.drop_sublist _ _)), (by rw [zZn]; omega), (by rw [zZn]; omega), (EX hst (by omega) true hb), (by rw [zZf, zZn]; simp only [zZg, zZj]; omega)⟩
 refine aH ?_
 refine c2 _ _ ?_
 refine aE fun p7 f0 => ?_
 have hb : dJ k (aY cur) = false := b1
 refine aB ?_
 refine dx ?_
 simp only [pq]
 refine aR b6 rfl (cB (vs := #[(.slice (if xc = (bC (aY cur) cur) then xa else xa.map (·.add ((bC (aY cur) cur) * 2))) (cur.drop (bC (aY cur) cur)).length (xc - (bC (aY cur) cur)))]) (jQ rfl) rfl (BV _ _)) (vI _ _ _ (cur.drop (bC (aY cur) cur)) (b6).sat (hT.at b6.gr.below) hcr (KY okc (List.drop_sublist _ _))) ?_
 intro p8 p9 j9 k0 c6 k1
 obtain ⟨q0, rfl, c7⟩ := k1
 obtain ⟨a2, a3, rfl, _⟩ := c7.shape
 have c7 : Bs _ (.slice a2 (eD (cur.drop (bC (aY cur) cur))).length a3) (eD (cur.drop (bC (aY cur) cur))) := c7
 refine aC ?_
 refine sW 0 k0 (kX) fun q1 h2 => ?_
 refine wlK f0 ?_
 refine sk fun q2 f1 => ?_
 refine aC ?_
 refine wn f1 ?_
 refine aB ?_
 refine aC ?_
 refine dR h2 0 Tryz.underlying204 (DT) ?_
 simp only [pq]
 refine bH h2 (v := fun n => .slice (aA n 0) 1 1) rfl (cN (ps := #[(0, (.agg #[(nI (aY cur)), (.bool (dJ k (aY cur))), (.slice a2 (eD (cur.drop (bC (aY cur) cur))).length a3)]))]) (cells := #[(nI (aY cur)), (.bool (dJ k (aY cur))), (.slice a2 (eD (cur.drop (bC (aY cur) cur))).length a3)]) (E := 204) (cZ rfl) (fun w => by kernel_rfl)) (fun q3 k2 c8 => ?_)
 refine fH (i := 0) (r := 0) (p := (⟨aY cur, dJ k (aY cur), eD (qT (aY cur) (!false) cur)⟩ : Stp)) (cs := [(nI (aY cur)), (.bool (dJ k (aY cur))), (.slice a2 (eD (cur.drop (bC (aY cur) cur))).length a3)]) c8 rfl b7 (.agg #[(iI 0), bF, Zn]) 40 Tryz.underlying48 a5 a6 a7 a8 rfl (by decide) rfl rfl rfl rfl rfl (StpC.oneCell (p := (⟨aY cur, dJ k (aY cur), eD (qT (aY cur) (!false) cur)⟩ : Stp)) ⟨_, _, _, rfl, rfl, rfl, c7⟩) (⟨_, _, _, rfl, rfl, rfl, c7⟩) (zZe _) c8.gr.below.size (by unfold maxLen; omega) (by omega) ?_
 intro k3 k4 a4 h3
 simp only [pq]
 have a4 := St.drop a4 (.cons _ (zZd _))
 obtain ⟨f2, b2, rfl, k5, f3⟩ := (a4.own (i := 0) rfl).shape
 unfold maxLen at f3
 refine df (JI _ _) ?_
 refine sW 1 a4 (SQ) fun k6 b3 => ?_
 refine aG ?_
 have b3 := St.drop b3 (.cons _ (zZd _))
 exact c0 _ _ _ (by omega) ⟨n', (cur.take (bC (aY cur) cur)), xa, xc, (.slice f2 (ss ++ [(⟨aY cur, dJ k (aY cur), eD (qT (aY cur) (!false) cur)⟩ : Stp)]).length b2), (ss ++ [(⟨aY cur, dJ k (aY cur), eD (qT (aY cur) (!false) cur)⟩ : Stp)]), j9, _, rfl, rfl, rfl, b3, (b0.trans c6), (hcl.mono c6), (KY okc (List.take_sublist _ _)), (by rw [zZh]; omega), (by rw [zZh]; omega), (EX hst (by omega) false hb), (by rw [zZf, zZh]; simp only [zZg, zZj]; omega)⟩
 refine lS ?_
 simp only [pq]
 refine wn c1 ?_
 refine aF ?_
 refine cP ?_
 refine e1 _ _ ?_
 refine aE fun k7 c9 => ?_
 obtain ⟨k8, f4, rfl, k9, f5⟩ := (a9.own (i := 0) rfl).shape
 unfold maxLen at f5
 obtain ⟨p, hp⟩ : ∃ p, cur[0]? = some p := ⟨cur[0], zZc (by omega)⟩
 have hpo := okc.ok p (zZi hp)
 have hp1 := hpo.2.1
 have hp2 := hpo.2.2
 have hend := WP hst (by omega) hp
 obtain ⟨f6, f7, d0, h4, h5, h6, h7, f8, f9, g0, g1⟩ := Prs.get hcur hp
 refine aB ?_
 refine dx ?_
 refine dr (pP f6 (f7 + 0 * 2)) (bN (i := 0) (sz := 2) Tryz.underlying47 (bI _) rfl d0 rfl (by omega) rfl) ?_
 refine dr _ (aD rfl (cV Tryz.underlying50 rfl (dO) (jI (St.fz a9 f8) (St.fz a9 f9)))) ?_
 simp only [pq]
 refine aR a9 rfl (fn1 (Do _ _)) (WO _ _ _ p (a9).sat ⟨_, _, _, _, rfl, g0, g1⟩ (by omega) (by omega)) ?_
 intro l0 l1 l2 g2 h8 g3
 obtain ⟨h9, i0, i1, i2, rfl, g4, g5⟩ := g3
 refine df (SS _ _) ?_
 refine sW 0 g2 (dO) fun l3 d1 => ?_
 refine wlK c9 ?_
 refine sk fun l4 d2 => ?_
 refine dR d1 0 Tryz.underlying52 (eK) ?_
 simp only [pq]
 refine sW 2 d1 (eK) fun l5 b4 => ?_
 refine dy ?_
 refine wn d2 ?_
 refine aO ?_
 try simp only [xt]
 refine bR (dM rfl ⟨_, rfl, lR b4 2 Tryz.underlying52 (eK)⟩ (gD rfl)) ?_
 have hpv : aV l k = ⟨false, ss, p⟩ := by unfold aV; rw [zZa (fun e => by rw [e] at hz; simp at hz), hend]
 rw [hpv]
 exact ⟨_, _, _, _, _, _, rfl, b4.gr, St.own (i := 0) b4 rfl, g4, g5⟩
theorem EY (F : Fz) (w : World) (v u : Value) (l : List Pr) (k : By) (hs : Sat w F) (hT : Tabs w) (hv : Prs F v l) (hu : Bs F u k) (ok : TreeOk 60 l) (hk : 1 ≤ k.length ∧ k.length ≤ 16) :
    Calls Tryz.prog 102 #[v, u] w (yQ w F (aV l k)) := by
 rcases Nat.eq_zero_or_pos l.length with h | h
 ·exact GE F w v u l k hs hT hv hu ok hk h
 ·exact KZ F w v u l k hs hT hv hu ok hk h
section
variable {P : Program} {ops : Array Oper} {Q : Exit → Act → World → Prop} {a : Act} {w w' : World} {rest : List Oper} {o : Oper} {n : Nat}
end
def KeepC (b : Nat) (W W' : World) : Prop := ∀ k o, k ≠ b → W.heap[k]? = some o → o.isCells = true → W'.heap[k]? = some o
theorem KeepC.trans {b : Nat} {X Y Z : World} (h : KeepC b X Y) (k : KeepC b Y Z) : KeepC b X Z := fun j o hj ho hc => k j o hj (h j o hj ho hc) hc
def SatC (F : Fz) (W : World) : Prop := ∀ b c t fr, F b = some (.cells c t fr) → W.heap[b]? = some (.cells c t fr)
theorem Sat.c {F : Fz} {W : World} (h : Sat W F) : SatC F W := fun b c t fr hb => h b _ hb
theorem SatC.below {F : Fz} {w W : World} (h : SatC F w) (hW : Below w.heap.size w W) : SatC F W := fun b c t fr hb => by
  have := h b c t fr hb
  rw [hW.block b (Array.getElem?_eq_some_iff.1 this).1]
  exact this
def BkX (F : Fz) := { x : Nat × Option Addr × Nat × Stp // Bs F (.slice x.2.1 x.2.2.2.other.length x.2.2.1) x.2.2.2.other ∧ x.2.2.2.bit < 145 ∧ x.2.2.2.other.length = 32 }
def bkS {F : Fz} (x : BkX F) : Stp := x.1.2.2.2
def bkV {F : Fz} (x : BkX F) : Value := .slice x.1.2.1 (bkS x).other.length x.1.2.2.1
theorem Bs.cells {F F' : Fz} {v : Value} {l : By} (h : Bs F v l) (hc : ∀ b o u, cS F b o = some u → cS F' b o = some u) : Bs F' v l := by
 obtain ⟨a, c, h1, h2, h3, h4, h5⟩ := h
 exact ⟨a, c, h1, h2, h3, h4, h5.imp id fun ⟨b, o, h6, h7⟩ => ⟨b, o, h6, fun j u hu => hc _ _ _ (h7 j u hu)⟩⟩
def UpI {F1 : Fz} (w0 : World) (F0 : Fz) (B b5 : Nat) (d0 : By) (pre : List (BkX F1)) (W : World) : Prop :=
  (w0.heap.size ≤ b5 ∧ b5 < B ∧ w0.heap.size ≤ B ∧ B ≤ W.heap.size) ∧ ∃ F da dc, Gr w0 F0 W F ∧ Le F1 F ∧ (∀ r o, B ≤ r → W.heap[r]? = some o → o.isCells = false → F r = none) ∧ F b5 = none ∧ W.heap[b5]? = some (.cells #[.slice da (pre.foldl (fun d x => up1 (bkS x) d) d0).length dc] 25 (0, 0)) ∧ Bs F (.slice da (pre.foldl (fun d x => up1 (bkS x) d) d0).length dc) (pre.foldl (fun d x => up1 (bkS x) d) d0)
theorem UpI.own {F1 : Fz} {w0 : World} {F0 : Fz} {B b5 : Nat} {d0 : By} : OwnFrom B (UpI (F1 := F1) w0 F0 B b5 d0) := by
 intro pre W W' row ⟨⟨hb1, hb2, hb3, hB⟩, F, da, dc, hG, hle, hcl, h5n, h5, hbs⟩ hg hr
 have hrow : ∀ k, row = some k → F k = none := fun k e => by
  obtain ⟨h1, o, h2, h3⟩ := hr k e
  exact hcl k o h1 h2 h3
 have h5' : W'.heap[b5]? = some (.cells #[.slice da (pre.foldl (fun d x => up1 (bkS x) d) d0).length dc] 25 (0, 0)) := by
  rw [hg.block b5 (Array.getElem?_eq_some_iff.1 h5).1 (fun e => by have := (hr b5 e.symm).1; omega)]
  exact h5
 refine ⟨⟨hb1, hb2, hb3, zZo hB hg.size⟩, F, da, dc, ⟨hG.below.grown hg (by omega) (fun k e => by have := (hr k e).1; omega), hG.old, hG.sat.grown hg hrow⟩, hle, fun r o hrB ho hc => ?_, h5n, h5', hbs⟩
 by_cases hlt : r < W.heap.size
 by_cases e : some r = row
 exact hrow r e.symm
 rw [hg.block r hlt e] at ho
 exact hcl r o hrB ho hc
 exact hG.sat.out (by omega)
def UpX {F1 : Fz} (B : Nat) (fr : Nat → BkX F1 → Array Value) (x : BkX F1) (a' : Act) (W : World) : Prop :=
  ∃ Bx, B ≤ Bx ∧ W.heap[Bx]? = some (.cells #[.int .i64 (((bkS x).bit : Nat) : Int), .bool (bkS x).right, bkV x] 204 (0, 0)) ∧ a' = ⟨fr Bx x, []⟩
theorem UpX.own {F1 : Fz} {B B' : Nat} {fr : Nat → BkX F1 → Array Value} {x : BkX F1} {a' : Act} : OwnFrom B' (fun (_ : Unit) W => UpX B fr x a' W) := by
 rintro _ W W' row ⟨Bx, h1, h2, h3⟩ hg hr
 refine ⟨Bx, h1, ?_, h3⟩
 rw [hg.block Bx (Array.getElem?_eq_some_iff.1 h2).1 (fun e => by obtain ⟨_, o, ho, hc⟩ := hr Bx e.symm; rw [h2] at ho; cases ho; cases hc)]
 exact h2
theorem UpI.below {F1 : Fz} {w0 W w : World} {F0 : Fz} {B b5 : Nat} {d0 : By} {pre : List (BkX F1)} (h : UpI w0 F0 B b5 d0 pre W) (hb : Below W.heap.size W w) : UpI w0 F0 B b5 d0 pre w := by
 obtain ⟨⟨hb1, hb2, hb3, hB⟩, F, da, dc, hG, hle, hcl, h5n, h5, hbs⟩ := h
 refine ⟨⟨hb1, hb2, hb3, zZo hB hb.size⟩, F, da, dc, hG.trans (Gr.of_below hG.sat hb), hle, fun r o hrB ho hc => ?_, h5n, (hb.block b5 (Array.getElem?_eq_some_iff.1 h5).1).trans h5, hbs⟩
 by_cases hlt : r < W.heap.size
 rw [hb.block r hlt] at ho
 exact hcl r o hrB ho hc
 exact hG.sat.out (by omega)
def cE (l : aW) : List Pr := l.map fun t => (t.1, eD t.2)
def yR (l : aW) : By := eD (cE l)
theorem NU {l : aW} {k : Nat} {t : By × List Pr} (h : l[k]? = some t) : cE (l.take k) ++ [(t.1, eD t.2)] = cE (l.take (k + 1)) := by
 rw [fB h]; simp [cE]
theorem IC {m : Nat} {l : aW} (h : ForestOk m l) : TreeOk 60 (cE l) := by
 refine ⟨by unfold cE; rw [zZm]; have := h.len; omega, fun p hp => ?_, ?_⟩
 obtain ⟨t, ht, rfl⟩ := List.mem_map.1 hp
 have := h.name t ht
 exact ⟨this.1, by have := this.2; simp; omega, by simp [zC]⟩
 exact List.pairwise_map.2 h.rise
theorem RF (l : aW) : (cE l).length = l.length := by simp [cE]
theorem ID (F : Fz) (w : World) (v : Value) (l : aW) (hs : Sat w F) (hT : Tabs w) (hv : Tns F v l) (ok : ForestOk 60 l) :
    Calls Tryz.prog 101 #[v] w (qJ w F 2 PrC 50 (cE l)) := by
 obtain ⟨a, c, rfl, hc1, hc2⟩ := Sl.shape hv
 unfold maxLen at hc2
 have hl8 := ok.len
 obtain ⟨c8, b1, b2, b3, b4⟩ := info_parts nY
 have S := St.start hs
 go_enter Tryz.func101, Tryz.ntmps101
 refine sk fun K1 hK1 => ?_
 refine dy ?_
 refine wn hK1 ?_
 refine sk fun K2 hK2 => ?_
 refine dy ?_
 refine wn hK2 ?_
 refine aE fun K3 hK3 => ?_
 refine sk fun K4 hK4 => ?_
 refine aC ?_
 refine wn hK4 ?_
 refine aN ?_
 have S5 := St.addNil S 2 PrC PrC.mono 50 w.heap.size
 refine aX (fun mm aa w8 => ∃ (k : Nat) (v : Value) (F6 : Fz) (u7 : Nat → Value), mm = l.length - k ∧ u7 = dX aa ∧ aa = ⟨([(.slice a l.length c), undef, Zn, v, undef] ++ (usF u7 5 3 ([(.slice a l.length c), (nI l.length), (nI k)] ++ (usF u7 11 18 [undef])))).toArray, []⟩ ∧ St w F w8 F6 [] [cU 2 PrC PrC.mono 50 w.heap.size v (cE (l.take k))] ∧ Le F F6 ∧ (k ≤ l.length)) _ ⟨0, Zn, F, _, rfl, rfl, rfl, S5, Le.refl _, (by omega)⟩ ?_
 rintro m9 e6 e7 ⟨k, v, F6, u7, rfl, -, hfr, a6, a7, hk⟩ e8 b5
 simp only [uzF, Nat.reduceAdd] at hfr; subst hfr
 refine sk fun e9 a8 => ?_
 by_cases b6 : k < l.length
 refine eS ?_
 refine wn a8 ?_
 refine aE fun f0 b7 => ?_
 refine aI ?_
 refine aH ?_
 refine b7 _ _ ?_
 refine aE fun f1 b9 => ?_
 refine aN ?_
 refine aE fun f2 c0 => ?_
 obtain ⟨t, ht⟩ : ∃ t, l[k]? = some t := ⟨l[k], zZc b6⟩
 have hnm := (ok.name t (zZi ht)).2
 have hrl := RF (l.take k)
 rw [zZh] at hrl
 obtain ⟨c9, d0, c1, d1, d2, d3, d4, d5, d6, d7, d8⟩ := Tns.get (hv.mono a7) ht
 refine aB ?_
 refine dr (pP c9 (d0 + k * 2)) (bN (i := k) (sz := 2) Tryz.underlying24 (cJ _) rfl c1 rfl (by omega) rfl) ?_
 refine dr _ (aD rfl (cV Tryz.underlying66 rfl (jM) (jI (St.fz a6 d5) (St.fz a6 d6)))) ?_
 simp only [pq]
 refine sA a6 (xT _) fun f3 f4 d9 => ?_
 refine sW 0 d9 (jM) fun f5 c2 => ?_
 refine wlK c0 ?_
 refine sk fun f6 c3 => ?_
 refine aC ?_
 refine aR c2 rfl (fn1 (BV _ _)) (vI _ _ _ t.2 (c2).sat (hT.at c2.gr.below) d8 ((ok.tree t (zZi ht)).mono (by omega))) ?_
 intro f7 f8 f9 c6 a9 e0
 obtain ⟨g0, rfl, b0⟩ := e0
 obtain ⟨a0, a1, rfl, _⟩ := b0.shape
 have b0 : Bs _ (.slice a0 (eD t.2).length a1) (eD t.2) := b0
 refine aC ?_
 refine wn c3 ?_
 refine aB ?_
 refine aC ?_
 refine aR c6 rfl (fn1 (gM _ _)) (dG _ _ _ t.1 (c6).sat (d7.mono a9) (by omega)) ?_
 intro g1 g2 e1 e2 a4 c4
 obtain ⟨a2, a3, rfl, _⟩ := c4.shape
 refine dx ?_
 refine dr (.agg #[(.slice a2 t.1.length a3), (.slice a0 (eD t.2).length a1)]) (aK (fD rfl rfl) (by kernel_rfl)) ?_
 refine bH e2 (v := fun n => .slice (aA n 0) 1 1) rfl (cN (ps := #[(0, (.agg #[(.slice a2 t.1.length a3), (.slice a0 (eD t.2).length a1)]))]) (cells := #[(.slice a2 t.1.length a3), (.slice a0 (eD t.2).length a1)]) (E := 50) (cZ rfl) (fun w => by kernel_rfl)) (fun g3 g4 c7 => ?_)
 simp only [pq]
 refine fH (i := 0) (r := 0) (p := (t.1, eD t.2)) (cs := [(.slice a2 t.1.length a3), (.slice a0 (eD t.2).length a1)]) c7 rfl c8 (.agg #[Zn, Zn]) 48 Tryz.underlying47 b1 b2 b3 b4 rfl (by decide) rfl rfl rfl rfl rfl (PrC.oneCell (p := (t.1, eD t.2)) ⟨_, _, rfl, c4, (b0.mono a4)⟩) (⟨_, _, rfl, c4, (b0.mono a4)⟩) (zZe _) c7.gr.below.size (by unfold maxLen; omega) (by omega) ?_
 intro e3 g5 a5 e4
 simp only [pq]
 have a5 := St.drop a5 (.cons _ (zZd _))
 refine dy ?_
 refine wlK b9 ?_
 refine aB ?_
 refine cR (k + 1) ?_
 refine dx ?_
 simp only [pq]
 refine aG ?_
 have a5 := St.drop a5 (.cons _ (zZd _))
 rw [NU ht] at a5
 exact b5 _ _ _ (by omega) ⟨(k + 1), e3, e1, _, rfl, rfl, rfl, a5, ((a7.trans a9).trans a4), (by omega)⟩
 refine eM ?_
 refine wn a8 ?_
 refine aE fun g6 e5 => ?_
 refine aF ?_
 refine cP ?_
 refine hK3 _ _ ?_
 refine sk fun g7 c5 => ?_
 refine aC ?_
 refine wn c5 ?_
 refine aO ?_
 try simp only [xt]
 refine bR (bA rfl (gD rfl)) ?_
 obtain rfl : k = l.length := by omega
 exact ⟨_, _, rfl, a6.gr, by have h := St.own (i := 0) a6 rfl; rwa [List.take_length] at h⟩
theorem BF (F : Fz) (w : World) (v : Value) (l : aW) (hs : Sat w F) (hT : Tabs w) (hv : Tns F v l) (ok : ForestOk 60 l) :
    Calls Tryz.prog 87 #[v] w (dF w F (WE (yR l) 0)) := by
 obtain ⟨a, c, rfl, hc1, hc2⟩ := Sl.shape hv
 unfold maxLen at hc2
 have S := St.start hs
 go_enter Tryz.func87, Tryz.ntmps87
 refine sk fun K1 hK1 => ?_
 iterate 2 refine dy ?_
 refine wn hK1 ?_
 refine aE fun K2 hK2 => ?_
 refine sk fun K3 hK3 => ?_
 refine dx ?_
 simp only [pq]
 refine aJ (v := (iI 0)) S rfl (fn1 (JV _ _)) (wO _ _ _ l (S).sat hv ok) (fun w4 S5 => ?_)
 refine dy ?_
 refine wn hK3 ?_
 refine sk fun K6 hK6 => ?_
 refine dx ?_
 refine jJ ?_
 simp only [pq]
 refine wn hK6 ?_
 refine aF ?_
 refine aH ?_
 refine hK2 _ _ ?_
 refine sk fun K7 hK7 => ?_
 refine dx ?_
 refine aR S5 rfl (fn1 (SY _ _)) (oB PrC.mono (ID _ _ _ l (S5).sat (hT.at S5.gr.below) hv ok)) ?_
 intro a8 w8 a9 S9 a4 a3
 obtain ⟨b0, b1, rfl, _⟩ := Sl.shape a3
 refine aR S9 rfl (fn1 (BV _ _)) (vI _ _ _ (cE l) (S9).sat (hT.at S9.gr.below) a3 (IC ok)) ?_
 intro b2 b3 b4 a5 a6 a7
 obtain ⟨b5, rfl, a0⟩ := a7
 obtain ⟨a1, a2, rfl, _⟩ := a0.shape
 have a0 : Bs _ (.slice a1 (eD (cE l)).length a2) (eD (cE l)) := a0
 refine aC ?_
 refine wn hK7 ?_
 refine aO ?_
 try simp only [xt]
 refine bR (cI rfl (gD rfl) (gD rfl)) ?_
 exact ⟨_, _, rfl, a5.gr, _, rfl, a0⟩
theorem EZ {P : Program} {ops : Array Oper} {Q : Exit → Act → World → Prop} {a : Act} {rest : List Oper} {o : Oper} {kf : FuncId} {vs : Array Value} {w0 w : World} {F0 F : Fz} {L : List Blk} {M : List RowP} {p : Prf} (S : St w0 F0 w F L M) (hw : Region.wanted o (yielded ops a.tmps) = true)
    (hr : (execOp a.eval o).run P w = .ok (.enter kf vs) w) (hc : Calls P kf vs w (yQ w F p))
    (h : ∀ v ka kc va vc w' F', St w0 F0 w' F' L (cU 3 StpC StpC.mono 204 w0.heap.size v p.steps :: M) → Le F F' → Bs F' (.slice ka p.pair.1.length kc) p.pair.1 → Bs F' (.slice va p.pair.2.length vc) p.pair.2 → WL P ops Q rest (a.put o.dst (.tuple #[.agg #[.bool p.empty, v, .slice ka p.pair.1.length kc, .slice va p.pair.2.length vc], .int .i64 0])) w') : WL P ops Q (o :: rest) a w :=
  doC hw hr hc fun e w' ⟨v, ka, kc, va, vc, F', he, g, ho, h1, h2⟩ => ⟨_, he, h v ka kc va vc w' F' (S.addRow g ho) (g.le S.sat) h1 h2⟩
theorem LA {P : Program} {Q : Exit → Act → World → Prop} {F : Fz} {fuel : Nat} {listed : Array Bool} {a : Act} {w : World} {l : List Oper} {o1 o2 : Oper} (i j : Nat) (hr : Region.ready .any l.toArray listed = [i, j]) (hi : l[i]? = some o1) (hj : l[j]? = some o2)
    (h1 : WL P l.toArray (Exit.then (fun a' w' => Sat w' F ∧ Go.wpAnyH P .any l.toArray Q (fun w => Sat w F) fuel (listed.setIfInBounds i true) a' w') Q) [o1] a w)
    (h2 : WL P l.toArray (Exit.then (fun a' w' => Sat w' F ∧ Go.wpAnyH P .any l.toArray Q (fun w => Sat w F) fuel (listed.setIfInBounds j true) a' w') Q) [o2] a w) : HL P l.toArray Q F (fuel + 1) listed a w := by
 refine ⟨Go.wpAnyH_all hr (by simp) fun k hk => ?_⟩
 have key : ∀ (m : Nat) (o : Oper), l[m]? = some o → WL P l.toArray (Exit.then (fun a' w' => Sat w' F ∧ Go.wpAnyH P .any l.toArray Q (fun w => Sat w F) fuel (listed.setIfInBounds m true) a' w') Q) [o] a w → wpOp P l.toArray Q m (fun a' w' => Sat w' F ∧ Go.wpAnyH P .any l.toArray Q (fun w => Sat w F) fuel (listed.setIfInBounds m true) a' w') a w := by
  intro m o hm h
  have h1 := h.out
  unfold wpList at h1
  unfold wpOp
  have hi' : l.toArray[m]? = some o := by simpa using hm
  simp only [hi']
  split
  rename_i hw
  rw [zZb hw] at h1
  rcases h1 with h1 | h1
  left
  refine Oper.wp_mono (fun a' w' hk => ?_) (Oper.wp_exit h1)
  exact hk
  exact .inr h1
  rename_i hw
  rw [zZa hw] at h1
  exact h1
 rcases (by simpa using hk : k = i ∨ k = j) with rfl | rfl
 exact key _ _ hi h1
 exact key _ _ hj h2
def Jk (p q : Prf) (F : Fz) (u : Value) : Prop := ∃ x y, u = .tuple #[x, y, .int .i64 0] ∧ Iw F x p ∧ Iw F y q
theorem zS (F : Fz) (w : World) (v u z : Value) (l : aW) (n k : By) (hs : Sat w F) (hT : Tabs w) (hv : Tns F v l) (hn : Bs F u n) (hk : Bs F z k) (ok1 : ForestOk 60 l) (hnn : 1 ≤ n.length ∧ n.length ≤ 8) (hkk : 1 ≤ k.length ∧ k.length ≤ 16) :
    Calls Tryz.prog 88 #[v, u, z] w (dF w F (Jk (aV (cE l) n) (aV (bP l n) k))) := by
 have hn0 := kT hnn.1 hnn.2
 have hl8 := ok1.len
 obtain ⟨a, c, rfl, hc1, hc2⟩ := Sl.shape hv
 obtain ⟨a2, c2, rfl, _⟩ := hn.shape
 obtain ⟨a3, c3, rfl, _⟩ := hk.shape
 have S := St.start hs
 go_enter Tryz.func88, Tryz.ntmps88
 refine sk fun K1 hK1 => ?_
 refine sA S (sC _) fun n2 w3 S4 => ?_
 refine sA S4 (sC _) fun n5 w6 S7 => ?_
 refine dy ?_
 simp only [pq]
 refine wn hK1 ?_
 refine aE fun K8 hK8 => ?_
 refine sk fun K9 hK9 => ?_
 iterate 2 refine dx ?_
 refine aJ (v := (iI 0)) S7 rfl (fn2 (QA _ _)) (pB _ _ _ _ l n (S7).sat hv hn ok1 hn0) (fun f4 e3 => ?_)
 refine dy ?_
 simp only [pq]
 refine wn hK9 ?_
 refine sk fun f5 d1 => ?_
 refine dx ?_
 refine dr bF (cH (b := false) rfl rfl (by decide)) ?_
 refine wn d1 ?_
 refine aF ?_
 refine aH ?_
 refine hK8 _ _ ?_
 refine sk fun f6 d2 => ?_
 refine aC ?_
 refine QP e3 rfl (cB (vs := #[(.slice a l.length c), (.slice a2 n.length c2)]) (gK rfl rfl) rfl (QC _ _)) (tZ _ _ _ _ l n (e3).sat hv hn ok1.rise (by omega)) ?_
 intro f7 f8 d3 c5
 obtain ⟨f9, g0, rfl, _⟩ := Sl.shape c5
 refine dx ?_
 refine EZ d3 rfl (fn2 (TA _ _)) (EY _ _ _ _ (bP l n) k (d3).sat (hT.at d3.gr.below) c5 hk (oL ok1 n) hkk) ?_
 intro g1 a8 a9 b0 b1 g2 g3 e4 c6 d4 d5
 simp only [pq]
 obtain ⟨c0, a1, rfl, g4, e9⟩ := (e4.own (i := 0) rfl).shape
 unfold maxLen at e9
 obtain ⟨g5, f0, a7, b7⟩ := St.freeze e4 (i := 0) rfl (zZe _)
 have b7 : Stps _ (.slice c0 ((aV (bP l n) k).steps).length a1) ((aV (bP l n) k).steps) := b7
 refine aC ?_
 refine sW 0 f0 (eK) fun g6 d6 => ?_
 refine dy ?_
 refine wn d2 ?_
 refine aE fun g7 d7 => ?_
 refine sk fun g8 d8 => ?_
 refine dx ?_
 refine dr bF (cH (b := false) rfl rfl (by decide)) ?_
 simp only [pq]
 refine wn d8 ?_
 refine aF ?_
 refine aH ?_
 refine d7 _ _ ?_
 refine sk fun g9 d9 => ?_
 refine dx ?_
 refine aR d6 rfl (fn1 (SY _ _)) (oB PrC.mono (ID _ _ _ l (d6).sat (hT.at d6.gr.below) (hv.mono (c6.trans a7)) ok1)) ?_
 intro h0 h1 h2 e0 a5 e5
 obtain ⟨h3, h4, rfl, _⟩ := Sl.shape e5
 refine dx ?_
 refine EZ e0 rfl (fn2 (TA _ _)) (EY _ _ _ _ (cE l) n (e0).sat (hT.at e0.gr.below) e5 (hn.mono ((c6.trans a7).trans a5)) (IC ok1) ⟨hnn.1, by omega⟩) ?_
 intro h5 b2 b3 b4 b5 h6 h7 e6 a6 e1 e2
 simp only [pq]
 obtain ⟨c1, a4, rfl, h8, f1⟩ := (e6.own (i := 0) rfl).shape
 unfold maxLen at f1
 obtain ⟨h9, f2, a0, b9⟩ := St.freeze e6 (i := 0) rfl (zZe _)
 have b9 : Stps _ (.slice c1 ((aV (cE l) n).steps).length a4) ((aV (cE l) n).steps) := b9
 refine aC ?_
 refine sW 1 f2 (eK) fun i0 f3 => ?_
 refine dy ?_
 refine wn d9 ?_
 refine aE fun i1 c4 => ?_
 refine gC f3 (by kernel_rfl) (fun i2 b6 => ?_)
 refine dN 2 rfl b6.sat ?_
 simp only [pq]
 refine LA 0 1 (by kernel_rfl) rfl rfl ?_ ?_
 refine dR b6 1 Tryz.underlying52 (eK) ?_
 refine aG (cA b6.sat ?_)
 refine LA 1 3 (by kernel_rfl) rfl rfl ?_ ?_
 refine dR b6 0 Tryz.underlying52 (eK) ?_
 refine aG (cA b6.sat ?_)
 refine cW 3 (by kernel_rfl) rfl ?_
 refine sW 1 b6 (eK) fun i3 e7 => ?_
 simp only [pq]
 refine aG (cA e7.sat ?_)
 refine cW 4 (by kernel_rfl) rfl ?_
 refine sW 0 e7 (eK) fun i4 c7 => ?_
 refine aG (cA c7.sat ?_)
 refine eU 5 rfl c7.sat ?_
 simp only [pq]
 refine gX (by kernel_rfl) ?_
 refine c4 _ _ ?_
 refine aO ?_
 try simp only [xt]
 refine bR (IZ rfl ⟨_, rfl, jC (cs := [(.bool (aV (cE l) n).empty), (.slice c1 ((aV (cE l) n).steps).length a4), (.slice b2 (aV (cE l) n).pair.1.length b3), (.slice b4 (aV (cE l) n).pair.2.length b5)]) Tryz.underlying52 rfl (eK) (St.range c7 (i := 1) rfl 0 [(.bool (aV (cE l) n).empty), (.slice c1 ((aV (cE l) n).steps).length a4), (.slice b2 (aV (cE l) n).pair.1.length b3), (.slice b4 (aV (cE l) n).pair.2.length b5)] (dI 0 rfl))⟩ ⟨_, rfl, jC (cs := [(.bool (aV (bP l n) k).empty), (.slice c0 ((aV (bP l n) k).steps).length a1), (.slice a8 (aV (bP l n) k).pair.1.length a9), (.slice b0 (aV (bP l n) k).pair.2.length b1)]) Tryz.underlying52 rfl (eK) (St.range c7 (i := 0) rfl 0 [(.bool (aV (bP l n) k).empty), (.slice c0 ((aV (bP l n) k).steps).length a1), (.slice a8 (aV (bP l n) k).pair.1.length a9), (.slice b0 (aV (bP l n) k).pair.2.length b1)] (dI 0 rfl))⟩ (gD rfl)) ?_
 exact ⟨_, _, rfl, c7.gr, _, _, rfl, ⟨_, _, _, _, _, _, rfl, b9, (e1.mono a0), (e2.mono a0)⟩, ⟨_, _, _, _, _, _, rfl, (b7.mono ((a5.trans a6).trans a0)), (d4.mono (((a7.trans a5).trans a6).trans a0)), (d5.mono (((a7.trans a5).trans a6).trans a0))⟩⟩
 refine sW 1 b6 (eK) fun i5 d0 => ?_
 refine aG (cA d0.sat ?_)
 refine cW 1 (by kernel_rfl) rfl ?_
 refine dR d0 0 Tryz.underlying52 (eK) ?_
 refine aG (cA d0.sat ?_)
 refine cW 4 (by kernel_rfl) rfl ?_
 refine sW 0 d0 (eK) fun i6 c8 => ?_
 simp only [pq]
 refine aG (cA c8.sat ?_)
 refine eU 5 rfl c8.sat ?_
 simp only [pq]
 refine gX (by kernel_rfl) ?_
 refine c4 _ _ ?_
 refine aO ?_
 try simp only [xt]
 refine bR (IZ rfl ⟨_, rfl, jC (cs := [(.bool (aV (cE l) n).empty), (.slice c1 ((aV (cE l) n).steps).length a4), (.slice b2 (aV (cE l) n).pair.1.length b3), (.slice b4 (aV (cE l) n).pair.2.length b5)]) Tryz.underlying52 rfl (eK) (St.range c8 (i := 1) rfl 0 [(.bool (aV (cE l) n).empty), (.slice c1 ((aV (cE l) n).steps).length a4), (.slice b2 (aV (cE l) n).pair.1.length b3), (.slice b4 (aV (cE l) n).pair.2.length b5)] (dI 0 rfl))⟩ ⟨_, rfl, jC (cs := [(.bool (aV (bP l n) k).empty), (.slice c0 ((aV (bP l n) k).steps).length a1), (.slice a8 (aV (bP l n) k).pair.1.length a9), (.slice b0 (aV (bP l n) k).pair.2.length b1)]) Tryz.underlying52 rfl (eK) (St.range c8 (i := 0) rfl 0 [(.bool (aV (bP l n) k).empty), (.slice c0 ((aV (bP l n) k).steps).length a1), (.slice a8 (aV (bP l n) k).pair.1.length a9), (.slice b0 (aV (bP l n) k).pair.2.length b1)] (dI 0 rfl))⟩ (gD rfl)) ?_
 exact ⟨_, _, rfl, c8.gr, _, _, rfl, ⟨_, _, _, _, _, _, rfl, b9, (e1.mono a0), (e2.mono a0)⟩, ⟨_, _, _, _, _, _, rfl, (b7.mono ((a5.trans a6).trans a0)), (d4.mono (((a7.trans a5).trans a6).trans a0)), (d5.mono (((a7.trans a5).trans a6).trans a0))⟩⟩
 refine dR b6 0 Tryz.underlying52 (eK) ?_
 refine aG (cA b6.sat ?_)
 refine cW 0 (by kernel_rfl) rfl ?_
 refine dR b6 1 Tryz.underlying52 (eK) ?_
 refine aG (cA b6.sat ?_)
 refine cW 3 (by kernel_rfl) rfl ?_
 refine sW 1 b6 (eK) fun i7 e8 => ?_
 simp only [pq]
 refine aG (cA e8.sat ?_)
 refine cW 4 (by kernel_rfl) rfl ?_
 refine sW 0 e8 (eK) fun i8 c9 => ?_
 refine aG (cA c9.sat ?_)
 refine eU 5 rfl c9.sat ?_
 simp only [pq]
 refine gX (by kernel_rfl) ?_
 refine c4 _ _ ?_
 refine aO ?_
 try simp only [xt]
 refine bR (IZ rfl ⟨_, rfl, jC (cs := [(.bool (aV (cE l) n).empty), (.slice c1 ((aV (cE l) n).steps).length a4), (.slice b2 (aV (cE l) n).pair.1.length b3), (.slice b4 (aV (cE l) n).pair.2.length b5)]) Tryz.underlying52 rfl (eK) (St.range c9 (i := 1) rfl 0 [(.bool (aV (cE l) n).empty), (.slice c1 ((aV (cE l) n).steps).length a4), (.slice b2 (aV (cE l) n).pair.1.length b3), (.slice b4 (aV (cE l) n).pair.2.length b5)] (dI 0 rfl))⟩ ⟨_, rfl, jC (cs := [(.bool (aV (bP l n) k).empty), (.slice c0 ((aV (bP l n) k).steps).length a1), (.slice a8 (aV (bP l n) k).pair.1.length a9), (.slice b0 (aV (bP l n) k).pair.2.length b1)]) Tryz.underlying52 rfl (eK) (St.range c9 (i := 0) rfl 0 [(.bool (aV (bP l n) k).empty), (.slice c0 ((aV (bP l n) k).steps).length a1), (.slice a8 (aV (bP l n) k).pair.1.length a9), (.slice b0 (aV (bP l n) k).pair.2.length b1)] (dI 0 rfl))⟩ (gD rfl)) ?_
 exact ⟨_, _, rfl, c9.gr, _, _, rfl, ⟨_, _, _, _, _, _, rfl, b9, (e1.mono a0), (e2.mono a0)⟩, ⟨_, _, _, _, _, _, rfl, (b7.mono ((a5.trans a6).trans a0)), (d4.mono (((a7.trans a5).trans a6).trans a0)), (d5.mono (((a7.trans a5).trans a6).trans a0))⟩⟩

structure Tp where
  data : By
  synced : Nat
def iM (m : Cm) : By := b8 ((eX m.turn m.writes).length / 256) :: b8 (eX m.turn m.writes).length :: eX m.turn m.writes
def bZ (m : Cm) : By := iM m ++ (nP (iM m)).take 4
def dU (cs : List Cm) : By := cs.flatMap bZ
def kL (r : By) (k : Nat) : Option (Cm × Nat) :=
  if r.length < 2 then none else
  if 4000 < 2 + (r.getD 0 0).toNat * 256 + (r.getD 1 0).toNat ∨ r.length < 2 + (r.getD 0 0).toNat * 256 + (r.getD 1 0).toNat + 4 then none else
  if (nP (r.take (2 + (r.getD 0 0).toNat * 256 + (r.getD 1 0).toNat))).take 4 ≠ (r.drop (2 + (r.getD 0 0).toNat * 256 + (r.getD 1 0).toNat)).take 4 then none else
  if wR ((r.take (2 + (r.getD 0 0).toNat * 256 + (r.getD 1 0).toNat)).drop 2) ≠ 0 ∨ (uH ((r.take (2 + (r.getD 0 0).toNat * 256 + (r.getD 1 0).toNat)).drop 2)).turn ≠ k + 1 then none else
  some (uH ((r.take (2 + (r.getD 0 0).toNat * 256 + (r.getD 1 0).toNat)).drop 2), 2 + (r.getD 0 0).toNat * 256 + (r.getD 1 0).toNat + 4)
def tA : Nat → By → Nat → List Cm × Nat
  | 0, _, _ => ([], 0)
  | f + 1, r, k => match kL r k with
    | none => ([], 0)
    | some p => (p.1 :: (tA f (r.drop p.2) (k + 1)).1, p.2 + (tA f (r.drop p.2) (k + 1)).2)
def iT (d : By) : List Cm × Nat := tA d.length d 0
theorem IE {r : By} {k : Nat} (h : kL r k = none) (f : Nat) : tA f r k = ([], 0) := by
 cases f with
 | zero => rfl
 | succ f => rw [tA, h]
theorem IF {r : By} {k f : Nat} {p : Cm × Nat} (h : kL r k = some p) : tA (f + 1) r k = (p.1 :: (tA f (r.drop p.2) (k + 1)).1, p.2 + (tA f (r.drop p.2) (k + 1)).2) := by rw [tA, h]
theorem mU {m : Cm} (hm : CmOk m) : (iM m).length = 2 + (eX m.turn m.writes).length ∧ (iM m).length ≤ 596 ∧ 6 ≤ (iM m).length := by
 have := HY hm
 have h : (iM m).length = 2 + (eX m.turn m.writes).length := by simp [iM]; omega
 omega
theorem mV {m : Cm} (hm : CmOk m) : (bZ m).length = 6 + (eX m.turn m.writes).length ∧ (bZ m).length = (iM m).length + 4 := by
 have := mU hm
 have : (bZ m).length = (iM m).length + 4 := by
  unfold bZ
  rw [zZf, zZh, qR]
  omega
 omega
theorem NV {m : Cm} (hm : CmOk m) {t : By} : 2 + (((bZ m) ++ t).getD 0 0).toNat * 256 + (((bZ m) ++ t).getD 1 0).toNat = (iM m).length := by
 have h1 := HY hm
 have h2 := mU hm
 have e0 : ((bZ m) ++ t).getD 0 0 = b8 ((eX m.turn m.writes).length / 256) := by simp [bZ, iM]
 have e1 : ((bZ m) ++ t).getD 1 0 = b8 (eX m.turn m.writes).length := by simp [bZ, iM]
 rw [e0, e1, nD (by omega)]
 have : (b8 (eX m.turn m.writes).length).toNat = (eX m.turn m.writes).length % 256 := by simp [b8]
 omega
theorem NW {m : Cm} (hm : CmOk m) {t : By} {k : Nat} : kL (bZ m ++ t) k = if m.turn = k + 1 then some (m, (bZ m).length) else none := by
 have h2 := mU hm
 have h3 := mV hm
 have hl : (bZ m ++ t).length = (iM m).length + 4 + t.length := by rw [zZf]; omega
 have ht : (bZ m ++ t).take (iM m).length = iM m := by
  rw [show bZ m = iM m ++ (nP (iM m)).take 4 from rfl, zZl, List.take_left']
  rfl
 have hd : ((bZ m ++ t).drop (iM m).length).take 4 = (nP (iM m)).take 4 := by
  rw [show bZ m = iM m ++ (nP (iM m)).take 4 from rfl, zZl, List.drop_left' rfl, List.take_append_of_le_length (by rw [zZh, qR]; omega), List.take_take]
  simp
 have hb : (iM m).drop 2 = eX m.turn m.writes := rfl
 obtain ⟨d1, d2⟩ := ZM hm
 unfold kL
 rw [NV hm, zZa (by omega), zZa (by omega), ht, hd, zZa (by simp), hb, d1, d2]
 by_cases h : m.turn = k + 1
 ·rw [zZa (by simp [h]), zZb h, h3.2]
 ·rw [zZb (.inr h), zZa h]
theorem RG {m : Cm} (hm : CmOk m) {n k : Nat} (hn : n < (bZ m).length) : kL ((bZ m).take n) k = none := by
 have h2 := mU hm
 have h3 := mV hm
 unfold kL
 have hl : ((bZ m).take n).length = n := by rw [zZh]; omega
 rw [hl]
 by_cases h : n < 2
 ·rw [zZb h]
 ·rw [zZa h]
  have e : 2 + (((bZ m).take n).getD 0 0).toNat * 256 + (((bZ m).take n).getD 1 0).toNat = (iM m).length := by
   rw [← NV hm (t := [])]
   have q : ∀ i, i < 2 → ((bZ m).take n).getD i 0 = (bZ m ++ []).getD i 0 := by
    intro i hi
    rw [List.append_nil, List.getD_eq_getElem?_getD, List.getD_eq_getElem?_getD, List.getElem?_take_of_lt (by omega)]
   rw [q 0 (by omega), q 1 (by omega)]
  rw [e, zZb (.inr (by omega))]
theorem yS (a b : List Cm) : dU (a ++ b) = dU a ++ dU b := by simp [dU]
theorem Ai : ∀ (cs : List Cm) (f k : Nat) (t : By), (∀ c ∈ cs, CmOk c) → (∀ (i : Nat) (h : i < cs.length), cs[i].turn = k + i + 1) → kL t (k + cs.length) = none → (dU cs ++ t).length ≤ f → tA f (dU cs ++ t) k = (cs, (dU cs).length)
  | [], f, k, t, _, _, ht, _ => by
    rw [show dU ([] : List Cm) ++ t = t from rfl, IE (by simpa using ht)]
    rfl
  | c :: cs, f, k, t, hok, htn, ht, hf => by
    have hc := hok c (by simp)
    have h3 := mV hc
    have hb := mU hc
    have e : dU (c :: cs) ++ t = bZ c ++ (dU cs ++ t) := by simp [dU]
    have ht0 : c.turn = k + 1 := by have := htn 0 (by simp); simpa using this
    have hch := NW hc (t := dU cs ++ t) (k := k)
    rw [zZb ht0] at hch
    rw [e] at hf ⊢
    match f, hf with
    | 0, hf => rw [zZf] at hf; omega
    | f + 1, hf =>
      rw [IF hch]
      simp only
      rw [List.drop_left' rfl, Ai cs f (k + 1) t (fun x hx => hok x (by simp [hx])) (fun i hi => by have := htn (i + 1) (by simpa using hi); simp at this; omega) (by rw [show k + 1 + cs.length = k + (c :: cs).length from by simp; omega]; exact ht) (by rw [zZf] at hf; omega)]
      refine Prod.ext rfl ?_
      simp [dU]
def fY : List Cm → Nat → Nat
  | [], _ => 0
  | c :: cs, n => if (bZ c).length ≤ n then 1 + fY cs (n - (bZ c).length) else 0
theorem zT : ∀ (cs : List Cm) (n : Nat), fY cs n ≤ cs.length
  | [], _ => by simp [fY]
  | c :: cs, n => by
    unfold fY
    split
    · have := zT cs (n - (bZ c).length); simp; omega
    · simp
theorem zU : ∀ (cs : List Cm) (n k : Nat), (∀ c ∈ cs, CmOk c) → n ≤ (dU cs).length → ∃ t, (dU cs).take n = dU (cs.take (fY cs n)) ++ t ∧ (∀ k, kL t k = none) ∧ (t = [] ∨ fY cs n < cs.length) ∧ (n = (dU cs).length → fY cs n = cs.length)
  | [], n, k, _, _ => ⟨[], by simp [dU], fun k => by unfold kL; rw [zZb (by simp)], .inl rfl, fun _ => rfl⟩
  | c :: cs, n, k, hok, hn => by
    have hc := hok c (by simp)
    have h3 := mV hc
    have e : dU (c :: cs) = bZ c ++ dU cs := by simp [dU]
    rw [e, zZf] at hn
    by_cases hw : (bZ c).length ≤ n
    · obtain ⟨t, h1, h2, h4, h5⟩ := zU cs (n - (bZ c).length) k (fun x hx => hok x (by simp [hx])) (by omega)
      have ew : fY (c :: cs) n = fY cs (n - (bZ c).length) + 1 := by rw [fY, zZb hw]; omega
      refine ⟨t, ?_, h2, ?_, fun h => ?_⟩
      · rw [e, ew, List.take_succ_cons, show n = (bZ c).length + (n - (bZ c).length) from by omega, List.take_append]
        simp only [Nat.add_sub_cancel_left]
        rw [List.take_of_length_le (by omega), h1]
        simp [dU]
      · rw [ew, zZg]
        rcases h4 with h4 | h4
        · exact .inl h4
        · exact .inr (by omega)
      · rw [ew, zZg, h5 (by rw [e, zZf] at h; omega)]
    · have ew : fY (c :: cs) n = 0 := by rw [fY, zZa hw]
      refine ⟨(bZ c).take n, ?_, fun k => RG hc (by omega), ?_, fun h => ?_⟩
      · rw [e, ew, List.take_append_of_le_length (by omega)]
        simp [dU]
      · rw [ew]; exact .inr (by simp)
      · rw [e, zZf] at h; omega
theorem NX {m : Nat} {cs : List Cm} (hh : HistOk m cs) {n : Nat} (hn : n ≤ (dU cs).length) : iT ((dU cs).take n) = (cs.take (fY cs n), (dU (cs.take (fY cs n))).length) := by
 obtain ⟨t, h1, h2, _, _⟩ := zU cs n 0 hh.ok hn
 unfold iT
 rw [h1]
 refine Ai _ _ 0 t (fun c hc => hh.ok c (List.mem_of_mem_take hc)) (fun i hi => ?_) (h2 _) (zZe _)
 rw [List.getElem_take]
 have := hh.turn i (by rw [zZh] at hi; omega)
 omega
theorem sM {cs : List Cm} (hok : ∀ c ∈ cs, CmOk c) : (dU cs).length ≤ 600 * cs.length := by
 induction cs with
 | nil => simp [dU]
 | cons c cs ih =>
  have h3 := mV (hok c (by simp))
  have hb := mU (hok c (by simp))
  have := ih (fun x hx => hok x (by simp [hx]))
  have e : dU (c :: cs) = bZ c ++ dU cs := by simp [dU]
  rw [e, zZf, zZg]
  omega
theorem IG : ∀ (cs : List Cm) (n : Nat), (dU (cs.take (fY cs n))).length ≤ n
  | [], n => by simp [dU, fY]
  | c :: cs, n => by
    unfold fY
    split
    · rename_i h
      have := IG cs (n - (bZ c).length)
      rw [Nat.add_comm, List.take_succ_cons, show dU (c :: cs.take (fY cs (n - (bZ c).length))) = bZ c ++ dU (cs.take (fY cs (n - (bZ c).length))) from by simp [dU], zZf]
      omega
    · simp [dU]
theorem NY : ∀ (cs : List Cm) (k n : Nat), k ≤ cs.length → (dU (cs.take k)).length ≤ n → k ≤ fY cs n
  | _, 0, _, _, _ => Nat.zero_le _
  | [], k + 1, _, h, _ => by simp at h
  | c :: cs, k + 1, n, hk, h => by
    rw [List.take_succ_cons, show dU (c :: cs.take k) = bZ c ++ dU (cs.take k) from by simp [dU], zZf] at h
    rw [fY, zZb (by omega)]
    have := NY cs k (n - (bZ c).length) (by simpa using hk) (by omega)
    omega
theorem NZ (F : Fz) (w : World) (v : Value) (l : List UInt8) (hs : Sat w F) (hv : Bs F v l) (hm : l.length ≤ 100000) :
    Calls Tryz.prog 45 #[v] w (qJ w F 1 ByC 5 l) := by
 obtain ⟨a, c, rfl, hlc, hcm⟩ := hv.shape
 obtain ⟨i, hi, hz0, hz1, hz2⟩ := info_parts qG
 have hr := hv
 unfold Bs at hr
 have hnil := Lib.run_eql_slice_nil (P := Tryz.prog) w 25 5 a l.length c 0 0 Tryz.underlying25
 cases a with
 | none =>
  have hl : l = [] := by
   obtain ⟨a', c', h1, _, _, h4, _⟩ := hr
   cases h1
   exact List.eq_nil_of_length_eq_zero (h4 rfl).1
  subst hl
  simp only [zZj] at hnil
  go_enter Tryz.func45, Tryz.ntmps45
  go_wp2_with fail
  go_ret
  exact ⟨_, F, rfl, Gr.refl hs, Own.nil _ _⟩
 | some a =>
  have hown := World.ownsRow_lit (base := w.heap.size) (e := 5) (size := 1) w #[] 0 (zZe _) (Nat.zero_le _) rfl
  have hsa := hs.alloc (.cells #[] 5)
  go_enter Tryz.func45, Tryz.ntmps45
  go_wp2_with (at_builtin; go_loud (refine pR rfl _ _ 25 rfl w.heap.size 5 i (.int .u8 0) 1 1 Tryz.underlying25 hi hz0 hz1 hz2 rfl (by decide) rfl hown rfl hsa hr (by simp) (CK _) (by unfold maxLen; omega) (by omega) (by simp) ?_))
  intro v1 w1 hown1 hg _
  have hb : Below w.heap.size w w1 := ((Below.refl _ _).alloc (zZe _) _).grown hg (by simp) (fun g hg' => (hown.lt g hg').1)
  clear hg hown
  go_wp2_with fail
  go_ret
  refine ⟨_, F, rfl, Gr.of_below hs hb, ⟨l.map fun b => [bv b], ?_, sJ F l, by simp⟩, fun g hg => hs.out (hown1.lt g hg).1⟩
  rw [sI]
  simpa using hown1
def TpV (F : Fz) (v : Value) (t : Tp) : Prop := ∃ a c, v = .agg #[.slice a t.data.length c, .int .i64 (t.synced : Nat)] ∧ Bs F (.slice a t.data.length c) t.data
def UA (w : World) (F : Fz) (t : Tp) (e : Ending) (w' : World) : Prop := ∃ v F', e = .returned (.tuple #[.agg #[v, .int .i64 (t.synced : Nat)], .bool true]) ∧ Gr w F w' F' ∧ Own 1 ByC 5 w.heap.size w' F' v t.data
theorem vJ {P : Program} {ops : Array Oper} {Q : Exit → Act → World → Prop} {a : Act} {rest : List Oper} {o : Oper} {kf : FuncId} {vs : Array Value} {w0 w : World} {F0 F : Fz} {L : List Blk} {M : List RowP} {t : Tp} (S : St w0 F0 w F L M) (hw : Region.wanted o (yielded ops a.tmps) = true)
    (hr : (execOp a.eval o).run P w = .ok (.enter kf vs) w) (hc : Calls P kf vs w (UA w F t))
    (h : ∀ v w' F', St w0 F0 w' F' L (cU 1 ByC ByC.mono 5 w0.heap.size v t.data :: M) → Le F F' → WL P ops Q rest (a.put o.dst (.tuple #[.agg #[v, .int .i64 (t.synced : Nat)], .bool true])) w') : WL P ops Q (o :: rest) a w :=
  doC hw hr hc fun e w' ⟨v, F', he, g, ho⟩ => ⟨_, he, h v w' F' (S.addRow g ho) (g.le S.sat)⟩
structure TpOk (n : Nat) (t : Tp) : Prop where
  len : t.data.length ≤ n
  syn : t.synced ≤ t.data.length
def Eu (t : Tp) (e : Int) (F : Fz) (u : Value) : Prop := ∃ v, u = .tuple #[v, .int .i64 e] ∧ TpV F v t
def Aj (w : World) (F G : Fz) : Fz := fun b => if b < w.heap.size then F b else G b
theorem Gr.mix {w w' : World} {F F1 G : Fz} (hl : Le F F1) (h : Gr w F1 w' G) (hs : Sat w F) : Gr w F w' (Aj w F G) := by
 refine ⟨h.below, fun b hb => by unfold Aj; rw [zZb hb], fun b o hb => ?_⟩
 unfold Aj at hb
 split at hb
 rename_i hlt
 exact h.sat b o (by rw [h.old b hlt]; exact hl b o hb)
 exact h.sat b o hb
theorem ByC.mix {base E : Nat} {w w' : World} {F G : Fz} {v : Value} {l : By} (h : Own 1 ByC E base w' G v l) (hb : w.heap.size ≤ base) : Own 1 ByC E base w' (Aj w F G) v l := by
 obtain ⟨el, h1, h2, h3⟩ := h.ex
 refine ⟨⟨el, h1, h2.imp fun x p hx => hx, h3⟩, fun g hg => ?_⟩
 unfold Aj
 rw [zZa (by have := (h.lt g hg).1; omega)]
 exact h.out g hg
def GivesSum (w : World) (F : Fz) (b : By) (e : Ending) (w' : World) : Prop := ∃ v F', e = .returned (.tuple #[v, .int .i64 0]) ∧ Gr w F w' F' ∧ Own 1 ByC 5 w.heap.size w' F' v (nP b)
theorem GivesSum.mix {w w' : World} {F F1 : Fz} {b : By} {e : Ending} (hs : Sat w F) (hl : Le F F1) (h : GivesSum w F1 b e w') : GivesSum w F b e w' := by
 obtain ⟨v, F', he, g, ho⟩ := h
 exact ⟨v, _, he, g.mix hl hs, ByC.mix ho (zZe _)⟩
theorem RH {P : Program} {ops : Array Oper} {Q : Exit → Act → World → Prop} {a : Act} {rest : List Oper} {o : Oper} {kf : FuncId} {vs : Array Value} {w0 w : World} {F0 F F1 : Fz} {L : List Blk} {M : List RowP} {b : By} (S : St w0 F0 w F L M) (hl : Le F F1) (hw : Region.wanted o (yielded ops a.tmps) = true)
    (hr : (execOp a.eval o).run P w = .ok (.enter kf vs) w) (hc : Calls P kf vs w (GivesSum w F1 b))
    (h : ∀ v w' F', St w0 F0 w' F' L (cU 1 ByC ByC.mono 5 w0.heap.size v (nP b) :: M) → Le F F' → WL P ops Q rest (a.put o.dst (.tuple #[v, .int .i64 0])) w') : WL P ops Q (o :: rest) a w :=
  doC hw hr hc fun e w' hg => by
    obtain ⟨v, F', he, g, ho⟩ := GivesSum.mix S.sat hl hg
    exact ⟨_, he, h v w' F' (S.addRow g ho) (g.le S.sat)⟩
theorem Ev (F : Fz) (w : World) (v : Value) (b : By) (hs : Sat w F) (hT : Tabs w) (hb : Bs F v b) (hn : b.length ≤ 4000) :
    Calls Tryz.prog 96 #[v] w (GivesSum w F b) := by
 obtain ⟨x, y, rfl, hc1', hc2'⟩ := hb.shape
 unfold maxLen at hc2'
 have S := St.start hs
 go_enter Tryz.func96, Tryz.ntmps96
 refine sk fun K1 hK1 => ?_
 iterate 2 refine dy ?_
 refine wn hK1 ?_
 refine aE fun K2 hK2 => ?_
 refine sk fun K3 hK3 => ?_
 refine aC ?_
 refine lS ?_
 simp only [pq]
 refine wn hK3 ?_
 refine aF ?_
 refine aH ?_
 refine hK2 _ _ ?_
 refine sk fun K4 hK4 => ?_
 refine dx ?_
 refine kR ByC.mono S rfl (fn1 (JN _ _)) (TY _ _ _ b (S).sat (hT.at S.gr.below) hb (by omega)) ?_
 intro v9 w5 F7 S6 le8
 refine aC ?_
 refine wn hK4 ?_
 refine aO ?_
 try simp only [xt]
 refine bR (cI rfl (gD rfl) (gD rfl)) ?_
 exact ⟨_, _, rfl, S6.gr, St.own (i := 0) S6 rfl⟩
theorem vK (F : Fz) (w : World) (v : Value) (t : Tp) (hs : Sat w F) (hv : TpV F v t) (ok : TpOk 100000 t) :
    Calls Tryz.prog 95 #[v] w (UA w F t) := by
 obtain ⟨x, y, rfl, hv⟩ := hv
 have h1 := ok.len
 have h2 := ok.syn
 have S := St.start hs
 go_enter Tryz.func95, Tryz.ntmps95
 refine sk fun K1 hK1 => ?_
 refine bH S (v := fun n => .pointer (aA n 0)) rfl (bX (v := (.agg #[(.slice x t.data.length y), (nI t.synced)])) rfl) (fun n2 w3 S4 => ?_)
 refine sA S4 (jT _) fun n5 w6 S7 => ?_
 refine dy ?_
 refine wn hK1 ?_
 refine aE fun K8 hK8 => ?_
 refine sk fun K9 hK9 => ?_
 refine aC ?_
 refine eM ?_
 refine aC ?_
 refine lS ?_
 refine aC ?_
 refine lS ?_
 refine dp ?_
 refine wn hK9 ?_
 refine aF ?_
 refine aH ?_
 refine hK8 _ _ ?_
 refine aE fun b3 a6 => ?_
 obtain ⟨b1, a7, a3⟩ := St.freezeBlk S7 (i := 1) rfl
 generalize addF F w6 n2 = b4 at *
 refine gC b1 (by kernel_rfl) (fun b5 a2 => ?_)
 refine bW 0 rfl _ a2.sat (fun _ _ => ef (kS _ _)) ?_
 simp only [pq]
 refine bW 1 rfl _ a2.sat (fun _ a8 => aD rfl (aQ (aZ _) (St.fz (St.start a8) (a3 0 _ rfl)))) ?_
 simp only [pq]
 refine bW 3 rfl _ a2.sat (fun _ _ => ef (nE _ _)) ?_
 simp only [pq]
 refine bW 4 rfl _ a2.sat (fun _ a9 => aD rfl (aQ (bM _) (St.fz (St.start a9) (a3 1 _ rfl)))) ?_
 simp only [pq]
 refine cW 2 (by kernel_rfl) rfl ?_
 refine kR ByC.mono a2 rfl (fn1 (gM _ _)) (NZ _ _ _ t.data (a2).sat (hv.mono a7) (by omega)) ?_
 intro b6 b7 b9 a5 a0
 simp only [pq]
 obtain ⟨b0, a1, rfl, c0, b2⟩ := (a5.own (i := 0) rfl).shape
 unfold maxLen at b2
 refine aG (cA (Sat.le a5.sat a0) ?_)
 refine bW 5 rfl (.agg #[(.slice b0 t.data.length a1), (nI t.synced)]) (Sat.le a5.sat a0) (fun _ _ => aK (ps := #[(0, (.slice b0 t.data.length a1)), (1, (nI t.synced))]) (fD rfl rfl) (by kernel_rfl)) ?_
 simp only [pq]
 refine cW 6 (by kernel_rfl) rfl ?_
 refine sW 0 a5 (cD) fun c1 a4 => ?_
 refine aG (cA (Sat.le a4.sat a0) ?_)
 refine eU 7 rfl (Sat.le a4.sat a0) ?_
 simp only [pq]
 refine gX (by kernel_rfl) ?_
 refine a6 _ _ ?_
 refine aO ?_
 try simp only [xt]
 refine bR (dM rfl ⟨_, rfl, lR a4 0 Tryz.underlying108 (cD)⟩ (gD rfl)) ?_
 exact ⟨_, _, rfl, a4.gr, St.own (i := 0) a4 rfl⟩
theorem WQ (F : Fz) (w : World) (v : Value) (t : Tp) (hs : Sat w F) (hv : TpV F v t) (ok : TpOk 100000 t) :
    Calls Tryz.prog 82 #[v] w (dF w F (Eu ⟨t.data, t.data.length⟩ 0)) := by
 obtain ⟨x, y, rfl, hv⟩ := hv
 have h1 := ok.len
 have h2 := ok.syn
 have S := St.start hs
 go_enter Tryz.func82, Tryz.ntmps82
 refine sk fun K1 hK1 => ?_
 refine bH S (v := fun n => .pointer (aA n 0)) rfl (bX (v := (.agg #[(.slice x t.data.length y), (nI t.synced)])) rfl) (fun n2 w3 S4 => ?_)
 refine sA S4 (jT _) fun n5 w6 S7 => ?_
 refine dy ?_
 refine wn hK1 ?_
 refine sk fun K8 hK8 => ?_
 refine dR S7 1 Tryz.underlying108 (cD) ?_
 simp only [pq]
 refine vJ S7 rfl (fn1 (KC _ _)) (vK _ _ _ t (S7).sat ⟨_, _, rfl, hv⟩ (⟨by omega, ok.syn⟩)) ?_
 intro v9 b7 b9 a6 a9
 simp only [pq]
 obtain ⟨b0, a1, rfl, c0, b1⟩ := (a6.own (i := 0) rfl).shape
 unfold maxLen at b1
 refine aC ?_
 refine sA a6 (jT _) fun c1 c2 b2 => ?_
 refine sW 0 b2 (cD) fun c3 b3 => ?_
 refine dy ?_
 simp only [pq]
 refine wn hK8 ?_
 refine aE fun c4 a2 => ?_
 refine sk fun c5 a3 => ?_
 refine aC ?_
 refine wn a3 ?_
 refine aF ?_
 refine aH ?_
 refine a2 _ _ ?_
 refine aE fun c6 a4 => ?_
 obtain ⟨c7, b4, b5, a0⟩ := St.freeze b3 (i := 0) rfl (zZe _)
 have a0 : Bys _ (.slice b0 t.data.length a1) t.data := a0
 have b6 := eF a0
 refine aB ?_
 refine aC ?_
 refine sW 0 b4 (qK) fun c8 a7 => ?_
 refine wlK a4 ?_
 refine sk fun c9 a5 => ?_
 refine dR a7 0 Tryz.underlying108 (cD) ?_
 simp only [pq]
 refine sW 1 a7 (cD) fun d0 a8 => ?_
 refine dy ?_
 refine wn a5 ?_
 refine aO ?_
 try simp only [xt]
 refine bR (dM rfl ⟨_, rfl, lR a8 1 Tryz.underlying108 (cD)⟩ (gD rfl)) ?_
 exact ⟨_, _, rfl, a8.gr, _, rfl, _, _, rfl, b6⟩
def cO (t : Tp) (k : Nat) : Nat := t.synced + min k (t.data.length - t.synced)
theorem RI (F : Fz) (w : World) (v : Value) (t : Tp) (k : Nat) (hs : Sat w F) (hv : TpV F v t) (ok : TpOk 100000 t) (hk : k ≤ 100000) :
    Calls Tryz.prog 83 #[v, .int .i64 (k : Nat)] w (dF w F (Eu ⟨t.data.take (cO t k), cO t k⟩ 0)) := by
 obtain ⟨x, y, rfl, hv⟩ := hv
 have h1 := ok.len
 have h2 := ok.syn
 have S := St.start hs
 go_enter Tryz.func83, Tryz.ntmps83
 refine sk fun K1 hK1 => ?_
 refine bH S (v := fun n => .pointer (aA n 0)) rfl (bX (v := (.agg #[(.slice x t.data.length y), (nI t.synced)])) rfl) (fun n2 w3 S4 => ?_)
 refine sA S4 (jT _) fun n5 w6 S7 => ?_
 refine dy ?_
 refine wn hK1 ?_
 refine sk fun K8 hK8 => ?_
 refine dR S7 1 Tryz.underlying108 (cD) ?_
 simp only [pq]
 refine vJ S7 rfl (fn1 (KC _ _)) (vK _ _ _ t (S7).sat ⟨_, _, rfl, hv⟩ (⟨by omega, ok.syn⟩)) ?_
 intro v9 b9 c0 a8 b0
 simp only [pq]
 obtain ⟨a2, a1, rfl, c1, b1⟩ := (a8.own (i := 0) rfl).shape
 unfold maxLen at b1
 refine aC ?_
 refine sA a8 (jT _) fun c2 c3 b2 => ?_
 refine sW 0 b2 (cD) fun c4 b3 => ?_
 refine dy ?_
 simp only [pq]
 refine wn hK8 ?_
 refine aE fun c5 a3 => ?_
 refine aN ?_
 refine sk fun c6 a4 => ?_
 refine aC ?_
 refine wn a4 ?_
 refine aF ?_
 refine sk fun c7 a5 => ?_
 refine dx ?_
 refine eM ?_
 refine dy ?_
 simp only [pq]
 refine wn a5 ?_
 refine aF ?_
 refine aH ?_
 refine a3 _ _ ?_
 refine aE fun c8 a6 => ?_
 obtain ⟨c9, b4, b5, a0⟩ := St.freeze b3 (i := 0) rfl (zZe _)
 have a0 : Bys _ (.slice a2 t.data.length a1) t.data := a0
 have b6 := eF a0
 refine aB ?_
 refine aC ?_
 refine dr (nI (t.data.length - t.synced)) (rU (m := ((t.data.length : Nat) : Int)) (n := ((t.synced : Nat) : Int)) (r := (((t.data.length - t.synced) : Nat) : Int)) rfl rfl (by omega) (by omega) (by omega)) ?_
 simp only [pq]
 refine dr (nI (min k (t.data.length - t.synced))) (wG (m := ((k : Nat) : Int)) (n := (((t.data.length - t.synced) : Nat) : Int)) (r := (((min k (t.data.length - t.synced)) : Nat) : Int)) rfl rfl (by omega)) ?_
 refine cR (((t.synced + (min k (t.data.length - t.synced))) : Nat) : Int) ?_
 refine dy ?_
 simp only [pq]
 refine wlK a6 ?_
 refine sk fun d0 a7 => ?_
 refine aC ?_
 have b7 : Bs _ (.slice a2 (t.synced + (min k (t.data.length - t.synced))) (t.synced + (min k (t.data.length - t.synced)))) (t.data.take (t.synced + (min k (t.data.length - t.synced)))) := Bs.cut b6 (by omega)
 refine dr (.slice a2 (t.synced + (min k (t.data.length - t.synced))) (t.synced + (min k (t.data.length - t.synced)))) (iW (h := (t.synced + (min k (t.data.length - t.synced)))) (m := (t.synced + (min k (t.data.length - t.synced)))) (sz := 1) Tryz.underlying25 rfl (bO _) rfl rfl (by omega) (by omega) rfl) ?_
 refine dx ?_
 refine dr (.agg #[(.slice a2 (t.synced + (min k (t.data.length - t.synced))) (t.synced + (min k (t.data.length - t.synced)))), (.int .i64 (((t.synced + (min k (t.data.length - t.synced))) : Nat) : Int))]) (aK (fD rfl rfl) (by kernel_rfl)) ?_
 simp only [pq]
 refine sW 1 b4 (cD) fun d1 a9 => ?_
 refine dy ?_
 refine wn a7 ?_
 refine aO ?_
 try simp only [xt]
 refine bR (dM rfl ⟨_, rfl, lR a9 1 Tryz.underlying108 (cD)⟩ (gD rfl)) ?_
 exact ⟨_, _, rfl, a9.gr, _, rfl, _, _, by rw [zZh, Nat.min_eq_left (show cO t k ≤ t.data.length by unfold cO; omega)]; rfl, by rw [zZh, Nat.min_eq_left (show cO t k ≤ t.data.length by unfold cO; omega)]; exact b7⟩
theorem OA (F : Fz) (w : World) (v u : Value) (t : Tp) (m : Cm) (hs : Sat w F) (hT : Tabs w) (hv : TpV F v t) (hc : CmV F u m) (ok : TpOk 90000 t) (hm : CmOk m) :
    Calls Tryz.prog 110 #[v, u] w (dF w F (Eu ⟨t.data ++ bZ m, t.synced⟩ 0)) := by
 obtain ⟨x, y, rfl, hv⟩ := hv
 have h1' := ok.len
 have h2' := ok.syn
 obtain ⟨x1, y1, rfl, h1⟩ := hc
 obtain ⟨_, _, e1, q2, q3⟩ := Sl.shape h1
 injection e1 with _ _ e1
 subst e1
 unfold maxLen at q3
 obtain ⟨i5, hi5, hz5, hs5, hb5⟩ := info_parts qG
 have S := St.start hs
 go_enter Tryz.func110, Tryz.ntmps110
 refine sk fun K1 hK1 => ?_
 refine bH S (v := fun n => .pointer (aA n 0)) rfl (bX (v := (.agg #[(.slice x t.data.length y), (nI t.synced)])) rfl) (fun n2 w3 S4 => ?_)
 refine bH S4 (v := fun n => .pointer (aA n 0)) rfl (bX (v := (.agg #[(nI m.turn), (.slice x1 m.writes.length y1)])) rfl) (fun n5 w6 S7 => ?_)
 simp only [pq]
 refine sA S7 (jT _) fun n8 w9 a9 => ?_
 refine dy ?_
 refine wn hK1 ?_
 refine sk fun h3 b0 => ?_
 refine dR a9 2 Tryz.underlying108 (cD) ?_
 simp only [pq]
 refine vJ a9 rfl (fn1 (KC _ _)) (vK _ _ _ t (a9).sat ⟨_, _, rfl, hv⟩ (⟨by omega, ok.syn⟩)) ?_
 intro h5 h6 h7 d7 b1
 simp only [pq]
 obtain ⟨d8, a1, rfl, h8, e9⟩ := (d7.own (i := 0) rfl).shape
 unfold maxLen at e9
 refine aC ?_
 refine sA d7 (jT _) fun f0 h9 f1 => ?_
 refine sW 0 f1 (cD) fun i0 b2 => ?_
 refine dy ?_
 simp only [pq]
 refine wn b0 ?_
 refine aE fun i1 b3 => ?_
 refine sk fun i2 b4 => ?_
 refine aC ?_
 refine wn b4 ?_
 refine aF ?_
 refine aH ?_
 refine b3 _ _ ?_
 refine sk fun i3 b5 => ?_
 refine dR b2 2 Tryz.underlying168 (fA) ?_
 simp only [pq]
 refine aR b2 rfl (fn1 (Dt _ _)) (NB _ _ _ (⟨m.turn, m.writes⟩ : Cm) (b2).sat ⟨_, _, rfl, (h1.mono b1)⟩ hm) ?_
 intro i4 i6 f2 f3 f4 f5
 obtain ⟨_, rfl, a7⟩ := f5
 obtain ⟨d9, b6, rfl, e0, _⟩ := a7.shape
 have e0 : (eX m.turn m.writes).length ≤ b6 := e0
 have a7 : Bs _ (.slice d9 (eX m.turn m.writes).length b6) (eX m.turn m.writes) := a7
 refine aC ?_
 refine wn b5 ?_
 refine aE fun i7 b7 => ?_
 refine sk fun i8 b9 => ?_
 refine dx ?_
 refine dr bF (cH (b := false) rfl rfl (by decide)) ?_
 simp only [pq]
 refine wn b9 ?_
 refine aF ?_
 refine aH ?_
 refine b7 _ _ ?_
 refine aE fun i9 c0 => ?_
 obtain ⟨hb1, hb2, hb3⟩ := mU hm
 obtain ⟨hf1, hf2⟩ := mV hm
 refine aB ?_
 refine aC ?_
 refine dr (nI ((eX m.turn m.writes).length / 256)) (CC (m := ((eX m.turn m.writes).length)) (n := 8) rfl rfl (by decide)) ?_
 simp only [pq]
 refine dr (bv (b8 ((eX m.turn m.writes).length / 256))) (aU (v := (nI ((eX m.turn m.writes).length / 256))) rfl (iZ ((eX m.turn m.writes).length / 256) _)) ?_
 refine aC ?_
 refine dr (bv (b8 ((eX m.turn m.writes).length))) (aU (v := (.int .i64 (((eX m.turn m.writes).length : Nat) : Int))) rfl (iZ ((eX m.turn m.writes).length) _)) ?_
 refine bH f3 (v := fun n => .slice (aA n 0) 2 2) rfl (cN (ps := #[(0, (bv (b8 ((eX m.turn m.writes).length / 256)))), (1, (bv (b8 ((eX m.turn m.writes).length))))]) (cells := #[(bv (b8 ((eX m.turn m.writes).length / 256))), (bv (b8 ((eX m.turn m.writes).length)))]) (E := 5) (fD rfl rfl) (fun w => by kernel_rfl)) (fun f6 f7 e2 => ?_)
 refine dx ?_
 simp only [pq]
 have c1 : St w F f7 f2 [⟨f0, [(.slice d8 t.data.length a1), (nI t.synced)], 108⟩, ⟨n8, [Zn, (iI 0)], 108⟩, ⟨n5, [(nI m.turn), (.slice x1 m.writes.length y1)], 168⟩, ⟨n2, [(.slice x t.data.length y), (nI t.synced)], 108⟩] [cU 1 ByC ByC.mono 5 w.heap.size (.slice (aA f6 0) 2 2) [b8 ((eX m.turn m.writes).length / 256), b8 (eX m.turn m.writes).length], cU 1 ByC ByC.mono 5 w.heap.size (.slice d8 t.data.length a1) t.data] := St.blkRow (k := 1) (l := [b8 ((eX m.turn m.writes).length / 256), b8 (eX m.turn m.writes).length]) (el := [[(bv (b8 ((eX m.turn m.writes).length / 256)))], [(bv (b8 ((eX m.turn m.writes).length)))]]) (hR := ByC.mono) e2 rfl ⟨rfl, rfl, trivial⟩ (by simp) rfl (by simp) (by unfold maxLen; decide) (e2.blk _ (List.mem_cons_self ..)).2.2
 refine eH (r := 0) (u := (.slice d9 (eX m.turn m.writes).length b6)) c1 rfl i5 (.int .u8 0) 1 Tryz.underlying25 hi5 hz5 hs5 hb5 rfl (by decide) rfl rfl rfl (Sl.toW (Bs.sl a7) (c1).sat) ByC.one (zZe _) c1.gr.below.size (by unfold maxLen; (try simp only [zZf, zZg, zZj]); omega) (by (try simp only [zZf, zZg, zZj]); omega) ?_
 intro j0 j1 c2 f8
 refine dy ?_
 refine wlK c0 ?_
 refine sk fun j2 c3 => ?_
 refine dx ?_
 simp only [pq]
 obtain ⟨j3, c4, c5, a5⟩ := oR c2 (i := 0) rfl
 refine RH c2 c5 rfl (fn1 (YW _ _)) (Ev _ _ _ (iM m) c4 (hT.at c2.gr.below) (eF a5) (by omega)) ?_
 intro f9 j4 j5 g0 g1
 refine aC ?_
 refine wn c3 ?_
 refine aE fun j6 c6 => ?_
 obtain ⟨j7, c7, g2, a3⟩ := St.freeze g0 (i := 0) rfl (zZe _)
 have a3 : Bys _ f9 (nP (iM m)) := a3
 have c8 := eF a3
 obtain ⟨c9, a8, rfl, _⟩ := c8.shape
 have hsl := qR (iM m)
 have h4 : ((nP (iM m)).take 4).length = 4 := by rw [zZh, hsl]; rfl
 have hcs : 32 ≤ a8 := by obtain ⟨_, _, e, q, _⟩ := c8.shape; injection e with _ _ e; omega
 refine aB ?_
 refine aC ?_
 have g3 : Bs _ (.slice c9 4 a8) ((nP (iM m)).take 4) := eF (Sl.takeN (Bs.sl c8) (by rw [qR]; decide))
 refine dr (.slice c9 4 a8) (bD (l := 0) (h := 4) (sz := 1) Tryz.underlying25 rfl (bO _) (.inl ⟨rfl, rfl⟩) (.inr ⟨_, rfl, rfl⟩) (by omega) (by omega) (eZ)) ?_
 refine eH (r := 0) (u := (.slice c9 4 a8)) c7 rfl i5 (.int .u8 0) 1 Tryz.underlying25 hi5 hz5 hs5 hb5 rfl (by decide) rfl rfl rfl (Sl.toW (Bs.sl g3) (c7).sat) ByC.one (zZe _) c7.gr.below.size (by unfold maxLen; (try simp only [zZf, zZg, zZj]); omega) (by (try simp only [zZf, zZg, zZj]); omega) ?_
 intro j8 j9 e3 g4
 refine dy ?_
 refine wlK c6 ?_
 refine aE fun k0 d0 => ?_
 refine aE fun k1 d1 => ?_
 obtain ⟨e4, a2, rfl, k2, g5⟩ := (e3.own (i := 0) rfl).shape
 unfold maxLen at g5
 refine aB ?_
 refine aC ?_
 refine dr (nI (t.data.length + (bZ m).length)) (gG (m := ((t.data.length : Nat) : Int)) (n := (((bZ m).length : Nat) : Int)) (r := (((t.data.length + (bZ m).length) : Nat) : Int)) rfl rfl (by omega) (by omega) (by omega)) ?_
 simp only [pq]
 refine lS ?_
 refine wlK d1 ?_
 refine aF ?_
 refine aH ?_
 refine d0 _ _ ?_
 refine aE fun k3 d2 => ?_
 obtain ⟨k4, d3, g6, a4⟩ := St.freeze e3 (i := 0) rfl (zZe _)
 have a4 : Bys _ (.slice e4 (bZ m).length a2) (bZ m) := a4
 have g7 := eF a4
 refine aB ?_
 refine aC ?_
 refine eH (r := 0) (u := (.slice e4 (bZ m).length a2)) d3 rfl i5 (.int .u8 0) 1 Tryz.underlying25 hi5 hz5 hs5 hb5 rfl (by decide) rfl rfl rfl (Sl.toW (Bs.sl g7) (d3).sat) ByC.one (zZe _) d3.gr.below.size (by unfold maxLen; (try simp only [zZf, zZg, zZj]); omega) (by (try simp only [zZf, zZg, zZj]); omega) ?_
 intro k5 k6 e5 g8
 simp only [pq]
 obtain ⟨g9, a6, rfl, k7, h0⟩ := (e5.own (i := 0) rfl).shape
 unfold maxLen at h0
 refine df (kS _ _) ?_
 refine sW 0 e5 (kX) fun k8 e6 => ?_
 refine wlK d2 ?_
 refine sk fun k9 d4 => ?_
 refine dR e6 0 Tryz.underlying108 (cD) ?_
 simp only [pq]
 refine sW 1 e6 (cD) fun l0 e7 => ?_
 refine dy ?_
 refine wn d4 ?_
 refine aO ?_
 try simp only [xt]
 refine bR (dM rfl ⟨_, rfl, lR e7 1 Tryz.underlying108 (cD)⟩ (gD rfl)) ?_
 ·obtain ⟨h2, d5, e8, a0⟩ := St.freeze e7 (i := 0) rfl (zZe _)
  have a0 : Bys _ (.slice g9 (t.data ++ (bZ m)).length a6) (t.data ++ (bZ m)) := a0
  have d6 := eF a0
  exact ⟨_, _, rfl, d5.gr, _, rfl, _, _, rfl, d6⟩
theorem Ix (a b : UInt8) : ((a.toNat : Int) != (b.toNat : Int)) = (a != b) := by
 by_cases h : a = b
 ·subst h; simp
 ·have : (a.toNat : Int) ≠ (b.toNat : Int) := fun e => h (UInt8.toNat_inj.1 (by omega))
  rw [bne_iff_ne.2 this, bne_iff_ne.2 h]
theorem WR {l m : By} {k : Nat} {x y : UInt8} (h : l.take k = m.take k) (hx : l[k]? = some x) (hy : m[k]? = some y) (e : (x != y) = false) : l.take (k + 1) = m.take (k + 1) := by
 rw [fB hx, fB hy, h, bne_eq_false_iff_eq.1 e]
theorem RJ {l m : By} {k : Nat} (h : l.take k = m.take k) (h1 : l.length ≤ k) (h2 : m.length ≤ k) : l = m := by
 rwa [List.take_of_length_le h1, List.take_of_length_le h2] at h
theorem WS {l m : By} {k : Nat} {x y : UInt8} (hx : l[k]? = some x) (hy : m[k]? = some y) (e : (x != y) = true) : l ≠ m := fun h => by
  subst h; rw [hx] at hy; cases hy; simp at e
theorem rH (F : Fz) (w : World) (v u : Value) (l m : By) (hs : Sat w F) (hv : Bs F v l) (hu : Bs F u m) :
    Calls Tryz.prog 97 #[v, u] w (cT w (.bool (l == m))) := by
 obtain ⟨x, y, rfl, q1, q2⟩ := hv.shape
 obtain ⟨z, q, rfl, q3, q4⟩ := hu.shape
 unfold maxLen at q2 q4
 have S := St.start hs
 go_enter Tryz.func97, Tryz.ntmps97
 refine sk fun K1 hK1 => ?_
 refine dy ?_
 refine wn hK1 ?_
 refine aE fun K2 hK2 => ?_
 refine sk fun K3 hK3 => ?_
 refine aC ?_
 by_cases a3 : l.length = m.length
 refine jJ ?_
 refine wn hK3 ?_
 refine aF ?_
 refine aH ?_
 refine hK2 _ _ ?_
 refine aE fun K4 hK4 => ?_
 refine sk fun K5 hK5 => ?_
 refine aC ?_
 refine wn hK5 ?_
 refine aN ?_
 refine aX (fun mm aa w7 => ∃ (k : Nat) (u6 : Nat → Value), mm = l.length - k ∧ u6 = dX aa ∧ aa = ⟨([(.slice x l.length y), (.slice z m.length q), undef, undef, (u6 4), (u6 5), (.slice x l.length y), (nI l.length), (.slice z m.length q), (nI m.length), bF, (.slice x l.length y), (nI l.length), (nI k)] ++ (usF u6 14 12 [])).toArray, []⟩ ∧ St w F w7 F [] [] ∧ (k ≤ l.length) ∧ (l.take k = m.take k)) _ ⟨0, _, rfl, rfl, rfl, S, (by omega), rfl⟩ ?_
 rintro m8 a9 c8 ⟨k, u6, rfl, -, hfr, a2, hk, hkk⟩ c9 a4
 simp only [uzF, Nat.reduceAdd] at hfr; subst hfr
 refine sk fun d0 a1 => ?_
 by_cases a5 : k < l.length
 refine eS ?_
 refine wn a1 ?_
 refine aE fun d1 a6 => ?_
 refine aI ?_
 refine aH ?_
 refine a6 _ _ ?_
 refine aE fun d2 a7 => ?_
 refine aN ?_
 refine sk fun d3 a8 => ?_
 refine aC ?_
 refine wn a8 ?_
 refine aE fun d4 b0 => ?_
 obtain ⟨x1, hx1⟩ : ∃ p, l[k]? = some p := ⟨l[k], zZc a5⟩
 obtain ⟨y1, hy1⟩ : ∃ p, m[k]? = some p := ⟨m[k]'(by omega), zZc (by omega)⟩
 obtain ⟨c1, c2, b1, c3⟩ := Bs.get hv hx1
 obtain ⟨c4, c5, b2, c6⟩ := Bs.get hu hy1
 refine aP F 8 [] (by kernel_rfl) (by kernel_rfl) ?_
 simp only [dA]
 iterate 2 refine gm ?_
 refine gv (pP c1 (c2 + k * 1)) (fun _ _ => bN (i := k) (sz := 1) Tryz.underlying25 (bO _) rfl b1 rfl (by omega) rfl) ?_
 simp only [pq]
 refine gv _ (fun _ b3 => aD rfl (aQ (jR _) (St.fz (St.tells a2 b3) c3))) ?_
 iterate 2 refine gm ?_
 simp only [pq]
 refine gv (pP c4 (c5 + k * 1)) (fun _ _ => bN (i := k) (sz := 1) Tryz.underlying25 (bO _) rfl b2 rfl (by omega) rfl) ?_
 refine gv _ (fun _ b3 => aD rfl (aQ (jR _) (St.fz (St.tells a2 b3) c6))) ?_
 refine bU ?_
 intro d5 b4 b5
 clear b5
 have c0 := St.tells a2 b4
 simp only [dB]
 refine dr (.bool (x1 != y1)) (cH (k := .u8) rfl rfl (Ix x1 y1)) ?_
 simp only [pq]
 refine wlK b0 ?_
 refine wp_cond_split rfl (fun a0 => ?_) (fun a0 => ?_)
 refine sk fun d6 b6 => ?_
 refine dy ?_
 refine wn b6 ?_
 refine aO ?_
 try simp only [xt]
 refine bR (bA rfl (gD rfl)) ?_
 have hb : (l == m) = false := by have := WS hx1 hy1 a0; simp [this]
 rw [hb]
 exact ⟨rfl, c0.gr.below⟩
 refine aH ?_
 refine a7 _ _ ?_
 refine aB ?_
 refine cR (k + 1) ?_
 refine dx ?_
 simp only [pq]
 refine aG ?_
 exact a4 _ _ _ (by omega) ⟨(k + 1), _, rfl, rfl, rfl, c0, (by omega), (WR hkk hx1 hy1 a0)⟩
 refine eM ?_
 refine wn a1 ?_
 refine aE fun d7 c7 => ?_
 refine aF ?_
 refine cP ?_
 refine hK4 _ _ ?_
 refine sk fun d8 b7 => ?_
 refine dy ?_
 refine wn b7 ?_
 refine aO ?_
 try simp only [xt]
 refine bR (bA rfl (gD rfl)) ?_
 have hb : (l == m) = true := by have := RJ hkk (by omega) (by omega); rw [this]; simp
 rw [hb]
 exact ⟨rfl, a2.gr.below⟩
 refine mQ ?_
 simp only [pq]
 refine wn hK3 ?_
 refine aI ?_
 refine sk fun d9 b9 => ?_
 refine dy ?_
 refine wn b9 ?_
 refine aO ?_
 try simp only [xt]
 refine bR (bA rfl (gD rfl)) ?_
 have hb : (l == m) = false := by have : l ≠ m := fun e => a3 (by rw [e]); simp [this]
 rw [hb]
 exact ⟨rfl, S.gr.below⟩
theorem WT {r : By} {k n : Nat} {x y : UInt8} (h0 : r[0]? = some x) (h1 : r[1]? = some y) (hn : 2 + x.toNat * 256 + y.toNat = n) :
    kL r k = if 4000 < n ∨ r.length < n + 4 then none else if (nP (r.take n)).take 4 ≠ (r.drop n).take 4 then none else if wR ((r.take n).drop 2) ≠ 0 ∨ (uH ((r.take n).drop 2)).turn ≠ k + 1 then none else some (uH ((r.take n).drop 2), n + 4) := by
 have e0 : r.getD 0 0 = x := by rw [List.getD_eq_getElem?_getD, h0]; rfl
 have e1 : r.getD 1 0 = y := by rw [List.getD_eq_getElem?_getD, h1]; rfl
 have hl : ¬ r.length < 2 := by obtain ⟨h, _⟩ := List.getElem?_eq_some_iff.1 h1; omega
 unfold kL
 rw [zZa hl, e0, e1, hn]
theorem vL {d : By} {out : List Cm} {at_ f : Nat} {r : By} (h : (out ++ (tA f r out.length).1, at_ + (tA f r out.length).2) = iT d) (hc : kL r out.length = none) : iT d = (out, at_) := by
 rw [IE hc] at h
 simpa using h.symm
theorem Ak {d : By} {out : List Cm} {at_ f n : Nat} {m : Cm} (h : (out ++ (tA (f + 1) (d.drop at_) out.length).1, at_ + (tA (f + 1) (d.drop at_) out.length).2) = iT d) (hc : kL (d.drop at_) out.length = some (m, n)) :
    ((out ++ [m]) ++ (tA f (d.drop (at_ + n)) (out ++ [m]).length).1, (at_ + n) + (tA f (d.drop (at_ + n)) (out ++ [m]).length).2) = iT d := by
 rw [IF hc] at h
 simp only [List.drop_drop] at h
 rw [← h, zZf, zZl, Nat.add_assoc]
 rfl
theorem Bs.mid {F : Fz} {a : Option Addr} {m c n i : Nat} {l : By} (h : Bs F (.slice a m c) l) (h1 : i ≤ n) (hn : n ≤ m) : Bs F (.slice (if c = i then a else a.map (·.add (i * 1))) (n - i) (c - i)) ((l.take n).drop i) := eF (Sl.cut2 (by decide) h.sl h1 hn)
theorem GF (F : Fz) (w : World) (v : Value) (t : Tp) (hs : Sat w F) (hT : Tabs w) (hv : TpV F v t) (ok : TpOk 100000 t) :
    Calls Tryz.prog 84 #[v] w fun e w' => ∃ v a c F', e = .returned (.tuple #[v, .agg #[.slice a (iT t.data).2 c, .int .i64 ((min t.synced (iT t.data).2 : Nat))], .int .i64 0]) ∧ Gr w F w' F' ∧ Own 2 CmC 168 w.heap.size w' F' v (iT t.data).1 ∧ Bs F' (.slice a (iT t.data).2 c) (t.data.take (iT t.data).2) := by
 obtain ⟨x, y, rfl, hv⟩ := hv
 have h1' := ok.len
 have h2' := ok.syn
 obtain ⟨i5, hi5, hz5, hs5, hb5⟩ := info_parts qG
 obtain ⟨i9, e4, e5, e6, e7⟩ := info_parts MC
 have S := St.start hs
 go_enter Tryz.func84, Tryz.ntmps84
 refine sk fun K1 hK1 => ?_
 refine bH S (v := fun n => .pointer (aA n 0)) rfl (bX (v := (.agg #[(.slice x t.data.length y), (nI t.synced)])) rfl) (fun n2 w3 S4 => ?_)
 refine dy ?_
 refine sA S4 (jT _) fun n5 w6 S7 => ?_
 refine dy ?_
 simp only [pq]
 refine wn hK1 ?_
 refine sk fun K8 hK8 => ?_
 refine dR S7 1 Tryz.underlying108 (cD) ?_
 refine vJ S7 rfl (fn1 (KC _ _)) (vK _ _ _ t (S7).sat ⟨_, _, rfl, hv⟩ ok) ?_
 intro v9 t7 t8 m8 n7
 simp only [pq]
 obtain ⟨a2, a1, rfl, t9, n8⟩ := (m8.own (i := 0) rfl).shape
 unfold maxLen at n8
 refine dx ?_
 iterate 2 refine de ?_
 simp only [pq]
 refine sA m8 (jT _) fun c9 u0 n9 => ?_
 refine sW 0 n9 (cD) fun u1 o0 => ?_
 refine dy ?_
 simp only [pq]
 refine wn hK8 ?_
 refine aE fun u2 j0 => ?_
 refine sk fun u3 j1 => ?_
 refine dx ?_
 refine dt ?_
 refine wn j1 ?_
 refine aF ?_
 refine aH ?_
 refine j0 _ _ ?_
 refine aE fun u4 j2 => ?_
 obtain ⟨m9, o1, o2, d7⟩ := St.freeze o0 (i := 0) rfl (zZe _)
 have d7 : Bys _ (.slice a2 t.data.length a1) t.data := d7
 have d0 := eF d7
 have hdc : t.data.length ≤ a1 := by obtain ⟨_, _, e, q, _⟩ := d0.shape; simp only [Value.slice.injEq] at e; omega
 refine aB ?_
 refine dy ?_
 simp only [pq]
 refine wlK j2 ?_
 refine sk fun u5 j3 => ?_
 refine dy ?_
 refine wn j3 ?_
 refine aE fun u6 b4 => ?_
 refine aN ?_
 have o3 := St.addNil o1 2 CmC CmC.mono 168 w.heap.size
 refine aX (fun mm aa o4 => ∃ (at_ : Nat) (rv : Value) (out : List Cm) (f_ : Nat) (d8 : Fz) (a0 : Nat → Value), mm = t.data.length - at_ ∧ a0 = dX aa ∧ aa = ⟨#[(.agg #[(.slice x t.data.length y), (nI t.synced)]), (pP n2 0), Zn, (pP n5 0), (iI 0), (pP c9 0), bT, rv, (nI at_), (a0 9), (a0 10), (a0 11), (a0 12), (a0 13), (a0 14), (.tuple #[(.agg #[(.slice a2 t.data.length a1), (nI t.synced)]), bT]), (.agg #[(.slice x t.data.length y), (nI t.synced)]), (.tuple #[(.agg #[(.slice a2 t.data.length a1), (nI t.synced)]), bT]), (.agg #[(.slice a2 t.data.length a1), (nI t.synced)]), bT, bT, bF, undef, (a0 23), (a0 24), (a0 25), (a0 26), (a0 27), (a0 28), (a0 29), (a0 30), (a0 31), (a0 32), (a0 33), (a0 34), (a0 35), (a0 36), (a0 37), (a0 38), (a0 39), (a0 40), (a0 41), (a0 42), (a0 43), (a0 44), (a0 45), (a0 46), (a0 47), (a0 48), (a0 49), (a0 50), (a0 51), (a0 52), (a0 53), (a0 54), (a0 55), (a0 56), (a0 57), (a0 58), (a0 59), (a0 60), (a0 61), (a0 62), (a0 63), (a0 64), (a0 65), (a0 66), (a0 67), (a0 68), (a0 69), (a0 70), (a0 71), (a0 72), (a0 73), (a0 74), (a0 75), (a0 76), (a0 77), (a0 78), (a0 79), (a0 80), (a0 81), (a0 82), (a0 83), (a0 84), (a0 85), (a0 86), (a0 87), (a0 88), (a0 89), (a0 90), undef, undef, undef, undef, undef, undef, undef, undef, undef, undef, undef], []⟩ ∧ St w F o4 d8 [⟨c9, [(.slice a2 t.data.length a1), (nI t.synced)], 108⟩, ⟨n5, [Zn, (iI 0)], 108⟩, ⟨n2, [(.slice x t.data.length y), (nI t.synced)], 108⟩] [cU 2 CmC CmC.mono 168 w.heap.size rv out] ∧ Le m9 d8 ∧ (at_ ≤ t.data.length) ∧ ((out ++ (tA f_ (t.data.drop at_) out.length).1, at_ + (tA f_ (t.data.drop at_) out.length).2) = iT t.data) ∧ (t.data.length - at_ ≤ f_) ∧ (6 * out.length ≤ at_)) _ ⟨0, Zn, [], t.data.length, m9, _, rfl, rfl, rfl, o3, Le.refl _, (Nat.zero_le _), (by unfold iT; simp), (by omega), (by simp)⟩ ?_
 rintro u7 u8 o5 ⟨at_, rv, out, f_, d8, a0, rfl, -, rfl, e8, a9, hat, hinv, hf, hol⟩ u9 j4
 refine aN ?_
 refine sk fun v0 j5 => ?_
 refine df (kS _ _) ?_
 refine dl (aZ _) e8 0 ?_
 refine dx ?_
 simp only [pq]
 have hrest : Bs _ (.slice (if a1 = at_ then a2 else a2.map (·.add (at_ * 1))) (t.data.length - at_) (a1 - at_)) (t.data.drop at_) := Bs.rest (d0.mono a9) (by omega)
 refine dr (.slice (if a1 = at_ then a2 else a2.map (·.add (at_ * 1))) (t.data.length - at_) (a1 - at_)) (bD (l := at_) (h := t.data.length) (sz := 1) Tryz.underlying25 rfl (bO _) (.inr ⟨_, rfl, rfl⟩) (.inl ⟨rfl, rfl⟩) (by omega) (by omega) (rfl)) ?_
 refine dy ?_
 refine wn j5 ?_
 refine aE fun v1 j6 => ?_
 refine aE fun v2 e9 => ?_
 obtain ⟨rest, hre⟩ : ∃ r, r = t.data.drop at_ := ⟨_, rfl⟩
 rw [← hre] at hrest
 have hrl : rest.length = (t.data.length - at_) := by rw [hre, zZn]
 obtain ⟨ra, hra⟩ : ∃ a, (if a1 = at_ then a2 else a2.map (·.add (at_ * 1))) = a := ⟨_, rfl⟩
 obtain ⟨rn, hrn⟩ : ∃ a, (t.data.length - at_) = a := ⟨_, rfl⟩
 obtain ⟨rc, hrc⟩ : ∃ a, (a1 - at_) = a := ⟨_, rfl⟩
 rw [hra, hrn, hrc] at hrest
 rw [hra, hrn, hrc]
 have hcc : rn ≤ rc := by omega
 refine aB ?_
 refine dx ?_
 refine dn Tryz.underlying25 ?_
 simp only [pq]
 by_cases o6 : rn < 2
 ·refine eS ?_
  refine wlK e9 ?_
  refine aI ?_
  refine cP ?_
  refine b4 _ _ ?_
  refine aE fun v3 j7 => ?_
  have hrt := vL hinv (by rw [← hre]; unfold kL; rw [zZb (by omega)])
  have o7 : Bs _ (.slice a2 at_ at_) (t.data.take at_) := Bs.cut (d0.mono a9) hat
  obtain ⟨o8, j8, f0⟩ := St.freezeBlk e8 (i := 0) rfl
  generalize addF d8 o5 c9 = v4 at *
  refine gC o8 (by kernel_rfl) (fun v5 b5 => ?_)
  refine dN 0 rfl b5.sat ?_
  simp only [pq]
  refine bW 1 rfl _ b5.sat (fun _ _ => ef (kS _ _)) ?_
  simp only [pq]
  refine bW 2 rfl _ b5.sat (fun _ j9 => aD rfl (aQ (aZ _) (St.fz (St.start j9) (f0 0 _ rfl)))) ?_
  simp only [pq]
  refine dN 3 rfl b5.sat ?_
  simp only [pq]
  refine dN 4 rfl b5.sat ?_
  simp only [pq]
  refine bW 5 rfl (.slice a2 at_ at_) b5.sat (fun _ _ => iW (h := at_) (m := at_) (sz := 1) Tryz.underlying25 rfl (bO _) rfl rfl (by omega) (by omega) rfl) ?_
  simp only [pq]
  refine bW 6 rfl _ b5.sat (fun _ _ => ef (nE _ _)) ?_
  simp only [pq]
  refine bW 7 rfl _ b5.sat (fun _ k0 => aD rfl (aQ (bM _) (St.fz (St.start k0) (f0 1 _ rfl)))) ?_
  simp only [pq]
  refine dN 8 rfl b5.sat ?_
  simp only [pq]
  refine eU 11 rfl b5.sat ?_
  simp only [pq]
  refine cW 9 (by kernel_rfl) rfl ?_
  refine dr (nI (min t.synced at_)) (wG (m := ((t.synced : Nat) : Int)) (n := ((at_ : Nat) : Int)) (r := (((min t.synced at_) : Nat) : Int)) rfl rfl (by omega)) ?_
  refine aG (cA b5.sat ?_)
  refine bW 10 rfl (.agg #[(.slice a2 at_ at_), (nI (min t.synced at_))]) b5.sat (fun _ _ => aK (ps := #[(0, (.slice a2 at_ at_)), (1, (nI (min t.synced at_)))]) (fD rfl rfl) (by kernel_rfl)) ?_
  simp only [pq]
  refine cW 12 (by kernel_rfl) rfl ?_
  refine sW 0 b5 (cD) fun v6 f1 => ?_
  refine aG (cA f1.sat ?_)
  refine eU 13 rfl f1.sat ?_
  simp only [pq]
  refine gX (by kernel_rfl) ?_
  refine j7 _ _ ?_
  refine aO ?_
  try simp only [xt]
  refine bR (uT rfl (gD rfl) ⟨_, rfl, lR f1 0 Tryz.underlying108 (cD)⟩ (gD rfl)) ?_
  ·refine ⟨_, _, _, _, by rw [hrt]; try rfl, f1.gr, by rw [hrt]; exact f1.own (i := 0) rfl, by rw [hrt]; exact (o7.mono j8)⟩
 ·refine eM ?_
  refine wlK e9 ?_
  refine aF ?_
  refine aH ?_
  refine j6 _ _ ?_
  refine aE fun v7 k1 => ?_
  obtain ⟨b0, hb0⟩ : ∃ p, rest[0]? = some p := ⟨rest[0], zZc (by omega)⟩
  obtain ⟨b1, hb1⟩ : ∃ p, rest[1]? = some p := ⟨rest[1], zZc (by omega)⟩
  have hb0l := UInt8.toNat_lt b0
  have hb1l := UInt8.toNat_lt b1
  obtain ⟨n0, n1, d9, o9⟩ := Bs.get hrest hb0
  obtain ⟨v8, w0, k2, n3⟩ := Bs.get hrest hb1
  have hq_ := k2.symm.trans d9; injection hq_ with hq_; injection hq_ with hq1_ hq2_; rw [hq1_, hq2_] at n3
  refine aP d8 10 [] (by kernel_rfl) (by kernel_rfl) ?_
  simp only [dA]
  refine gm ?_
  refine gv (pP n0 (n1 + 0 * 1)) (fun _ _ => bN (i := 0) (sz := 1) Tryz.underlying25 (bO _) rfl d9 rfl (by omega) rfl) ?_
  simp only [pq]
  refine gv _ (fun _ k3 => aD rfl (aQ (jR _) (St.fz (St.tells e8 k3) o9))) ?_
  refine gv (nI b0.toNat) (fun _ _ => aU (v := (bv b0)) rfl (jF b0 _)) ?_
  refine gv (nI (b0.toNat * 256)) (fun _ _ => KS (m := b0.toNat) (n := 8) (r := b0.toNat * 256) rfl rfl (by decide) rfl (by omega)) ?_
  simp only [pq]
  refine gv (nI (2 + (b0.toNat * 256))) (fun _ _ => gG (m := (2 : Int)) (n := (((b0.toNat * 256) : Nat) : Int)) (r := (((2 + (b0.toNat * 256)) : Nat) : Int)) rfl rfl (by omega) (by omega) (by omega)) ?_
  refine gm ?_
  refine gv (pP n0 (n1 + 1 * 1)) (fun _ _ => bN (i := 1) (sz := 1) Tryz.underlying25 (bO _) rfl d9 rfl (by omega) rfl) ?_
  simp only [pq]
  refine gv _ (fun _ k3 => aD rfl (aQ (jR _) (St.fz (St.tells e8 k3) n3))) ?_
  refine gv (nI b1.toNat) (fun _ _ => aU (v := (bv b1)) rfl (jF b1 _)) ?_
  refine bU ?_
  intro n4 k4 k5
  clear k5
  have f2 := St.tells e8 k4
  simp only [dB]
  refine cR ((((2 + (b0.toNat * 256)) + b1.toNat) : Nat) : Int) ?_
  refine dy ?_
  simp only [pq]
  refine wlK k1 ?_
  refine aE fun w1 k6 => ?_
  refine aE fun w2 e0 => ?_
  obtain ⟨n, hN⟩ : ∃ n, ((2 + (b0.toNat * 256)) + b1.toNat) = n := ⟨_, rfl⟩
  rw [hN]
  have hcn := WT (k := out.length) hb0 hb1 (n := n) (by omega)
  refine aB ?_
  refine dx ?_
  simp only [pq]
  by_cases p0 : 4000 < n
  ·refine qX ?_
   refine dx ?_
   refine nO ?_
   simp only [pq]
   iterate 3 refine nO ?_
   simp only [pq]
   refine nO ?_
   refine dp ?_
   refine wlK e0 ?_
   refine aI ?_
   refine cP ?_
   refine b4 _ _ ?_
   refine aE fun w4 k7 => ?_
   have hrt := vL hinv (by rw [← hre, hcn, zZb (by omega)])
   have p1 : Bs _ (.slice a2 at_ at_) (t.data.take at_) := Bs.cut (d0.mono a9) hat
   obtain ⟨p2, k8, d1⟩ := St.freezeBlk f2 (i := 0) rfl
   generalize addF d8 n4 c9 = p3 at *
   refine gC p2 (by kernel_rfl) (fun p4 a3 => ?_)
   refine dN 0 rfl a3.sat ?_
   simp only [pq]
   refine bW 1 rfl _ a3.sat (fun _ _ => ef (kS _ _)) ?_
   simp only [pq]
   refine bW 2 rfl _ a3.sat (fun _ f3 => aD rfl (aQ (aZ _) (St.fz (St.start f3) (d1 0 _ rfl)))) ?_
   simp only [pq]
   refine dN 3 rfl a3.sat ?_
   simp only [pq]
   refine dN 4 rfl a3.sat ?_
   simp only [pq]
   refine bW 5 rfl (.slice a2 at_ at_) a3.sat (fun _ _ => iW (h := at_) (m := at_) (sz := 1) Tryz.underlying25 rfl (bO _) rfl rfl (by omega) (by omega) rfl) ?_
   simp only [pq]
   refine bW 6 rfl _ a3.sat (fun _ _ => ef (nE _ _)) ?_
   simp only [pq]
   refine bW 7 rfl _ a3.sat (fun _ f4 => aD rfl (aQ (bM _) (St.fz (St.start f4) (d1 1 _ rfl)))) ?_
   simp only [pq]
   refine dN 8 rfl a3.sat ?_
   simp only [pq]
   refine eU 11 rfl a3.sat ?_
   simp only [pq]
   refine cW 9 (by kernel_rfl) rfl ?_
   refine dr (nI (min t.synced at_)) (wG (m := ((t.synced : Nat) : Int)) (n := ((at_ : Nat) : Int)) (r := (((min t.synced at_) : Nat) : Int)) rfl rfl (by omega)) ?_
   refine aG (cA a3.sat ?_)
   refine bW 10 rfl (.agg #[(.slice a2 at_ at_), (nI (min t.synced at_))]) a3.sat (fun _ _ => aK (ps := #[(0, (.slice a2 at_ at_)), (1, (nI (min t.synced at_)))]) (fD rfl rfl) (by kernel_rfl)) ?_
   simp only [pq]
   refine cW 12 (by kernel_rfl) rfl ?_
   refine sW 0 a3 (cD) fun p5 b7 => ?_
   refine aG (cA b7.sat ?_)
   refine eU 13 rfl b7.sat ?_
   simp only [pq]
   refine gX (by kernel_rfl) ?_
   refine k7 _ _ ?_
   refine aO ?_
   try simp only [xt]
   refine bR (uT rfl (gD rfl) ⟨_, rfl, lR b7 0 Tryz.underlying108 (cD)⟩ (gD rfl)) ?_
   ·refine ⟨_, _, _, _, by rw [hrt]; try rfl, b7.gr, by rw [hrt]; exact b7.own (i := 0) rfl, by rw [hrt]; exact (p1.mono k8)⟩
  ·refine lS ?_
   iterate 2 refine dx ?_
   simp only [pq]
   refine dn Tryz.underlying25 ?_
   refine dx ?_
   refine cR (n + 4) ?_
   simp only [pq]
   by_cases p6 : rn < (n + 4)
   ·refine eS ?_
    refine dp ?_
    refine wlK e0 ?_
    refine aI ?_
    refine cP ?_
    refine b4 _ _ ?_
    refine aE fun p7 f5 => ?_
    have hrt := vL hinv (by rw [← hre, hcn, zZb (by omega)])
    have k9 : Bs _ (.slice a2 at_ at_) (t.data.take at_) := Bs.cut (d0.mono a9) hat
    obtain ⟨l0, f6, d2⟩ := St.freezeBlk f2 (i := 0) rfl
    generalize addF d8 n4 c9 = p8 at *
    refine gC l0 (by kernel_rfl) (fun p9 a4 => ?_)
    refine dN 0 rfl a4.sat ?_
    simp only [pq]
    refine bW 1 rfl _ a4.sat (fun _ _ => ef (kS _ _)) ?_
    simp only [pq]
    refine bW 2 rfl _ a4.sat (fun _ f7 => aD rfl (aQ (aZ _) (St.fz (St.start f7) (d2 0 _ rfl)))) ?_
    simp only [pq]
    refine dN 3 rfl a4.sat ?_
    simp only [pq]
    refine dN 4 rfl a4.sat ?_
    simp only [pq]
    refine bW 5 rfl (.slice a2 at_ at_) a4.sat (fun _ _ => iW (h := at_) (m := at_) (sz := 1) Tryz.underlying25 rfl (bO _) rfl rfl (by omega) (by omega) rfl) ?_
    simp only [pq]
    refine bW 6 rfl _ a4.sat (fun _ _ => ef (nE _ _)) ?_
    simp only [pq]
    refine bW 7 rfl _ a4.sat (fun _ f8 => aD rfl (aQ (bM _) (St.fz (St.start f8) (d2 1 _ rfl)))) ?_
    simp only [pq]
    refine dN 8 rfl a4.sat ?_
    simp only [pq]
    refine eU 11 rfl a4.sat ?_
    simp only [pq]
    refine cW 9 (by kernel_rfl) rfl ?_
    refine dr (nI (min t.synced at_)) (wG (m := ((t.synced : Nat) : Int)) (n := ((at_ : Nat) : Int)) (r := (((min t.synced at_) : Nat) : Int)) rfl rfl (by omega)) ?_
    refine aG (cA a4.sat ?_)
    refine bW 10 rfl (.agg #[(.slice a2 at_ at_), (nI (min t.synced at_))]) a4.sat (fun _ _ => aK (ps := #[(0, (.slice a2 at_ at_)), (1, (nI (min t.synced at_)))]) (fD rfl rfl) (by kernel_rfl)) ?_
    simp only [pq]
    refine cW 12 (by kernel_rfl) rfl ?_
    refine sW 0 a4 (cD) fun q0 b9 => ?_
    refine aG (cA b9.sat ?_)
    refine eU 13 rfl b9.sat ?_
    simp only [pq]
    refine gX (by kernel_rfl) ?_
    refine f5 _ _ ?_
    refine aO ?_
    try simp only [xt]
    refine bR (uT rfl (gD rfl) ⟨_, rfl, lR b9 0 Tryz.underlying108 (cD)⟩ (gD rfl)) ?_
    ·refine ⟨_, _, _, _, by rw [hrt]; try rfl, b9.gr, by rw [hrt]; exact b9.own (i := 0) rfl, by rw [hrt]; exact (k9.mono f6)⟩
   ·refine eM ?_
    refine dp ?_
    refine wlK e0 ?_
    refine aF ?_
    refine aH ?_
    refine k6 _ _ ?_
    refine aE fun q1 f9 => ?_
    rw [zZa (by omega)] at hcn
    refine aB ?_
    iterate 2 refine dx ?_
    simp only [pq]
    have l1 : Bs _ (.slice ra n rc) (rest.take n) := eF (Sl.takeN (Bs.sl hrest) (by omega))
    refine dr (.slice ra n rc) (bD (l := 0) (h := n) (sz := 1) Tryz.underlying25 rfl (bO _) (.inl ⟨rfl, rfl⟩) (.inr ⟨_, rfl, rfl⟩) (by omega) (by omega) (eZ)) ?_
    refine aR f2 rfl (fn1 (YW _ _)) (Ag _ _ _ (rest.take n) (f2).sat (hT.at f2.gr.below) l1 (by rw [zZh]; omega)) ?_
    intro q2 q3 e1 g0 a8 l2
    obtain ⟨q4, rfl, c0⟩ := l2
    obtain ⟨b3, b2, rfl, _⟩ := c0.shape
    have c0 : Bs _ (.slice b3 (nP (rest.take n)).length b2) (nP (rest.take n)) := c0
    refine dx ?_
    iterate 2 refine de ?_
    simp only [pq]
    iterate 2 refine dy ?_
    refine wlK f9 ?_
    refine aE fun q5 g1 => ?_
    refine aE fun q6 d3 => ?_
    have hsl := qR (rest.take n)
    have hsc : (nP (rest.take n)).length ≤ b2 := by obtain ⟨_, _, e, q, _⟩ := c0.shape; injection e with _ _ e; omega
    have g2 : Bs _ (.slice b3 4 b2) ((nP (rest.take n)).take 4) := eF (Sl.takeN (Bs.sl c0) (by omega))
    have e2 : Bs _ (.slice (if rc = n then ra else ra.map (·.add (n * 1))) ((n + 4) - n) (rc - n)) ((rest.take (n + 4)).drop n) := Bs.mid (hrest.mono a8) (by omega) (by omega)
    have hdt : (rest.take (n + 4)).drop n = (rest.drop n).take 4 := by rw [List.drop_take, Nat.add_sub_cancel_left]
    rw [hdt] at e2
    by_cases hq : (nP (rest.take n)).take 4 = (rest.drop n).take 4
    ·rw [zZa (by simpa using hq)] at hcn
     refine aP e1 7 [] (by kernel_rfl) (by kernel_rfl) ?_
     simp only [dA]
     refine gm ?_
     simp only [pq]
     refine gv (.slice b3 4 b2) (fun _ _ => bD (l := 0) (h := 4) (sz := 1) Tryz.underlying25 rfl (bO _) (.inl ⟨rfl, rfl⟩) (.inr ⟨_, rfl, rfl⟩) (by omega) (by omega) (eZ)) ?_
     iterate 2 refine gm ?_
     simp only [pq]
     refine gm ?_
     refine gv (nI (n + 4)) (fun _ _ => gG (m := ((n : Nat) : Int)) (n := (4 : Int)) (r := (((n + 4) : Nat) : Int)) rfl rfl (by omega) (by omega) (by omega)) ?_
     refine gv (.slice (if rc = n then ra else ra.map (·.add (n * 1))) ((n + 4) - n) (rc - n)) (fun _ _ => bD (l := n) (h := (n + 4)) (sz := 1) Tryz.underlying25 rfl (bO _) (.inr ⟨_, rfl, rfl⟩) (.inr ⟨_, rfl, rfl⟩) (by omega) (by omega) (rfl)) ?_
     simp only [pq]
     refine bU ?_
     intro q7 g3 g4
     clear g4
     have g5 := St.tells g0 g3
     simp only [dB]
     refine aJ (v := bT) g5 rfl (fn2 (YX _ _)) (eI (rH _ _ _ _ ((nP (rest.take n)).take 4) ((rest.drop n).take 4) (g5).sat g2 e2) (beq_iff_eq.2 hq)) (fun q8 g6 => ?_)
     simp only [pq]
     refine dt ?_
     refine wlK d3 ?_
     refine aF ?_
     refine aH ?_
     refine g1 _ _ ?_
     refine aE fun q9 g7 => ?_
     obtain ⟨e, he⟩ : ∃ e, wR ((rest.take n).drop 2) = e := ⟨_, rfl⟩
     obtain ⟨mm, hmm⟩ : ∃ m, uH ((rest.take n).drop 2) = m := ⟨_, rfl⟩
     rw [he, hmm] at hcn
     refine aB ?_
     iterate 2 refine dx ?_
     simp only [pq]
     have l3 : Bs _ (.slice (if rc = 2 then ra else ra.map (·.add (2 * 1))) (n - 2) (rc - 2)) ((rest.take n).drop 2) := Bs.mid (hrest.mono a8) (by omega) (by omega)
     refine dr (.slice (if rc = 2 then ra else ra.map (·.add (2 * 1))) (n - 2) (rc - 2)) (bD (l := 2) (h := n) (sz := 1) Tryz.underlying25 rfl (bO _) (.inr ⟨_, rfl, rfl⟩) (.inr ⟨_, rfl, rfl⟩) (by omega) (by omega) (rfl)) ?_
     refine aR g6 rfl (fn1 (Hr _ _)) (GC _ _ _ ((rest.take n).drop 2) (g6).sat l3 (by rw [zZn, zZh]; omega) he hmm) ?_
     intro r0 r1 e3 l4 c1 l5
     obtain ⟨_, rfl, c2, c3, rfl, g8⟩ := l5
     refine dx ?_
     iterate 2 refine de ?_
     simp only [pq]
     refine sA l4 (tR _) fun r2 r3 l6 => ?_
     refine sW 0 l6 (fA) fun g9 b6 => ?_
     refine dy ?_
     simp only [pq]
     refine wlK g7 ?_
     refine aE fun r4 h0 => ?_
     refine aE fun r5 c4 => ?_
     obtain ⟨r6, l7, rfl, r7, l8⟩ := (b6.own (i := 0) rfl).shape
     unfold maxLen at l8
     refine aB ?_
     refine dx ?_
     simp only [pq]
     by_cases r8 : e = (0 : Int)
     ·refine jJ ?_
      refine dx ?_
      refine df (MD _ _) ?_
      simp only [pq]
      refine dl (bM _) b6 0 ?_
      refine dx ?_
      refine dn Tryz.underlying109 ?_
      simp only [pq]
      refine cR (out.length + 1) ?_
      simp only [pq]
      by_cases r9 : mm.turn = (out.length + 1)
      ·refine jJ ?_
       refine dp ?_
       refine wlK c4 ?_
       refine aF ?_
       refine aH ?_
       refine h0 _ _ ?_
       refine aE fun s0 h1 => ?_
       have hch : kL (t.data.drop at_) out.length = some (mm, n + 4) := by rw [← hre, hcn, zZa (by omega)]
       obtain ⟨g, rfl⟩ : ∃ g, f_ = g + 1 := ⟨f_ - 1, by omega⟩
       refine aB ?_
       refine dx ?_
       refine dR b6 0 Tryz.underlying168 (fA) ?_
       simp only [pq]
       refine bH b6 (v := fun n => .slice (aA n 0) 1 1) rfl (cN (ps := #[(0, (.agg #[(nI mm.turn), (.slice c2 mm.writes.length c3)]))]) (cells := #[(nI mm.turn), (.slice c2 mm.writes.length c3)]) (E := 168) (cZ rfl) (fun w => by kernel_rfl)) (fun s1 s2 h2 => ?_)
       refine fH (i := 0) (r := 0) (p := mm) (cs := [(nI mm.turn), (.slice c2 mm.writes.length c3)]) h2 rfl i9 (.agg #[(iI 0), Zn]) 32 Tryz.underlying109 e4 e5 e6 e7 rfl (by decide) rfl rfl rfl rfl rfl (CmC.oneCell (p := mm) ⟨_, _, rfl, rfl, g8⟩) (⟨_, _, rfl, rfl, g8⟩) (zZe _) h2.gr.below.size (by unfold maxLen; omega) (by omega) ?_
       intro l9 s3 c5 n6
       simp only [pq]
       have c5 := St.drop c5 (.cons _ (zZd _))
       refine dy ?_
       refine wlK h1 ?_
       refine aB ?_
       iterate 2 refine dx ?_
       refine cR (n + 4) ?_
       simp only [pq]
       refine cR (at_ + (n + 4)) ?_
       refine dy ?_
       refine aG ?_
       have c5 := St.drop c5 (.cons _ (zZd _))
       exact j4 _ _ _ (by omega) ⟨(at_ + (n + 4)), l9, (out ++ [mm]), g, e3, _, rfl, rfl, rfl, c5, ((a9.trans a8).trans c1), (by omega), (Ak hinv hch), (by omega), (by rw [zZf]; simp only [zZg, zZj]; omega)⟩
      ·refine mQ ?_
       refine dp ?_
       simp only [pq]
       refine wlK c4 ?_
       refine aI ?_
       refine cP ?_
       refine b4 _ _ ?_
       refine aE fun s4 h3 => ?_
       have hrt := vL hinv (by rw [← hre, hcn, zZb (by omega)])
       have m0 : Bs _ (.slice a2 at_ at_) (t.data.take at_) := Bs.cut (d0.mono ((a9.trans a8).trans c1)) hat
       obtain ⟨m1, h4, d4⟩ := St.freezeBlk b6 (i := 1) rfl
       generalize addF e3 g9 c9 = s5 at *
       refine gC m1 (by kernel_rfl) (fun s6 a5 => ?_)
       refine dN 0 rfl a5.sat ?_
       simp only [pq]
       refine bW 1 rfl _ a5.sat (fun _ _ => ef (kS _ _)) ?_
       simp only [pq]
       refine bW 2 rfl _ a5.sat (fun _ h5 => aD rfl (aQ (aZ _) (St.fz (St.start h5) (d4 0 _ rfl)))) ?_
       simp only [pq]
       refine dN 3 rfl a5.sat ?_
       simp only [pq]
       refine dN 4 rfl a5.sat ?_
       simp only [pq]
       refine bW 5 rfl (.slice a2 at_ at_) a5.sat (fun _ _ => iW (h := at_) (m := at_) (sz := 1) Tryz.underlying25 rfl (bO _) rfl rfl (by omega) (by omega) rfl) ?_
       simp only [pq]
       refine bW 6 rfl _ a5.sat (fun _ _ => ef (nE _ _)) ?_
       simp only [pq]
       refine bW 7 rfl _ a5.sat (fun _ h6 => aD rfl (aQ (bM _) (St.fz (St.start h6) (d4 1 _ rfl)))) ?_
       simp only [pq]
       refine dN 8 rfl a5.sat ?_
       simp only [pq]
       refine eU 11 rfl a5.sat ?_
       simp only [pq]
       refine cW 9 (by kernel_rfl) rfl ?_
       refine dr (nI (min t.synced at_)) (wG (m := ((t.synced : Nat) : Int)) (n := ((at_ : Nat) : Int)) (r := (((min t.synced at_) : Nat) : Int)) rfl rfl (by omega)) ?_
       refine aG (cA a5.sat ?_)
       refine bW 10 rfl (.agg #[(.slice a2 at_ at_), (nI (min t.synced at_))]) a5.sat (fun _ _ => aK (ps := #[(0, (.slice a2 at_ at_)), (1, (nI (min t.synced at_)))]) (fD rfl rfl) (by kernel_rfl)) ?_
       simp only [pq]
       refine cW 12 (by kernel_rfl) rfl ?_
       refine sW 1 a5 (cD) fun s7 c6 => ?_
       refine aG (cA c6.sat ?_)
       refine eU 13 rfl c6.sat ?_
       simp only [pq]
       refine gX (by kernel_rfl) ?_
       refine h3 _ _ ?_
       refine aO ?_
       try simp only [xt]
       refine bR (uT rfl (gD rfl) ⟨_, rfl, lR c6 1 Tryz.underlying108 (cD)⟩ (gD rfl)) ?_
       ·refine ⟨_, _, _, _, by rw [hrt]; try rfl, c6.gr, by rw [hrt]; exact c6.own (i := 0) rfl, by rw [hrt]; exact (m0.mono h4)⟩
     ·refine mQ ?_
      refine dx ?_
      refine nO ?_
      simp only [pq]
      iterate 3 refine nO ?_
      simp only [pq]
      iterate 2 refine nO ?_
      refine dp ?_
      simp only [pq]
      refine wlK c4 ?_
      refine aI ?_
      refine cP ?_
      refine b4 _ _ ?_
      refine aE fun s8 h7 => ?_
      have hrt := vL hinv (by rw [← hre, hcn, zZb (by omega)])
      have m2 : Bs _ (.slice a2 at_ at_) (t.data.take at_) := Bs.cut (d0.mono ((a9.trans a8).trans c1)) hat
      obtain ⟨m3, h8, d5⟩ := St.freezeBlk b6 (i := 1) rfl
      generalize addF e3 g9 c9 = s9 at *
      refine gC m3 (by kernel_rfl) (fun t0 a6 => ?_)
      refine dN 0 rfl a6.sat ?_
      simp only [pq]
      refine bW 1 rfl _ a6.sat (fun _ _ => ef (kS _ _)) ?_
      simp only [pq]
      refine bW 2 rfl _ a6.sat (fun _ h9 => aD rfl (aQ (aZ _) (St.fz (St.start h9) (d5 0 _ rfl)))) ?_
      simp only [pq]
      refine dN 3 rfl a6.sat ?_
      simp only [pq]
      refine dN 4 rfl a6.sat ?_
      simp only [pq]
      refine bW 5 rfl (.slice a2 at_ at_) a6.sat (fun _ _ => iW (h := at_) (m := at_) (sz := 1) Tryz.underlying25 rfl (bO _) rfl rfl (by omega) (by omega) rfl) ?_
      simp only [pq]
      refine bW 6 rfl _ a6.sat (fun _ _ => ef (nE _ _)) ?_
      simp only [pq]
      refine bW 7 rfl _ a6.sat (fun _ i0 => aD rfl (aQ (bM _) (St.fz (St.start i0) (d5 1 _ rfl)))) ?_
      simp only [pq]
      refine dN 8 rfl a6.sat ?_
      simp only [pq]
      refine eU 11 rfl a6.sat ?_
      simp only [pq]
      refine cW 9 (by kernel_rfl) rfl ?_
      refine dr (nI (min t.synced at_)) (wG (m := ((t.synced : Nat) : Int)) (n := ((at_ : Nat) : Int)) (r := (((min t.synced at_) : Nat) : Int)) rfl rfl (by omega)) ?_
      refine aG (cA a6.sat ?_)
      refine bW 10 rfl (.agg #[(.slice a2 at_ at_), (nI (min t.synced at_))]) a6.sat (fun _ _ => aK (ps := #[(0, (.slice a2 at_ at_)), (1, (nI (min t.synced at_)))]) (fD rfl rfl) (by kernel_rfl)) ?_
      simp only [pq]
      refine cW 12 (by kernel_rfl) rfl ?_
      refine sW 1 a6 (cD) fun t1 c7 => ?_
      refine aG (cA c7.sat ?_)
      refine eU 13 rfl c7.sat ?_
      simp only [pq]
      refine gX (by kernel_rfl) ?_
      refine h7 _ _ ?_
      refine aO ?_
      try simp only [xt]
      refine bR (uT rfl (gD rfl) ⟨_, rfl, lR c7 1 Tryz.underlying108 (cD)⟩ (gD rfl)) ?_
      ·refine ⟨_, _, _, _, by rw [hrt]; try rfl, c7.gr, by rw [hrt]; exact c7.own (i := 0) rfl, by rw [hrt]; exact (m2.mono h8)⟩
    ·rw [zZb hq] at hcn
     refine aP e1 7 [] (by kernel_rfl) (by kernel_rfl) ?_
     simp only [dA]
     refine gm ?_
     refine gv (.slice b3 4 b2) (fun _ _ => bD (l := 0) (h := 4) (sz := 1) Tryz.underlying25 rfl (bO _) (.inl ⟨rfl, rfl⟩) (.inr ⟨_, rfl, rfl⟩) (by omega) (by omega) (eZ)) ?_
     refine gm ?_
     simp only [pq]
     iterate 2 refine gm ?_
     refine gv (nI (n + 4)) (fun _ _ => gG (m := ((n : Nat) : Int)) (n := (4 : Int)) (r := (((n + 4) : Nat) : Int)) rfl rfl (by omega) (by omega) (by omega)) ?_
     simp only [pq]
     refine gv (.slice (if rc = n then ra else ra.map (·.add (n * 1))) ((n + 4) - n) (rc - n)) (fun _ _ => bD (l := n) (h := (n + 4)) (sz := 1) Tryz.underlying25 rfl (bO _) (.inr ⟨_, rfl, rfl⟩) (.inr ⟨_, rfl, rfl⟩) (by omega) (by omega) (rfl)) ?_
     refine bU ?_
     intro t2 i1 i2
     clear i2
     have i3 := St.tells g0 i1
     simp only [dB]
     refine aJ (v := bF) i3 rfl (fn2 (YX _ _)) (eI (rH _ _ _ _ ((nP (rest.take n)).take 4) ((rest.drop n).take 4) (i3).sat g2 e2) (beq_eq_false_iff_ne.2 hq)) (fun m4 m5 => ?_)
     simp only [pq]
     refine dt ?_
     refine wlK d3 ?_
     refine aI ?_
     refine cP ?_
     refine b4 _ _ ?_
     refine aE fun t3 i4 => ?_
     have hrt := vL hinv (by rw [← hre]; exact hcn)
     have m6 : Bs _ (.slice a2 at_ at_) (t.data.take at_) := Bs.cut (d0.mono (a9.trans a8)) hat
     obtain ⟨m7, i6, d6⟩ := St.freezeBlk m5 (i := 0) rfl
     generalize addF e1 m4 c9 = t4 at *
     refine gC m7 (by kernel_rfl) (fun t5 a7 => ?_)
     refine dN 0 rfl a7.sat ?_
     simp only [pq]
     refine bW 1 rfl _ a7.sat (fun _ _ => ef (kS _ _)) ?_
     simp only [pq]
     refine bW 2 rfl _ a7.sat (fun _ i7 => aD rfl (aQ (aZ _) (St.fz (St.start i7) (d6 0 _ rfl)))) ?_
     simp only [pq]
     refine dN 3 rfl a7.sat ?_
     simp only [pq]
     refine dN 4 rfl a7.sat ?_
     simp only [pq]
     refine bW 5 rfl (.slice a2 at_ at_) a7.sat (fun _ _ => iW (h := at_) (m := at_) (sz := 1) Tryz.underlying25 rfl (bO _) rfl rfl (by omega) (by omega) rfl) ?_
     simp only [pq]
     refine bW 6 rfl _ a7.sat (fun _ _ => ef (nE _ _)) ?_
     simp only [pq]
     refine bW 7 rfl _ a7.sat (fun _ i8 => aD rfl (aQ (bM _) (St.fz (St.start i8) (d6 1 _ rfl)))) ?_
     simp only [pq]
     refine dN 8 rfl a7.sat ?_
     simp only [pq]
     refine eU 11 rfl a7.sat ?_
     simp only [pq]
     refine cW 9 (by kernel_rfl) rfl ?_
     refine dr (nI (min t.synced at_)) (wG (m := ((t.synced : Nat) : Int)) (n := ((at_ : Nat) : Int)) (r := (((min t.synced at_) : Nat) : Int)) rfl rfl (by omega)) ?_
     refine aG (cA a7.sat ?_)
     refine bW 10 rfl (.agg #[(.slice a2 at_ at_), (nI (min t.synced at_))]) a7.sat (fun _ _ => aK (ps := #[(0, (.slice a2 at_ at_)), (1, (nI (min t.synced at_)))]) (fD rfl rfl) (by kernel_rfl)) ?_
     simp only [pq]
     refine cW 12 (by kernel_rfl) rfl ?_
     refine sW 0 a7 (cD) fun t6 c8 => ?_
     refine aG (cA c8.sat ?_)
     refine eU 13 rfl c8.sat ?_
     simp only [pq]
     refine gX (by kernel_rfl) ?_
     refine i4 _ _ ?_
     refine aO ?_
     try simp only [xt]
     refine bR (uT rfl (gD rfl) ⟨_, rfl, lR c8 0 Tryz.underlying108 (cD)⟩ (gD rfl)) ?_
     ·refine ⟨_, _, _, _, by rw [hrt]; try rfl, c8.gr, by rw [hrt]; exact c8.own (i := 0) rfl, by rw [hrt]; exact (m6.mono i6)⟩
theorem TpV.dropT {w : World} {F : Fz} {n : Nat} {T : TypeId} (hs : Sat w F) (hb : w.heap[n]? = some (.cells [Value.slice none 0 0, Value.int .i64 0].toArray T (0, 0))) (hc : ∀ u ∈ [Value.slice none 0 0, Value.int .i64 0], ∀ x, u ≠ bv x) {u : Value} {t : Tp} (h : TpV F u t) : TpV (dropF F n) u t := by
 obtain ⟨x0, y0, rfl, h0⟩ := h
 exact ⟨x0, y0, rfl, h0.dropF hs hb hc⟩
theorem TpV.zero (F : Fz) : TpV F (.agg #[.slice none 0 0, .int .i64 0]) ⟨[], 0⟩ := ⟨none, 0, rfl, Bs.nil F⟩
end Go.Proofs.YtilgpdpooildcaaGreatDoor
