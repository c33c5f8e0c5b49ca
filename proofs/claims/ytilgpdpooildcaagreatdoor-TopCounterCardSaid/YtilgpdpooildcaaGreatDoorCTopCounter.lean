/- The walk of TopCounter -/
import Derived.Test.YtilgpdpooildcaaGreatDoorDA13
import Derived.Test.YtilgpdpooildcaaGreatDoorDA2
import Derived.Test.YtilgpdpooildcaaGreatDoorDA3
import Derived.Test.YtilgpdpooildcaaGreatDoorDA5
import Derived.Test.YtilgpdpooildcaaGreatDoorDA12
namespace Go.Proofs.YtilgpdpooildcaaGreatDoor
set_option maxHeartbeats 8000000
open Go.RowKit
set_option maxRecDepth 100000
set_option linter.unusedVariables false
set_option linter.unusedSimpArgs false
theorem Hf {α : Type} {l : List α} {r : α} (h : l.getLast? = some r) : 0 < l.length ∧ l[l.length - 1]? = some r := by
 cases l with
 | nil => cases h
 | cons a l => exact ⟨by simp, by rw [← List.getLast?_eq_getElem?]; exact h⟩
theorem Dl (s : Nat) : (eF s 6).code ≠ 0 := by show (6 : Int) ≠ 0; decide
theorem Hg (k : Nat) : ForestOk 60 (sY k) := by
 unfold sY
 split
 ·exact ForestOk.nil _
 ·exact (yS (w := vK k) (ForestOk.nil 0) ⟨(by decide : 1 ≤ 1 ∧ 1 ≤ 8), (by decide : 1 ≤ 1), (by decide : 1 ≤ 16), (by decide : 1 ≤ 32), fun h => by cases h⟩ (g := [([99], [([110], [dX ((k : Nat) : Int)])])]) (by kernel_rfl)).mono (by omega)
theorem AX (W : World) (hT : Has W ∧ Tabs W) (v0 : Value) (l0 : List Int) (z0 : Ints (whole W) v0 l0) :
    Calls Tryz.prog 12 #[v0] W (cU W (.bool true)) := by
 obtain ⟨a0, c0, rfl, q0, q0'⟩ := Sl.shape z0
 unfold maxLen at q0'
 obtain ⟨i8, c1, c2, c3, c4⟩ := info_parts KC
 have S := St.start (Sat.whole W)
 go_enter Tryz.func12, Tryz.ntmps12
 refine sk fun bk m2 => ?_
 refine dy ?_
 refine wn m2 ?_
 refine sk fun bl m3 => ?_
 refine bD S (v := fun n => .slice (aA n 0) 1 1) rfl (bS (ps := #[(0, (.int .u8 99))]) (cells := #[(.int .u8 99)]) (E := 5) (cH rfl) (fun w => by kernel_rfl)) (fun a9 bm s6 => ?_)
 refine dy ?_
 refine wn m3 ?_
 refine sk fun bn m4 => ?_
 refine bD s6 (v := fun n => .slice (aA n 0) 1 1) rfl (bS (ps := #[(0, (.int .u8 110))]) (cells := #[(.int .u8 110)]) (E := 5) (cH rfl) (fun w => by kernel_rfl)) (fun b0 m5 s7 => ?_)
 simp only [pq]
 refine dy ?_
 refine wn m4 ?_
 refine aE fun bo m6 => ?_
 obtain ⟨s8, m7, m8⟩ := St.freezeBlk s7 (i := 0) rfl
 have f9 : Bs _ (.slice (some ⟨b0, 0, none⟩) 1 1) ([110] : By) := gE (l := ([110] : By)) m8 (rfl) (by unfold maxLen; simp)
 generalize addF (whole W) m5 b0 = s9 at *
 obtain ⟨t0, b1, m9⟩ := St.freezeBlk s8 (i := 0) rfl
 have g0 : Bs _ (.slice (some ⟨a9, 0, none⟩) 1 1) ([99] : By) := gE (l := ([99] : By)) m9 (rfl) (by unfold maxLen; simp)
 generalize addF s9 m5 a9 = i9 at *
 refine aB ?_
 refine dy ?_
 refine wlK m6 ?_
 refine aE fun bp n0 => ?_
 have t1 := St.addNil t0 4 AcC AcC.mono 33 W.heap.size
 refine aB ?_
 refine dy ?_
 simp only [pq]
 refine wlK n0 ?_
 refine aE fun t2 n1 => ?_
 have h5 : ∀ (g1 : Act) (j0 : World), (∃ (i : Nat) (ra : Option Addr) (rc : Nat) (g2 : Fz) (e0 : Nat → Value), e0 = dV g1 ∧ g1 = ⟨([(.slice a0 l0.length c0), undef, (e0 2), (.slice (some ⟨a9, 0, none⟩) 1 1), (.slice (some ⟨b0, 0, none⟩) 1 1), (.slice ra ((eP l0 i).map Rc.ac).length rc), (e0 6), (.int .i64 ((i : Nat) : Int))] ++ (usF e0 8 4 (udF 4 ([(.slice (some ⟨a9, 0, none⟩) 1 1), (.slice (some ⟨b0, 0, none⟩) 1 1)] ++ (usF e0 18 88 (udF 50 [])))))).toArray, []⟩ ∧ St W (whole W) j0 g2 [] [bZ 4 AcC AcC.mono 33 W.heap.size (.slice ra ((eP l0 i).map Rc.ac).length rc) ((eP l0 i).map Rc.ac)] ∧ Le i9 g2 ∧ (i ≤ l0.length) ∧ (i ≤ 40) ∧ (1 ≤ i ∨ l0.length = 0)) → t2 g1 j0 := by
  rintro g1 j0 ⟨i, ra, rc, g2, e0, -, hfr, t3, h6, hi, him, hex⟩
  simp only [uzF, Nat.reduceAdd] at hfr; subst hfr
  refine n1 _ _ ?_
  refine sk fun bq n2 => ?_
  refine dx ?_
  refine dr (.agg #[(iI 2), (iI 0), (iI 0), Zn]) (aL (cH rfl) (by kernel_rfl)) ?_
  refine bD t3 (v := fun n => .slice (aA n 0) 1 1) rfl (bS (ps := #[(0, (.agg #[(iI 2), (iI 0), (iI 0), Zn]))]) (cells := #[(iI 2), (iI 0), (iI 0), Zn]) (E := 33) (cH rfl) (fun w => by kernel_rfl)) (fun br bs n3 => ?_)
  refine eN (i := 0) (r := 0) (p := Ac.sync) (cs := [(iI 2), (iI 0), (iI 0), Zn]) n3 rfl i8 (.agg #[(iI 0), (iI 0), (iI 0), Zn]) 48 Tryz.underlying23 c1 c2 c3 c4 rfl (by decide) rfl rfl rfl rfl rfl (AcC.oneCell (F := g2) (p := Ac.sync) ⟨_, rfl, Bs.nil _⟩) (⟨_, rfl, Bs.nil _⟩) (Nat.le_refl _) n3.gr.below.size (by unfold maxLen; (simp; have := (fI l0 i).len; omega)) (by (simp; have := (fI l0 i).len; omega)) ?_
  intro bt bu g3 ax
  simp only [pq]
  have g3 := St.drop g3 (.cons _ (List.Sublist.refl _))
  obtain ⟨t4, j1, rfl, bw, t5⟩ := (g3.own (i := 0) rfl).shape
  unfold maxLen at t5
  refine dy ?_
  refine wn n2 ?_
  refine sk fun bx n4 => ?_
  refine dx ?_
  simp only [pq]
  obtain ⟨k, bz, hk1, hks, hkf⟩ := Hd l0 i hi him
  obtain ⟨G2, hG2, h2⟩ : ∃ G, jW (eP l0 i ++ [.sync]) = G ∧ (ScrOk ((((eP l0 i).map Rc.ac) ++ [Ac.sync])) ∧ eD ((((eP l0 i).map Rc.ac) ++ [Ac.sync])) = G) := ⟨_, rfl, by have := ((fI l0 i).append QO).no (by omega); rwa [List.map_append] at this⟩
  rw [hG2] at hks hkf
  obtain ⟨ca, g4, h7, e7⟩ := St.freeze g3 (i := 0) rfl (Nat.le_refl _)
  have e7 : Acs _ (.slice t4 (((eP l0 i).map Rc.ac) ++ [Ac.sync]).length j1) (((eP l0 i).map Rc.ac) ++ [Ac.sync]) := e7
  refine aR g4 rfl (fn1 (RF _ _)) (wG _ _ _ (((eP l0 i).map Rc.ac) ++ [Ac.sync]) (g4).sat (hT.1.below g4.gr.below) (hT.2.at g4.gr.below) e7 h2.1 h2.2) ?_
  intro cb cc cd t6 h8 t7
  obtain ⟨_, rfl, t8⟩ := t7
  obtain ⟨ce, cf, cg, ch, rfl, t9, ci⟩ := t8
  refine aC ?_
  refine sA t6 (sD _) fun u0 cj u1 => ?_
  refine sW 0 u1 (mJ) fun ck n5 => ?_
  refine dy ?_
  simp only [pq]
  refine wn n4 ?_
  refine aE fun cl n6 => ?_
  refine sk fun cm n7 => ?_
  refine aC ?_
  refine wn n7 ?_
  refine aF ?_
  refine aH ?_
  refine n6 _ _ ?_
  refine aE fun cn n8 => ?_
  have u2 : ForestOk 60 (G2.forest G2.synced) := by rw [hks, hkf]; exact Hg k
  refine aB ?_
  refine aC ?_
  obtain ⟨O, hO⟩ : ∃ O, gQ (G2.forest G2.synced) [99] [110] = O := ⟨_, rfl⟩
  refine aR n5 rfl (fn3 (RG _ _)) (hO ▸ zC _ _ _ _ _ (G2.forest G2.synced) [99] [110] (n5).sat t9 (g0.mono ((h6.trans h7).trans h8)) (f9.mono (((b1.trans h6).trans h7).trans h8)) u2 (by decide) (by decide)) ?_
  intro co cp u3 u4 ay u5
  obtain ⟨_, rfl, u6, u7, rfl, j2⟩ := u5
  have j2 : Bs _ (.slice u6 (O.getD []).length u7) (O.getD []) := j2
  refine aC ?_
  refine sA u4 (kL _) fun u9 cq v1 => ?_
  refine sW 0 v1 (fT) fun n9 o0 => ?_
  refine dy ?_
  simp only [pq]
  refine wlK n8 ?_
  refine aE fun cr o1 => ?_
  refine sk fun ct h9 => ?_
  refine aC ?_
  by_cases az : G2.synced = 0
  ·refine iQ ?_
   refine wn h9 ?_
   refine aJ ?_
   refine aE fun cu o2 => ?_
   have hOe : O = none := by rw [← hO, hks, hkf, LY, if_pos (by omega)]
   subst hOe
   refine aB ?_
   refine dx ?_
   refine dr bT (cF (m := (0 : Int)) (n := (0 : Int)) (b := true) rfl rfl (beq_iff_eq.2 (rfl))) ?_
   refine aC ?_
   refine iQ ?_
   refine aC ?_
   refine wlK o2 ?_
   refine aP ?_
   try simp only [xt]
   refine bR (bK rfl (gD rfl)) ?_
   ·exact ⟨rfl, o0.gr.below⟩
  ·refine gB ?_
   refine wn h9 ?_
   refine aF ?_
   refine aH ?_
   refine o1 _ _ ?_
   refine aE fun cv o3 => ?_
   have hOe : O = some [dX ((k : Nat) : Int)] := by rw [← hO, hks, hkf, LY, if_neg (by omega)]
   subst hOe
   obtain ⟨v2, v3, o4, v4⟩ := Bs.get j2 (show (([dX ((k : Nat) : Int)] : By))[0]? = some (dX ((k : Nat) : Int)) from rfl)
   obtain ⟨v5, o5, i0⟩ := St.freezeBlk o0 (i := 0) rfl
   generalize addF u3 n9 u9 = v6 at *
   obtain ⟨v7, e8, o6⟩ := St.freezeBlk v5 (i := 0) rfl
   generalize addF v6 n9 u0 = cw at *
   refine jY v7 (by kernel_rfl) (fun cx a5 => ?_)
   refine gT 0 rfl a5.sat ?_
   simp only [pq]
   refine dJ 1 rfl bT a5.sat (fun _ _ => cF (m := (0 : Int)) (n := (0 : Int)) (b := true) rfl rfl (beq_iff_eq.2 (rfl))) ?_
   simp only [pq]
   refine gT 2 rfl a5.sat ?_
   simp only [pq]
   refine dJ 3 rfl _ a5.sat (fun _ _ => ef (rZ _ _)) ?_
   simp only [pq]
   refine dJ 4 rfl _ a5.sat (fun _ o7 => aD rfl (aW (iE _) (St.fz (St.start o7) (Le.cell e8 (i0 0 _ rfl))))) ?_
   simp only [pq]
   refine dJ 5 rfl bT a5.sat (fun _ _ => pI (b := true) rfl) ?_
   simp only [pq]
   refine gT 6 rfl a5.sat ?_
   simp only [pq]
   refine dJ 7 rfl _ a5.sat (fun _ _ => ef (sB _ _)) ?_
   simp only [pq]
   refine dJ 8 rfl _ a5.sat (fun _ o8 => aD rfl (aW (bI _) (St.fz (St.start o8) (Le.cell e8 (i0 1 _ rfl))))) ?_
   simp only [pq]
   refine dJ 9 rfl (pP v2 (v3 + 0 * 1)) a5.sat (fun _ _ => bP (i := 0) (sz := 1) Tryz.underlying25 (dO _) rfl o4 rfl (by exact Nat.zero_lt_succ _) rfl) ?_
   simp only [pq]
   refine dJ 10 rfl _ a5.sat (fun _ o9 => aD rfl (aW (lH _) (St.fz (St.start o9) (Le.cell (o5.trans e8) v4)))) ?_
   simp only [pq]
   refine dJ 11 rfl (.int .i64 (((dX ((k : Nat) : Int)).toNat : Nat) : Int)) a5.sat (fun _ _ => bB (v := (bv (dX ((k : Nat) : Int)))) rfl (jS (dX ((k : Nat) : Int)) _)) ?_
   simp only [pq]
   refine dJ 12 rfl _ a5.sat (fun _ _ => ef (TV _ _)) ?_
   simp only [pq]
   refine dJ 13 rfl _ a5.sat (fun _ p0 => aD rfl (aW (bN _) (St.fz (St.start p0) (o6 1 _ rfl)))) ?_
   simp only [pq]
   refine dJ 14 rfl bT a5.sat (fun _ _ => cF (m := (((dX ((k : Nat) : Int)).toNat : Nat) : Int)) (n := ((G2.synced : Nat) : Int)) (b := true) rfl rfl (beq_iff_eq.2 (by rw [EV (by omega), hks]))) ?_
   simp only [pq]
   refine dJ 15 rfl bT a5.sat (fun _ _ => pI (b := true) rfl) ?_
   simp only [pq]
   refine kI 16 rfl a5.sat ?_
   simp only [pq]
   refine kA (by kernel_rfl) ?_
   refine o3 _ _ ?_
   refine aP ?_
   try simp only [xt]
   refine bR (bK rfl (gD rfl)) ?_
   ·exact ⟨rfl, a5.gr.below⟩
 refine sk fun cy p1 => ?_
 refine dy ?_
 refine wn p1 ?_
 refine aM ?_
 refine bA (fun mm aa v8 => ∃ (i : Nat) (ra : Option Addr) (rc : Nat) (e9 : Fz) (e1 : Nat → Value), mm = l0.length - i ∧ e1 = dV aa ∧ aa = ⟨([(.slice a0 l0.length c0), undef, (e1 2), (.slice (aA a9 0) 1 1), (.slice (aA b0 0) 1 1), (.slice ra ((eP l0 i).map Rc.ac).length rc), (e1 6), (nI i)] ++ (usF e1 8 4 (udF 4 ([(.slice (aA a9 0) 1 1), (.slice (aA b0 0) 1 1)] ++ (usF e1 18 88 (udF 50 [])))))).toArray, []⟩ ∧ St W (whole W) v8 e9 [] [bZ 4 AcC AcC.mono 33 W.heap.size (.slice ra ((eP l0 i).map Rc.ac).length rc) ((eP l0 i).map Rc.ac)] ∧ Le i9 e9 ∧ (i ≤ l0.length) ∧ (i ≤ 40)) _ ⟨0, none, 0, i9, _, rfl, rfl, rfl, t1, Le.refl _, (by omega), (by omega)⟩ ?_
 rintro cz db dc ⟨i, ra, rc, e9, e1, rfl, -, hfr, g5, a1, hi, him⟩ dd a6
 simp only [uzF, Nat.reduceAdd] at hfr; subst hfr
 refine aE fun dg p2 => ?_
 refine sk fun dh f0 => ?_
 refine aC ?_
 by_cases dj : i < l0.length
 ·refine eZ ?_
  refine aC ?_
  by_cases dk : i < 40
  ·refine eZ ?_
   refine dp ?_
   refine wn f0 ?_
   refine aJ ?_
   refine aH ?_
   refine p2 _ _ ?_
   refine aE fun dm a7 => ?_
   refine aM ?_
   refine aE fun dq p3 => ?_
   obtain ⟨z, hz_z⟩ : ∃ z, l0[i]? = some z := ⟨l0[i]'(by omega), List.getElem?_eq_getElem (by omega)⟩
   obtain ⟨g6, g7, c5, g8, hz_z_b⟩ := Ints.get (z0.mono ((m7.trans b1).trans a1)) hz_z
   have hz_zb := hz_z_b
   obtain ⟨hz1, hz2⟩ := hz_zb
   have hp4 := gA z (m := 4) (by decide)
   have hp3 := gA z (m := 3) (by decide)
   refine aB ?_
   iterate 2 refine dx ?_
   refine dr (pP g6 (g7 + i * 1)) (bP (i := i) (sz := 1) Tryz.underlying60 (eA _) rfl c5 rfl (by omega) rfl) ?_
   simp only [pq]
   refine dr _ (aD rfl (aW (bN _) (St.fz g5 g8))) ?_
   simp only [pq]
   have ba := gA z (m := 4) (by decide)
   refine aI (v := (nI (aN z 4))) g5 rfl (fn2 (pX _ _)) (fN z 4 _ (by omega) (by omega) (by decide) (by decide)) (fun ds j3 => ?_)
   refine dy ?_
   refine wlK p3 ?_
   refine sk fun du p4 => ?_
   iterate 2 refine dx ?_
   refine dr (.agg #[(iI 1), Zn, Zn, Zn, Zn]) (aL (cH rfl) (by kernel_rfl)) ?_
   simp only [pq]
   refine aR j3 rfl (fn2 (pY _ _)) (gG _ _ _ (aN z 4) 1 (⟨[], [], [], []⟩ : Rq) (j3).sat (hT.1.below j3.gr.below) ⟨_, _, _, _, rfl, (Bs.nil _), (Bs.nil _), (Bs.nil _), (Bs.nil _)⟩ ⟨by decide, by kernel_rfl⟩) ?_
   intro dv dw dz j4 a2 v9
   obtain ⟨c6, c7, rfl, j5⟩ := v9
   have j5 : Bs _ (.slice c6 (cR 1 (⟨[], [], [], []⟩ : Rq)).length c7) (cR 1 (⟨[], [], [], []⟩ : Rq)) := j5
   refine aC ?_
   refine dr (.agg #[(iI 2), (.slice (aA a9 0) 1 1), (.slice (aA b0 0) 1 1), Zn, Zn]) (aL (NU rfl rfl rfl) (by kernel_rfl)) ?_
   refine aR j4 rfl (fn2 (pY _ _)) (gG _ _ _ (aN z 4) 2 (⟨([99] : By), ([110] : By), [], []⟩ : Rq) (j4).sat (hT.1.below j4.gr.below) ⟨_, _, _, _, rfl, (g0.mono (a1.trans a2)), (f9.mono ((b1.trans a1).trans a2)), (Bs.nil _), (Bs.nil _)⟩ ⟨by decide, by kernel_rfl⟩) ?_
   intro ea eb w0 w1 a4 w2
   obtain ⟨c8, c9, rfl, j6⟩ := w2
   have j6 : Bs _ (.slice c8 (cR 2 (⟨([99] : By), ([110] : By), [], []⟩ : Rq)).length c9) (cR 2 (⟨([99] : By), ([110] : By), [], []⟩ : Rq)) := j6
   refine bD w1 (v := fun n => .slice (aA n 0) 2 2) rfl (bS (ps := #[(0, (.agg #[(iI 1), (nI (aN z 4)), (iI 0), (.slice c6 (cR 1 (⟨[], [], [], []⟩ : Rq)).length c7)])), (1, (.agg #[(iI 1), (nI (aN z 4)), (iI 0), (.slice c8 (cR 2 (⟨([99] : By), ([110] : By), [], []⟩ : Rq)).length c9)]))]) (cells := #[(iI 1), (nI (aN z 4)), (iI 0), (.slice c6 (cR 1 (⟨[], [], [], []⟩ : Rq)).length c7), (iI 1), (nI (aN z 4)), (iI 0), (.slice c8 (cR 2 (⟨([99] : By), ([110] : By), [], []⟩ : Rq)).length c9)]) (E := 33) (fY rfl rfl) (fun w => by kernel_rfl)) (fun j7 w3 w4 => ?_)
   simp only [pq]
   obtain ⟨j8, a3, p5⟩ := St.freezeBlk w4 (i := 0) rfl
   have w5 : Acs _ (.slice (some ⟨j7, 0, none⟩) 2 2) ([(Ac.ask (aN z 4) (cR 1 (⟨[], [], [], []⟩ : Rq))), (Ac.ask (aN z 4) (cR 2 (⟨([99] : By), ([110] : By), [], []⟩ : Rq)))] : List Ac) := gF (R := AcC) (l := ([(Ac.ask (aN z 4) (cR 1 (⟨[], [], [], []⟩ : Rq))), (Ac.ask (aN z 4) (cR 2 (⟨([99] : By), ([110] : By), [], []⟩ : Rq)))] : List Ac)) (el := [[(.int .i64 1), (.int .i64 (((aN z 4) : Nat) : Int)), (.int .i64 0), (.slice c6 (cR 1 (⟨[], [], [], []⟩ : Rq)).length c7)], [(.int .i64 1), (.int .i64 (((aN z 4) : Nat) : Int)), (.int .i64 0), (.slice c8 (cR 2 (⟨([99] : By), ([110] : By), [], []⟩ : Rq)).length c9)]]) p5 rfl ⟨⟨_, rfl, Bs.mono (j5.mono a4) a3⟩, ⟨_, rfl, Bs.mono j6 a3⟩, trivial⟩ (by simp) (by unfold maxLen; simp)
   generalize addF w0 w3 j7 = f1 at *
   refine eE (r := 0) (u := (.slice (aA j7 0) 2 2)) j8 rfl i8 (.agg #[(iI 0), (iI 0), (iI 0), Zn]) 48 Tryz.underlying23 c1 c2 c3 c4 rfl (by decide) rfl rfl rfl (Sl.toW w5 (j8).sat) AcC.one (Nat.le_refl _) j8.gr.below.size (by unfold maxLen; (simp; have := (fI l0 i).len; omega)) (by (simp; have := (fI l0 i).len; omega)) ?_
   intro ec ed e2 bb
   simp only [pq]
   obtain ⟨p6, f2, rfl, ee, w6⟩ := (e2.own (i := 0) rfl).shape
   unfold maxLen at w6
   refine dy ?_
   refine wn p4 ?_
   refine aE fun eg p7 => ?_
   rw [show (((eP l0 i).map Rc.ac) ++ [(Ac.ask (aN z 4) (cR 1 (⟨[], [], [], []⟩ : Rq))), (Ac.ask (aN z 4) (cR 2 (⟨([99] : By), ([110] : By), [], []⟩ : Rq)))]) = ((pD (eP l0 i) z).map Rc.ac) from (by unfold pD; rw [List.map_append]; rfl)] at e2 ⊢
   refine aB ?_
   refine dx ?_
   simp only [pq]
   obtain ⟨r, y, hy, hr1, hr2, hr3⟩ := Hc l0 hz_z (by omega)
   obtain ⟨G, hG, h1⟩ : ∃ G, jW (pD (eP l0 i) z) = G ∧ (ScrOk (((pD (eP l0 i) z).map Rc.ac)) ∧ eD (((pD (eP l0 i) z).map Rc.ac)) = G) := ⟨_, rfl, (mW (fI l0 i) z).no (by omega)⟩
   rw [hG] at hr1
   obtain ⟨hlp, hla⟩ := Hf hr1
   have hgl : G.replies.length ≤ 100000 := by have := QE (((pD (eP l0 i) z).map Rc.ac)); rw [h1.2] at this; have := h1.1.len; omega
   obtain ⟨eh, g9, f3, f4, f5⟩ := St.hold e2
   have f4 : Acs _ (.slice p6 ((pD (eP l0 i) z).map Rc.ac).length f2) ((pD (eP l0 i) z).map Rc.ac) := f4
   refine aR g9 rfl (fn1 (RF _ _)) (wG _ _ _ ((pD (eP l0 i) z).map Rc.ac) (g9).sat (hT.1.below g9.gr.below) (hT.2.at g9.gr.below) f4 h1.1 h1.2) ?_
   intro ei ej ek w7 a8 w8
   obtain ⟨_, rfl, w9⟩ := w8
   obtain ⟨em, en, eo, ep, rfl, eq, x0⟩ := w9
   refine aC ?_
   refine sA w7 (sD _) fun er es x1 => ?_
   refine sW 0 x1 (mJ) fun et p8 => ?_
   refine dy ?_
   simp only [pq]
   refine wlK p7 ?_
   refine aE fun eu p9 => ?_
   refine sk fun ew q1 => ?_
   refine aC ?_
   refine gB ?_
   refine dp ?_
   refine wn q1 ?_
   refine aF ?_
   refine aH ?_
   refine p9 _ _ ?_
   refine aE fun ex q2 => ?_
   obtain ⟨x2, x3, q3, q4, q5, q6, q7, q8, q9, r0, r1, r2, r3, r4, r5, x4, e3, x5, ey, ez⟩ := Rps.row x0 hla
   have x6 : Value.oneCell' r0 = true := e3 _ (by simp)
   have x7 : Value.oneCell' r1 = true := e3 _ (by simp)
   have x8 : Value.oneCell' r2 = true := e3 _ (by simp)
   have x9 : Value.oneCell' r3 = true := e3 _ (by simp)
   have y0 : Value.oneCell' r4 = true := e3 _ (by simp)
   have y1 : Value.oneCell' r5 = true := e3 _ (by simp)
   refine aB ?_
   refine aC ?_
   refine WC (((G.replies.length - 1) : Nat) : Int) ?_
   simp only [pq]
   refine dr (pP x2 (x3 + (G.replies.length - 1) * 15)) (bP (i := (G.replies.length - 1)) (sz := 15) Tryz.underlying41 (ID _) rfl q3 rfl (by omega) rfl) ?_
   refine dr _ (aD rfl (cN Tryz.underlying54 rfl (pL) (fun j v h => St.fz p8 (x4 j v h)))) ?_
   refine sA p8 (BE _) fun fa fb y2 => ?_
   simp only [pq]
   refine fL (i := 0) (v := (.agg #[(nI r.s), (.int .i64 r.code), (.int .i64 r.turn), (.bool r.found), (.slice q4 r.value.length q5), (.slice q6 r.pairs.length q7), (.slice q8 r.root.length q9), (.bool r.outer.empty), r0, r1, r2, (.bool r.inner.empty), r3, r4, r5])) y2 rfl rfl rfl rfl (pL) (by simp only [Value.cells]; simp; exact ⟨rfl, rfl, rfl, rfl, rfl, rfl, rfl, rfl, x6, x7, x8, rfl, x9, y0, y1⟩) (Nat.le_of_ble_eq_true rfl) (fun fc h0 => ?_)
   refine wlK q2 ?_
   refine aE fun fd f6 => ?_
   refine aE fun fe i1 => ?_
   cases hok : yH (aN z 4) r with
   | false =>
    have hre := hr3 hok
    refine aB ?_
    refine aC ?_
    refine dr bF (cF (m := r.code) (n := (0 : Int)) (b := false) rfl rfl (beq_eq_false_iff_ne.2 (by rw [hre]; exact Dl _))) ?_
    refine aC ?_
    refine wlK i1 ?_
    refine aF ?_
    refine aH ?_
    refine f6 _ _ ?_
    refine aE fun ff i2 => ?_
    have j9 := St.thaw e2 f5 h0 (f3.trans a8) a8
    rw [show ((pD (eP l0 i) z).map Rc.ac) = ((sZ (eP l0 i) z).map Rc.ac) from (by unfold sZ; rw [hG, hr1]; simp only [hok]; rfl)] at j9 ⊢
    refine aB ?_
    iterate 2 refine dx ?_
    refine dr (pP g6 (g7 + i * 1)) (bP (i := i) (sz := 1) Tryz.underlying60 (eA _) rfl c5 rfl (by omega) rfl) ?_
    simp only [pq]
    refine dr _ (aD rfl (aW (bN _) (St.fz j9 (Le.cell ((a2.trans a4).trans a3) g8)))) ?_
    simp only [pq]
    have bc := gA z (m := 3) (by decide)
    refine aI (v := (nI (aN z 3))) j9 rfl (fn2 (pX _ _)) (fN z 3 _ (by omega) (by omega) (by decide) (by decide)) (fun fg e4 => ?_)
    simp only [pq]
    by_cases i3 : (aN z 3) = 0
    ·refine iQ ?_
     refine wlK i2 ?_
     refine aJ ?_
     refine aB ?_
     refine dx ?_
     refine dr (.agg #[(iI 2), (iI 0), (iI 0), Zn]) (aL (cH rfl) (by kernel_rfl)) ?_
     simp only [pq]
     refine bD e4 (v := fun n => .slice (aA n 0) 1 1) rfl (bS (ps := #[(0, (.agg #[(iI 2), (iI 0), (iI 0), Zn]))]) (cells := #[(iI 2), (iI 0), (iI 0), Zn]) (E := 33) (cH rfl) (fun w => by kernel_rfl)) (fun fh fi r6 => ?_)
     refine eN (i := 0) (r := 0) (p := Ac.sync) (cs := [(iI 2), (iI 0), (iI 0), Zn]) r6 rfl i8 (.agg #[(iI 0), (iI 0), (iI 0), Zn]) 48 Tryz.underlying23 c1 c2 c3 c4 rfl (by decide) rfl rfl rfl rfl rfl (AcC.oneCell (F := f1) (p := Ac.sync) ⟨_, rfl, Bs.nil _⟩) (⟨_, rfl, Bs.nil _⟩) (Nat.le_refl _) r6.gr.below.size (by unfold maxLen; (simp; have := (mX (fI l0 i) z).len; omega)) (by (simp; have := (mX (fI l0 i) z).len; omega)) ?_
     intro fj fk b2 bd
     simp only [pq]
     have b2 := St.drop b2 (.cons _ (List.Sublist.refl _))
     obtain ⟨y3, k0, rfl, fl, y4⟩ := (b2.own (i := 0) rfl).shape
     unfold maxLen at y4
     refine dy ?_
     refine wlK a7 ?_
     rw [show (((sZ (eP l0 i) z).map Rc.ac) ++ [Ac.sync]) = ((nW (eP l0 i) z).map Rc.ac) from (by unfold nW; rw [if_pos (by omega), List.map_append]; rfl)] at b2 ⊢
     refine aB ?_
     refine dx ?_
     refine cO (i + 1) ?_
     refine aC ?_
     refine aG ?_
     have b2 := St.drop b2 (.cons _ (.cons _ (List.Sublist.refl _)))
     rw [show ((nW (eP l0 i) z).map Rc.ac) = ((eP l0 (i + 1)).map Rc.ac) from (by rw [mF hz_z])] at b2 ⊢
     exact a6 _ _ _ (by omega) ⟨(i + 1), y3, k0, f1, _, rfl, rfl, rfl, b2, (((a1.trans a2).trans a4).trans a3), (by omega), (by omega)⟩
    ·refine gB ?_
     refine wlK i2 ?_
     refine aF ?_
     refine aH ?_
     refine a7 _ _ ?_
     rw [show ((sZ (eP l0 i) z).map Rc.ac) = ((nW (eP l0 i) z).map Rc.ac) from (by unfold nW; rw [if_neg (by omega)])] at e4 ⊢
     refine aB ?_
     refine dx ?_
     refine cO (i + 1) ?_
     refine aC ?_
     refine aG ?_
     have e4 := St.drop e4 (.cons _ (.cons _ (List.Sublist.refl _)))
     rw [show ((nW (eP l0 i) z).map Rc.ac) = ((eP l0 (i + 1)).map Rc.ac) from (by rw [mF hz_z])] at e4 ⊢
     exact a6 _ _ _ (by omega) ⟨(i + 1), p6, f2, f1, _, rfl, rfl, rfl, e4, (((a1.trans a2).trans a4).trans a3), (by omega), (by omega)⟩
   | true =>
    have hre := hr2 hok
    refine aB ?_
    refine aC ?_
    refine dr bT (cF (m := r.code) (n := (0 : Int)) (b := true) rfl rfl (beq_iff_eq.2 (by rw [hre]; rfl))) ?_
    refine aC ?_
    refine dr bT (cF (m := ((r.s : Nat) : Int)) (n := (((aN z 4) : Nat) : Int)) (b := true) rfl rfl (beq_iff_eq.2 (by rw [hre]; rfl))) ?_
    refine dp ?_
    simp only [pq]
    refine wlK i1 ?_
    refine aJ ?_
    refine sk fun fm r7 => ?_
    refine dy ?_
    refine wn r7 ?_
    refine aE fun fn i4 => ?_
    refine sk fun fo r8 => ?_
    refine aC ?_
    refine wn r8 ?_
    refine wp_cond_split rfl (fun i5 => ?_) (fun i5 => ?_)
    ·obtain ⟨b, hb0, hbv⟩ : ∃ b, r.value[0]? = some b ∧ TE r = b.toNat := by
      have hf : r.found = true := by assumption
      have hy1 : y ≠ 0 := fun e => by rw [hre, e] at hf; cases hf
      rw [hre]
      unfold TE oZ
      rw [if_neg hy1, decide_eq_true (by omega)]
      exact ⟨_, rfl, rfl⟩
     have hlv : 0 < r.value.length := getD_some hb0
     have hbl := b.toNat_lt
     obtain ⟨y5, y6, r9, y7⟩ := Bs.get x5 hb0
     refine aB ?_
     refine aC ?_
     refine dr (pP y5 (y6 + 0 * 1)) (bP (i := 0) (sz := 1) Tryz.underlying25 (dO _) rfl r9 rfl (by omega) rfl) ?_
     simp only [pq]
     refine dr _ (aD rfl (aW (lH _) (St.fz h0 y7))) ?_
     refine dr (nI b.toNat) (bB (v := (bv b)) rfl (jS b _)) ?_
     refine aC ?_
     refine wlK i4 ?_
     have y8 := St.thaw e2 f5 h0 (f3.trans a8) a8
     refine aB ?_
     refine aC ?_
     refine cO (b.toNat + 1) ?_
     simp only [pq]
     refine dr (.int .u8 (((dX (((b.toNat + 1) : Nat) : Int)).toNat : Nat) : Int)) (bB (v := (nI (b.toNat + 1))) rfl (vG (((b.toNat + 1) : Nat) : Int) _)) ?_
     refine bD y8 (v := fun n => .slice (aA n 0) 1 1) rfl (bS (ps := #[(0, (.int .u8 (((dX (((b.toNat + 1) : Nat) : Int)).toNat : Nat) : Int)))]) (cells := #[(.int .u8 (((dX (((b.toNat + 1) : Nat) : Int)).toNat : Nat) : Int))]) (E := 5) (cH rfl) (fun w => by kernel_rfl)) (fun k1 y9 z1 => ?_)
     refine dr (.agg #[(iI 4), (.slice (aA a9 0) 1 1), (.slice (aA b0 0) 1 1), Zn, (.slice (aA k1 0) 1 1)]) (aL (mN rfl rfl rfl rfl) (by kernel_rfl)) ?_
     simp only [pq]
     obtain ⟨k2, b3, s0⟩ := St.freezeBlk z1 (i := 0) rfl
     have z2 : Bs _ (.slice (some ⟨k1, 0, none⟩) 1 1) ([dX (((b.toNat + 1) : Nat) : Int)] : By) := gE (l := ([dX (((b.toNat + 1) : Nat) : Int)] : By)) s0 (rfl) (by unfold maxLen; simp)
     generalize addF f1 y9 k1 = fp at *
     refine aR k2 rfl (fn2 (pY _ _)) (gG _ _ _ (aN z 4) 4 (⟨([99] : By), ([110] : By), [], ([dX (((b.toNat + 1) : Nat) : Int)] : By)⟩ : Rq) (k2).sat (hT.1.below k2.gr.below) ⟨_, _, _, _, rfl, (g0.mono ((((a1.trans a2).trans a4).trans a3).trans b3)), (f9.mono (((((b1.trans a1).trans a2).trans a4).trans a3).trans b3)), (Bs.nil _), z2⟩ ⟨by decide, by kernel_rfl⟩) ?_
     intro fq fr fs k3 f7 z3
     obtain ⟨d0, d1, rfl, k4⟩ := z3
     have k4 : Bs _ (.slice d0 (cR 4 (⟨([99] : By), ([110] : By), [], ([dX (((b.toNat + 1) : Nat) : Int)] : By)⟩ : Rq)).length d1) (cR 4 (⟨([99] : By), ([110] : By), [], ([dX (((b.toNat + 1) : Nat) : Int)] : By)⟩ : Rq)) := k4
     refine dx ?_
     refine dr (.agg #[(iI 6), Zn, Zn, Zn, Zn]) (aL (cH rfl) (by kernel_rfl)) ?_
     refine aR k3 rfl (fn2 (pY _ _)) (gG _ _ _ (aN z 4) 6 (⟨[], [], [], []⟩ : Rq) (k3).sat (hT.1.below k3.gr.below) ⟨_, _, _, _, rfl, (Bs.nil _), (Bs.nil _), (Bs.nil _), (Bs.nil _)⟩ ⟨by decide, by kernel_rfl⟩) ?_
     intro ft fu z4 z5 d2 z6
     obtain ⟨d3, d4, rfl, k5⟩ := z6
     have k5 : Bs _ (.slice d3 (cR 6 (⟨[], [], [], []⟩ : Rq)).length d4) (cR 6 (⟨[], [], [], []⟩ : Rq)) := k5
     simp only [pq]
     refine bD z5 (v := fun n => .slice (aA n 0) 2 2) rfl (bS (ps := #[(0, (.agg #[(iI 1), (nI (aN z 4)), (iI 0), (.slice d0 (cR 4 (⟨([99] : By), ([110] : By), [], ([dX (((b.toNat + 1) : Nat) : Int)] : By)⟩ : Rq)).length d1)])), (1, (.agg #[(iI 1), (nI (aN z 4)), (iI 0), (.slice d3 (cR 6 (⟨[], [], [], []⟩ : Rq)).length d4)]))]) (cells := #[(iI 1), (nI (aN z 4)), (iI 0), (.slice d0 (cR 4 (⟨([99] : By), ([110] : By), [], ([dX (((b.toNat + 1) : Nat) : Int)] : By)⟩ : Rq)).length d1), (iI 1), (nI (aN z 4)), (iI 0), (.slice d3 (cR 6 (⟨[], [], [], []⟩ : Rq)).length d4)]) (E := 33) (fY rfl rfl) (fun w => by kernel_rfl)) (fun k6 z7 z8 => ?_)
     simp only [pq]
     obtain ⟨k7, b4, s1⟩ := St.freezeBlk z8 (i := 0) rfl
     have z9 : Acs _ (.slice (some ⟨k6, 0, none⟩) 2 2) ([(Ac.ask (aN z 4) (cR 4 (⟨([99] : By), ([110] : By), [], ([dX (((b.toNat + 1) : Nat) : Int)] : By)⟩ : Rq))), (Ac.ask (aN z 4) (cR 6 (⟨[], [], [], []⟩ : Rq)))] : List Ac) := gF (R := AcC) (l := ([(Ac.ask (aN z 4) (cR 4 (⟨([99] : By), ([110] : By), [], ([dX (((b.toNat + 1) : Nat) : Int)] : By)⟩ : Rq))), (Ac.ask (aN z 4) (cR 6 (⟨[], [], [], []⟩ : Rq)))] : List Ac)) (el := [[(.int .i64 1), (.int .i64 (((aN z 4) : Nat) : Int)), (.int .i64 0), (.slice d0 (cR 4 (⟨([99] : By), ([110] : By), [], ([dX (((b.toNat + 1) : Nat) : Int)] : By)⟩ : Rq)).length d1)], [(.int .i64 1), (.int .i64 (((aN z 4) : Nat) : Int)), (.int .i64 0), (.slice d3 (cR 6 (⟨[], [], [], []⟩ : Rq)).length d4)]]) s1 rfl ⟨⟨_, rfl, Bs.mono (k4.mono d2) b4⟩, ⟨_, rfl, Bs.mono k5 b4⟩, trivial⟩ (by simp) (by unfold maxLen; simp)
     generalize addF z4 z7 k6 = k8 at *
     refine eE (r := 0) (u := (.slice (aA k6 0) 2 2)) k7 rfl i8 (.agg #[(iI 0), (iI 0), (iI 0), Zn]) 48 Tryz.underlying23 c1 c2 c3 c4 rfl (by decide) rfl rfl rfl (Sl.toW z9 (k7).sat) AcC.one (Nat.le_refl _) k7.gr.below.size (by unfold maxLen; (simp; have := (mW (fI l0 i) z).len; omega)) (by (simp; have := (mW (fI l0 i) z).len; omega)) ?_
     intro fv fw h3 be
     simp only [pq]
     obtain ⟨ab, k9, rfl, fx, ad⟩ := (h3.own (i := 0) rfl).shape
     unfold maxLen at ad
     refine dy ?_
     refine wlK f6 ?_
     refine aE fun fy i6 => ?_
     rw [show (((pD (eP l0 i) z).map Rc.ac) ++ [(Ac.ask (aN z 4) (cR 4 (⟨([99] : By), ([110] : By), [], ([dX (((b.toNat + 1) : Nat) : Int)] : By)⟩ : Rq))), (Ac.ask (aN z 4) (cR 6 (⟨[], [], [], []⟩ : Rq)))]) = ((sZ (eP l0 i) z).map Rc.ac) from (by unfold sZ; rw [hG, hr1]; simp only [hok, if_true]; rw [List.map_append, hbv]; rfl)] at h3 ⊢
     refine aB ?_
     iterate 2 refine dx ?_
     refine dr (pP g6 (g7 + i * 1)) (bP (i := i) (sz := 1) Tryz.underlying60 (eA _) rfl c5 rfl (by omega) rfl) ?_
     simp only [pq]
     refine dr _ (aD rfl (aW (bN _) (St.fz h3 (Le.cell ((((((a2.trans a4).trans a3).trans b3).trans f7).trans d2).trans b4) g8)))) ?_
     simp only [pq]
     have bf := gA z (m := 3) (by decide)
     refine aI (v := (nI (aN z 3))) h3 rfl (fn2 (pX _ _)) (fN z 3 _ (by omega) (by omega) (by decide) (by decide)) (fun gb e5 => ?_)
     simp only [pq]
     by_cases i3 : (aN z 3) = 0
     ·refine iQ ?_
      refine wlK i6 ?_
      refine aJ ?_
      refine aB ?_
      refine dx ?_
      refine dr (.agg #[(iI 2), (iI 0), (iI 0), Zn]) (aL (cH rfl) (by kernel_rfl)) ?_
      simp only [pq]
      refine bD e5 (v := fun n => .slice (aA n 0) 1 1) rfl (bS (ps := #[(0, (.agg #[(iI 2), (iI 0), (iI 0), Zn]))]) (cells := #[(iI 2), (iI 0), (iI 0), Zn]) (E := 33) (cH rfl) (fun w => by kernel_rfl)) (fun gc gd s2 => ?_)
      refine eN (i := 0) (r := 0) (p := Ac.sync) (cs := [(iI 2), (iI 0), (iI 0), Zn]) s2 rfl i8 (.agg #[(iI 0), (iI 0), (iI 0), Zn]) 48 Tryz.underlying23 c1 c2 c3 c4 rfl (by decide) rfl rfl rfl rfl rfl (AcC.oneCell (F := k8) (p := Ac.sync) ⟨_, rfl, Bs.nil _⟩) (⟨_, rfl, Bs.nil _⟩) (Nat.le_refl _) s2.gr.below.size (by unfold maxLen; (simp; have := (mX (fI l0 i) z).len; omega)) (by (simp; have := (mX (fI l0 i) z).len; omega)) ?_
      intro ge gg b5 bg
      simp only [pq]
      have b5 := St.drop b5 (.cons _ (List.Sublist.refl _))
      obtain ⟨ae, l1, rfl, gh, af⟩ := (b5.own (i := 0) rfl).shape
      unfold maxLen at af
      refine dy ?_
      refine wlK a7 ?_
      rw [show (((sZ (eP l0 i) z).map Rc.ac) ++ [Ac.sync]) = ((nW (eP l0 i) z).map Rc.ac) from (by unfold nW; rw [if_pos (by omega), List.map_append]; rfl)] at b5 ⊢
      refine aB ?_
      refine dx ?_
      refine cO (i + 1) ?_
      refine aC ?_
      refine aG ?_
      have b5 := St.drop b5 (.cons _ (.cons _ (List.Sublist.refl _)))
      rw [show ((nW (eP l0 i) z).map Rc.ac) = ((eP l0 (i + 1)).map Rc.ac) from (by rw [mF hz_z])] at b5 ⊢
      exact a6 _ _ _ (by omega) ⟨(i + 1), ae, l1, k8, _, rfl, rfl, rfl, b5, (((((((a1.trans a2).trans a4).trans a3).trans b3).trans f7).trans d2).trans b4), (by omega), (by omega)⟩
     ·refine gB ?_
      refine wlK i6 ?_
      refine aF ?_
      refine aH ?_
      refine a7 _ _ ?_
      rw [show ((sZ (eP l0 i) z).map Rc.ac) = ((nW (eP l0 i) z).map Rc.ac) from (by unfold nW; rw [if_neg (by omega)])] at e5 ⊢
      refine aB ?_
      refine dx ?_
      refine cO (i + 1) ?_
      refine aC ?_
      refine aG ?_
      have e5 := St.drop e5 (.cons _ (.cons _ (List.Sublist.refl _)))
      rw [show ((nW (eP l0 i) z).map Rc.ac) = ((eP l0 (i + 1)).map Rc.ac) from (by rw [mF hz_z])] at e5 ⊢
      exact a6 _ _ _ (by omega) ⟨(i + 1), ab, k9, k8, _, rfl, rfl, rfl, e5, (((((((a1.trans a2).trans a4).trans a3).trans b3).trans f7).trans d2).trans b4), (by omega), (by omega)⟩
    ·refine aH ?_
     refine i4 _ _ ?_
     have hbv : TE r = 0 := by
      have hf : r.found = false := by simpa using i5
      unfold TE; rw [hf]; rfl
     have ag := St.thaw e2 f5 h0 (f3.trans a8) a8
     refine aB ?_
     refine aC ?_
     refine cO 1 ?_
     simp only [pq]
     refine dr (.int .u8 (((dX (1 : Int)).toNat : Nat) : Int)) (bB (v := (iI 1)) rfl (vG (1 : Int) _)) ?_
     refine bD ag (v := fun n => .slice (aA n 0) 1 1) rfl (bS (ps := #[(0, (.int .u8 (((dX (1 : Int)).toNat : Nat) : Int)))]) (cells := #[(.int .u8 (((dX (1 : Int)).toNat : Nat) : Int))]) (E := 5) (cH rfl) (fun w => by kernel_rfl)) (fun l2 ah ai => ?_)
     refine dr (.agg #[(iI 4), (.slice (aA a9 0) 1 1), (.slice (aA b0 0) 1 1), Zn, (.slice (aA l2 0) 1 1)]) (aL (mN rfl rfl rfl rfl) (by kernel_rfl)) ?_
     simp only [pq]
     obtain ⟨l3, b6, s3⟩ := St.freezeBlk ai (i := 0) rfl
     have aj : Bs _ (.slice (some ⟨l2, 0, none⟩) 1 1) ([dX (1 : Int)] : By) := gE (l := ([dX (1 : Int)] : By)) s3 (rfl) (by unfold maxLen; simp)
     generalize addF f1 ah l2 = gj at *
     refine aR l3 rfl (fn2 (pY _ _)) (gG _ _ _ (aN z 4) 4 (⟨([99] : By), ([110] : By), [], ([dX (1 : Int)] : By)⟩ : Rq) (l3).sat (hT.1.below l3.gr.below) ⟨_, _, _, _, rfl, (g0.mono ((((a1.trans a2).trans a4).trans a3).trans b6)), (f9.mono (((((b1.trans a1).trans a2).trans a4).trans a3).trans b6)), (Bs.nil _), aj⟩ ⟨by decide, by kernel_rfl⟩) ?_
     intro gk gn gp l4 f8 ak
     obtain ⟨d5, d6, rfl, l5⟩ := ak
     have l5 : Bs _ (.slice d5 (cR 4 (⟨([99] : By), ([110] : By), [], ([dX (1 : Int)] : By)⟩ : Rq)).length d6) (cR 4 (⟨([99] : By), ([110] : By), [], ([dX (1 : Int)] : By)⟩ : Rq)) := l5
     refine dx ?_
     refine dr (.agg #[(iI 6), Zn, Zn, Zn, Zn]) (aL (cH rfl) (by kernel_rfl)) ?_
     refine aR l4 rfl (fn2 (pY _ _)) (gG _ _ _ (aN z 4) 6 (⟨[], [], [], []⟩ : Rq) (l4).sat (hT.1.below l4.gr.below) ⟨_, _, _, _, rfl, (Bs.nil _), (Bs.nil _), (Bs.nil _), (Bs.nil _)⟩ ⟨by decide, by kernel_rfl⟩) ?_
     intro gq gs al am d7 an
     obtain ⟨d8, d9, rfl, l6⟩ := an
     have l6 : Bs _ (.slice d8 (cR 6 (⟨[], [], [], []⟩ : Rq)).length d9) (cR 6 (⟨[], [], [], []⟩ : Rq)) := l6
     simp only [pq]
     refine bD am (v := fun n => .slice (aA n 0) 2 2) rfl (bS (ps := #[(0, (.agg #[(iI 1), (nI (aN z 4)), (iI 0), (.slice d5 (cR 4 (⟨([99] : By), ([110] : By), [], ([dX (1 : Int)] : By)⟩ : Rq)).length d6)])), (1, (.agg #[(iI 1), (nI (aN z 4)), (iI 0), (.slice d8 (cR 6 (⟨[], [], [], []⟩ : Rq)).length d9)]))]) (cells := #[(iI 1), (nI (aN z 4)), (iI 0), (.slice d5 (cR 4 (⟨([99] : By), ([110] : By), [], ([dX (1 : Int)] : By)⟩ : Rq)).length d6), (iI 1), (nI (aN z 4)), (iI 0), (.slice d8 (cR 6 (⟨[], [], [], []⟩ : Rq)).length d9)]) (E := 33) (fY rfl rfl) (fun w => by kernel_rfl)) (fun l7 ao ap => ?_)
     simp only [pq]
     obtain ⟨l8, b7, s4⟩ := St.freezeBlk ap (i := 0) rfl
     have aq : Acs _ (.slice (some ⟨l7, 0, none⟩) 2 2) ([(Ac.ask (aN z 4) (cR 4 (⟨([99] : By), ([110] : By), [], ([dX (1 : Int)] : By)⟩ : Rq))), (Ac.ask (aN z 4) (cR 6 (⟨[], [], [], []⟩ : Rq)))] : List Ac) := gF (R := AcC) (l := ([(Ac.ask (aN z 4) (cR 4 (⟨([99] : By), ([110] : By), [], ([dX (1 : Int)] : By)⟩ : Rq))), (Ac.ask (aN z 4) (cR 6 (⟨[], [], [], []⟩ : Rq)))] : List Ac)) (el := [[(.int .i64 1), (.int .i64 (((aN z 4) : Nat) : Int)), (.int .i64 0), (.slice d5 (cR 4 (⟨([99] : By), ([110] : By), [], ([dX (1 : Int)] : By)⟩ : Rq)).length d6)], [(.int .i64 1), (.int .i64 (((aN z 4) : Nat) : Int)), (.int .i64 0), (.slice d8 (cR 6 (⟨[], [], [], []⟩ : Rq)).length d9)]]) s4 rfl ⟨⟨_, rfl, Bs.mono (l5.mono d7) b7⟩, ⟨_, rfl, Bs.mono l6 b7⟩, trivial⟩ (by simp) (by unfold maxLen; simp)
     generalize addF al ao l7 = l9 at *
     refine eE (r := 0) (u := (.slice (aA l7 0) 2 2)) l8 rfl i8 (.agg #[(iI 0), (iI 0), (iI 0), Zn]) 48 Tryz.underlying23 c1 c2 c3 c4 rfl (by decide) rfl rfl rfl (Sl.toW aq (l8).sat) AcC.one (Nat.le_refl _) l8.gr.below.size (by unfold maxLen; (simp; have := (mW (fI l0 i) z).len; omega)) (by (simp; have := (mW (fI l0 i) z).len; omega)) ?_
     intro gt gu h4 bh
     simp only [pq]
     obtain ⟨ar, m0, rfl, gx, au⟩ := (h4.own (i := 0) rfl).shape
     unfold maxLen at au
     refine dy ?_
     refine wlK f6 ?_
     refine aE fun gy i7 => ?_
     rw [show (((pD (eP l0 i) z).map Rc.ac) ++ [(Ac.ask (aN z 4) (cR 4 (⟨([99] : By), ([110] : By), [], ([dX (1 : Int)] : By)⟩ : Rq))), (Ac.ask (aN z 4) (cR 6 (⟨[], [], [], []⟩ : Rq)))]) = ((sZ (eP l0 i) z).map Rc.ac) from (by unfold sZ; rw [hG, hr1]; simp only [hok, if_true]; rw [List.map_append, hbv]; rfl)] at h4 ⊢
     refine aB ?_
     iterate 2 refine dx ?_
     refine dr (pP g6 (g7 + i * 1)) (bP (i := i) (sz := 1) Tryz.underlying60 (eA _) rfl c5 rfl (by omega) rfl) ?_
     simp only [pq]
     refine dr _ (aD rfl (aW (bN _) (St.fz h4 (Le.cell ((((((a2.trans a4).trans a3).trans b6).trans f8).trans d7).trans b7) g8)))) ?_
     simp only [pq]
     have bi := gA z (m := 3) (by decide)
     refine aI (v := (nI (aN z 3))) h4 rfl (fn2 (pX _ _)) (fN z 3 _ (by omega) (by omega) (by decide) (by decide)) (fun gz e6 => ?_)
     simp only [pq]
     by_cases i3 : (aN z 3) = 0
     ·refine iQ ?_
      refine wlK i7 ?_
      refine aJ ?_
      refine aB ?_
      refine dx ?_
      refine dr (.agg #[(iI 2), (iI 0), (iI 0), Zn]) (aL (cH rfl) (by kernel_rfl)) ?_
      simp only [pq]
      refine bD e6 (v := fun n => .slice (aA n 0) 1 1) rfl (bS (ps := #[(0, (.agg #[(iI 2), (iI 0), (iI 0), Zn]))]) (cells := #[(iI 2), (iI 0), (iI 0), Zn]) (E := 33) (cH rfl) (fun w => by kernel_rfl)) (fun ha hb s5 => ?_)
      refine eN (i := 0) (r := 0) (p := Ac.sync) (cs := [(iI 2), (iI 0), (iI 0), Zn]) s5 rfl i8 (.agg #[(iI 0), (iI 0), (iI 0), Zn]) 48 Tryz.underlying23 c1 c2 c3 c4 rfl (by decide) rfl rfl rfl rfl rfl (AcC.oneCell (F := l9) (p := Ac.sync) ⟨_, rfl, Bs.nil _⟩) (⟨_, rfl, Bs.nil _⟩) (Nat.le_refl _) s5.gr.below.size (by unfold maxLen; (simp; have := (mX (fI l0 i) z).len; omega)) (by (simp; have := (mX (fI l0 i) z).len; omega)) ?_
      intro hc hd b9 bj
      simp only [pq]
      have b9 := St.drop b9 (.cons _ (List.Sublist.refl _))
      obtain ⟨av, m1, rfl, he, aw⟩ := (b9.own (i := 0) rfl).shape
      unfold maxLen at aw
      refine dy ?_
      refine wlK a7 ?_
      rw [show (((sZ (eP l0 i) z).map Rc.ac) ++ [Ac.sync]) = ((nW (eP l0 i) z).map Rc.ac) from (by unfold nW; rw [if_pos (by omega), List.map_append]; rfl)] at b9 ⊢
      refine aB ?_
      refine dx ?_
      refine cO (i + 1) ?_
      refine aC ?_
      refine aG ?_
      have b9 := St.drop b9 (.cons _ (.cons _ (List.Sublist.refl _)))
      rw [show ((nW (eP l0 i) z).map Rc.ac) = ((eP l0 (i + 1)).map Rc.ac) from (by rw [mF hz_z])] at b9 ⊢
      exact a6 _ _ _ (by omega) ⟨(i + 1), av, m1, l9, _, rfl, rfl, rfl, b9, (((((((a1.trans a2).trans a4).trans a3).trans b6).trans f8).trans d7).trans b7), (by omega), (by omega)⟩
     ·refine gB ?_
      refine wlK i7 ?_
      refine aF ?_
      refine aH ?_
      refine a7 _ _ ?_
      rw [show ((sZ (eP l0 i) z).map Rc.ac) = ((nW (eP l0 i) z).map Rc.ac) from (by unfold nW; rw [if_neg (by omega)])] at e6 ⊢
      refine aB ?_
      refine dx ?_
      refine cO (i + 1) ?_
      refine aC ?_
      refine aG ?_
      have e6 := St.drop e6 (.cons _ (.cons _ (List.Sublist.refl _)))
      rw [show ((nW (eP l0 i) z).map Rc.ac) = ((eP l0 (i + 1)).map Rc.ac) from (by rw [mF hz_z])] at e6 ⊢
      exact a6 _ _ _ (by omega) ⟨(i + 1), ar, m0, l9, _, rfl, rfl, rfl, e6, (((((((a1.trans a2).trans a4).trans a3).trans b6).trans f8).trans d7).trans b7), (by omega), (by omega)⟩
  ·refine eT ?_
   refine dp ?_
   refine wn f0 ?_
   refine aF ?_
   refine cV ?_
   exact h5 _ _ ⟨i, ra, rc, e9, _, rfl, rfl, g5, a1, hi, him, (by omega)⟩
 ·refine eT ?_
  refine aC ?_
  refine wn f0 ?_
  refine aF ?_
  refine cV ?_
  exact h5 _ _ ⟨i, ra, rc, e9, _, rfl, rfl, g5, a1, hi, him, (by omega)⟩
end Go.Proofs.YtilgpdpooildcaaGreatDoor
