/- Rules, plain laws and walks: SV16 SV17 P25 P27 S13 P30 -/
import Derived.Test.YtilgpdpooildcaaGreatDoorDA12
import Derived.Test.YtilgpdpooildcaaGreatDoorDA2
import Derived.Test.YtilgpdpooildcaaGreatDoorDA3
import Derived.Test.YtilgpdpooildcaaGreatDoorDA5
import Derived.Test.YtilgpdpooildcaaGreatDoorDA11
namespace Go.Proofs.YtilgpdpooildcaaGreatDoor
set_option maxHeartbeats 8000000
open Go.RowKit
set_option maxRecDepth 100000
set_option linter.unusedVariables false
set_option linter.unusedSimpArgs false
theorem fN (n : Int) (m : Nat) (w : World) (h1 : -9223372036854775808 ≤ n) (h2 : n ≤ 9223372036854775807) (hm : 1 ≤ m) (hm2 : m ≤ 10000000) :
    Calls Tryz.prog 20 #[.int .i64 n, .int .i64 ((m : Nat) : Int)] w (cU w (.int .i64 ((aN n m : Nat) : Int))) := by
 rw [← Dc n hm]
 exact QN n m w h1 h2 (by omega) (by omega)
theorem ReqR.mono {F F' : Fz} {v : Value} {p : Nat × Rq} (h : ReqR F v p) (hl : Le F F') : ReqR F' v p := by
 obtain ⟨a, c, a1, c1, a2, c2, a3, c3, e, r, r1, r2, r3⟩ := h
 exact ⟨a, c, a1, c1, a2, c2, a3, c3, e, r.mono hl, r1.mono hl, r2.mono hl, r3.mono hl⟩
theorem ReqR.dropF {w : World} {F : Fz} {n : Nat} {cs : List Value} {T : TypeId} (hs : Sat w F) (hb : w.heap[n]? = some (.cells cs.toArray T (0, 0))) (hc : ∀ u ∈ cs, ∀ x, u ≠ bv x) {v : Value} {p : Nat × Rq} (h : ReqR F v p) : ReqR (Proofs.YtilgpdpooildcaaGreatDoor.dropF F n) v p := by
 obtain ⟨a, c, a1, c1, a2, c2, a3, c3, e, r, r1, r2, r3⟩ := h
 exact ⟨a, c, a1, c1, a2, c2, a3, c3, e, Bs.dropF hs hb hc r, Bs.dropF hs hb hc r1, Bs.dropF hs hb hc r2, Bs.dropF hs hb hc r3⟩
theorem MA (F : Fz) (w : World) (g : Ge) (hs : Sat w F) (hg : YB g) :
    Calls Tryz.prog 19 #[.agg #[.int .i64 g.kind, .int .i64 g.session, .int .i64 g.name, .int .i64 g.key, .int .i64 g.value]] w (dB w F fun F' u => ReqR F' u (sM g)) := by
 have S := St.start hs
 go_enter Tryz.func19, Tryz.ntmps19
 refine aE fun K1 hK1 => ?_
 obtain ⟨⟨b0, b0'⟩, ⟨b1, b1'⟩, ⟨b2, b2'⟩, ⟨b3, b3'⟩, b4, b4'⟩ := hg
 refine aB ?_
 refine bD S (v := fun n => .pointer (aA n 0)) rfl (cB (v := (.agg #[(.int .i64 g.kind), (.int .i64 g.session), (.int .i64 g.name), (.int .i64 g.key), (.int .i64 g.value)])) rfl) (fun n2 w3 S4 => ?_)
 refine sA S4 (uU _) fun n5 w6 S7 => ?_
 refine wlK hK1 ?_
 refine aE fun K8 hK8 => ?_
 have hp2 := gA g.name (m := 3) (by decide)
 have hp3 := gA g.key (m := 5) (by decide)
 obtain ⟨S9, h3, a1⟩ := St.freezeBlk S7 (i := 1) rfl
 generalize addF F w6 n2 = h4 at *
 refine aT h4 14 [(2, .is (nI (aN g.name 3))), (5, .made (fun F' u => Bs F' u [(dX (((97 + (aN g.name 3)) : Nat) : Int))])), (8, .is (nI (aN g.key 5))), (11, .made (fun F' u => Bs F' u [(dX (((107 + (aN g.key 5)) : Nat) : Int))])), (12, .made (fun F' u => ReqR F' u ((0, (⟨[(dX (((97 + (aN g.name 3)) : Nat) : Int))], [(dX (((107 + (aN g.key 5)) : Nat) : Int))], [], []⟩ : Rq)) : Nat × Rq))), (13, .rel (NewAt w6 [(iI 0), Zn, Zn, Zn, Zn] 27) (NewAt.stable _ _ _))] (by kernel_rfl) (by kernel_rfl) ?_
 simp only [dD]
 refine gf (KF _ _) ?_
 refine gv _ (fun _ a0 => aD rfl (aW (bN _) (St.fz (St.tells S9 a0) (a1 2 _ rfl)))) ?_
 simp only [pq]
 refine gY rfl rfl (v := (nI (aN g.name 3))) (fun b7 a0 _ => bO (cK (vs := #[(.int .i64 g.name), (iI 3)]) (iD rfl rfl) rfl (pX _ _)) (iB (fN g.name 3 _ (by omega) (by omega) (by decide) (by decide)))) ?_
 refine gv (nI (97 + (aN g.name 3))) (fun _ _ => iC (m := (97 : Int)) (n := (((aN g.name 3) : Nat) : Int)) (r := (((97 + (aN g.name 3)) : Nat) : Int)) rfl rfl (by omega) (by omega) (by omega)) ?_
 refine gv (.int .u8 (((dX (((97 + (aN g.name 3)) : Nat) : Int)).toNat : Nat) : Int)) (fun _ _ => bB (v := (nI (97 + (aN g.name 3)))) rfl (vG (((97 + (aN g.name 3)) : Nat) : Int) _)) ?_
 simp only [pq]
 refine dF rfl rfl (fun b7 a0 _ => JF (b := (dX (((97 + (aN g.name 3)) : Nat) : Int))) (Gr.of_below S9.sat a0) (bS (ps := #[(0, (.int .u8 (((dX (((97 + (aN g.name 3)) : Nat) : Int)).toNat : Nat) : Int)))]) (cells := #[(.int .u8 (((dX (((97 + (aN g.name 3)) : Nat) : Int)).toNat : Nat) : Int))]) (E := 5) (cH rfl) (fun w => by kernel_rfl))) (fun m9 => ?_)
 refine gf (KG _ _) ?_
 refine gv _ (fun _ a0 => aD rfl (aW (bN _) (St.fz (St.tells S9 a0) (a1 3 _ rfl)))) ?_
 simp only [pq]
 refine gY rfl rfl (v := (nI (aN g.key 5))) (fun b7 a0 _ => bO (cK (vs := #[(.int .i64 g.key), (iI 5)]) (iD rfl rfl) rfl (pX _ _)) (iB (fN g.key 5 _ (by omega) (by omega) (by decide) (by decide)))) ?_
 refine gv (nI (107 + (aN g.key 5))) (fun _ _ => iC (m := (107 : Int)) (n := (((aN g.key 5) : Nat) : Int)) (r := (((107 + (aN g.key 5)) : Nat) : Int)) rfl rfl (by omega) (by omega) (by omega)) ?_
 refine gv (.int .u8 (((dX (((107 + (aN g.key 5)) : Nat) : Int)).toNat : Nat) : Int)) (fun _ _ => bB (v := (nI (107 + (aN g.key 5)))) rfl (vG (((107 + (aN g.key 5)) : Nat) : Int) _)) ?_
 simp only [pq]
 refine dF rfl rfl (fun b7 a0 _ => JF (b := (dX (((107 + (aN g.key 5)) : Nat) : Int))) (Gr.of_below S9.sat a0) (bS (ps := #[(0, (.int .u8 (((dX (((107 + (aN g.key 5)) : Nat) : Int)).toNat : Nat) : Int)))]) (cells := #[(.int .u8 (((dX (((107 + (aN g.key 5)) : Nat) : Int)).toNat : Nat) : Int))]) (E := 5) (cH rfl) (fun w => by kernel_rfl))) (fun n0 => ?_)
 simp only [pq]
 refine dF rfl rfl (fun b7 a0 hF_ => ?_) (fun n1 => ?_)
 ·obtain ⟨e3, f9, h5⟩ := hF_.get 5 (by kernel_rfl) rfl rfl
  obtain ⟨e4, g0, h6⟩ := hF_.get 11 (by kernel_rfl) rfl rfl
  have hR1 := (h5.mono (iM e3 e4))
  obtain ⟨h7, h8, rfl, _⟩ := hR1.shape
  have hR2 := (h6.mono (jN f9.sat g0.sat))
  obtain ⟨h9, i0, rfl, _⟩ := hR2.shape
  have hR3 := Bs.nil (both e3 e4)
  have hR4 := Bs.nil (both e3 e4)
  exact hJ (aL (fY rfl rfl) (by kernel_rfl)) ⟨(both e3 e4), (f9.both g0), ⟨_, _, _, _, _, _, _, _, rfl, hR1, hR2, hR3, hR4⟩⟩ (Below.refl _ _)
 simp only [pq]
 refine dF rfl rfl (fun b7 a0 _ => iX (cs := [(iI 0), Zn, Zn, Zn, Zn]) (uU _) rfl a0) (fun n3 => ?_)
 refine bY ?_
 intro n4 i1 a8
 obtain ⟨i2, rfl, b9, c0⟩ := a8.getR 13 rfl rfl
 have a9 : ∀ u ∈ [(.int .i64 0), (.slice none 0 0), (.slice none 0 0), (.slice none 0 0), (.slice none 0 0)], ∀ x, u ≠ bv x := by intro u hu x; simp only [List.mem_cons, List.not_mem_nil, or_false] at hu; rcases hu with rfl | rfl | rfl | rfl | rfl <;> (unfold bv; simp)
 obtain ⟨i3, g1, i4⟩ := a8.get 12 rfl rfl
 have g2 := g1.dropF S9.sat b9
 have i5 := ReqR.dropF g1.sat c0 a9 i4
 have i6 := St.addBlk (cs := [(.int .i64 0), (.slice none 0 0), (.slice none 0 0), (.slice none 0 0), (.slice none 0 0)]) S9 g2 b9 (mP _ _) c0
 have b5 : Le _ _ := g2.le S9.sat
 have i7 := i5
 generalize (dropF i3 i2) = g3 at *
 obtain ⟨i8, i9, j0, j1, j2, j3, j4, j5, rfl, c1, c2, e5, e6⟩ := i7
 clear a8
 simp only [dE]
 refine sW 0 i6 (aY) fun n6 g4 => ?_
 simp only [pq]
 refine wlK hK8 ?_
 refine aE fun n7 a2 => ?_
 refine sk fun n8 e7 => ?_
 refine df (TW _ _) ?_
 refine dr _ (aD rfl (aW (bN _) (St.fz g4 (Le.cell b5 (a1 0 _ rfl))))) ?_
 simp only [pq]
 have j6 := gA g.kind (m := 20) (by decide)
 refine aI (v := (nI (aN g.kind 20))) g4 rfl (fn2 (pX _ _)) (fN g.kind 20 _ (by omega) (by omega) (by decide) (by decide)) (fun n9 a4 => ?_)
 refine dy ?_
 refine wn e7 ?_
 refine aM ?_
 refine sk fun o0 c3 => ?_
 refine dx ?_
 simp only [pq]
 by_cases j7 : (aN g.kind 20) < 4
 ·refine eZ ?_
  refine dy ?_
  refine wn c3 ?_
  refine aJ ?_
  refine sk fun o1 e8 => ?_
  refine dr (.agg #[(iI 1), Zn, Zn, Zn, Zn]) (aL (cH rfl) (by kernel_rfl)) ?_
  simp only [pq]
  refine sW 1 a4 (aY) fun o2 g5 => ?_
  refine wn e8 ?_
  refine aP ?_
  try simp only [xt]
  refine bR (qR rfl ⟨_, rfl, lR g5 1 Tryz.underlying27 (aY)⟩) ?_
  ·have e : sM g = (1, rq0) := by
    unfold sM LW
    rw [if_pos (by omega)]
   refine ⟨_, _, rfl, g5.gr, ?_⟩
   rw [e]
   exact ⟨_, _, _, _, _, _, _, _, rfl, Bs.nil _, Bs.nil _, Bs.nil _, Bs.nil _⟩
 ·refine eT ?_
  refine dy ?_
  simp only [pq]
  refine wn c3 ?_
  refine aF ?_
  refine sk fun o3 c4 => ?_
  refine dx ?_
  simp only [pq]
  by_cases j8 : (aN g.kind 20) < 7
  ·refine eZ ?_
   refine dy ?_
   refine wn c4 ?_
   refine aJ ?_
   refine aB ?_
   refine aC ?_
   refine sW 0 a4 (rX) fun o4 g6 => ?_
   refine wlK a2 ?_
   refine sk fun o5 e9 => ?_
   refine dR g6 0 Tryz.underlying27 (aY) ?_
   refine sW 1 g6 (aY) fun o6 g7 => ?_
   simp only [pq]
   refine wn e9 ?_
   refine aP ?_
   try simp only [xt]
   refine bR (qR rfl ⟨_, rfl, lR g7 1 Tryz.underlying27 (aY)⟩) ?_
   ·have e : sM g = (2, ⟨jI g, jJ g.key, [], []⟩) := by
     unfold sM LW
     rw [if_neg (by omega), if_pos (by omega)]
    refine ⟨_, _, rfl, g7.gr, ?_⟩
    rw [e]
    exact ⟨_, _, _, _, _, _, _, _, rfl, c1, c2, e5, e6⟩
  ·refine eT ?_
   refine dy ?_
   refine wn c4 ?_
   refine aF ?_
   refine sk fun o7 c5 => ?_
   refine dx ?_
   simp only [pq]
   by_cases j9 : (aN g.kind 20) = 7
   ·refine iQ ?_
    refine dy ?_
    refine wn c5 ?_
    refine aJ ?_
    refine sk fun o8 f0 => ?_
    refine aC ?_
    refine sW 0 a4 (rX) fun o9 g8 => ?_
    refine wn f0 ?_
    refine aB ?_
    refine df (BF _ _) ?_
    refine dr _ (aD rfl (aW (bN _) (St.fz g8 (Le.cell b5 (a1 4 _ rfl))))) ?_
    simp only [pq]
    have k0 := gA g.value (m := 5) (by decide)
    refine aI (v := (nI (aN g.value 5))) g8 rfl (fn2 (pX _ _)) (fN g.value 5 _ (by omega) (by omega) (by decide) (by decide)) (fun p0 k1 => ?_)
    refine cO (107 + (aN g.value 5)) ?_
    refine dr (.int .u8 (((dX (((107 + (aN g.value 5)) : Nat) : Int)).toNat : Nat) : Int)) (bB (v := (nI (107 + (aN g.value 5)))) rfl (vG (((107 + (aN g.value 5)) : Nat) : Int) _)) ?_
    refine bD k1 (v := fun n => .slice (aA n 0) 1 1) rfl (bS (ps := #[(0, (.int .u8 (((dX (((107 + (aN g.value 5)) : Nat) : Int)).toNat : Nat) : Int)))]) (cells := #[(.int .u8 (((dX (((107 + (aN g.value 5)) : Nat) : Int)).toNat : Nat) : Int))]) (E := 5) (cH rfl) (fun w => by kernel_rfl)) (fun g9 p1 k2 => ?_)
    refine aC ?_
    refine sW 1 k2 (mH) fun p2 h0 => ?_
    refine wlK a2 ?_
    refine sk fun p3 f1 => ?_
    refine dR h0 1 Tryz.underlying27 (aY) ?_
    simp only [pq]
    refine sW 2 h0 (aY) fun k3 h1 => ?_
    refine wn f1 ?_
    refine aP ?_
    try simp only [xt]
    refine bR (qR rfl ⟨_, rfl, lR h1 2 Tryz.underlying27 (aY)⟩) ?_
    ·obtain ⟨k4, b6, f2⟩ := St.freezeBlk h1 (i := 0) rfl
     have k5 : Bs _ (.slice (some ⟨g9, 0, none⟩) 1 1) ([dX (((107 + (aN g.value 5)) : Nat) : Int)] : By) := gE (l := ([dX (((107 + (aN g.value 5)) : Nat) : Int)] : By)) f2 (rfl) (by unfold maxLen; simp)
     generalize addF g3 k3 g9 = p4 at *
     have e : sM g = (3, ⟨jI g, jJ g.key, jJ g.value, []⟩) := by
      unfold sM LW
      rw [if_neg (by omega), if_neg (by omega), if_pos (by omega)]
     refine ⟨_, _, rfl, k4.gr, ?_⟩
     rw [e]
     exact ⟨_, _, _, _, _, _, _, _, rfl, (c1.mono b6), (c2.mono b6), k5, (e6.mono b6)⟩
   ·refine gB ?_
    refine dy ?_
    simp only [pq]
    refine wn c5 ?_
    refine aF ?_
    refine sk fun p5 c6 => ?_
    refine dx ?_
    simp only [pq]
    by_cases k6 : (aN g.kind 20) < 12
    ·refine eZ ?_
     refine dy ?_
     refine wn c6 ?_
     refine aJ ?_
     refine sk fun p6 f3 => ?_
     refine aC ?_
     refine sW 0 a4 (rX) fun k7 c7 => ?_
     refine wn f3 ?_
     refine aB ?_
     refine df (BF _ _) ?_
     refine dr _ (aD rfl (aW (bN _) (St.fz c7 (Le.cell b5 (a1 4 _ rfl))))) ?_
     simp only [pq]
     have h2 := gA g.value (m := 50) (by decide)
     refine aI (v := (nI (aN g.value 50))) c7 rfl (fn2 (pX _ _)) (fN g.value 50 _ (by omega) (by omega) (by decide) (by decide)) (fun k8 f4 => ?_)
     refine dr (.int .u8 (((dX (((aN g.value 50) : Nat) : Int)).toNat : Nat) : Int)) (bB (v := (nI (aN g.value 50))) rfl (vG (((aN g.value 50) : Nat) : Int) _)) ?_
     refine bD f4 (v := fun n => .slice (aA n 0) 1 1) rfl (bS (ps := #[(0, (.int .u8 (((dX (((aN g.value 50) : Nat) : Int)).toNat : Nat) : Int)))]) (cells := #[(.int .u8 (((dX (((aN g.value 50) : Nat) : Int)).toNat : Nat) : Int))]) (E := 5) (cH rfl) (fun w => by kernel_rfl)) (fun c8 k9 f5 => ?_)
     refine aC ?_
     refine sW 1 f5 (mH) fun l0 c9 => ?_
     refine wlK a2 ?_
     refine sk fun l1 d0 => ?_
     refine dR c9 1 Tryz.underlying27 (aY) ?_
     simp only [pq]
     refine sW 2 c9 (aY) fun f6 d1 => ?_
     refine wn d0 ?_
     refine aP ?_
     try simp only [xt]
     refine bR (qR rfl ⟨_, rfl, lR d1 2 Tryz.underlying27 (aY)⟩) ?_
     ·obtain ⟨f7, a3, d2⟩ := St.freezeBlk d1 (i := 0) rfl
      have f8 : Bs _ (.slice (some ⟨c8, 0, none⟩) 1 1) ([dX (((aN g.value 50) : Nat) : Int)] : By) := gE (l := ([dX (((aN g.value 50) : Nat) : Int)] : By)) d2 (rfl) (by unfold maxLen; simp)
      generalize addF g3 f6 c8 = l2 at *
      have e : sM g = (4, ⟨jI g, jJ g.key, [], [dX ((aN g.value 50 : Nat) : Int)]⟩) := by
       unfold sM LW
       rw [if_neg (by omega), if_neg (by omega), if_neg (by omega), if_pos (by omega)]
      refine ⟨_, _, rfl, f7.gr, ?_⟩
      rw [e]
      exact ⟨_, _, _, _, _, _, _, _, rfl, (c1.mono a3), (c2.mono a3), (e5.mono a3), f8⟩
    ·refine eT ?_
     refine aC ?_
     refine wn c6 ?_
     refine aF ?_
     refine sk fun l3 a5 => ?_
     refine aC ?_
     by_cases l4 : (aN g.kind 20) = 12
     ·refine iQ ?_
      refine dy ?_
      refine wn a5 ?_
      refine aJ ?_
      refine aB ?_
      refine aC ?_
      refine sW 0 a4 (rX) fun l5 d3 => ?_
      refine wlK a2 ?_
      refine sk fun l6 d4 => ?_
      refine dR d3 0 Tryz.underlying27 (aY) ?_
      refine sW 1 d3 (aY) fun l7 d5 => ?_
      simp only [pq]
      refine wn d4 ?_
      refine aP ?_
      try simp only [xt]
      refine bR (qR rfl ⟨_, rfl, lR d5 1 Tryz.underlying27 (aY)⟩) ?_
      ·have e : sM g = (5, ⟨jI g, jJ g.key, [], []⟩) := by
        unfold sM LW
        rw [if_neg (by omega), if_neg (by omega), if_neg (by omega), if_neg (by omega), if_pos (by omega)]
       refine ⟨_, _, rfl, d5.gr, ?_⟩
       rw [e]
       exact ⟨_, _, _, _, _, _, _, _, rfl, c1, c2, e5, e6⟩
     ·refine gB ?_
      refine dy ?_
      refine wn a5 ?_
      refine aF ?_
      refine sk fun l8 a6 => ?_
      refine aC ?_
      by_cases l9 : (aN g.kind 20) < 17
      ·refine eZ ?_
       refine dy ?_
       refine wn a6 ?_
       refine aJ ?_
       refine sk fun m0 d6 => ?_
       refine dr (.agg #[(iI 6), Zn, Zn, Zn, Zn]) (aL (cH rfl) (by kernel_rfl)) ?_
       simp only [pq]
       refine sW 1 a4 (aY) fun m1 d7 => ?_
       refine wn d6 ?_
       refine aP ?_
       try simp only [xt]
       refine bR (qR rfl ⟨_, rfl, lR d7 1 Tryz.underlying27 (aY)⟩) ?_
       ·have e : sM g = (6, rq0) := by
         unfold sM LW
         rw [if_neg (by omega), if_neg (by omega), if_neg (by omega), if_neg (by omega), if_neg (by omega), if_pos (by omega)]
        refine ⟨_, _, rfl, d7.gr, ?_⟩
        rw [e]
        exact ⟨_, _, _, _, _, _, _, _, rfl, Bs.nil _, Bs.nil _, Bs.nil _, Bs.nil _⟩
      ·refine eT ?_
       refine aC ?_
       refine wn a6 ?_
       refine aF ?_
       refine sk fun m2 a7 => ?_
       refine aC ?_
       by_cases m3 : (aN g.kind 20) = 17
       ·refine iQ ?_
        refine dy ?_
        refine wn a7 ?_
        refine aJ ?_
        refine sk fun m4 d8 => ?_
        refine dr (.agg #[(iI 7), Zn, Zn, Zn, Zn]) (aL (cH rfl) (by kernel_rfl)) ?_
        simp only [pq]
        refine sW 1 a4 (aY) fun m5 d9 => ?_
        refine wn d8 ?_
        refine aP ?_
        try simp only [xt]
        refine bR (qR rfl ⟨_, rfl, lR d9 1 Tryz.underlying27 (aY)⟩) ?_
        ·have e : sM g = (7, rq0) := by
          unfold sM LW
          rw [if_neg (by omega), if_neg (by omega), if_neg (by omega), if_neg (by omega), if_neg (by omega), if_neg (by omega), if_pos (by omega)]
         refine ⟨_, _, rfl, d9.gr, ?_⟩
         rw [e]
         exact ⟨_, _, _, _, _, _, _, _, rfl, Bs.nil _, Bs.nil _, Bs.nil _, Bs.nil _⟩
       ·refine gB ?_
        refine aC ?_
        refine wn a7 ?_
        refine aF ?_
        refine aB ?_
        refine df (lJ _ _) ?_
        refine sW 0 a4 (rX) fun m6 e0 => ?_
        refine wlK a2 ?_
        refine sk fun m7 e1 => ?_
        refine dR e0 0 Tryz.underlying27 (aY) ?_
        simp only [pq]
        refine sW 1 e0 (aY) fun m8 e2 => ?_
        refine wn e1 ?_
        refine aP ?_
        try simp only [xt]
        refine bR (qR rfl ⟨_, rfl, lR e2 1 Tryz.underlying27 (aY)⟩) ?_
        ·have e : sM g = (8, ⟨jI g, jJ g.key, [], []⟩) := by
          unfold sM LW
          rw [if_neg (by omega), if_neg (by omega), if_neg (by omega), if_neg (by omega), if_neg (by omega), if_neg (by omega), if_neg (by omega)]
         refine ⟨_, _, rfl, e2.gr, ?_⟩
         rw [e]
         exact ⟨_, _, _, _, _, _, _, _, rfl, c1, c2, e5, e6⟩
structure Scr (n : Nat) (a : List Rc) : Prop where
  ok : a.all rcB = true
  p : a.any rcP = false
  k : a.any rcK = false
  c : (a.map fun x => if rcC x then 1 else 0).sum ≤ n
  len : a.length ≤ 10 * n
theorem Scr.append {m n : Nat} {a b : List Rc} (h : Scr m a) (g : Scr n b) : Scr (m + n) (a ++ b) :=
  ⟨by rw [List.all_append, h.ok, g.ok]; rfl, by rw [List.any_append, h.p, g.p]; rfl, by rw [List.any_append, h.k, g.k]; rfl, by rw [List.map_append, List.sum_append]; have := h.c; have := g.c; omega, by rw [List.length_append]; have := h.len; have := g.len; omega⟩
theorem Scr.mono {m n : Nat} {a : List Rc} (h : Scr m a) (hn : m ≤ n) : Scr n a := ⟨h.ok, h.p, h.k, by have := h.c; omega, by have := h.len; omega⟩
theorem Df (z : Int) : Scr 1 (YG (aN z 4)) := by
 have h := gA z (m := 4) (by decide)
 rcases (by omega : aN z 4 = 0 ∨ aN z 4 = 1 ∨ aN z 4 = 2 ∨ aN z 4 = 3) with e | e | e | e <;> rw [e] <;> exact ⟨by kernel_rfl, by kernel_rfl, by kernel_rfl, by decide, by decide⟩
theorem Dg (z : Int) (v : Nat) : Scr 1 (Dd (aN z 4) v) := by
 have h := gA z (m := 4) (by decide)
 rcases (by omega : aN z 4 = 0 ∨ aN z 4 = 1 ∨ aN z 4 = 2 ∨ aN z 4 = 3) with e | e | e | e <;> rw [e] <;> exact ⟨by kernel_rfl, by kernel_rfl, by kernel_rfl, Nat.le_of_ble_eq_true (by kernel_rfl), Nat.le_of_ble_eq_true (by kernel_rfl)⟩
theorem QO : Scr 1 [Rc.sync] := ⟨rfl, rfl, rfl, by decide, by decide⟩
theorem mW {n : Nat} {a : List Rc} (h : Scr n a) (z : Int) : Scr (n + 1) (pD a z) := h.append (Df z)
theorem mX {n : Nat} {a : List Rc} (h : Scr n a) (z : Int) : Scr (n + 2) (sZ a z) := by
 unfold sZ
 split
 ·split
  ·exact (mW h z).append (Dg z _)
  ·exact (mW h z).mono (by omega)
 ·exact (mW h z).mono (by omega)
theorem Dh {n : Nat} {a : List Rc} (h : Scr n a) (z : Int) : Scr (n + 3) (nW a z) := by
 unfold nW
 split
 ·exact (mX h z).append QO
 ·exact (mX h z).mono (by omega)
theorem fI (l : List Int) : ∀ i, Scr (3 * i) (eP l i)
  | 0 => ⟨rfl, rfl, rfl, Nat.le_refl 0, Nat.le_refl 0⟩
  | i + 1 => by
    cases h : l[i]? with
    | some z => rw [← mF h]; exact (Dh (fI l i) z).mono (by omega)
    | none =>
      have e : eP l (i + 1) = eP l i := by
        have := List.getElem?_eq_none_iff.1 h
        unfold eP; rw [List.take_of_length_le (by omega), List.take_of_length_le (by omega)]
      rw [e]; exact (fI l i).mono (by omega)
theorem Scr.no {n : Nat} {a : List Rc} (h : Scr n a) (hn : n ≤ 149) : ScrOk (a.map Rc.ac) ∧ eD (a.map Rc.ac) = jW a := by
 refine Jk ?_
 have := h.c
 have := h.len
 rw [h.p, h.k]
 simp only [TC, h.ok, Bool.true_and, Bool.not_false, Bool.and_true, Bool.and_eq_true, decide_eq_true_eq]
 omega
def aQ (g : Ge) : Nat × Rq := (4, ⟨jI g, jJ g.key, [], jJ g.key⟩)
theorem EW (g : Ge) : RqOk (aQ g).1 (aQ g).2 := ⟨(by decide : 1 ≤ 4 ∧ 4 ≤ 8), by kernel_rfl⟩
theorem QP (g : Ge) : WrOk (rcW (aQ g)) := Jl (.inl rfl) (EW g)
theorem uM : ∀ (gs : List Ge) {m : Nat} {f : aO}, ForestOk m f → Few [[97], [98], [99]] f → m + gs.length ≤ 60 → ∃ f', fW f (gs.map fun g => rcW (aQ g)) = some f' ∧ ForestOk (m + gs.length) f' ∧
    (∀ g ∈ gs, gQ f' (jI g) (jJ g.key) = some (jJ g.key)) ∧ (∀ n k, gQ f' n k = gQ f n k ∨ gQ f' n k = some k) ∧ (∀ n k, (∀ g ∈ gs, ¬(jI g = n ∧ jJ g.key = k)) → gQ f' n k = gQ f n k)
  | [], m, f, h, _, _ => ⟨f, rfl, h, by simp, fun _ _ => .inl rfl, fun _ _ _ => rfl⟩
  | g :: gs, m, f, h, hf, hl => by
    simp only [List.length_cons] at hl ⊢
    obtain ⟨f1, e1⟩ := hf.room h (by decide) (by omega) (QP g)
    have h1 := yS h (QP g) e1
    obtain ⟨f', e2, h2, h3, h4, h5⟩ := uM gs h1 (hf.write h.rise (YC g) e1) (by omega)
    have hg := NO h e1
    have hgn : ∀ n k, gQ f1 n k = if jI g = n ∧ jJ g.key = k then some (jJ g.key) else gQ f n k := fun n k => hg n k
    refine ⟨f', ?_, h2.mono (by omega), ?_, ?_, ?_⟩
    · show fW f (rcW (aQ g) :: _) = _
      unfold fW
      rw [e1]
      exact e2
    · intro x hx
      rcases List.mem_cons.1 hx with rfl | hx
      · rcases h4 (jI x) (jJ x.key) with q | q
        · rw [q, hgn, if_pos ⟨rfl, rfl⟩]
        · exact q
      · exact h3 x hx
    · intro n k
      rcases h4 n k with q | q
      · rw [q, hgn]
        by_cases c : jI g = n ∧ jJ g.key = k
        · rw [if_pos c, c.2]; exact .inr rfl
        · rw [if_neg c]; exact .inl rfl
      · exact .inr q
    · intro n k hn
      rw [h5 n k fun x hx => hn x (by simp [hx]), hgn, if_neg (hn g (by simp))]
theorem TF (l m : List Ge) (hl : l.length ≤ 60) (hm : m.length ≤ 60) (h1 : ∀ g ∈ m, g ∈ l) (h2 : ∀ g ∈ l, g ∈ m) : ∃ f, ForestOk 60 f ∧ fW [] (l.map fun g => rcW (aQ g)) = some f ∧ fW [] (m.map fun g => rcW (aQ g)) = some f := by
 obtain ⟨f, a1, a2, a3, a4, a5⟩ := uM l (m := 0) (f := []) (by simpa using ForestOk.nil 0) (Few.nil _) (by omega)
 obtain ⟨f', b1, b2, b3, b4, b5⟩ := uM m (m := 0) (f := []) (by simpa using ForestOk.nil 0) (Few.nil _) (by omega)
 have e : f = f' := by
  refine QY a2 b2 fun n k => ?_
  by_cases c : ∃ g ∈ l, jI g = n ∧ jJ g.key = k
  obtain ⟨g, hg, rfl, rfl⟩ := c
  rw [a3 g hg, b3 g (h2 g hg)]
  rw [a5 n k fun g hg hc => c ⟨g, hg, hc⟩, b5 n k fun g hg hc => c ⟨g, h1 g hg, hc⟩]
 subst e
 exact ⟨f, a2.mono (by omega), a1, b1⟩
def dG (gs : List Ge) : List Rc := nV (gs.map aQ)
def GT : Rc := .rq 0 8 ⟨[97], [107], [], []⟩
theorem YI {gs : List Ge} {f : aO} (h : fW [] (gs.map fun g => rcW (aQ g)) = some f) (hl : gs.length ≤ 300) :
    ∃ y : Rep, (jW (dG gs ++ [GT])).replies = ET 0 gs.length ++ [y] ∧ y.root = rE f ∧ y.found = (gQ f [97] [107]).isSome := by
 have hn : (gs.map aQ).length = gs.length := List.length_map _
 obtain ⟨h1, h2⟩ := AJ (gs.map aQ) Rnd.nil (fun q hq => by obtain ⟨g, _, rfl⟩ := List.mem_map.1 hq; exact .inl rfl) (by omega) (f' := f) (by rw [List.map_map]; exact h)
 rw [hn, Nat.zero_add] at h1
 rw [hn] at h2
 have e : jW (dG gs ++ [GT]) = (jW (dG gs)).rc GT := by unfold jW; rw [List.foldl_append]; rfl
 have h3 : Rnd gs.length f (jW (dG gs)) := h1
 have h4 : (jW (dG gs)).replies = ET 0 gs.length := h2
 have e2 : (jW (dG gs)).rc GT = (jW (dG gs)).prove 0 ⟨[97], [107], [], []⟩ := by
  show (if (jW (dG gs)).up = true then (jW (dG gs)).req 0 8 ⟨[97], [107], [], []⟩ else (jW (dG gs)).reply (eF 0 13)) = _
  rw [if_pos h3.up]; rfl
 have hf : (jW (dG gs)).forest (jW (dG gs)).synced = f := by rw [h3.synced]; exact h3.forest
 rw [e, e2]
 unfold Eng.prove
 simp only [hf]
 exact ⟨_, by rw [← h4]; rfl, rfl, rfl⟩
def ReqC (F : Fz) (cs : List Value) (p : Nat × Rq) : Prop := ∃ a c a1 c1 a2 c2 a3 c3, cs = [.int .i64 ((p.1 : Nat) : Int), .slice a p.2.name.length c, .slice a1 p.2.key.length c1, .slice a2 p.2.last.length c2, .slice a3 p.2.value.length c3] ∧
  Bs F (.slice a p.2.name.length c) p.2.name ∧ Bs F (.slice a1 p.2.key.length c1) p.2.key ∧ Bs F (.slice a2 p.2.last.length c2) p.2.last ∧ Bs F (.slice a3 p.2.value.length c3) p.2.value
theorem ReqC.mono (F F' : Fz) (x : List Value) (p : Nat × Rq) (hl : Le F F') (h : ReqC F x p) : ReqC F' x p := by
 obtain ⟨a, c, a1, c1, a2, c2, a3, c3, e, r, r1, r2, r3⟩ := h
 exact ⟨a, c, a1, c1, a2, c2, a3, c3, e, r.mono hl, r1.mono hl, r2.mono hl, r3.mono hl⟩
theorem ReqC.oneCell {F : Fz} {cs : List Value} {p : Nat × Rq} (h : ReqC F cs p) : ∀ u ∈ cs, u.oneCell' = true := by
 obtain ⟨a, c, a1, c1, a2, c2, a3, c3, rfl, _⟩ := h
 simp [Value.oneCell']
def Reqs (F : Fz) (v : Value) (l : List (Nat × Rq)) : Prop := Sl 5 ReqC F v l
theorem Reqs.mono {F F' : Fz} {v : Value} {l : List (Nat × Rq)} (h : Reqs F v l) (hl : Le F F') : Reqs F' v l := Sl.mono ReqC.mono h hl
theorem Reqs.get {F : Fz} {a : Option Addr} {n c : Nat} {l : List (Nat × Rq)} (h : Reqs F (.slice a n c) l) {i : Nat} {q : Nat × Rq} (hz : l[i]? = some q) :
    ∃ b o, a = some ⟨b, o, none⟩ ∧ ∃ a c a1 c1 a2 c2 a3 c3, (∀ (j : Nat) v, [Value.int .i64 ((q.1 : Nat) : Int), .slice a q.2.name.length c, .slice a1 q.2.key.length c1, .slice a2 q.2.last.length c2, .slice a3 q.2.value.length c3][j]? = some v → bM F b (o + i * 5 + j) = some v) ∧
      Bs F (.slice a q.2.name.length c) q.2.name ∧ Bs F (.slice a1 q.2.key.length c1) q.2.key ∧ Bs F (.slice a2 q.2.last.length c2) q.2.last ∧ Bs F (.slice a3 q.2.value.length c3) q.2.value := by
 obtain ⟨hi, rfl⟩ := List.getElem?_eq_some_iff.1 hz
 have hn := h.len
 obtain ⟨b, o, e, h1⟩ := Sl.at h (by omega) (by omega)
 obtain ⟨cs, q1, ⟨a, c, a1, c1, a2, c2, a3, c3, rfl, r, r1, r2, r3⟩, q4⟩ := h1 i hi
 refine ⟨b, o, e, a, c, a1, c1, a2, c2, a3, c3, fun j v hv => ?_, r, r1, r2, r3⟩
 obtain ⟨hj, e⟩ := List.getElem?_eq_some_iff.1 hv
 have := q4 j (by simpa using hj)
 rw [← e]; simpa [Nat.add_assoc] using this
def QQ (g : Ge) : Ge := ⟨8, 0, g.name, g.key, g.value⟩
theorem Di (g : Ge) : sM (QQ g) = ((4, (⟨jI g, jJ g.key, [], [dX ((aN g.value 50 : Nat) : Int)]⟩ : Rq)) : Nat × Rq) := by
 have e : aN (QQ g).kind 20 = 8 := QK (k := 8) (m := 20) (by decide) (by decide)
 unfold sM
 rw [e]
 rfl
theorem Dj {g : Ge} (h : YB g) : YB (QQ g) := by
 obtain ⟨h1, h2, h3, h4, h5⟩ := h
 refine ⟨?_, ?_, h3, h4, h5⟩ <;> unfold I64 QQ <;> simp
theorem Jm : uL := fun w0 F0 w F n g L _ s u r hM hT hg hv ok hq => XU w0 F0 w F n g L s u r hM hT hg hv ok hq
theorem He (g : Ge) : rcB (.rq 0 (aQ g).1 (aQ g).2) = true := by
 have h := EW g
 simp only [rcB, Bool.and_eq_true, decide_eq_true_eq, beq_iff_eq]
 exact ⟨⟨⟨by decide, h.1.1⟩, h.1.2⟩, h.2⟩
theorem wH : ∀ gs : List Ge, (dG gs).all rcB = true ∧ ((dG gs).map fun x => if rcC x then 1 else 0).sum = gs.length ∧ (dG gs).length = 4 * gs.length ∧ (dG gs).any rcK = false
  | [] => ⟨rfl, rfl, rfl, rfl⟩
  | g :: gs => by
    obtain ⟨h1, h2, h3, h4⟩ := wH gs
    have e : dG (g :: gs) = qF (aQ g) ++ dG gs := rfl
    have b1 : rcB (.rq 0 1 rq0) = true := by kernel_rfl
    have b2 : rcB (.rq 0 6 rq0) = true := by kernel_rfl
    have b3 := He g
    have a1 : (qF (aQ g)).all rcB = true := by
      simp only [qF, List.all_cons, List.all_nil, b1, b2, b3, Bool.true_and, Bool.and_true]; rfl
    rw [e]
    refine ⟨by rw [List.all_append, a1, h1]; rfl, ?_, ?_, by rw [List.any_append, h4]; rfl⟩
    · rw [List.map_append, List.sum_append, h2]; show (0 + (0 + (1 + (0 + 0)))) + gs.length = gs.length + 1; omega
    · rw [List.length_append, h3]; simp [qF]; omega
theorem YJ (gs : List Ge) (hl : gs.length ≤ 20) : ScrOk ((dG gs).map Rc.ac ++ [Ac.ask 0 (cR 8 ⟨[97], [107], [], []⟩)]) ∧ eD ((dG gs).map Rc.ac ++ [Ac.ask 0 (cR 8 ⟨[97], [107], [], []⟩)]) = jW (dG gs ++ [GT]) := by
 obtain ⟨h1, h2, h3, h4⟩ := wH gs
 have e : (dG gs).map Rc.ac ++ [Ac.ask 0 (cR 8 ⟨[97], [107], [], []⟩)] = (dG gs ++ [GT]).map Rc.ac := by rw [List.map_append]; rfl
 have b1 : rcB GT = true := by kernel_rfl
 have ha : (dG gs ++ [GT]).all rcB = true := by rw [List.all_append, h1]; simp [b1]
 have hs : TC (dG gs ++ [GT]) = true := by
  unfold TC
  rw [ha, List.map_append, List.sum_append, h2, List.length_append, h3]
  simp [rcC, GT]
  omega
 rw [e]
 exact ⟨Cw hs (fun _ => Jm) (fun k => by rw [List.any_append, h4] at k; cases k), VJ fun x hx => TB (List.all_eq_true.1 ha x hx)⟩
theorem QR {gs : List Ge} {i : Nat} {g : Ge} (hg : gs[i]? = some g) : (dG (gs.take i)).map Rc.ac ++ [Ac.ask 0 (cR 1 rq0), Ac.ask 0 (cR (aQ g).1 (aQ g).2), Ac.ask 0 (cR 6 rq0), Ac.sync] = (dG (gs.take (i + 1))).map Rc.ac := by
 obtain ⟨hl, rfl⟩ := List.getElem?_eq_some_iff.1 hg
 unfold dG
 rw [List.take_succ_eq_append_getElem hl, List.map_append]
 exact LX _ _
theorem sN (gs : List Ge) : ((dG gs).map Rc.ac).length = 4 * gs.length := by rw [List.length_map]; exact (wH gs).2.2.1
theorem EX {gs : List Ge} {i : Nat} {g : Ge} (hg : gs[i]? = some g) : (gs.map aQ)[i]? = some (aQ g) := by rw [List.getElem?_map, hg]; rfl
def uN (gs : List Ge) (os : List Int) (i : Nat) : List Ge := (os.take i).map fun z => gs.getD (aN z (gs.map aQ).length) ⟨0, 0, 0, 0, 0⟩
def pE (gs : List Ge) (os : List Int) (i j : Nat) : List Ge := uN gs os i ++ (gs.drop j).reverse
theorem YK {gs : List Ge} {os : List Int} {i : Nat} {z : Int} {g : Ge} (hz : os[i]? = some z) (hg : gs[aN z (gs.map aQ).length]? = some g) : (uN gs os i).map aQ ++ [aQ g] = (uN gs os (i + 1)).map aQ := by
 obtain ⟨hl, rfl⟩ := List.getElem?_eq_some_iff.1 hz
 unfold uN
 rw [List.take_succ_eq_append_getElem hl, List.map_append, List.map_append]
 simp only [List.map_cons, List.map_nil]
 rw [List.getD_eq_getElem?_getD, hg]
 rfl
theorem YL (gs : List Ge) (os : List Int) (i : Nat) : (uN gs os i).map aQ = (pE gs os i (gs.map aQ).length).map aQ := by unfold pE; simp
theorem YM {gs : List Ge} {os : List Int} {i j : Nat} {g : Ge} (hg : gs[j]? = some g) : (pE gs os i (j + 1)).map aQ ++ [aQ g] = (pE gs os i j).map aQ := by
 obtain ⟨hl, rfl⟩ := List.getElem?_eq_some_iff.1 hg
 unfold pE
 rw [show gs.drop j = gs[j] :: gs.drop (j + 1) from List.drop_eq_getElem_cons hl, List.reverse_cons, ← List.append_assoc, List.map_append (l₂ := [gs[j]])]
 rfl
theorem EY (gs : List Ge) (os : List Int) (i : Nat) : (uN gs os i).length ≤ i := by unfold uN; rw [List.length_map, List.length_take]; omega
theorem yI {gs : List Ge} {os : List Int} {i j : Nat} : (pE gs os i j).length ≤ i + gs.length := by
 have := EY gs os i
 unfold pE
 rw [List.length_append, List.length_reverse, List.length_drop]; omega
theorem Dk {gs : List Ge} {os : List Int} {i : Nat} (hn : gs.length ≤ 10) (hi : i ≤ 8) (h0 : gs.length = 0 → i = 0) : ∃ f, ForestOk 60 f ∧ fW [] (gs.map fun g => rcW (aQ g)) = some f ∧ fW [] ((pE gs os i 0).map fun g => rcW (aQ g)) = some f := by
 have hl := yI (gs := gs) (os := os) (i := i) (j := 0)
 refine TF gs (pE gs os i 0) (by omega) (by omega) (fun g hg => ?_) (fun g hg => ?_)
 unfold pE at hg
 rcases List.mem_append.1 hg with hg | hg
 unfold uN at hg
 obtain ⟨z, hz, rfl⟩ := List.mem_map.1 hg
 have hp : 1 ≤ gs.length := by
  rcases Nat.eq_zero_or_pos gs.length with c | c
  rw [h0 c] at hz; simp at hz
  exact c
 have e : (gs.map aQ).length = gs.length := List.length_map _
 have := gA z (m := (gs.map aQ).length) (by omega)
 have hlt : aN z (gs.map aQ).length < gs.length := by omega
 rw [List.getD_eq_getElem?_getD, List.getElem?_eq_getElem hlt]
 exact List.getElem_mem hlt
 simpa using hg
 unfold pE
 exact List.mem_append.2 (.inr (by simpa using hg))
end Go.Proofs.YtilgpdpooildcaaGreatDoor
