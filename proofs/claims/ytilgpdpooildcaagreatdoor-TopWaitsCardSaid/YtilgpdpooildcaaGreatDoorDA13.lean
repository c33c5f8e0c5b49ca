/- Rules, plain laws and walks: SV16 SV17 P25 P26 -/
import Derived.Test.YtilgpdpooildcaaGreatDoorDA12
import Derived.Test.YtilgpdpooildcaaGreatDoorDA2
import Derived.Test.YtilgpdpooildcaaGreatDoorDA3
import Derived.Test.YtilgpdpooildcaaGreatDoorDA5
import Derived.Test.YtilgpdpooildcaaGreatDoorDA11
namespace Go.Proofs.YtilgpdpooildcaaGreatDoor
set_option maxHeartbeats 8000000
open Go.RowKit
set_option maxRecDepth 100000
set_option linter.unusedVariables false
set_option linter.unusedSimpArgs false
theorem gA (n : Int) (m : Nat) (w : World) (h1 : -9223372036854775808 ≤ n) (h2 : n ≤ 9223372036854775807) (hm : 1 ≤ m) (hm2 : m ≤ 10000000) :
    Calls Tryz.prog 20 #[.int .i64 n, .int .i64 ((m : Nat) : Int)] w (cS w (.int .i64 ((aO n m : Nat) : Int))) := by
 rw [← Bm n hm]
 exact PI n m w h1 h2 (by omega) (by omega)
theorem ReqR.mono {F F' : Fz} {v : Value} {p : Nat × Rq} (h : ReqR F v p) (hl : Le F F') : ReqR F' v p := by
 obtain ⟨a, c, a1, c1, a2, c2, a3, c3, e, r, r1, r2, r3⟩ := h
 exact ⟨a, c, a1, c1, a2, c2, a3, c3, e, r.mono hl, r1.mono hl, r2.mono hl, r3.mono hl⟩
theorem ReqR.dropF {w : World} {F : Fz} {n : Nat} {cs : List Value} {T : TypeId} (hs : Sat w F) (hb : w.heap[n]? = some (.cells cs.toArray T (0, 0))) (hc : ∀ u ∈ cs, ∀ x, u ≠ bv x) {v : Value} {p : Nat × Rq} (h : ReqR F v p) : ReqR (Proofs.YtilgpdpooildcaaGreatDoor.dropF F n) v p := by
 obtain ⟨a, c, a1, c1, a2, c2, a3, c3, e, r, r1, r2, r3⟩ := h
 exact ⟨a, c, a1, c1, a2, c2, a3, c3, e, Bs.dropF hs hb hc r, Bs.dropF hs hb hc r1, Bs.dropF hs hb hc r2, Bs.dropF hs hb hc r3⟩
theorem LA (F : Fz) (w : World) (g : Ge) (hs : Sat w F) (hg : Fh g) :
    Calls Tryz.prog 19 #[.agg #[.int .i64 g.kind, .int .i64 g.session, .int .i64 g.name, .int .i64 g.key, .int .i64 g.value]] w (dB w F fun F' u => ReqR F' u (eM g)) := by
 have S := St.start hs
 go_enter Tryz.func19, Tryz.ntmps19
 refine aE fun K1 hK1 => ?_
 obtain ⟨⟨b0, b0'⟩, ⟨b1, b1'⟩, ⟨b2, b2'⟩, ⟨b3, b3'⟩, b4, b4'⟩ := hg
 refine aB ?_
 refine bA S (v := fun n => .pointer (aA n 0)) rfl (bZ (v := (.agg #[(.int .i64 g.kind), (.int .i64 g.session), (.int .i64 g.name), (.int .i64 g.key), (.int .i64 g.value)])) rfl) (fun n2 w3 S4 => ?_)
 refine sA S4 (uG _) fun n5 w6 S7 => ?_
 refine wlK hK1 ?_
 refine aE fun K8 hK8 => ?_
 have hp2 := iN g.name (m := 3) (by decide)
 have hp3 := iN g.key (m := 5) (by decide)
 obtain ⟨S9, h3, a1⟩ := St.freezeBlk S7 (i := 1) rfl
 generalize addF F w6 n2 = h4 at *
 refine aS h4 14 [(2, .is (nI (aO g.name 3))), (5, .made (fun F' u => Bs F' u [(dX (((97 + (aO g.name 3)) : Nat) : Int))])), (8, .is (nI (aO g.key 5))), (11, .made (fun F' u => Bs F' u [(dX (((107 + (aO g.key 5)) : Nat) : Int))])), (12, .made (fun F' u => ReqR F' u ((0, (⟨[(dX (((97 + (aO g.name 3)) : Nat) : Int))], [(dX (((107 + (aO g.key 5)) : Nat) : Int))], [], []⟩ : Rq)) : Nat × Rq))), (13, .rel (NewAt w6 [(iI 0), Zn, Zn, Zn, Zn] 27) (NewAt.stable _ _ _))] (by kernel_rfl) (by kernel_rfl) ?_
 simp only [dC]
 refine gf (SJ _ _) ?_
 refine gv _ (fun _ a0 => aD rfl (aT (bM _) (St.fz (St.tells S9 a0) (a1 2 _ rfl)))) ?_
 simp only [pq]
 refine gU rfl rfl (v := (nI (aO g.name 3))) (fun b7 a0 _ => bK (cK (vs := #[(.int .i64 g.name), (iI 3)]) (gP rfl rfl) rfl (rQ _ _)) (hU (gA g.name 3 _ (by omega) (by omega) (by decide) (by decide)))) ?_
 refine gv (nI (97 + (aO g.name 3))) (fun _ _ => hY (m := (97 : Int)) (n := (((aO g.name 3) : Nat) : Int)) (r := (((97 + (aO g.name 3)) : Nat) : Int)) rfl rfl (by omega) (by omega) (by omega)) ?_
 refine gv (.int .u8 (((dX (((97 + (aO g.name 3)) : Nat) : Int)).toNat : Nat) : Int)) (fun _ _ => bB (v := (nI (97 + (aO g.name 3)))) rfl (uS (((97 + (aO g.name 3)) : Nat) : Int) _)) ?_
 simp only [pq]
 refine dA rfl rfl (fun b7 a0 _ => uT (b := (dX (((97 + (aO g.name 3)) : Nat) : Int))) (Gr.of_below S9.sat a0) (bY (ps := #[(0, (.int .u8 (((dX (((97 + (aO g.name 3)) : Nat) : Int)).toNat : Nat) : Int)))]) (cells := #[(.int .u8 (((dX (((97 + (aO g.name 3)) : Nat) : Int)).toNat : Nat) : Int))]) (E := 5) (cJ rfl) (fun w => by kernel_rfl))) (fun m9 => ?_)
 refine gf (SK _ _) ?_
 refine gv _ (fun _ a0 => aD rfl (aT (bM _) (St.fz (St.tells S9 a0) (a1 3 _ rfl)))) ?_
 simp only [pq]
 refine gU rfl rfl (v := (nI (aO g.key 5))) (fun b7 a0 _ => bK (cK (vs := #[(.int .i64 g.key), (iI 5)]) (gP rfl rfl) rfl (rQ _ _)) (hU (gA g.key 5 _ (by omega) (by omega) (by decide) (by decide)))) ?_
 refine gv (nI (107 + (aO g.key 5))) (fun _ _ => hY (m := (107 : Int)) (n := (((aO g.key 5) : Nat) : Int)) (r := (((107 + (aO g.key 5)) : Nat) : Int)) rfl rfl (by omega) (by omega) (by omega)) ?_
 refine gv (.int .u8 (((dX (((107 + (aO g.key 5)) : Nat) : Int)).toNat : Nat) : Int)) (fun _ _ => bB (v := (nI (107 + (aO g.key 5)))) rfl (uS (((107 + (aO g.key 5)) : Nat) : Int) _)) ?_
 simp only [pq]
 refine dA rfl rfl (fun b7 a0 _ => uT (b := (dX (((107 + (aO g.key 5)) : Nat) : Int))) (Gr.of_below S9.sat a0) (bY (ps := #[(0, (.int .u8 (((dX (((107 + (aO g.key 5)) : Nat) : Int)).toNat : Nat) : Int)))]) (cells := #[(.int .u8 (((dX (((107 + (aO g.key 5)) : Nat) : Int)).toNat : Nat) : Int))]) (E := 5) (cJ rfl) (fun w => by kernel_rfl))) (fun n0 => ?_)
 simp only [pq]
 refine dA rfl rfl (fun b7 a0 hF_ => ?_) (fun n1 => ?_)
 ·obtain ⟨e3, f9, h5⟩ := hF_.get 5 (by kernel_rfl) rfl rfl
  obtain ⟨e4, g0, h6⟩ := hF_.get 11 (by kernel_rfl) rfl rfl
  have hR1 := (h5.mono (eG e3 e4))
  obtain ⟨h7, h8, rfl, _⟩ := hR1.shape
  have hR2 := (h6.mono (gC f9.sat g0.sat))
  obtain ⟨h9, i0, rfl, _⟩ := hR2.shape
  have hR3 := Bs.nil (both e3 e4)
  have hR4 := Bs.nil (both e3 e4)
  exact gJ (aK (fV rfl rfl) (by kernel_rfl)) ⟨(both e3 e4), (f9.both g0), ⟨_, _, _, _, _, _, _, _, rfl, hR1, hR2, hR3, hR4⟩⟩ (Below.refl _ _)
 simp only [pq]
 refine dA rfl rfl (fun b7 a0 _ => jL (cs := [(iI 0), Zn, Zn, Zn, Zn]) (uG _) rfl a0) (fun n3 => ?_)
 refine cA ?_
 intro n4 i1 a8
 obtain ⟨i2, rfl, b9, c0⟩ := a8.getR 13 rfl rfl
 have a9 : ∀ u ∈ [(.int .i64 0), (.slice none 0 0), (.slice none 0 0), (.slice none 0 0), (.slice none 0 0)], ∀ x, u ≠ bv x := by intro u hu x; simp only [List.mem_cons, List.not_mem_nil, or_false] at hu; rcases hu with rfl | rfl | rfl | rfl | rfl <;> (unfold bv; simp)
 obtain ⟨i3, g1, i4⟩ := a8.get 12 rfl rfl
 have g2 := g1.dropF S9.sat b9
 have i5 := ReqR.dropF g1.sat c0 a9 i4
 have i6 := St.addBlk (cs := [(.int .i64 0), (.slice none 0 0), (.slice none 0 0), (.slice none 0 0), (.slice none 0 0)]) S9 g2 b9 (oM _ _) c0
 have b5 : Le _ _ := g2.le S9.sat
 have i7 := i5
 generalize (dropF i3 i2) = g3 at *
 obtain ⟨i8, i9, j0, j1, j2, j3, j4, j5, rfl, c1, c2, e5, e6⟩ := i7
 clear a8
 simp only [dD]
 refine sW 0 i6 (aY) fun n6 g4 => ?_
 simp only [pq]
 refine wlK hK8 ?_
 refine aE fun n7 a2 => ?_
 refine sk fun n8 e7 => ?_
 refine df (SI _ _) ?_
 refine dr _ (aD rfl (aT (bM _) (St.fz g4 (Le.cell b5 (a1 0 _ rfl))))) ?_
 simp only [pq]
 have j6 := iN g.kind (m := 20) (by decide)
 refine aI (v := (nI (aO g.kind 20))) g4 rfl (fn2 (rQ _ _)) (gA g.kind 20 _ (by omega) (by omega) (by decide) (by decide)) (fun n9 a4 => ?_)
 refine dy ?_
 refine wn e7 ?_
 refine aM ?_
 refine sk fun o0 c3 => ?_
 refine dx ?_
 simp only [pq]
 by_cases j7 : (aO g.kind 20) < 4
 ·refine fJ ?_
  refine dy ?_
  refine wn c3 ?_
  refine aL ?_
  refine sk fun o1 e8 => ?_
  refine dr (.agg #[(iI 1), Zn, Zn, Zn, Zn]) (aK (cJ rfl) (by kernel_rfl)) ?_
  simp only [pq]
  refine sW 1 a4 (aY) fun o2 g5 => ?_
  refine wn e8 ?_
  refine aN ?_
  try simp only [xt]
  refine bR (qH rfl ⟨_, rfl, lR g5 1 Tryz.underlying27 (aY)⟩) ?_
  ·have e : eM g = (1, rq0) := by
    unfold eM AH
    rw [if_pos (by omega)]
   refine ⟨_, _, rfl, g5.gr, ?_⟩
   rw [e]
   exact ⟨_, _, _, _, _, _, _, _, rfl, Bs.nil _, Bs.nil _, Bs.nil _, Bs.nil _⟩
 ·refine fC ?_
  refine dy ?_
  simp only [pq]
  refine wn c3 ?_
  refine aF ?_
  refine sk fun o3 c4 => ?_
  refine dx ?_
  simp only [pq]
  by_cases j8 : (aO g.kind 20) < 7
  ·refine fJ ?_
   refine dy ?_
   refine wn c4 ?_
   refine aL ?_
   refine aB ?_
   refine aC ?_
   refine sW 0 a4 (rK) fun o4 g6 => ?_
   refine wlK a2 ?_
   refine sk fun o5 e9 => ?_
   refine dR g6 0 Tryz.underlying27 (aY) ?_
   refine sW 1 g6 (aY) fun o6 g7 => ?_
   simp only [pq]
   refine wn e9 ?_
   refine aN ?_
   try simp only [xt]
   refine bR (qH rfl ⟨_, rfl, lR g7 1 Tryz.underlying27 (aY)⟩) ?_
   ·have e : eM g = (2, ⟨vD g, AG g.key, [], []⟩) := by
     unfold eM AH
     rw [if_neg (by omega), if_pos (by omega)]
    refine ⟨_, _, rfl, g7.gr, ?_⟩
    rw [e]
    exact ⟨_, _, _, _, _, _, _, _, rfl, c1, c2, e5, e6⟩
  ·refine fC ?_
   refine dy ?_
   refine wn c4 ?_
   refine aF ?_
   refine sk fun o7 c5 => ?_
   refine dx ?_
   simp only [pq]
   by_cases j9 : (aO g.kind 20) = 7
   ·refine gV ?_
    refine dy ?_
    refine wn c5 ?_
    refine aL ?_
    refine sk fun o8 f0 => ?_
    refine aC ?_
    refine sW 0 a4 (rK) fun o9 g8 => ?_
    refine wn f0 ?_
    refine aB ?_
    refine df (JI _ _) ?_
    refine dr _ (aD rfl (aT (bM _) (St.fz g8 (Le.cell b5 (a1 4 _ rfl))))) ?_
    simp only [pq]
    have k0 := iN g.value (m := 5) (by decide)
    refine aI (v := (nI (aO g.value 5))) g8 rfl (fn2 (rQ _ _)) (gA g.value 5 _ (by omega) (by omega) (by decide) (by decide)) (fun p0 k1 => ?_)
    refine cR (107 + (aO g.value 5)) ?_
    refine dr (.int .u8 (((dX (((107 + (aO g.value 5)) : Nat) : Int)).toNat : Nat) : Int)) (bB (v := (nI (107 + (aO g.value 5)))) rfl (uS (((107 + (aO g.value 5)) : Nat) : Int) _)) ?_
    refine bA k1 (v := fun n => .slice (aA n 0) 1 1) rfl (bY (ps := #[(0, (.int .u8 (((dX (((107 + (aO g.value 5)) : Nat) : Int)).toNat : Nat) : Int)))]) (cells := #[(.int .u8 (((dX (((107 + (aO g.value 5)) : Nat) : Int)).toNat : Nat) : Int))]) (E := 5) (cJ rfl) (fun w => by kernel_rfl)) (fun g9 p1 k2 => ?_)
    refine aC ?_
    refine sW 1 k2 (nH) fun p2 h0 => ?_
    refine wlK a2 ?_
    refine sk fun p3 f1 => ?_
    refine dR h0 1 Tryz.underlying27 (aY) ?_
    simp only [pq]
    refine sW 2 h0 (aY) fun k3 h1 => ?_
    refine wn f1 ?_
    refine aN ?_
    try simp only [xt]
    refine bR (qH rfl ⟨_, rfl, lR h1 2 Tryz.underlying27 (aY)⟩) ?_
    ·obtain ⟨k4, b6, f2⟩ := St.freezeBlk h1 (i := 0) rfl
     have k5 : Bs _ (.slice (some ⟨g9, 0, none⟩) 1 1) ([dX (((107 + (aO g.value 5)) : Nat) : Int)] : By) := iQ (l := ([dX (((107 + (aO g.value 5)) : Nat) : Int)] : By)) f2 (rfl) (by unfold maxLen; simp)
     generalize addF g3 k3 g9 = p4 at *
     have e : eM g = (3, ⟨vD g, AG g.key, AG g.value, []⟩) := by
      unfold eM AH
      rw [if_neg (by omega), if_neg (by omega), if_pos (by omega)]
     refine ⟨_, _, rfl, k4.gr, ?_⟩
     rw [e]
     exact ⟨_, _, _, _, _, _, _, _, rfl, (c1.mono b6), (c2.mono b6), k5, (e6.mono b6)⟩
   ·refine fY ?_
    refine dy ?_
    simp only [pq]
    refine wn c5 ?_
    refine aF ?_
    refine sk fun p5 c6 => ?_
    refine dx ?_
    simp only [pq]
    by_cases k6 : (aO g.kind 20) < 12
    ·refine fJ ?_
     refine dy ?_
     refine wn c6 ?_
     refine aL ?_
     refine sk fun p6 f3 => ?_
     refine aC ?_
     refine sW 0 a4 (rK) fun k7 c7 => ?_
     refine wn f3 ?_
     refine aB ?_
     refine df (JI _ _) ?_
     refine dr _ (aD rfl (aT (bM _) (St.fz c7 (Le.cell b5 (a1 4 _ rfl))))) ?_
     simp only [pq]
     have h2 := iN g.value (m := 50) (by decide)
     refine aI (v := (nI (aO g.value 50))) c7 rfl (fn2 (rQ _ _)) (gA g.value 50 _ (by omega) (by omega) (by decide) (by decide)) (fun k8 f4 => ?_)
     refine dr (.int .u8 (((dX (((aO g.value 50) : Nat) : Int)).toNat : Nat) : Int)) (bB (v := (nI (aO g.value 50))) rfl (uS (((aO g.value 50) : Nat) : Int) _)) ?_
     refine bA f4 (v := fun n => .slice (aA n 0) 1 1) rfl (bY (ps := #[(0, (.int .u8 (((dX (((aO g.value 50) : Nat) : Int)).toNat : Nat) : Int)))]) (cells := #[(.int .u8 (((dX (((aO g.value 50) : Nat) : Int)).toNat : Nat) : Int))]) (E := 5) (cJ rfl) (fun w => by kernel_rfl)) (fun c8 k9 f5 => ?_)
     refine aC ?_
     refine sW 1 f5 (nH) fun l0 c9 => ?_
     refine wlK a2 ?_
     refine sk fun l1 d0 => ?_
     refine dR c9 1 Tryz.underlying27 (aY) ?_
     simp only [pq]
     refine sW 2 c9 (aY) fun f6 d1 => ?_
     refine wn d0 ?_
     refine aN ?_
     try simp only [xt]
     refine bR (qH rfl ⟨_, rfl, lR d1 2 Tryz.underlying27 (aY)⟩) ?_
     ·obtain ⟨f7, a3, d2⟩ := St.freezeBlk d1 (i := 0) rfl
      have f8 : Bs _ (.slice (some ⟨c8, 0, none⟩) 1 1) ([dX (((aO g.value 50) : Nat) : Int)] : By) := iQ (l := ([dX (((aO g.value 50) : Nat) : Int)] : By)) d2 (rfl) (by unfold maxLen; simp)
      generalize addF g3 f6 c8 = l2 at *
      have e : eM g = (4, ⟨vD g, AG g.key, [], [dX ((aO g.value 50 : Nat) : Int)]⟩) := by
       unfold eM AH
       rw [if_neg (by omega), if_neg (by omega), if_neg (by omega), if_pos (by omega)]
      refine ⟨_, _, rfl, f7.gr, ?_⟩
      rw [e]
      exact ⟨_, _, _, _, _, _, _, _, rfl, (c1.mono a3), (c2.mono a3), (e5.mono a3), f8⟩
    ·refine fC ?_
     refine aC ?_
     refine wn c6 ?_
     refine aF ?_
     refine sk fun l3 a5 => ?_
     refine aC ?_
     by_cases l4 : (aO g.kind 20) = 12
     ·refine gV ?_
      refine dy ?_
      refine wn a5 ?_
      refine aL ?_
      refine aB ?_
      refine aC ?_
      refine sW 0 a4 (rK) fun l5 d3 => ?_
      refine wlK a2 ?_
      refine sk fun l6 d4 => ?_
      refine dR d3 0 Tryz.underlying27 (aY) ?_
      refine sW 1 d3 (aY) fun l7 d5 => ?_
      simp only [pq]
      refine wn d4 ?_
      refine aN ?_
      try simp only [xt]
      refine bR (qH rfl ⟨_, rfl, lR d5 1 Tryz.underlying27 (aY)⟩) ?_
      ·have e : eM g = (5, ⟨vD g, AG g.key, [], []⟩) := by
        unfold eM AH
        rw [if_neg (by omega), if_neg (by omega), if_neg (by omega), if_neg (by omega), if_pos (by omega)]
       refine ⟨_, _, rfl, d5.gr, ?_⟩
       rw [e]
       exact ⟨_, _, _, _, _, _, _, _, rfl, c1, c2, e5, e6⟩
     ·refine fY ?_
      refine dy ?_
      refine wn a5 ?_
      refine aF ?_
      refine sk fun l8 a6 => ?_
      refine aC ?_
      by_cases l9 : (aO g.kind 20) < 17
      ·refine fJ ?_
       refine dy ?_
       refine wn a6 ?_
       refine aL ?_
       refine sk fun m0 d6 => ?_
       refine dr (.agg #[(iI 6), Zn, Zn, Zn, Zn]) (aK (cJ rfl) (by kernel_rfl)) ?_
       simp only [pq]
       refine sW 1 a4 (aY) fun m1 d7 => ?_
       refine wn d6 ?_
       refine aN ?_
       try simp only [xt]
       refine bR (qH rfl ⟨_, rfl, lR d7 1 Tryz.underlying27 (aY)⟩) ?_
       ·have e : eM g = (6, rq0) := by
         unfold eM AH
         rw [if_neg (by omega), if_neg (by omega), if_neg (by omega), if_neg (by omega), if_neg (by omega), if_pos (by omega)]
        refine ⟨_, _, rfl, d7.gr, ?_⟩
        rw [e]
        exact ⟨_, _, _, _, _, _, _, _, rfl, Bs.nil _, Bs.nil _, Bs.nil _, Bs.nil _⟩
      ·refine fC ?_
       refine aC ?_
       refine wn a6 ?_
       refine aF ?_
       refine sk fun m2 a7 => ?_
       refine aC ?_
       by_cases m3 : (aO g.kind 20) = 17
       ·refine gV ?_
        refine dy ?_
        refine wn a7 ?_
        refine aL ?_
        refine sk fun m4 d8 => ?_
        refine dr (.agg #[(iI 7), Zn, Zn, Zn, Zn]) (aK (cJ rfl) (by kernel_rfl)) ?_
        simp only [pq]
        refine sW 1 a4 (aY) fun m5 d9 => ?_
        refine wn d8 ?_
        refine aN ?_
        try simp only [xt]
        refine bR (qH rfl ⟨_, rfl, lR d9 1 Tryz.underlying27 (aY)⟩) ?_
        ·have e : eM g = (7, rq0) := by
          unfold eM AH
          rw [if_neg (by omega), if_neg (by omega), if_neg (by omega), if_neg (by omega), if_neg (by omega), if_neg (by omega), if_pos (by omega)]
         refine ⟨_, _, rfl, d9.gr, ?_⟩
         rw [e]
         exact ⟨_, _, _, _, _, _, _, _, rfl, Bs.nil _, Bs.nil _, Bs.nil _, Bs.nil _⟩
       ·refine fY ?_
        refine aC ?_
        refine wn a7 ?_
        refine aF ?_
        refine aB ?_
        refine df (lD _ _) ?_
        refine sW 0 a4 (rK) fun m6 e0 => ?_
        refine wlK a2 ?_
        refine sk fun m7 e1 => ?_
        refine dR e0 0 Tryz.underlying27 (aY) ?_
        simp only [pq]
        refine sW 1 e0 (aY) fun m8 e2 => ?_
        refine wn e1 ?_
        refine aN ?_
        try simp only [xt]
        refine bR (qH rfl ⟨_, rfl, lR e2 1 Tryz.underlying27 (aY)⟩) ?_
        ·have e : eM g = (8, ⟨vD g, AG g.key, [], []⟩) := by
          unfold eM AH
          rw [if_neg (by omega), if_neg (by omega), if_neg (by omega), if_neg (by omega), if_neg (by omega), if_neg (by omega), if_neg (by omega)]
         refine ⟨_, _, rfl, e2.gr, ?_⟩
         rw [e]
         exact ⟨_, _, _, _, _, _, _, _, rfl, c1, c2, e5, e6⟩
structure Scr (n : Nat) (a : List Rc) : Prop where
  ok : a.all rcB = true
  p : a.any rcP = false
  k : a.any rcK = false
  c : (a.map fun x => if rcC x then 1 else 0).sum ≤ n
  len : a.length ≤ 10 * n
theorem Scr.append {m n : Nat} {a b : List Rc} (h : Scr m a) (g : Scr n b) : Scr (m + n) (a ++ b) :=
  ⟨by rw [List.all_append, h.ok, g.ok]; rfl, by rw [List.any_append, h.p, g.p]; rfl, by rw [List.any_append, h.k, g.k]; rfl, by rw [List.map_append, List.sum_append]; have := h.c; have := g.c; omega, by rw [List.length_append]; have := h.len; have := g.len; omega⟩
theorem Scr.mono {m n : Nat} {a : List Rc} (h : Scr m a) (hn : m ≤ n) : Scr n a := ⟨h.ok, h.p, h.k, by have := h.c; omega, by have := h.len; omega⟩
theorem Bp (z : Int) : Scr 1 (WX (aO z 4)) := by
 have h := iN z (m := 4) (by decide)
 rcases (by omega : aO z 4 = 0 ∨ aO z 4 = 1 ∨ aO z 4 = 2 ∨ aO z 4 = 3) with e | e | e | e <;> rw [e] <;> exact ⟨by kernel_rfl, by kernel_rfl, by kernel_rfl, by decide, by decide⟩
theorem Bq (z : Int) (v : Nat) : Scr 1 (Bn (aO z 4) v) := by
 have h := iN z (m := 4) (by decide)
 rcases (by omega : aO z 4 = 0 ∨ aO z 4 = 1 ∨ aO z 4 = 2 ∨ aO z 4 = 3) with e | e | e | e <;> rw [e] <;> exact ⟨by kernel_rfl, by kernel_rfl, by kernel_rfl, Nat.le_of_ble_eq_true (by kernel_rfl), Nat.le_of_ble_eq_true (by kernel_rfl)⟩
theorem PJ : Scr 1 [Rc.sync] := ⟨rfl, rfl, rfl, by decide, by decide⟩
theorem mQ {n : Nat} {a : List Rc} (h : Scr n a) (z : Int) : Scr (n + 1) (oX a z) := h.append (Bp z)
theorem mR {n : Nat} {a : List Rc} (h : Scr n a) (z : Int) : Scr (n + 2) (sI a z) := by
 unfold sI
 split
 ·split
  ·exact (mQ h z).append (Bq z _)
  ·exact (mQ h z).mono (by omega)
 ·exact (mQ h z).mono (by omega)
theorem Br {n : Nat} {a : List Rc} (h : Scr n a) (z : Int) : Scr (n + 3) (nP a z) := by
 unfold nP
 split
 ·exact (mR h z).append PJ
 ·exact (mR h z).mono (by omega)
theorem fG (l : List Int) : ∀ i, Scr (3 * i) (eN l i)
  | 0 => ⟨rfl, rfl, rfl, Nat.le_refl 0, Nat.le_refl 0⟩
  | i + 1 => by
    cases h : l[i]? with
    | some z => rw [← mD h]; exact (Br (fG l i) z).mono (by omega)
    | none =>
      have e : eN l (i + 1) = eN l i := by
        have := List.getElem?_eq_none_iff.1 h
        unfold eN; rw [List.take_of_length_le (by omega), List.take_of_length_le (by omega)]
      rw [e]; exact (fG l i).mono (by omega)
theorem Scr.no {n : Nat} {a : List Rc} (h : Scr n a) (hn : n ≤ 149) : ScrOk (a.map Rc.ac) ∧ dY (a.map Rc.ac) = lI a := by
 refine Ib ?_
 have := h.c
 have := h.len
 rw [h.p, h.k]
 simp only [Bh, h.ok, Bool.true_and, Bool.not_false, Bool.and_true, Bool.and_eq_true, decide_eq_true_eq]
 omega
def lJ (k : Nat) (r : Rq) : List Rc := [.rq 1 1 rq0, .rq 1 4 ⟨[97], [107], [], []⟩, .rq 1 6 rq0, .rq 1 k r, .sync, .rq 1 1 rq0]
theorem Ic : tZ := fun w0 F0 w F n g L _ s u r hM hT hg hv ok hq => WM w0 F0 w F n g L s u r hM hT hg hv ok hq
theorem WY {k : Nat} {r : Rq} (ok : RqOk k r) : ScrOk ((lJ k r).map Rc.ac) ∧ dY ((lJ k r).map Rc.ac) = lI (lJ k r) := by
 have hr : ∀ a ∈ lJ k r, EB a := by
  intro a ha
  simp only [lJ, List.mem_cons, List.not_mem_nil, or_false] at ha
  rcases ha with rfl | rfl | rfl | rfl | rfl | rfl
  exact ⟨by decide, (by decide : 1 ≤ 1 ∧ 1 ≤ 8), by kernel_rfl⟩
  exact ⟨by decide, (by decide : 1 ≤ 4 ∧ 4 ≤ 8), by kernel_rfl⟩
  exact ⟨by decide, (by decide : 1 ≤ 6 ∧ 6 ≤ 8), by kernel_rfl⟩
  exact ⟨by decide, ok⟩
  trivial
  exact ⟨by decide, (by decide : 1 ≤ 1 ∧ 1 ≤ 8), by kernel_rfl⟩
 refine ⟨⟨?_, Nat.le_trans (WT _) (by simp [lJ]), by simp [lJ], fun _ _ _ => Ic, ?_⟩, TZ hr⟩
 intro a ha
 obtain ⟨x, hx, rfl⟩ := List.mem_map.1 ha
 exact UA (hr x hx)
 intro a ha hk
 obtain ⟨x, hx, rfl⟩ := List.mem_map.1 ha
 rw [Bf] at hk
 have h0 : (lJ k r).any rcK = false := rfl
 have h1 := List.any_eq_true.2 ⟨x, hx, hk⟩
 rw [h0] at h1
 cases h1
def w3 : Eng := lI [.rq 1 1 rq0, .rq 1 4 ⟨[97], [107], [], []⟩, .rq 1 6 rq0]
theorem Iy (k : Nat) (r : Rq) : ∃ y : Rep, w3.rc (.rq 1 k r) = w3.reply y ∧ y.code = if k = 8 then 0 else 6 := by
 have hu : w3.up = true := by kernel_rfl
 have hw : w3.waits 1 = true := by kernel_rfl
 have e : w3.rc (.rq 1 k r) = w3.req 1 k r := by
  show (if w3.up = true then w3.req 1 k r else w3.reply (eE 1 13)) = _
  rw [if_pos hu]
 rw [e]
 unfold Eng.req
 by_cases h : k = 8
 ·rw [if_pos h, if_pos h]
  exact ⟨_, rfl, rfl⟩
 ·rw [if_neg h, if_neg h, if_pos hw]
  exact ⟨_, rfl, rfl⟩
theorem WZ (y : Rep) : (((w3.reply y).rc .sync).rc (.rq 1 1 rq0)).replies.length = 5 ∧ (((w3.reply y).rc .sync).rc (.rq 1 1 rq0)).synced = 1 ∧ (((w3.reply y).rc .sync).rc (.rq 1 1 rq0)).replies[2]? = some y ∧
    (((w3.reply y).rc .sync).rc (.rq 1 1 rq0)).replies[3]? = some (kE 1 1) ∧ (((w3.reply y).rc .sync).rc (.rq 1 1 rq0)).replies[4]? = some (kE 1 1) := ⟨by kernel_rfl, by kernel_rfl, by kernel_rfl, by kernel_rfl, by kernel_rfl⟩
theorem XA (k : Nat) (r : Rq) : (lI (lJ k r)).replies.length = 5 ∧ (lI (lJ k r)).synced = 1 ∧ (∃ y : Rep, (lI (lJ k r)).replies[2]? = some y ∧ y.code = if k = 8 then 0 else 6) ∧
    (lI (lJ k r)).replies[3]? = some (kE 1 1) ∧ (lI (lJ k r)).replies[4]? = some (kE 1 1) := by
 obtain ⟨y, e, hy⟩ := Iy k r
 have h : lI (lJ k r) = ((w3.reply y).rc .sync).rc (.rq 1 1 rq0) := by rw [← e]; rfl
 obtain ⟨h1, h2, h3, h4, h5⟩ := WZ y
 rw [h]
 exact ⟨h1, h2, ⟨y, h3, hy⟩, h4, h5⟩
end Go.Proofs.YtilgpdpooildcaaGreatDoor
