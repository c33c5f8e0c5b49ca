/- The walk of TopWaits -/
import Derived.Test.YtilgpdpooildcaaGreatDoorDA13
import Derived.Test.YtilgpdpooildcaaGreatDoorDA2
import Derived.Test.YtilgpdpooildcaaGreatDoorDA3
namespace Go.Proofs.YtilgpdpooildcaaGreatDoor
set_option maxHeartbeats 8000000
open Go.RowKit
set_option maxRecDepth 100000
set_option linter.unusedVariables false
set_option linter.unusedSimpArgs false
theorem FW (W : World) (hT : Has W ∧ Tabs W) (g : Ge) (hg : Fh g) :
    Calls Tryz.prog 15 #[.agg #[.int .i64 g.kind, .int .i64 g.session, .int .i64 g.name, .int .i64 g.key, .int .i64 g.value]] W (cS W (.bool true)) := by
 obtain ⟨ap, r8, r9, s0, s1⟩ := info_parts SE
 have S := St.start (Sat.whole W)
 go_enter Tryz.func15, Tryz.ntmps15
 refine sk fun s2 f6 => ?_
 refine bA S (v := fun n => .pointer (aA n 0)) rfl (bZ (v := (.agg #[(.int .i64 g.kind), (.int .i64 g.session), (.int .i64 g.name), (.int .i64 g.key), (.int .i64 g.value)])) rfl) (fun i2 s3 e8 => ?_)
 refine dy ?_
 refine wn f6 ?_
 refine sk fun s4 f7 => ?_
 refine dR e8 0 Tryz.underlying31 (Di) ?_
 refine aQ e8 rfl (fn1 (Gj _ _)) (LA _ _ g (e8).sat hg) ?_
 intro s5 s6 i3 i4 n3 i5
 obtain ⟨c9, d0, d1, d2, d3, d4, d5, d6, rfl, i6, i7, i8, i9⟩ := i5
 simp only [pq]
 refine sA i4 (uG _) fun j0 s7 j1 => ?_
 refine sW 0 j1 (aY) fun s8 a1 => ?_
 refine wn f7 ?_
 refine aE fun s9 f8 => ?_
 refine aS i3 13 [(1, .made (fun F' u => AcV F' u (Ac.ask 1 (bU 1 (⟨[], [], [], []⟩ : Rq))))), (2, .made (fun F' u => Bs F' u [97])), (3, .made (fun F' u => Bs F' u [107])), (4, .made (fun F' u => ReqR F' u ((4, (⟨[97], [107], [], []⟩ : Rq)) : Nat × Rq))), (5, .made (fun F' u => AcV F' u (Ac.ask 1 (bU 4 (⟨[97], [107], [], []⟩ : Rq))))), (7, .made (fun F' u => AcV F' u (Ac.ask 1 (bU 6 (⟨[], [], [], []⟩ : Rq))))), (9, .made (fun F' u => AcV F' u (Ac.ask 1 (bU ((eM g).1) (eM g).2)))), (12, .made (fun F' u => AcV F' u (Ac.ask 1 (bU 1 (⟨[], [], [], []⟩ : Rq)))))] (by kernel_rfl) (by kernel_rfl) ?_
 simp only [dC]
 refine gv (.agg #[(iI 1), Zn, Zn, Zn, Zn]) (fun _ _ => aK (ps := #[(0, (iI 1))]) (cJ rfl) (by kernel_rfl)) ?_
 simp only [pq]
 refine dA rfl rfl (fun b0 a0 hF => bK (cK (vs := #[(iI 1), (.agg #[(iI 1), Zn, Zn, Zn, Zn])]) (gP rfl rfl) rfl (oJ _ _)) (cP a1.sat a0 (fP _ _ _ 1 1 (⟨[], [], [], []⟩ : Rq) ((St.tells a1 a0)).sat (hT.1.below (St.tells a1 a0).gr.below) ⟨_, _, _, _, rfl, (Bs.nil _), (Bs.nil _), (Bs.nil _), (Bs.nil _)⟩ ⟨by decide, by kernel_rfl⟩))) (fun t0 => ?_)
 simp only [pq]
 refine dA rfl rfl (fun b0 a0 _ => uT (b := 97) (Gr.of_below a1.sat a0) (bY (ps := #[(0, (.int .u8 97))]) (cells := #[(.int .u8 97)]) (E := 5) (cJ rfl) (fun w => by kernel_rfl))) (fun t1 => ?_)
 simp only [pq]
 refine dA rfl rfl (fun b0 a0 _ => uT (b := 107) (Gr.of_below a1.sat a0) (bY (ps := #[(0, (.int .u8 107))]) (cells := #[(.int .u8 107)]) (E := 5) (cJ rfl) (fun w => by kernel_rfl))) (fun t2 => ?_)
 simp only [pq]
 refine dA rfl rfl (fun b0 a0 hF_ => ?_) (fun t3 => ?_)
 obtain ⟨e0, f9, j2⟩ := hF_.get 2 (by kernel_rfl) rfl rfl
 obtain ⟨e3, g0, j3⟩ := hF_.get 3 (by kernel_rfl) rfl rfl
 have hR1 := (j2.mono (eG e0 e3))
 obtain ⟨n4, n5, rfl, _⟩ := hR1.shape
 have hR2 := (j3.mono (gC f9.sat g0.sat))
 obtain ⟨n6, n7, rfl, _⟩ := hR2.shape
 have hR3 := Bs.nil (both e0 e3)
 have hR4 := Bs.nil (both e0 e3)
 exact gJ (aK (MP rfl rfl rfl) (by kernel_rfl)) ⟨(both e0 e3), (f9.both g0), ⟨_, _, _, _, _, _, _, _, rfl, hR1, hR2, hR3, hR4⟩⟩ (Below.refl _ _)
 simp only [pq]
 refine dA rfl rfl (fun b0 a0 hF_ => ?_) (fun t4 => ?_)
 obtain ⟨t5, e9, j4⟩ := hF_.get 4 (by kernel_rfl) rfl rfl
 obtain ⟨g1, g2, g3, g4, g5, g6, g7, g8, rfl, j5, j6, j7, j8⟩ := j4
 exact bK (cK (vs := #[(.int .i64 1), (.agg #[(.int .i64 4), (.slice g1 [97].length g2), (.slice g3 [107].length g4), (.slice g5 [].length g6), (.slice g7 [].length g8)])]) (gP rfl rfl) rfl (oJ _ _)) (QP e9 (fP _ _ _ 1 4 (⟨[97], [107], [], []⟩ : Rq) (e9).sat ((hT.1.below a1.gr.below).below e9.below) ⟨_, _, _, _, rfl, j5, j6, j7, j8⟩ ⟨by decide, by kernel_rfl⟩))
 refine gv (.agg #[(iI 6), Zn, Zn, Zn, Zn]) (fun _ _ => aK (ps := #[(0, (iI 6))]) (cJ rfl) (by kernel_rfl)) ?_
 simp only [pq]
 refine dA rfl rfl (fun b0 a0 hF => bK (cK (vs := #[(iI 1), (.agg #[(iI 6), Zn, Zn, Zn, Zn])]) (gP rfl rfl) rfl (oJ _ _)) (cP a1.sat a0 (fP _ _ _ 1 6 (⟨[], [], [], []⟩ : Rq) ((St.tells a1 a0)).sat (hT.1.below (St.tells a1 a0).gr.below) ⟨_, _, _, _, rfl, (Bs.nil _), (Bs.nil _), (Bs.nil _), (Bs.nil _)⟩ ⟨by decide, by kernel_rfl⟩))) (fun t6 => ?_)
 refine gv _ (fun _ a0 => aD rfl (cT Tryz.underlying27 rfl (aY) (St.range (St.tells a1 a0) (i := 0) rfl 0 [(.int .i64 (((eM g).1 : Nat) : Int)), (.slice c9 ((eM g).2.name).length d0), (.slice d1 ((eM g).2.key).length d2), (.slice d3 ((eM g).2.last).length d4), (.slice d5 ((eM g).2.value).length d6)] (cV 0 rfl)))) ?_
 simp only [pq]
 refine dA rfl rfl (fun b0 a0 hF => bK (cK (vs := #[(iI 1), (.agg #[(.int .i64 (((eM g).1 : Nat) : Int)), (.slice c9 ((eM g).2.name).length d0), (.slice d1 ((eM g).2.key).length d2), (.slice d3 ((eM g).2.last).length d4), (.slice d5 ((eM g).2.value).length d6)])]) (gP rfl rfl) rfl (oJ _ _)) (cP a1.sat a0 (fP _ _ _ 1 ((eM g).1) (eM g).2 ((St.tells a1 a0)).sat (hT.1.below (St.tells a1 a0).gr.below) ⟨_, _, _, _, rfl, i6, i7, i8, i9⟩ (UC g)))) (fun t7 => ?_)
 refine gv (.agg #[(iI 2), (iI 0), (iI 0), Zn]) (fun _ _ => aK (ps := #[(0, (iI 2))]) (cJ rfl) (by kernel_rfl)) ?_
 refine gv (.agg #[(iI 1), Zn, Zn, Zn, Zn]) (fun _ _ => aK (ps := #[(0, (iI 1))]) (cJ rfl) (by kernel_rfl)) ?_
 simp only [pq]
 refine dA rfl rfl (fun b0 a0 hF => bK (cK (vs := #[(iI 1), (.agg #[(iI 1), Zn, Zn, Zn, Zn])]) (gP rfl rfl) rfl (oJ _ _)) (cP a1.sat a0 (fP _ _ _ 1 1 (⟨[], [], [], []⟩ : Rq) ((St.tells a1 a0)).sat (hT.1.below (St.tells a1 a0).gr.below) ⟨_, _, _, _, rfl, (Bs.nil _), (Bs.nil _), (Bs.nil _), (Bs.nil _)⟩ ⟨by decide, by kernel_rfl⟩))) (fun t8 => ?_)
 refine cA ?_
 intro t9 n8 a6
 obtain ⟨a2, c2, j9⟩ := a6.get 1 rfl rfl
 obtain ⟨a3, c3, k0⟩ := a6.get 5 rfl rfl
 obtain ⟨a4, d7, k1⟩ := a6.get 7 rfl rfl
 obtain ⟨a9, e4, k2⟩ := a6.get 9 rfl rfl
 obtain ⟨d8, f0, k3⟩ := a6.get 12 rfl rfl
 have k4 := St.gives a1 ((((c2.both c3).both d7).both e4).both f0)
 have n9 : Le _ _ := ((((c2.both c3).both d7).both e4).both f0).le a1.sat
 have k5 := (j9.mono ((((eG a2 a3).trans (eG (both a2 a3) a4)).trans (eG (both (both a2 a3) a4) a9)).trans (eG (both (both (both a2 a3) a4) a9) d8)))
 have k6 := (k0.mono ((((gC c2.sat c3.sat).trans (eG (both a2 a3) a4)).trans (eG (both (both a2 a3) a4) a9)).trans (eG (both (both (both a2 a3) a4) a9) d8)))
 have k7 := (k1.mono (((gC (c2.both c3).sat d7.sat).trans (eG (both (both a2 a3) a4) a9)).trans (eG (both (both (both a2 a3) a4) a9) d8)))
 have k8 := (k2.mono ((gC ((c2.both c3).both d7).sat e4.sat).trans (eG (both (both (both a2 a3) a4) a9) d8)))
 have k9 := (k3.mono (gC (((c2.both c3).both d7).both e4).sat f0.sat))
 generalize (both (both (both (both a2 a3) a4) a9) d8) = l0 at *
 obtain ⟨b1, b2, rfl, f1⟩ := k5
 have f1 : Bs _ (.slice b1 (bU 1 (⟨[], [], [], []⟩ : Rq)).length b2) (bU 1 (⟨[], [], [], []⟩ : Rq)) := f1
 obtain ⟨b3, b4, rfl, f2⟩ := k6
 have f2 : Bs _ (.slice b3 (bU 4 (⟨[97], [107], [], []⟩ : Rq)).length b4) (bU 4 (⟨[97], [107], [], []⟩ : Rq)) := f2
 obtain ⟨b5, b6, rfl, f3⟩ := k7
 have f3 : Bs _ (.slice b5 (bU 6 (⟨[], [], [], []⟩ : Rq)).length b6) (bU 6 (⟨[], [], [], []⟩ : Rq)) := f3
 obtain ⟨b7, b9, rfl, f4⟩ := k8
 have f4 : Bs _ (.slice b7 (bU ((eM g).1) (eM g).2).length b9) (bU ((eM g).1) (eM g).2) := f4
 obtain ⟨c0, c1, rfl, f5⟩ := k9
 have f5 : Bs _ (.slice c0 (bU 1 (⟨[], [], [], []⟩ : Rq)).length c1) (bU 1 (⟨[], [], [], []⟩ : Rq)) := f5
 clear a6
 simp only [dD]
 refine bA k4 (v := fun n => .slice (aA n 0) 6 6) rfl (bY (ps := #[(0, (.agg #[(iI 1), (iI 1), (iI 0), (.slice b1 (bU 1 (⟨[], [], [], []⟩ : Rq)).length b2)])), (1, (.agg #[(iI 1), (iI 1), (iI 0), (.slice b3 (bU 4 (⟨[97], [107], [], []⟩ : Rq)).length b4)])), (2, (.agg #[(iI 1), (iI 1), (iI 0), (.slice b5 (bU 6 (⟨[], [], [], []⟩ : Rq)).length b6)])), (3, (.agg #[(iI 1), (iI 1), (iI 0), (.slice b7 (bU ((eM g).1) (eM g).2).length b9)])), (4, (.agg #[(iI 2), (iI 0), (iI 0), Zn])), (5, (.agg #[(iI 1), (iI 1), (iI 0), (.slice c0 (bU 1 (⟨[], [], [], []⟩ : Rq)).length c1)]))]) (cells := #[(iI 1), (iI 1), (iI 0), (.slice b1 (bU 1 (⟨[], [], [], []⟩ : Rq)).length b2), (iI 1), (iI 1), (iI 0), (.slice b3 (bU 4 (⟨[97], [107], [], []⟩ : Rq)).length b4), (iI 1), (iI 1), (iI 0), (.slice b5 (bU 6 (⟨[], [], [], []⟩ : Rq)).length b6), (iI 1), (iI 1), (iI 0), (.slice b7 (bU ((eM g).1) (eM g).2).length b9), (iI 2), (iI 0), (iI 0), Zn, (iI 1), (iI 1), (iI 0), (.slice c0 (bU 1 (⟨[], [], [], []⟩ : Rq)).length c1)]) (E := 33) (If rfl rfl rfl rfl rfl rfl) (fun w => by kernel_rfl)) (fun g9 l1 h0 => ?_)
 simp only [pq]
 refine dy ?_
 refine wlK f8 ?_
 refine aE fun u0 h2 => ?_
 have l2 : St W (whole W) l1 l0 [⟨j0, [(.int .i64 (((eM g).1 : Nat) : Int)), (.slice c9 ((eM g).2.name).length d0), (.slice d1 ((eM g).2.key).length d2), (.slice d3 ((eM g).2.last).length d4), (.slice d5 ((eM g).2.value).length d6)], 27⟩, ⟨i2, [(.int .i64 g.kind), (.int .i64 g.session), (.int .i64 g.name), (.int .i64 g.key), (.int .i64 g.value)], 31⟩] [cE 4 AcC AcC.mono 33 W.heap.size (.slice (aA g9 0) 6 6) [(Ac.ask 1 (bU 1 (⟨[], [], [], []⟩ : Rq))), (Ac.ask 1 (bU 4 (⟨[97], [107], [], []⟩ : Rq))), (Ac.ask 1 (bU 6 (⟨[], [], [], []⟩ : Rq))), (Ac.ask 1 (bU ((eM g).1) (eM g).2)), Ac.sync, (Ac.ask 1 (bU 1 (⟨[], [], [], []⟩ : Rq)))]] := St.blkRow (k := 4) (cap := 6) (hR := AcC.mono) (l := ([(Ac.ask 1 (bU 1 (⟨[], [], [], []⟩ : Rq))), (Ac.ask 1 (bU 4 (⟨[97], [107], [], []⟩ : Rq))), (Ac.ask 1 (bU 6 (⟨[], [], [], []⟩ : Rq))), (Ac.ask 1 (bU ((eM g).1) (eM g).2)), Ac.sync, (Ac.ask 1 (bU 1 (⟨[], [], [], []⟩ : Rq)))] : List Ac)) (el := [[(iI 1), (iI 1), (iI 0), (.slice b1 (bU 1 (⟨[], [], [], []⟩ : Rq)).length b2)], [(iI 1), (iI 1), (iI 0), (.slice b3 (bU 4 (⟨[97], [107], [], []⟩ : Rq)).length b4)], [(iI 1), (iI 1), (iI 0), (.slice b5 (bU 6 (⟨[], [], [], []⟩ : Rq)).length b6)], [(iI 1), (iI 1), (iI 0), (.slice b7 (bU ((eM g).1) (eM g).2).length b9)], [(iI 2), (iI 0), (iI 0), Zn], [(iI 1), (iI 1), (iI 0), (.slice c0 (bU 1 (⟨[], [], [], []⟩ : Rq)).length c1)]]) h0 rfl ⟨⟨_, rfl, f1⟩, ⟨_, rfl, f2⟩, ⟨_, rfl, f3⟩, ⟨_, rfl, f4⟩, ⟨_, rfl, Bs.nil _⟩, ⟨_, rfl, f5⟩, trivial⟩ (by simp) rfl (by simp) (by unfold maxLen; decide) (h0.blk _ (List.mem_cons_self ..)).2.2
 refine aB ?_
 refine dx ?_
 simp only [pq]
 obtain ⟨G, h1, ge1, ge2, ⟨y, ge3, hy⟩, ge4, ge5⟩ : ∃ G, (ScrOk ([(Ac.ask 1 (bU 1 (⟨[], [], [], []⟩ : Rq))), (Ac.ask 1 (bU 4 (⟨[97], [107], [], []⟩ : Rq))), (Ac.ask 1 (bU 6 (⟨[], [], [], []⟩ : Rq))), (Ac.ask 1 (bU ((eM g).1) (eM g).2)), Ac.sync, (Ac.ask 1 (bU 1 (⟨[], [], [], []⟩ : Rq)))]) ∧ dY ([(Ac.ask 1 (bU 1 (⟨[], [], [], []⟩ : Rq))), (Ac.ask 1 (bU 4 (⟨[97], [107], [], []⟩ : Rq))), (Ac.ask 1 (bU 6 (⟨[], [], [], []⟩ : Rq))), (Ac.ask 1 (bU ((eM g).1) (eM g).2)), Ac.sync, (Ac.ask 1 (bU 1 (⟨[], [], [], []⟩ : Rq)))]) = G) ∧ G.replies.length = 5 ∧ G.synced = 1 ∧ (∃ y : Rep, G.replies[2]? = some y ∧ y.code = if (eM g).1 = 8 then 0 else 6) ∧ G.replies[3]? = some (kE 1 1) ∧ G.replies[4]? = some (kE 1 1) := ⟨_, WY (UC g), XA _ _⟩
 have hyc : (eM g).1 = 8 ∧ y.code = 0 ∨ (eM g).1 ≠ 8 ∧ y.code = 6 := by
  by_cases h : (eM g).1 = 8
  exact .inl ⟨h, by rw [hy, if_pos h]⟩
  exact .inr ⟨h, by rw [hy, if_neg h]⟩
 obtain ⟨u1, e5, o0, d9⟩ := St.freeze l2 (i := 0) rfl (Nat.le_refl _)
 have d9 : Acs _ (.slice (some ⟨g9, 0, none⟩) 6 6) [(Ac.ask 1 (bU 1 (⟨[], [], [], []⟩ : Rq))), (Ac.ask 1 (bU 4 (⟨[97], [107], [], []⟩ : Rq))), (Ac.ask 1 (bU 6 (⟨[], [], [], []⟩ : Rq))), (Ac.ask 1 (bU ((eM g).1) (eM g).2)), Ac.sync, (Ac.ask 1 (bU 1 (⟨[], [], [], []⟩ : Rq)))] := d9
 refine aQ e5 rfl (fn1 (PW _ _)) (vS _ _ _ [(Ac.ask 1 (bU 1 (⟨[], [], [], []⟩ : Rq))), (Ac.ask 1 (bU 4 (⟨[97], [107], [], []⟩ : Rq))), (Ac.ask 1 (bU 6 (⟨[], [], [], []⟩ : Rq))), (Ac.ask 1 (bU ((eM g).1) (eM g).2)), Ac.sync, (Ac.ask 1 (bU 1 (⟨[], [], [], []⟩ : Rq)))] (e5).sat (hT.1.below e5.gr.below) (hT.2.at e5.gr.below) d9 h1.1 h1.2) ?_
 intro u2 u3 u4 l3 o1 l4
 obtain ⟨_, rfl, l5⟩ := l4
 obtain ⟨u5, u6, u7, u9, rfl, v0, c4⟩ := l5
 refine aC ?_
 refine sA l3 (rP _) fun v1 v2 l6 => ?_
 refine sW 0 l6 (mG) fun v3 a5 => ?_
 refine dy ?_
 simp only [pq]
 refine wlK h2 ?_
 refine aE fun v4 h3 => ?_
 refine sk fun v5 h4 => ?_
 refine aC ?_
 refine lW ?_
 refine aC ?_
 refine lW ?_
 simp only [pq]
 refine dp ?_
 refine wn h4 ?_
 refine aF ?_
 refine aH ?_
 refine h3 _ _ ?_
 refine sk fun v6 h5 => ?_
 refine dy ?_
 refine wn h5 ?_
 refine aE fun v7 e6 => ?_
 refine sk fun v8 e7 => ?_
 refine aC ?_
 by_cases v9 : (eM g).1 = 8
 refine gV ?_
 refine wn e7 ?_
 refine aL ?_
 refine aB ?_
 refine dy ?_
 refine wlK e6 ?_
 refine aE fun w0 h6 => ?_
 obtain ⟨c5, c6, a7, o2, o3, o4, o5, o6, o7, w1, l7, w2, w4, w5, w6, w7, w8, w9, x0⟩ := Rps.get c4 ge3
 obtain ⟨l8, l9, h7, o8, o9, p0, p1, p2, p3, x1, x2, m0, x3, x4, x5, x6, x7, x8, x9⟩ := Rps.get c4 ge4
 obtain ⟨rfl, rfl⟩ : c5 = l8 ∧ c6 = l9 := by
  have e := a7.symm.trans h7; injection e with e; injection e with e1 e2; exact ⟨e1, e2⟩
 obtain ⟨m1, m2, h8, p4, p5, p6, p7, p8, p9, y0, m3, m4, y1, y2, y3, y4, y5, y6, y7⟩ := Rps.get c4 ge5
 obtain ⟨rfl, rfl⟩ : c5 = m1 ∧ c6 = m2 := by
  have e := a7.symm.trans h8; injection e with e; injection e with e1 e2; exact ⟨e1, e2⟩
 refine aB ?_
 refine aC ?_
 refine dr (pP c5 (c6 + 2 * 15)) (bO (i := 2) (sz := 15) Tryz.underlying41 (jR _) rfl a7 rfl (by omega) rfl) ?_
 simp only [pq]
 refine df (wV _ _) ?_
 refine dr _ (aD rfl (aT (wN _) (St.fz a5 l7))) ?_
 refine dx ?_
 simp only [pq]
 refine gV ?_
 refine aC ?_
 refine dr (pP c5 (c6 + 3 * 15)) (bO (i := 3) (sz := 15) Tryz.underlying41 (jR _) rfl a7 rfl (by omega) rfl) ?_
 refine aC ?_
 refine dr _ (aD rfl (aT (bM _) (St.fz a5 m0))) ?_
 refine dr bT (bW (m := (kE 1 1).turn) (n := (1 : Int)) (b := true) rfl rfl (beq_iff_eq.2 (rfl))) ?_
 refine aC ?_
 refine dr (pP c5 (c6 + 4 * 15)) (bO (i := 4) (sz := 15) Tryz.underlying41 (jR _) rfl a7 rfl (by omega) rfl) ?_
 refine df (JH _ _) ?_
 refine dr _ (aD rfl (aT (bM _) (St.fz a5 m4))) ?_
 simp only [pq]
 refine dr bT (bW (m := (kE 1 1).turn) (n := (1 : Int)) (b := true) rfl rfl (beq_iff_eq.2 (rfl))) ?_
 refine aC ?_
 refine dr (pP c5 (c6 + 4 * 15)) (bO (i := 4) (sz := 15) Tryz.underlying41 (jR _) rfl a7 rfl (by omega) rfl) ?_
 simp only [pq]
 refine df (wV _ _) ?_
 refine dr _ (aD rfl (aT (wN _) (St.fz a5 m3))) ?_
 refine dr bT (bW (m := (kE 1 1).code) (n := (0 : Int)) (b := true) rfl rfl (beq_iff_eq.2 (rfl))) ?_
 refine aC ?_
 refine wlK h6 ?_
 refine aN ?_
 try simp only [xt]
 refine bR (bJ rfl (gD rfl)) ?_
 exact ⟨rfl, a5.gr.below⟩
 refine fY ?_
 simp only [pq]
 refine wn e7 ?_
 refine aF ?_
 refine aH ?_
 refine e6 _ _ ?_
 refine aE fun y8 h9 => ?_
 obtain ⟨c7, c8, a8, q0, q1, q2, q3, q4, q5, y9, m5, z0, z1, z2, z3, z4, z5, z6, z7⟩ := Rps.get c4 ge3
 obtain ⟨m6, m7, i0, q6, q7, q8, q9, r0, r1, z8, z9, m8, aa, ab, ac, ad, ae, af, ag⟩ := Rps.get c4 ge4
 obtain ⟨rfl, rfl⟩ : c7 = m6 ∧ c8 = m7 := by
  have e := a8.symm.trans i0; injection e with e; injection e with e1 e2; exact ⟨e1, e2⟩
 obtain ⟨m9, n0, i1, r2, r3, r4, r5, r6, r7, ah, n1, n2, ai, aj, ak, al, am, an, ao⟩ := Rps.get c4 ge5
 obtain ⟨rfl, rfl⟩ : c7 = m9 ∧ c8 = n0 := by
  have e := a8.symm.trans i1; injection e with e; injection e with e1 e2; exact ⟨e1, e2⟩
 refine aB ?_
 refine aC ?_
 refine dr (pP c7 (c8 + 2 * 15)) (bO (i := 2) (sz := 15) Tryz.underlying41 (jR _) rfl a8 rfl (by omega) rfl) ?_
 simp only [pq]
 refine df (wV _ _) ?_
 refine dr _ (aD rfl (aT (wN _) (St.fz a5 m5))) ?_
 refine dx ?_
 simp only [pq]
 refine gV ?_
 refine aC ?_
 refine dr (pP c7 (c8 + 3 * 15)) (bO (i := 3) (sz := 15) Tryz.underlying41 (jR _) rfl a8 rfl (by omega) rfl) ?_
 refine aC ?_
 refine dr _ (aD rfl (aT (bM _) (St.fz a5 m8))) ?_
 refine dr bT (bW (m := (kE 1 1).turn) (n := (1 : Int)) (b := true) rfl rfl (beq_iff_eq.2 (rfl))) ?_
 refine aC ?_
 refine dr (pP c7 (c8 + 4 * 15)) (bO (i := 4) (sz := 15) Tryz.underlying41 (jR _) rfl a8 rfl (by omega) rfl) ?_
 refine df (JH _ _) ?_
 refine dr _ (aD rfl (aT (bM _) (St.fz a5 n2))) ?_
 simp only [pq]
 refine dr bT (bW (m := (kE 1 1).turn) (n := (1 : Int)) (b := true) rfl rfl (beq_iff_eq.2 (rfl))) ?_
 refine aC ?_
 refine dr (pP c7 (c8 + 4 * 15)) (bO (i := 4) (sz := 15) Tryz.underlying41 (jR _) rfl a8 rfl (by omega) rfl) ?_
 simp only [pq]
 refine df (wV _ _) ?_
 refine dr _ (aD rfl (aT (wN _) (St.fz a5 n1))) ?_
 refine dr bT (bW (m := (kE 1 1).code) (n := (0 : Int)) (b := true) rfl rfl (beq_iff_eq.2 (rfl))) ?_
 refine aC ?_
 refine wlK h9 ?_
 refine aN ?_
 try simp only [xt]
 refine bR (bJ rfl (gD rfl)) ?_
 exact ⟨rfl, a5.gr.below⟩
end Go.Proofs.YtilgpdpooildcaaGreatDoor
