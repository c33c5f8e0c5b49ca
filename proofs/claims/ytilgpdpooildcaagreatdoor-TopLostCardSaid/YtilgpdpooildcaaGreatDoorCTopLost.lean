/- The walk of TopLost -/
import Derived.Test.YtilgpdpooildcaaGreatDoorDB12
import Derived.Test.YtilgpdpooildcaaGreatDoorDB2
import Derived.Test.YtilgpdpooildcaaGreatDoorDB3
import Derived.Test.YtilgpdpooildcaaGreatDoorDB5
namespace Go.Proofs.YtilgpdpooildcaaGreatDoor
set_option maxHeartbeats 8000000
open Go.RowKit
set_option maxRecDepth 100000
set_option linter.unusedVariables false
set_option linter.unusedSimpArgs false
theorem VI (v : UInt8) (k : Nat) (hk : k < 60) : ScrOk ((xR v k).map Rc.ac) ∧ dP ((xR v k).map Rc.ac) = yF (xR v k) := by
 have h1 : ((List.range 60).all fun k => YQ (xR v k) && !(xR v k).any rcP) = true := by kernel_rfl
 have h := List.all_eq_true.1 h1 k (List.mem_range.2 hk)
 simp only [Bool.and_eq_true, Bool.not_eq_true'] at h
 have h2 := h.1
 simp only [YQ, Bool.and_eq_true, decide_eq_true_eq] at h2
 exact ⟨Bd h.1 (fun q => by rw [h.2] at q; cases q) (fun _ => Be), OO fun a ha => VB (List.all_eq_true.1 h2.1.1 a ha)⟩
theorem GC (W : World) (hT : Has W ∧ Tabs W) (x0 : Int) (b0 : -9223372036854775808 ≤ x0) (b0' : x0 ≤ 9223372036854775807) (x1 : Int) :
    Calls Tryz.prog 18 #[.int .i64 x0, .int .i64 x1] W (cS W (.bool true)) := by
 obtain ⟨t6, o5, o6, o7, o8⟩ := info_parts WB
 have S := St.start (Sat.whole W)
 go_enter Tryz.func18, Tryz.ntmps18
 refine sk fun o9 d5 => ?_
 refine dy ?_
 refine wn d5 ?_
 refine sk fun p0 d6 => ?_
 refine dr (.agg #[(iI 1), Zn, Zn, Zn, Zn]) (aJ (dH rfl) (by kernel_rfl)) ?_
 refine aY S rfl (fn2 (EU _ _)) (oG _ _ _ 0 1 (⟨[], [], [], []⟩ : Rq) (S).sat (hT.1.below S.gr.below) ⟨_, _, _, _, rfl, (Bs.nil _), (Bs.nil _), (Bs.nil _), (Bs.nil _)⟩ ⟨by decide, by kernel_rfl⟩) ?_
 intro p1 p2 i3 i4 n6 i5
 obtain ⟨a1, a2, rfl, c3⟩ := i5
 have c3 : Bs _ (.slice a1 (eO 1 (⟨[], [], [], []⟩ : Rq)).length a2) (eO 1 (⟨[], [], [], []⟩ : Rq)) := c3
 refine bB i4 (v := fun n => .slice (aA n 0) 1 1) rfl (cX (ps := #[(0, (.int .u8 97))]) (cells := #[(.int .u8 97)]) (E := 5) (dH rfl) (fun w => by kernel_rfl)) (fun c4 p3 i6 => ?_)
 simp only [pq]
 refine bB i6 (v := fun n => .slice (aA n 0) 1 1) rfl (cX (ps := #[(0, (.int .u8 107))]) (cells := #[(.int .u8 107)]) (E := 5) (dH rfl) (fun w => by kernel_rfl)) (fun c5 p4 i7 => ?_)
 refine dx ?_
 refine dr (.int .u8 (((iY x1).toNat : Nat) : Int)) (bA (v := (.int .i64 x1)) rfl (OQ x1 _)) ?_
 refine bB i7 (v := fun n => .slice (aA n 0) 1 1) rfl (cX (ps := #[(0, (.int .u8 (((iY x1).toNat : Nat) : Int)))]) (cells := #[(.int .u8 (((iY x1).toNat : Nat) : Int))]) (E := 5) (dH rfl) (fun w => by kernel_rfl)) (fun c6 c7 i8 => ?_)
 simp only [pq]
 refine dr (.agg #[(iI 4), (.slice (aA c4 0) 1 1), (.slice (aA c5 0) 1 1), Zn, (.slice (aA c6 0) 1 1)]) (aJ (nR rfl rfl rfl rfl) (by kernel_rfl)) ?_
 simp only [pq]
 obtain ⟨i9, d7, d8⟩ := St.freezeBlk i8 (i := 2) rfl
 have j0 : Bs _ (.slice (some ⟨c4, 0, none⟩) 1 1) ([97] : By) := jU (l := ([97] : By)) d8 (rfl) (by unfold maxLen; simp)
 generalize addF i3 c7 c4 = j1 at *
 obtain ⟨j2, c0, d9⟩ := St.freezeBlk i9 (i := 1) rfl
 have j3 : Bs _ (.slice (some ⟨c5, 0, none⟩) 1 1) ([107] : By) := jU (l := ([107] : By)) d9 (rfl) (by unfold maxLen; simp)
 generalize addF j1 c7 c5 = j4 at *
 obtain ⟨c8, b3, e0⟩ := St.freezeBlk j2 (i := 0) rfl
 have j5 : Bs _ (.slice (some ⟨c6, 0, none⟩) 1 1) ([iY x1] : By) := jU (l := ([iY x1] : By)) e0 (rfl) (by unfold maxLen; simp)
 generalize addF j4 c7 c6 = p5 at *
 refine aY c8 rfl (fn2 (EU _ _)) (oG _ _ _ 0 4 (⟨([97] : By), ([107] : By), [], ([iY x1] : By)⟩ : Rq) (c8).sat (hT.1.below c8.gr.below) ⟨_, _, _, _, rfl, (j0.mono (c0.trans b3)), (j3.mono b3), (Bs.nil _), j5⟩ ⟨by decide, by kernel_rfl⟩) ?_
 intro p6 p7 p8 c9 e3 j6
 obtain ⟨a3, a4, rfl, d0⟩ := j6
 have d0 : Bs _ (.slice a3 (eO 4 (⟨([97] : By), ([107] : By), [], ([iY x1] : By)⟩ : Rq)).length a4) (eO 4 (⟨([97] : By), ([107] : By), [], ([iY x1] : By)⟩ : Rq)) := d0
 refine dr (.agg #[(iI 6), Zn, Zn, Zn, Zn]) (aJ (dH rfl) (by kernel_rfl)) ?_
 refine aY c9 rfl (fn2 (EU _ _)) (oG _ _ _ 0 6 (⟨[], [], [], []⟩ : Rq) (c9).sat (hT.1.below c9.gr.below) ⟨_, _, _, _, rfl, (Bs.nil _), (Bs.nil _), (Bs.nil _), (Bs.nil _)⟩ ⟨by decide, by kernel_rfl⟩) ?_
 intro p9 q0 q1 j7 c1 j8
 obtain ⟨a5, a6, rfl, d1⟩ := j8
 have d1 : Bs _ (.slice a5 (eO 6 (⟨[], [], [], []⟩ : Rq)).length a6) (eO 6 (⟨[], [], [], []⟩ : Rq)) := d1
 simp only [pq]
 refine dx ?_
 simp only [pq]
 obtain ⟨k0, hk_k0, hk_k0_l⟩ := VH x0 60 (by decide)
 refine aK (v := (nI k0)) j7 rfl (fn2 (ZM _ _)) (hk_k0 ▸ JP x0 60 _ (by omega) (by omega) (by omega) (by omega)) (fun q2 d2 => ?_)
 refine dr (.agg #[(iI 3), (iI 0), (nI k0), Zn]) (aJ (fF rfl rfl) (by kernel_rfl)) ?_
 refine dr (.agg #[(iI 4), (iI 0), (iI 0), Zn]) (aJ (dH rfl) (by kernel_rfl)) ?_
 refine dr (.agg #[(iI 2), (iI 0), (iI 0), Zn]) (aJ (dH rfl) (by kernel_rfl)) ?_
 simp only [pq]
 refine dr (.agg #[(iI 1), Zn, Zn, Zn, Zn]) (aJ (dH rfl) (by kernel_rfl)) ?_
 refine aY d2 rfl (fn2 (EU _ _)) (oG _ _ _ 0 1 (⟨[], [], [], []⟩ : Rq) (d2).sat (hT.1.below d2.gr.below) ⟨_, _, _, _, rfl, (Bs.nil _), (Bs.nil _), (Bs.nil _), (Bs.nil _)⟩ ⟨by decide, by kernel_rfl⟩) ?_
 intro q3 q4 j9 k1 b4 k2
 obtain ⟨a7, a8, rfl, d3⟩ := k2
 have d3 : Bs _ (.slice a7 (eO 1 (⟨[], [], [], []⟩ : Rq)).length a8) (eO 1 (⟨[], [], [], []⟩ : Rq)) := d3
 refine bB k1 (v := fun n => .slice (aA n 0) 7 7) rfl (cX (ps := #[(0, (.agg #[(iI 1), (iI 0), (iI 0), (.slice a1 (eO 1 (⟨[], [], [], []⟩ : Rq)).length a2)])), (1, (.agg #[(iI 1), (iI 0), (iI 0), (.slice a3 (eO 4 (⟨([97] : By), ([107] : By), [], ([iY x1] : By)⟩ : Rq)).length a4)])), (2, (.agg #[(iI 1), (iI 0), (iI 0), (.slice a5 (eO 6 (⟨[], [], [], []⟩ : Rq)).length a6)])), (3, (.agg #[(iI 3), (iI 0), (nI k0), Zn])), (4, (.agg #[(iI 4), (iI 0), (iI 0), Zn])), (5, (.agg #[(iI 2), (iI 0), (iI 0), Zn])), (6, (.agg #[(iI 1), (iI 0), (iI 0), (.slice a7 (eO 1 (⟨[], [], [], []⟩ : Rq)).length a8)]))]) (cells := #[(iI 1), (iI 0), (iI 0), (.slice a1 (eO 1 (⟨[], [], [], []⟩ : Rq)).length a2), (iI 1), (iI 0), (iI 0), (.slice a3 (eO 4 (⟨([97] : By), ([107] : By), [], ([iY x1] : By)⟩ : Rq)).length a4), (iI 1), (iI 0), (iI 0), (.slice a5 (eO 6 (⟨[], [], [], []⟩ : Rq)).length a6), (iI 3), (iI 0), (nI k0), Zn, (iI 4), (iI 0), (iI 0), Zn, (iI 2), (iI 0), (iI 0), Zn, (iI 1), (iI 0), (iI 0), (.slice a7 (eO 1 (⟨[], [], [], []⟩ : Rq)).length a8)]) (E := 33) (Bk rfl rfl rfl rfl rfl rfl rfl) (fun w => by kernel_rfl)) (fun e4 k3 e5 => ?_)
 simp only [pq]
 refine dy ?_
 refine wn d6 ?_
 refine aE fun q5 e6 => ?_
 have k4 : St W (whole W) k3 j9 [] [cI 4 AcC AcC.mono 33 W.heap.size (.slice (aA e4 0) 7 7) [(Ac.ask 0 (eO 1 (⟨[], [], [], []⟩ : Rq))), (Ac.ask 0 (eO 4 (⟨([97] : By), ([107] : By), [], ([iY x1] : By)⟩ : Rq))), (Ac.ask 0 (eO 6 (⟨[], [], [], []⟩ : Rq))), (Ac.crash k0), Ac.start, Ac.sync, (Ac.ask 0 (eO 1 (⟨[], [], [], []⟩ : Rq)))]] := St.blkRow (k := 4) (cap := 7) (hR := AcC.mono) (l := ([(Ac.ask 0 (eO 1 (⟨[], [], [], []⟩ : Rq))), (Ac.ask 0 (eO 4 (⟨([97] : By), ([107] : By), [], ([iY x1] : By)⟩ : Rq))), (Ac.ask 0 (eO 6 (⟨[], [], [], []⟩ : Rq))), (Ac.crash k0), Ac.start, Ac.sync, (Ac.ask 0 (eO 1 (⟨[], [], [], []⟩ : Rq)))] : List Ac)) (el := [[(iI 1), (iI 0), (iI 0), (.slice a1 (eO 1 (⟨[], [], [], []⟩ : Rq)).length a2)], [(iI 1), (iI 0), (iI 0), (.slice a3 (eO 4 (⟨([97] : By), ([107] : By), [], ([iY x1] : By)⟩ : Rq)).length a4)], [(iI 1), (iI 0), (iI 0), (.slice a5 (eO 6 (⟨[], [], [], []⟩ : Rq)).length a6)], [(iI 3), (iI 0), (nI k0), Zn], [(iI 4), (iI 0), (iI 0), Zn], [(iI 2), (iI 0), (iI 0), Zn], [(iI 1), (iI 0), (iI 0), (.slice a7 (eO 1 (⟨[], [], [], []⟩ : Rq)).length a8)]]) e5 rfl ⟨⟨_, rfl, (c3.mono (((((d7.trans c0).trans b3).trans e3).trans c1).trans b4))⟩, ⟨_, rfl, (d0.mono (c1.trans b4))⟩, ⟨_, rfl, (d1.mono b4)⟩, ⟨_, rfl, Bs.nil _⟩, ⟨_, rfl, Bs.nil _⟩, ⟨_, rfl, Bs.nil _⟩, ⟨_, rfl, d3⟩, trivial⟩ (by simp) rfl (by simp) (by unfold maxLen; decide) (e5.blk _ (List.mem_cons_self ..)).2.2
 refine aB ?_
 refine dx ?_
 simp only [pq]
 obtain ⟨G, h1, ge1, ge2, ge3, ge4⟩ : ∃ G, (ScrOk ([(Ac.ask 0 (eO 1 (⟨[], [], [], []⟩ : Rq))), (Ac.ask 0 (eO 4 (⟨([97] : By), ([107] : By), [], ([iY x1] : By)⟩ : Rq))), (Ac.ask 0 (eO 6 (⟨[], [], [], []⟩ : Rq))), (Ac.crash k0), Ac.start, Ac.sync, (Ac.ask 0 (eO 1 (⟨[], [], [], []⟩ : Rq)))]) ∧ dP ([(Ac.ask 0 (eO 1 (⟨[], [], [], []⟩ : Rq))), (Ac.ask 0 (eO 4 (⟨([97] : By), ([107] : By), [], ([iY x1] : By)⟩ : Rq))), (Ac.ask 0 (eO 6 (⟨[], [], [], []⟩ : Rq))), (Ac.crash k0), Ac.start, Ac.sync, (Ac.ask 0 (eO 1 (⟨[], [], [], []⟩ : Rq)))]) = G) ∧ G.replies.length = 3 ∧ G.waiting.length = 0 ∧ G.replies[2]? = some (mD 0 G.synced) ∧ (G.synced = 0 ∧ G.forest G.synced = [] ∨ G.synced = 1 ∧ G.forest G.synced = [([97], [([107], [iY x1])])]) := ⟨_, VI (iY x1) k0 (by omega), VG (iY x1) k0⟩
 obtain ⟨q6, b9, n7, b5⟩ := St.freeze k4 (i := 0) rfl (Nat.le_refl _)
 have b5 : Acs _ (.slice (some ⟨e4, 0, none⟩) 7 7) [(Ac.ask 0 (eO 1 (⟨[], [], [], []⟩ : Rq))), (Ac.ask 0 (eO 4 (⟨([97] : By), ([107] : By), [], ([iY x1] : By)⟩ : Rq))), (Ac.ask 0 (eO 6 (⟨[], [], [], []⟩ : Rq))), (Ac.crash k0), Ac.start, Ac.sync, (Ac.ask 0 (eO 1 (⟨[], [], [], []⟩ : Rq)))] := b5
 refine aY b9 rfl (fn1 (ZN _ _)) (MM _ _ _ [(Ac.ask 0 (eO 1 (⟨[], [], [], []⟩ : Rq))), (Ac.ask 0 (eO 4 (⟨([97] : By), ([107] : By), [], ([iY x1] : By)⟩ : Rq))), (Ac.ask 0 (eO 6 (⟨[], [], [], []⟩ : Rq))), (Ac.crash k0), Ac.start, Ac.sync, (Ac.ask 0 (eO 1 (⟨[], [], [], []⟩ : Rq)))] (b9).sat (hT.1.below b9.gr.below) (hT.2.at b9.gr.below) b5 h1.1 h1.2) ?_
 intro q7 q8 k5 k6 n8 k7
 obtain ⟨_, rfl, k8⟩ := k7
 obtain ⟨q9, r0, r1, r2, rfl, k9, l0⟩ := k8
 refine aC ?_
 refine sA k6 (vL _) fun l1 r3 l2 => ?_
 refine sW 0 l2 (nY) fun r4 e7 => ?_
 refine dy ?_
 simp only [pq]
 refine wlK e6 ?_
 refine aE fun r5 e8 => ?_
 refine sk fun r6 e9 => ?_
 refine aC ?_
 refine kU ?_
 refine aC ?_
 refine kU ?_
 simp only [pq]
 refine dp ?_
 refine wn e9 ?_
 refine aF ?_
 refine aH ?_
 refine e8 _ _ ?_
 refine aE fun r7 f0 => ?_
 obtain ⟨l3, l4, f1, f2, f3, f4, f5, f6, f7, f8, f9, g0, g1, g2, g3, l5, b1, r8, r9, s0⟩ := Rps.row l0 ge3
 have l6 : Value.oneCell' f8 = true := b1 _ (by simp)
 have l7 : Value.oneCell' f9 = true := b1 _ (by simp)
 have l8 : Value.oneCell' g0 = true := b1 _ (by simp)
 have l9 : Value.oneCell' g1 = true := b1 _ (by simp)
 have m0 : Value.oneCell' g2 = true := b1 _ (by simp)
 have m1 : Value.oneCell' g3 = true := b1 _ (by simp)
 refine aB ?_
 refine aC ?_
 refine dr (pP l3 (l4 + 2 * 15)) (bY (i := 2) (sz := 15) Tryz.underlying41 (PH _) rfl f1 rfl (by omega) rfl) ?_
 simp only [pq]
 refine dr _ (aD rfl (cP Tryz.underlying54 rfl (EO) (fun j v h => St.fz e7 (l5 j v h)))) ?_
 refine sA e7 (WK _) fun s1 s2 m2 => ?_
 refine fI (i := 0) (v := (.agg #[(.int .i64 (((mD 0 (G.synced : Int)).s : Nat) : Int)), (.int .i64 (mD 0 (G.synced : Int)).code), (.int .i64 (mD 0 (G.synced : Int)).turn), (.bool (mD 0 (G.synced : Int)).found), (.slice f2 (mD 0 (G.synced : Int)).value.length f3), (.slice f4 (mD 0 (G.synced : Int)).pairs.length f5), (.slice f6 (mD 0 (G.synced : Int)).root.length f7), (.bool (mD 0 (G.synced : Int)).outer.empty), f8, f9, g0, (.bool (mD 0 (G.synced : Int)).inner.empty), g1, g2, g3])) m2 rfl rfl rfl rfl (EO) (by simp only [Value.cells]; simp; exact ⟨rfl, rfl, rfl, rfl, rfl, rfl, rfl, rfl, l6, l7, l8, rfl, l9, m0, m1⟩) (Nat.le_of_ble_eq_true rfl) (fun m3 g4 => ?_)
 refine wlK f0 ?_
 refine aE fun s3 g5 => ?_
 refine sk fun s4 g6 => ?_
 refine aC ?_
 refine dr bF (bP (m := (mD 0 (G.synced : Int)).code) (n := (0 : Int)) (b := false) rfl rfl (bne_eq_false_iff_eq.2 (rfl))) ?_
 refine aC ?_
 refine dr bF (bP (m := (mD 0 (G.synced : Int)).turn) (n := ((G.synced : Nat) : Int)) (b := false) rfl rfl (bne_eq_false_iff_eq.2 (rfl))) ?_
 simp only [pq]
 refine dp ?_
 refine wn g6 ?_
 refine aF ?_
 refine aH ?_
 refine g5 _ _ ?_
 refine aE fun s5 g7 => ?_
 refine sk fun s6 c2 => ?_
 refine aC ?_
 by_cases s7 : G.synced = 0
 ·refine jA ?_
  refine wn c2 ?_
  refine aI ?_
  refine aE fun s8 g8 => ?_
  have e1 : G.forest G.synced = [] := by rcases ge4 with h | h; exact h.2; omega
  refine aB ?_
  refine aC ?_
  refine dr bT (cB (m := (((G.forest G.synced).length : Nat) : Int)) (n := (0 : Int)) (b := true) rfl rfl (beq_iff_eq.2 (by rw [e1]; rfl))) ?_
  refine dy ?_
  refine wlK g8 ?_
  refine aN ?_
  try simp only [xt]
  refine bR (aZ rfl (gD rfl)) ?_
  ·exact ⟨rfl, g4.gr.below⟩
 ·refine gU ?_
  simp only [pq]
  refine wn c2 ?_
  refine aF ?_
  refine aH ?_
  refine g7 _ _ ?_
  refine aE fun s9 g9 => ?_
  have e1 : G.synced = 1 ∧ G.forest G.synced = [([97], [([107], [iY x1])])] := by rcases ge4 with h | h; omega; exact h
  have e2 : (G.forest G.synced).length = 1 := by rw [e1.2]; rfl
  obtain ⟨tn, htn, htn2⟩ : ∃ tn, (G.forest G.synced)[0]? = some tn ∧ tn.2 = [([107], [iY x1])] := ⟨_, by rw [e1.2]; rfl, rfl⟩
  obtain ⟨m4, m5, h0, n9, o0, o1, o2, t0, m6, t1, m7⟩ := Tns.get k9 htn
  obtain ⟨pr, hpr, hpr2⟩ : ∃ pr, tn.2[0]? = some pr ∧ pr.2 = [iY x1] := ⟨_, by rw [htn2]; rfl, rfl⟩
  have htn3 : 0 < tn.2.length := by rw [htn2]; exact Nat.zero_lt_succ _
  obtain ⟨m8, m9, h2, o3, o4, h3, h4, t2, n0, t3, n1⟩ := Prs.get m7 hpr
  obtain ⟨n2, b6, b7⟩ := St.freezeBlk g4 (i := 1) rfl
  generalize addF k5 m3 l1 = n3 at *
  refine fX n2 (by kernel_rfl) (fun t4 a0 => ?_)
  refine aU 0 rfl _ a0.sat (fun _ _ => ef (NF _ _)) ?_
  simp only [pq]
  refine aU 1 rfl _ a0.sat (fun _ h5 => aD rfl (aR (bL _) (St.fz (St.start h5) (b7 1 _ rfl)))) ?_
  simp only [pq]
  refine aU 2 rfl bT a0.sat (fun _ _ => cB (m := ((G.synced : Nat) : Int)) (n := (1 : Int)) (b := true) rfl rfl (beq_iff_eq.2 (by omega))) ?_
  simp only [pq]
  refine dL 3 rfl a0.sat ?_
  simp only [pq]
  refine aU 4 rfl _ a0.sat (fun _ _ => ef (EP _ _)) ?_
  simp only [pq]
  refine aU 5 rfl _ a0.sat (fun _ h6 => aD rfl (aR (pX _) (St.fz (St.start h6) (b7 3 _ rfl)))) ?_
  simp only [pq]
  refine aU 6 rfl (.int .i64 (((G.forest G.synced).length : Nat) : Int)) a0.sat (fun _ _ => oH Tryz.underlying24 rfl) ?_
  simp only [pq]
  refine aU 7 rfl bT a0.sat (fun _ _ => cB (m := (((G.forest G.synced).length : Nat) : Int)) (n := (1 : Int)) (b := true) rfl rfl (beq_iff_eq.2 (by omega))) ?_
  simp only [pq]
  refine aU 8 rfl bT a0.sat (fun _ _ => nP (b := true) rfl) ?_
  simp only [pq]
  refine dL 9 rfl a0.sat ?_
  simp only [pq]
  refine aU 10 rfl _ a0.sat (fun _ _ => ef (EP _ _)) ?_
  simp only [pq]
  refine aU 11 rfl _ a0.sat (fun _ h7 => aD rfl (aR (pX _) (St.fz (St.start h7) (b7 3 _ rfl)))) ?_
  simp only [pq]
  refine aU 12 rfl (pP m4 (m5 + 0 * 2)) a0.sat (fun _ _ => bY (i := 0) (sz := 2) Tryz.underlying24 (cK _) rfl h0 rfl (by omega) rfl) ?_
  simp only [pq]
  refine aU 13 rfl _ a0.sat (fun _ _ => ef (nV _ _)) ?_
  simp only [pq]
  refine aU 14 rfl _ a0.sat (fun _ h8 => aD rfl (aR (vA _) (St.fz (St.start h8) (Le.cell b6 m6)))) ?_
  simp only [pq]
  refine aU 15 rfl (pP m8 (m9 + 0 * 2)) a0.sat (fun _ _ => bY (i := 0) (sz := 2) Tryz.underlying47 (cC _) rfl h2 rfl (by omega) rfl) ?_
  simp only [pq]
  refine aU 16 rfl _ a0.sat (fun _ _ => ef (vC _ _)) ?_
  simp only [pq]
  refine aU 17 rfl _ a0.sat (fun _ h9 => aD rfl (aR (bC _) (St.fz (St.start h9) (Le.cell b6 n0)))) ?_
  simp only [pq]
  refine aU 18 rfl (.string ⟨pr.2.toArray⟩) a0.sat (fun _ i0 => bA (v := (.slice h3 pr.2.length h4)) rfl (pF Tryz.underlying25 Tryz.underlying5 Tryz.underlying9 ((St.start i0)).sat (n1.mono b6))) ?_
  simp only [pq]
  refine dL 19 rfl a0.sat ?_
  simp only [pq]
  refine aU 20 rfl (.int .u8 (((iY x1).toNat : Nat) : Int)) a0.sat (fun _ _ => bA (v := (.int .i64 x1)) rfl (OQ x1 _)) ?_
  simp only [pq]
  refine dD 21 (by kernel_rfl) rfl ?_
  refine bB a0 (v := fun n => .slice (aA n 0) 1 1) rfl (cX (ps := #[(0, (.int .u8 (((iY x1).toNat : Nat) : Int)))]) (cells := #[(.int .u8 (((iY x1).toNat : Nat) : Int))]) (E := 5) (dH rfl) (fun w => by kernel_rfl)) (fun d4 n4 i1 => ?_)
  refine aG (cO i1.sat ?_)
  refine dD 22 (by kernel_rfl) rfl ?_
  obtain ⟨b2, a9, i2⟩ := St.freezeBlk i1 (i := 0) rfl
  have n5 : Bs _ (.slice (some ⟨d4, 0, none⟩) 1 1) ([iY x1] : By) := jU (l := ([iY x1] : By)) i2 (rfl) (by unfold maxLen; simp)
  generalize addF n3 n4 d4 = t5 at *
  refine dr (.string ⟨([iY x1] : By).toArray⟩) (bA (v := (.slice (aA d4 0) 1 1)) rfl (pF Tryz.underlying25 Tryz.underlying5 Tryz.underlying9 (b2).sat n5)) ?_
  refine aG (cO (Sat.le b2.sat a9) ?_)
  refine aU 23 rfl bT (Sat.le b2.sat a9) (fun _ _ => GX (op := .eql) (l := pr.2) (m := ([iY x1] : By)) (b := true) (by simp) rfl rfl (by rw [hpr2]; exact beq_self_eq_true _)) ?_
  simp only [pq]
  refine aU 24 rfl bT (Sat.le b2.sat a9) (fun _ _ => nP (b := true) rfl) ?_
  simp only [pq]
  refine fG 25 rfl (Sat.le b2.sat a9) ?_
  simp only [pq]
  refine iH (by kernel_rfl) ?_
  refine g9 _ _ ?_
  refine aN ?_
  try simp only [xt]
  refine bR (aZ rfl (gD rfl)) ?_
  ·exact ⟨rfl, b2.gr.below⟩
end Go.Proofs.YtilgpdpooildcaaGreatDoor
